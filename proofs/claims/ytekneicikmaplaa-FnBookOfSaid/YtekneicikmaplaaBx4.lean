/- Walks and plain laws that this claim's texts name, part 4. -/
import Derived.Test.YtekneicikmaplaaBx3
import Derived.Test.YtekneicikmaplaaBx2
import Derived.Test.YtekneicikmaplaaBx1
import Derived.Test.YtekneicikmaplaaProg
import Derived.Below
import Derived.Deep.Draws
import Derived.Deep.AppendLies
import Derived.Maps.AppendAt
import Derived.OwnWalk
import Derived.Laws.BytesArg
import Derived.Laws.MakeOwn
import Derived.Laws.OwnMore
import Derived.Deep.OwnRows
import Derived.Tactics
import Derived.Lib.ConvBytes
import Derived.Laws.Slices
import Derived.WalkKit
import Derived.KernelRfl
import Derived.RowKit3
import Derived.Deep.LoopGhost
import Derived.Deep.QuietTactic
import Derived.BigQuiet
import Derived.WideLaws
import Derived.Deep.DeepCutAuto
import Derived.Deep.CutBlock
import Derived.Deep.RegionHeld3
import Derived.Laws.Rows
import Derived.Lib.AppendStr
import Derived.ArgAppend
import Derived.Laws.IdiomCopy
import Derived.OrdersHeld
import Derived.Laws.BitsLemmas
import Derived.RowKit
import Derived.WalkSpells
import Derived.Test.YtekneicikmaplaaWWords
import Derived.Test.YtekneicikmaplaaWLast
import Derived.Test.YtekneicikmaplaaWTab
import Derived.Test.YtekneicikmaplaaWFour
import Derived.Test.YtekneicikmaplaaWApart
import Derived.Test.YtekneicikmaplaaWFoot
import Derived.Test.YtekneicikmaplaaWKept
import Derived.Test.YtekneicikmaplaaWShare
import Derived.Test.YtekneicikmaplaaWN
import Derived.Laws.StructEq
import Derived.Test.YtekneicikmaplaaWRepsOne
import Derived.Test.YtekneicikmaplaaWInv
import Derived.Test.YtekneicikmaplaaWInvWords
import Derived.Test.YtekneicikmaplaaWGuard
import Derived.Test.YtekneicikmaplaaWMore
set_option linter.unusedVariables false
set_option linter.unusedSimpArgs false
namespace Go.Proofs.Ytekneicikmaplaa.Bk
open Go.RowKit Go.Proofs.YtekneicikmaplaaW.PrintWords Go.Proofs.YtekneicikmaplaaW.PrintLast Go.Proofs.YtekneicikmaplaaW.PrintMore
theorem l3FreeV (s : Int) (V : Nat → Value) (L : Nat → List Int) (p : Nat) (hp : p * 8 + 8 ≤ (L 5).length) (hl : (L 5).length ≤ 48) (w : World) (h : BoV V L w) :
    Calls Try.prog 68 #[.agg (bkV s V), .int .i64 (p : Int), .int .i64 0] w (RetB (FreeP (L 5) p 0) w) := by
  rw [h.cells s]; exact l3Free_calls s _ _ L p 0 w h.bkC hp (by omega) (by omega)
set_option maxHeartbeats 8000000 in
set_option maxRecDepth 100000 in
theorem l3Back_calls : BackC := by
  intro s V L hW a ha hO w h
  obtain ⟨hl6, hl1, hl5, hl48, hlI, hlE, hs1, hs4⟩ := hW.rows
  have HW := Aside0.mk hW
  have HOW := Aside0.mk (Bv.owned (Bv.W.book (L := L) hW) ha hO)
  have HO := Aside0.mk hO
  obtain ⟨p, hp⟩ : ∃ p, a / 8 = p := ⟨_, rfl⟩
  have HP := Aside0.mk hp
  rw [hp] at HOW
  have hpl : p < (L 0).length := by omega
  have hp6 : (p : Int) ≤ 6 := by omega
  have hpi : (p : Int) < ((L 0).length : Int) := by omega
  have hai : (a : Int) < ((L 5).length : Int) := by omega
  have hq : Int.tdiv (a : Int) 8 = (p : Int) := by rw [Int.tdiv_eq_ediv_of_nonneg (by omega)]; omega
  have S := Aside0.mk (Sx.one (r := Rb V L) h (Rb.stable V L) (fun k hk => h.lt hk))
  have HONE := Aside0.mk (h.one s)
  obtain ⟨g0, o0, cap0, hv0, _, _⟩ := (h.1 0 (by omega)).at p hpl
  obtain ⟨g5, o5, cap5, hv5, _, _⟩ := (h.1 5 (by omega)).at a ha
  have HAL := Aside0.mk ha
  clear hW h hO hp
  go_enter Try.func98, Try.ntmps98
  go_upto_region 1 with (first | ((with_reducible refine gate_dst (N := 2) rfl ?_); refine box_event rfl (N := 2) rfl (cs := bkV s V) (t := 27) (by first | (go_simp; done) | (go_simp; rfl)) ?_; intro gb hg_ w1 hbox_ hb_; have Sn_ := Aside0.mk (S.out.box hg_ hbox_ hb_); clear hbox_ hb_ hg_ S; have S := Sn_; clear Sn_) | ((with_reducible refine gate_dst (N := 4) rfl ?_); refine box_event rfl (N := 4) rfl (cs := #[.int .i64 0, .slice none 0 0, .slice none 0 0, .slice none 0 0, .slice none 0 0, .slice none 0 0, .slice none 0 0, .slice none 0 0, .slice none 0 0]) (t := 27) (by first | (go_simp; done) | (go_simp; rfl)) ?_; intro gr hg_ w2 hbox_ hb_; have Sn_ := Aside0.mk (S.out.box hg_ hbox_ hb_); clear hbox_ hb_ hg_ S; have S := Sn_; clear Sn_))
  have f_gb_1 : w2.cell? ⟨gb, 1, none⟩ = some (.slice (some ⟨g0, o0, none⟩) (L 0).length cap0) := (S.out.cell 1 rfl 1).trans (by rw [← hv0]; rfl)
  have f_gb_6 : w2.cell? ⟨gb, 6, none⟩ = some (.slice (some ⟨g5, o5, none⟩) (L 5).length cap5) := (S.out.cell 1 rfl 6).trans (by rw [← hv5]; rfl)
  obtain ⟨hcp, hzp⟩ := S.out.rowCell 2 rfl (i := 0) (by omega) hv0 p hpl
  obtain ⟨hca, hza⟩ := S.out.rowCell 2 rfl (i := 5) (by omega) hv5 a ha
  obtain ⟨v, hv⟩ : ∃ v, (L 0).getD p 0 = v := ⟨_, rfl⟩
  rw [hv] at hcp HOW
  have HVv := Aside0.mk hv
  clear hv
  go_wp2_with (first | ((with_reducible refine gate_store (t := 3) (p := 21) rfl ?_); refine store_event (t := 3) (p := 21) (v := ?vo_1) (w1 := w2.setCell ⟨g5, o5 + a, none⟩ (.int .i64 (0))) ?hg ?ho ?hn ?hr ?_; (case ho => rfl); (case hg => rfl); (case hn => rfl); (case hr => first | (go_simp; done) | (go_simp; rfl)); intro w3 hw_; have Sn_ := Aside0.mk ((S.out.rowSet' (rs' := [Bx gr (#[.int .i64 0, .slice none 0 0, .slice none 0 0, .slice none 0 0, .slice none 0 0, .slice none 0 0, .slice none 0 0, .slice none 0 0, .slice none 0 0]) 27, Bx gb (bkV s V) 27, Rb V (upd L 5 ((L 5).set a 0))]) 2 rfl (i := 5) (by omega) hv5 (a) ha (0) rfl).of hw_); clear S hw_ hcp hzp hca hza f_gb_1 f_gb_6; have S := Sn_; clear Sn_))
  refine (l3Kind_calls v _).mono ?_
  rintro e w9 ⟨rfl, rfl⟩
  rcases HOW.out with ⟨k, hk, hvk, hz, _⟩ | ⟨n, hn2, hn4, hvn, ha8, _, hfree, h7⟩
  · skip
    have HKN : Aside0 (kindN v = (k : Int)) := ⟨by unfold kindN; rw [if_neg (by omega), if_neg (by omega)]; omega⟩
    rw [HKN.out]
    have HVK := Aside0.mk hvk
    have hk4 : (k : Int) < 4 := by omega
    have hk0 : decide ((k : Int) < 0) = false := decide_eq_false (by omega)
    have HLL : Aside0 ((L (k + 1)).length ≤ 48) := ⟨Nat.le_trans ((Bv.W.book (L := L) HW.out).2.1 k hk).1 hl48⟩
    clear hvk hz
    go_wp2_with fail
    refine (l3Kind_calls v _).mono ?_
    rintro e w10 ⟨rfl, rfl⟩
    rw [HKN.out]
    have hIR : Aside0 (IR w3 (V (k + 1)) (L (k + 1))) := ⟨by have := (S.out.get 2 rfl).1 (k + 1) (by omega); rwa [upd_ne _ _ _ _ (by omega)] at this⟩
    obtain ⟨Ak, ck, evk⟩ := hIR.out.form
    rw [evk] at hIR
    obtain ⟨l, hl_⟩ : ∃ l, L (k + 1) = l := ⟨_, rfl⟩
    rw [hl_] at hIR HLL
    have HLk := Aside0.mk hl_
    have f_gb_k : w3.cell? ⟨gb, 2 + k, none⟩ = some (.slice Ak l.length ck) := (S.out.cell 1 rfl (2 + k)).trans ((bkV_at s V k hk).trans (by rw [evk, hl_]))
    rw [hl_] at evk
    clear hl_
    have f_gb_kA := ((below_alloc (Below.refl w3.heap.size w3) (.cells #[.int .i64 (a : Int)] 3)).cell (World.block_lt_of_cell? w3 _ f_gb_k)).trans f_gb_k
    go_wp2_with (first | ((with_reducible refine gate_builtin (b := .append) (xs := #[.tmp 42, .tmp 46]) rfl ?_); at_builtin; refine ir_cons rfl (.tmp 42) (.tmp 46) 24 rfl Try.underlying24 info3 Ak ck l (a : Int) (by first | rfl | (go_simp; done)) (by first | rfl | (go_simp; done)) hIR.out (by have := HLL.out; omega) ?_; intro v1 wa ho_ hb_ hown_; obtain ⟨A1, c1, e1_⟩ := ho_.form; subst e1_; have Sn_ := Aside0.mk (S.out.row (rs' := [Bx gr (#[.int .i64 0, .slice none 0 0, .slice none 0 0, .slice none 0 0, .slice none 0 0, .slice none 0 0, .slice none 0 0, .slice none 0 0, .slice none 0 0]) 27, Bx gb (bkV s V) 27, Rb (updV V (k + 1) (Value.slice A1 ((a : Int) :: l).length c1)) (upd (upd L 5 ((L 5).set a 0)) (k + 1) ((a : Int) :: l))]) 2 rfl (i := k + 1) (by omega) (v' := (Value.slice A1 ((a : Int) :: l).length c1)) ho_ (Fr.of_below hb_) (fun j hj => ⟨.inr (hown_ j hj).1, (hown_ j hj).2⟩) rfl); clear ho_ hown_ S f_gb_k f_gb_kA hb_; have S := Sn_; clear Sn_; have f_gb_k : wa.cell? ⟨gb, 2 + k, none⟩ = some (.slice Ak l.length ck) := (S.out.cell 1 rfl (2 + k)).trans ((bkV_at s V k hk).trans (by rw [evk])); have z_gb_k := S.out.frozen 1 rfl (2 + k)) | ((with_reducible refine gate_store (t := 24) (p := 49) rfl ?_); refine store_event (t := 24) (p := 49) (v := ?vo_2) (w1 := wa.setCell ⟨gb, 2 + k, none⟩ (Value.slice A1 ((a : Int) :: l).length c1)) ?hg ?ho ?hn ?hr ?_; (case ho => rfl); (case hg => rfl); (case hn => rfl); (case hr => first | (go_simp; done) | (go_simp; rfl)); intro wb hw_; have Sn_ := Aside0.mk ((S.out.setCell (cs' := bkV s (updV V (k + 1) (Value.slice A1 ((a : Int) :: l).length c1))) (rs' := [Bx gr (#[.int .i64 0, .slice none 0 0, .slice none 0 0, .slice none 0 0, .slice none 0 0, .slice none 0 0, .slice none 0 0, .slice none 0 0, .slice none 0 0]) 27, Bx gb (bkV s (updV V (k + 1) (Value.slice A1 ((a : Int) :: l).length c1))) 27, Rb (updV V (k + 1) (Value.slice A1 ((a : Int) :: l).length c1)) (upd (upd L 5 ((L 5).set a 0)) (k + 1) ((a : Int) :: l))]) 1 rfl (2 + k) (Value.slice A1 ((a : Int) :: l).length c1) (bkV_set s V k (Value.slice A1 ((a : Int) :: l).length c1) hk) rfl).of hw_); clear S hw_ f_gb_k z_gb_k; have S := Sn_; clear Sn_) | ((with_reducible refine gate_dst (N := 50) rfl ?_); refine Kd.event_run rfl (Row.load_row_run (g := gb) (t := 27) (cells := bkV s (updV V (k + 1) (Value.slice A1 ((a : Int) :: l).length c1))) rfl rfl (S.out.blk 1 rfl) Try.underlying27 rfl (by kernel_rfl)) ?_))
    have hO5 : (upd (upd L 5 ((L 5).set a 0)) (k + 1) ((a : Int) :: l)) 5 = (L 5).set a 0 := by rw [upd_ne _ _ _ _ (by omega), upd_at]
    have HO5 := Aside0.mk hO5
    have HONE2 := Aside0.mk ((S.out.get 2 rfl).one s)
    refine (l3FreeV s (updV V (k + 1) (Value.slice A1 ((a : Int) :: l).length c1)) (upd (upd L 5 ((L 5).set a 0)) (k + 1) ((a : Int) :: l)) p (by rw [hO5, List.length_set]; omega) (by rw [hO5, List.length_set]; exact hl48) _ (S.out.get 2 rfl)).mono ?_
    clear hO5
    rintro e w11 ⟨r, rfl, hr, hb⟩
    have Sn_ := Aside0.mk (S.out.call hb)
    clear S hb
    have S := Sn_
    clear Sn_
    have HR := Aside0.mk hr
    clear hr
    cases r with
    | false =>
      go_wp2_with (first | ((with_reducible refine gate_dst (N := 91) rfl ?_); refine Kd.event_run rfl (Row.load_row_run (g := gb) (t := 27) (cells := bkV s (updV V (k + 1) (Value.slice A1 ((a : Int) :: l).length c1))) rfl rfl (S.out.blk 1 rfl) Try.underlying27 rfl (by kernel_rfl)) ?_) | ((with_reducible refine gate_store (t := 27) (p := 4) rfl ?_); refine store_event (t := 27) (p := 4) (v := ?vo_3) (w1 := w11.setRow gr (bkV s (updV V (k + 1) (Value.slice A1 ((a : Int) :: l).length c1)))) ?hg ?ho ?hn ?hr ?_; (case ho => rfl); (case hg => rfl); (case hn => rfl); (case hr => exact (Row.store_row_run (g := gr) (cells := bkV s (updV V (k + 1) (Value.slice A1 ((a : Int) :: l).length c1))) (t := 27) (old := #[.int .i64 0, .slice none 0 0, .slice none 0 0, .slice none 0 0, .slice none 0 0, .slice none 0 0, .slice none 0 0, .slice none 0 0, .slice none 0 0]) rfl (by rfl) (by rfl) (S.out.blk 0 rfl) (by kernel_rfl) rfl (HONE2.out))); intro w4 hw_; have Sn_ := Aside0.mk ((S.out.setRow (cs' := bkV s (updV V (k + 1) (Value.slice A1 ((a : Int) :: l).length c1))) (rs' := [Bx gr (bkV s (updV V (k + 1) (Value.slice A1 ((a : Int) :: l).length c1))) 27, Bx gb (bkV s (updV V (k + 1) (Value.slice A1 ((a : Int) :: l).length c1))) 27, Rb (updV V (k + 1) (Value.slice A1 ((a : Int) :: l).length c1)) (upd (upd L 5 ((L 5).set a 0)) (k + 1) ((a : Int) :: l))]) 0 rfl rfl).of hw_); clear S hw_; have S := Sn_; clear Sn_))
      have HWn : Aside0 (Wd s (upd (upd L 5 ((L 5).set a 0)) (k + 1) ((a : Int) :: l))) := ⟨by
        have hnf : ¬ FreeP ((upd (upd L 5 ((L 5).set a 0)) (k + 1) ((a : Int) :: l)) 5) p 0 := fun q => by have := HR.out.2 q; cases this
        rw [HO5.out] at hnf
        have h1 := Bv.W.backK (a := a) HW.out hk HO.out (by rw [HP.out]; show (L 0).getD p 0 = _; rw [HVv.out, HVK.out]) (by
          rw [HP.out]
          refine Classical.byContradiction fun hc => hnf (fun u _ hu hgt => hc ⟨u, hu, hgt⟩))
        unfold Wd
        rw [upd_ne _ (k + 1) 0 _ (by omega), upd_ne _ 5 0 _ (by omega), upd_ne _ (k + 1) 5 _ (by omega), upd_at, upd_ne _ (k + 1) 6 _ (by omega), upd_ne _ 5 6 _ (by omega), upd_ne _ (k + 1) 7 _ (by omega), upd_ne _ 5 7 _ (by omega)]
        refine Wcong h1 (fun j hj => ?_)
        by_cases e : j = k
        · rw [if_pos e, e, upd_at, HLk.out]
        · rw [if_neg e, upd_ne _ _ _ _ (by omega), upd_ne _ _ _ _ (by omega)]⟩
      refine bodyPost_ret (results_cell_row rfl _ _ gr 27 (bkV s (updV V (k + 1) (Value.slice A1 ((a : Int) :: l).length c1))) (0, 0) _ rfl (S.out.blk 0 rfl) Try.underlying27 rfl (by kernel_rfl)) rfl ?_
      exact ⟨(updV V (k + 1) (Value.slice A1 ((a : Int) :: l).length c1)), _, rfl, HWn.out, S.out.out 2 rfl⟩
    | true =>
      have hv0' : (updV V (k + 1) (Value.slice A1 ((a : Int) :: l).length c1)) 0 = .slice (some ⟨g0, o0, none⟩) (L 0).length cap0 := (updV_ne _ _ _ _ (by omega)).trans hv0
      have hp0 : p < ((upd (upd L 5 ((L 5).set a 0)) (k + 1) ((a : Int) :: l)) 0).length := by rw [upd_ne _ _ _ _ (by omega), upd_ne _ _ _ _ (by omega)]; exact hpl
      obtain ⟨hcp, hzp⟩ := S.out.rowCell 2 rfl (i := 0) (by omega) hv0' p hp0
      have f_gb_1 : w11.cell? ⟨gb, 1, none⟩ = some (.slice (some ⟨g0, o0, none⟩) (L 0).length cap0) := (S.out.cell 1 rfl 1).trans (by rw [← hv0']; rfl)
      go_upto_region 14 with (first | ((with_reducible refine gate_store (t := 3) (p := 56) rfl ?_); refine store_event (t := 3) (p := 56) (v := ?vo_4) (w1 := w11.setCell ⟨g0, o0 + p, none⟩ (.int .i64 (0))) ?hg ?ho ?hn ?hr ?_; (case ho => rfl); (case hg => rfl); (case hn => rfl); (case hr => first | (go_simp; done) | (go_simp; rfl)); intro w5 hw_; have Sn_ := Aside0.mk ((S.out.rowSet' (rs' := [Bx gr (#[.int .i64 0, .slice none 0 0, .slice none 0 0, .slice none 0 0, .slice none 0 0, .slice none 0 0, .slice none 0 0, .slice none 0 0, .slice none 0 0]) 27, Bx gb (bkV s (updV V (k + 1) (Value.slice A1 ((a : Int) :: l).length c1))) 27, Rb (updV V (k + 1) (Value.slice A1 ((a : Int) :: l).length c1)) (upd (upd (upd L 5 ((L 5).set a 0)) (k + 1) ((a : Int) :: l)) 0 (((upd (upd L 5 ((L 5).set a 0)) (k + 1) ((a : Int) :: l)) 0).set p 0))]) 2 rfl (i := 0) (by omega) hv0' (p) hp0 (0) rfl).of hw_); clear S hw_ hcp hzp f_gb_1; have S := Sn_; clear Sn_))
      have eL : (upd (upd (upd L 5 ((L 5).set a 0)) (k + 1) ((a : Int) :: l)) 0 (((upd (upd L 5 ((L 5).set a 0)) (k + 1) ((a : Int) :: l)) 0).set p 0)) (k + 1) = (a : Int) :: l := by rw [upd_ne _ _ _ _ (by omega), upd_at]
      obtain ⟨gk, ok, capk, hvk3, _, _⟩ := ((S.out.get 2 rfl).1 (k + 1) (by omega)).at 0 (by rw [eL]; simp)
      rw [eL] at hvk3
      have hvk2 : (updV V (k + 1) (Value.slice A1 ((a : Int) :: l).length c1)) (k + 1) = .slice (some ⟨gk, ok, none⟩) (l.length + 1) capk := hvk3
      clear hvk3
      have HEL := Aside0.mk eL
      have S1 : Aside0 (Sx (ownV V) w (w5.alloc (.cells #[] 3)) (Rl (.slice (some ⟨w5.heap.size, 0, none⟩) 0 0) ([]) :: [Bx gr (#[.int .i64 0, .slice none 0 0, .slice none 0 0, .slice none 0 0, .slice none 0 0, .slice none 0 0, .slice none 0 0, .slice none 0 0, .slice none 0 0]) 27, Bx gb (bkV s (updV V (k + 1) (Value.slice A1 ((a : Int) :: l).length c1))) 27, Rb (updV V (k + 1) (Value.slice A1 ((a : Int) :: l).length c1)) (upd (upd (upd L 5 ((L 5).set a 0)) (k + 1) ((a : Int) :: l)) 0 (((upd (upd L 5 ((L 5).set a 0)) (k + 1) ((a : Int) :: l)) 0).set p 0))])) := ⟨S.out.new (below_alloc (Below.refl _ _) _) (.inr ⟨w5.heap.size, 0, 0, #[], rfl, heap_alloc_new _ _, Nat.le_refl _, by omega, by simp, fun j hj => by simp at hj⟩) (Rl.stable _ _) (fun j hj => by obtain rfl := Option.some.inj hj; exact ⟨Nat.le_refl _, by simp⟩)⟩
      clear S eL
      have HNN : Aside0 (∀ y ∈ (a : Int) :: l, 0 ≤ y ∧ y < 48) := ⟨fun y hy => by
        rcases List.mem_cons.1 hy with e | e
        · omega
        · obtain ⟨u, e1, _⟩ := (Bv.W.mem HW.out k hk y).1 (by show y ∈ L (k + 1); rw [HLk.out]; exact e)
          omega⟩
      go_wp2_with fail
      go_loopg [9, 10] (l.length + 1 + 1) (fun kq x9 v10 w' => ∃ (i : Nat) (u9 : Value), i ≤ l.length + 1 ∧ kq = l.length + 1 + 1 - i ∧ x9 = u9 ∧ v10 = .int .i64 i ∧ Aside0 (Sx (ownV V) w w' (Rl u9 ((((a : Int) :: l).take i).filter (fun x : Int => decide (x / 8 ≠ (p : Int)))) :: [Bx gr (#[.int .i64 0, .slice none 0 0, .slice none 0 0, .slice none 0 0, .slice none 0 0, .slice none 0 0, .slice none 0 0, .slice none 0 0, .slice none 0 0]) 27, Bx gb (bkV s (updV V (k + 1) (Value.slice A1 ((a : Int) :: l).length c1))) 27, Rb (updV V (k + 1) (Value.slice A1 ((a : Int) :: l).length c1)) (upd (upd (upd L 5 ((L 5).set a 0)) (k + 1) ((a : Int) :: l)) 0 (((upd (upd L 5 ((L 5).set a 0)) (k + 1) ((a : Int) :: l)) 0).set p 0))])))
      case atStart => exact ⟨0, _, by omega, by omega, rfl, rfl, S1⟩
      case round =>
        clear S1
        obtain ⟨i, u9, hi, rfl, rfl, rfl, S⟩ := hrel
        obtain ⟨T, hT⟩ : ∃ T, (((a : Int) :: l).take i).filter (fun x : Int => decide (x / 8 ≠ (p : Int))) = T := ⟨_, rfl⟩
        rw [hT] at S
        have HTL : Aside0 (T.length ≤ 49) := ⟨by
          have h1 := List.length_filter_le (fun x : Int => decide (x / 8 ≠ (p : Int))) (((a : Int) :: l).take i)
          have h2 := List.length_take_le i ((a : Int) :: l)
          have h3 : i ≤ 49 := by have := HLL.out; omega
          rw [hT] at h1
          omega⟩
        have HT := Aside0.mk hT
        clear hT
        obtain ⟨A9, c9, e9⟩ := (S.out.get 0 rfl).form
        subst e9
        have f_gb_k : wr.cell? ⟨gb, 2 + k, none⟩ = some (.slice (some ⟨gk, ok, none⟩) (l.length + 1) capk) := (S.out.cell 2 rfl (2 + k)).trans ((bkV_at s (updV V (k + 1) (Value.slice A1 ((a : Int) :: l).length c1)) k hk).trans (by rw [hvk2]))
        by_cases hlt : i < l.length + 1
        · have hi2 : (i : Int) < (l.length : Int) + 1 := by omega
          have hll : l.length ≤ 48 := HLL.out
          obtain ⟨hci, hzi⟩ := S.out.rowCell 3 rfl (i := k + 1) (by omega) hvk2 i (by rw [HEL.out]; simpa using hlt)
          obtain ⟨y, hy⟩ : ∃ y, ((a : Int) :: l).getD i 0 = y := ⟨_, rfl⟩
          rw [HEL.out, hy] at hci
          have hget : ((a : Int) :: l)[i]? = some y := by
            have h1 : i < ((a : Int) :: l).length := by simpa using hlt
            obtain ⟨z, hz⟩ : ∃ z, ((a : Int) :: l)[i]? = some z := ⟨_, List.getElem?_eq_getElem h1⟩
            have h2 : y = z := by rw [← hy, List.getD_eq_getElem?_getD, hz]; rfl
            rw [h2]; exact hz
          have hy0 : 0 ≤ y := (HNN.out y (List.mem_of_getElem? hget)).1
          have hy48 : y < 48 := (HNN.out y (List.mem_of_getElem? hget)).2
          have HTK : Aside0 ((((a : Int) :: l).take (i + 1)).filter (fun x : Int => decide (x / 8 ≠ (p : Int))) = (((a : Int) :: l).take i).filter (fun x : Int => decide (x / 8 ≠ (p : Int))) ++ (if y / 8 = (p : Int) then [] else [y])) := ⟨by
            rw [List.take_add_one, hget, List.filter_append]
            by_cases e : y / 8 = (p : Int)
            · rw [if_pos e]; simp [e]
            · rw [if_neg e]; simp [e]⟩
          rw [HT.out] at HTK
          clear hget hy hzi
          by_cases hyp : y / 8 = (p : Int)
          · have hb : (Int.tdiv y 8 != (p : Int)) = false := bne_eq_false_iff_eq.mpr (by rw [Int.tdiv_eq_ediv_of_nonneg hy0]; exact hyp)
            have hb2 : (Int.tdiv y 8 == (p : Int)) = true := beq_iff_eq.mpr (by rw [Int.tdiv_eq_ediv_of_nonneg hy0]; exact hyp)
            obtain ⟨d, hd⟩ : ∃ d, Int.tdiv y 8 = d := ⟨_, rfl⟩
            rw [hd] at hb hb2
            have hb3 : (y / 8 != (p : Int)) = false := bne_eq_false_iff_eq.mpr hyp
            have hb4 : (y / 8 == (p : Int)) = true := beq_iff_eq.mpr hyp
            have hb5 : decide (d = (p : Int)) = true := decide_eq_true (beq_iff_eq.1 hb2)
            have hd0 : 0 ≤ d := by have := beq_iff_eq.1 hb2; omega
            have hd6 : d ≤ 6 := by have := beq_iff_eq.1 hb2; omega
            clear hy0 hy48
            rw [if_pos hyp, List.append_nil] at HTK
            clear hyp
            go_wp2
            go_roundg (l.length + 1 + 1 - (i + 1))
            case measure => omega
            case rel => exact ⟨i + 1, _, by omega, rfl, rfl, by go_num, by rw [HTK.out]; exact S⟩
          · have hb : (Int.tdiv y 8 != (p : Int)) = true := bne_iff_ne.mpr (by rw [Int.tdiv_eq_ediv_of_nonneg hy0]; exact hyp)
            have hb2 : (Int.tdiv y 8 == (p : Int)) = false := beq_eq_false_iff_ne.mpr (by rw [Int.tdiv_eq_ediv_of_nonneg hy0]; exact hyp)
            have hd0 : 0 ≤ Int.tdiv y 8 := by rw [Int.tdiv_eq_ediv_of_nonneg hy0]; omega
            have hd6 : Int.tdiv y 8 ≤ 6 := by rw [Int.tdiv_eq_ediv_of_nonneg hy0]; omega
            obtain ⟨d, hd⟩ : ∃ d, Int.tdiv y 8 = d := ⟨_, rfl⟩
            rw [hd] at hb hb2 hd0 hd6
            have hb3 : (y / 8 != (p : Int)) = true := bne_iff_ne.mpr hyp
            have hb4 : (y / 8 == (p : Int)) = false := beq_eq_false_iff_ne.mpr hyp
            have hb5 : decide (d = (p : Int)) = false := decide_eq_false (beq_eq_false_iff_ne.1 hb2)
            clear hy0 hy48
            rw [if_neg hyp] at HTK
            clear hyp
            go_wp2_with (first | ((with_reducible refine gate_builtin (b := .append) (xs := #[.tmp 77, .tmp 85]) rfl ?_); at_builtin; refine ir_append rfl (.tmp 77) (.tmp 85) 24 rfl Try.underlying24 info3 (.slice A9 T.length c9) T y (by first | rfl | (go_simp; done)) (by first | rfl | (go_simp; done)) (S.out.get 0 rfl) (by have := HTL.out; omega) ?_; intro v1 wa ho_ hf_ hown_; have Sn_ := Aside0.mk (S.out.put 0 rfl (r' := Rl v1 (T ++ [y])) (rs' := (Rl v1 (T ++ [y]) :: [Bx gr (#[.int .i64 0, .slice none 0 0, .slice none 0 0, .slice none 0 0, .slice none 0 0, .slice none 0 0, .slice none 0 0, .slice none 0 0, .slice none 0 0]) 27, Bx gb (bkV s (updV V (k + 1) (Value.slice A1 ((a : Int) :: l).length c1))) 27, Rb (updV V (k + 1) (Value.slice A1 ((a : Int) :: l).length c1)) (upd (upd (upd L 5 ((L 5).set a 0)) (k + 1) ((a : Int) :: l)) 0 (((upd (upd L 5 ((L 5).set a 0)) (k + 1) ((a : Int) :: l)) 0).set p 0))])) hf_ ho_ (Rl.stable _ _) hown_ rfl); clear ho_ hf_ hown_ S; have S := Sn_; clear Sn_))
            go_roundg (l.length + 1 + 1 - (i + 1))
            case measure => omega
            case rel => exact ⟨i + 1, _, by omega, rfl, rfl, by go_num, by rw [HTK.out]; exact S⟩
        · have hie : i = l.length + 1 := by omega
          subst hie
          have hT2 : ((a : Int) :: l).filter (fun x : Int => decide (x / 8 ≠ (p : Int))) = T := by
            have := HT.out
            rwa [show l.length + 1 = ((a : Int) :: l).length from rfl, List.take_length] at this
          have HT2 := Aside0.mk hT2
          clear hT2
          have Sn_ := Aside0.mk (S.out.adopt (rs' := [Bx gr (#[.int .i64 0, .slice none 0 0, .slice none 0 0, .slice none 0 0, .slice none 0 0, .slice none 0 0, .slice none 0 0, .slice none 0 0, .slice none 0 0]) 27, Bx gb (bkV s (updV V (k + 1) (Value.slice A1 ((a : Int) :: l).length c1))) 27, Rb (updV (updV V (k + 1) (Value.slice A1 ((a : Int) :: l).length c1)) (k + 1) (.slice A9 T.length c9)) (upd (upd (upd (upd L 5 ((L 5).set a 0)) (k + 1) ((a : Int) :: l)) 0 (((upd (upd L 5 ((L 5).set a 0)) (k + 1) ((a : Int) :: l)) 0).set p 0)) (k + 1) T)]) 2 rfl (i := k + 1) (by omega) rfl)
          clear S
          have S := Sn_
          clear Sn_
          have HONE3 := Aside0.mk ((S.out.get 2 rfl).one s)
          have z_gb_k := S.out.frozen 1 rfl (2 + k)
          go_wp2_with (first | ((with_reducible refine gate_store (t := 24) (p := 90) rfl ?_); refine store_event (t := 24) (p := 90) (v := ?vo_5) (w1 := wr.setCell ⟨gb, 2 + k, none⟩ (.slice A9 T.length c9)) ?hg ?ho ?hn ?hr ?_; (case ho => rfl); (case hg => rfl); (case hn => rfl); (case hr => first | (go_simp; done) | (go_simp; rfl)); intro wz hw_; have Sn_ := Aside0.mk ((S.out.setCell (cs' := bkV s (updV (updV V (k + 1) (Value.slice A1 ((a : Int) :: l).length c1)) (k + 1) (.slice A9 T.length c9))) (rs' := [Bx gr (#[.int .i64 0, .slice none 0 0, .slice none 0 0, .slice none 0 0, .slice none 0 0, .slice none 0 0, .slice none 0 0, .slice none 0 0, .slice none 0 0]) 27, Bx gb (bkV s (updV (updV V (k + 1) (Value.slice A1 ((a : Int) :: l).length c1)) (k + 1) (.slice A9 T.length c9))) 27, Rb (updV (updV V (k + 1) (Value.slice A1 ((a : Int) :: l).length c1)) (k + 1) (.slice A9 T.length c9)) (upd (upd (upd (upd L 5 ((L 5).set a 0)) (k + 1) ((a : Int) :: l)) 0 (((upd (upd L 5 ((L 5).set a 0)) (k + 1) ((a : Int) :: l)) 0).set p 0)) (k + 1) T)]) 1 rfl (2 + k) (.slice A9 T.length c9) (bkV_set s (updV V (k + 1) (Value.slice A1 ((a : Int) :: l).length c1)) k (.slice A9 T.length c9) hk) rfl).of hw_); clear S hw_ f_gb_k z_gb_k; have S := Sn_; clear Sn_) | ((with_reducible refine gate_dst (N := 91) rfl ?_); refine Kd.event_run rfl (Row.load_row_run (g := gb) (t := 27) (cells := bkV s (updV (updV V (k + 1) (Value.slice A1 ((a : Int) :: l).length c1)) (k + 1) (.slice A9 T.length c9))) rfl rfl (S.out.blk 1 rfl) Try.underlying27 rfl (by kernel_rfl)) ?_) | ((with_reducible refine gate_store (t := 27) (p := 4) rfl ?_); refine store_event (t := 27) (p := 4) (v := ?vo_6) (w1 := wz.setRow gr (bkV s (updV (updV V (k + 1) (Value.slice A1 ((a : Int) :: l).length c1)) (k + 1) (.slice A9 T.length c9)))) ?hg ?ho ?hn ?hr ?_; (case ho => rfl); (case hg => rfl); (case hn => rfl); (case hr => exact (Row.store_row_run (g := gr) (cells := bkV s (updV (updV V (k + 1) (Value.slice A1 ((a : Int) :: l).length c1)) (k + 1) (.slice A9 T.length c9))) (t := 27) (old := #[.int .i64 0, .slice none 0 0, .slice none 0 0, .slice none 0 0, .slice none 0 0, .slice none 0 0, .slice none 0 0, .slice none 0 0, .slice none 0 0]) rfl (by rfl) (by rfl) (S.out.blk 0 rfl) (by kernel_rfl) rfl (HONE3.out))); intro w6 hw_; have Sn_ := Aside0.mk ((S.out.setRow (cs' := bkV s (updV (updV V (k + 1) (Value.slice A1 ((a : Int) :: l).length c1)) (k + 1) (.slice A9 T.length c9))) (rs' := [Bx gr (bkV s (updV (updV V (k + 1) (Value.slice A1 ((a : Int) :: l).length c1)) (k + 1) (.slice A9 T.length c9))) 27, Bx gb (bkV s (updV (updV V (k + 1) (Value.slice A1 ((a : Int) :: l).length c1)) (k + 1) (.slice A9 T.length c9))) 27, Rb (updV (updV V (k + 1) (Value.slice A1 ((a : Int) :: l).length c1)) (k + 1) (.slice A9 T.length c9)) (upd (upd (upd (upd L 5 ((L 5).set a 0)) (k + 1) ((a : Int) :: l)) 0 (((upd (upd L 5 ((L 5).set a 0)) (k + 1) ((a : Int) :: l)) 0).set p 0)) (k + 1) T)]) 0 rfl rfl).of hw_); clear S hw_; have S := Sn_; clear Sn_))
          have HWn : Aside0 (Wd s (upd (upd (upd (upd L 5 ((L 5).set a 0)) (k + 1) ((a : Int) :: l)) 0 (((upd (upd L 5 ((L 5).set a 0)) (k + 1) ((a : Int) :: l)) 0).set p 0)) (k + 1) T)) := ⟨by
            have hf : FreeP ((upd (upd L 5 ((L 5).set a 0)) (k + 1) ((a : Int) :: l)) 5) p 0 := HR.out.1 (by trivial)
            rw [HO5.out] at hf
            have h1 := Bv.W.backE (a := a) (T := T) HW.out hk HO.out (by rw [HP.out]; show (L 0).getD p 0 = _; rw [HVv.out, HVK.out]) (by
              rw [HP.out]
              intro u hu
              have q1 := hf u (Nat.zero_le _) hu
              show ((L 5).set a 0).getD (p * 8 + u) 0 = 0
              by_cases e : p * 8 + u = a
              · rw [e]; exact Bv.g_set_eq _ _ _ (by have := HAL.out; omega)
              · have q2 := Bv.g_set_ne (L 5) a (p * 8 + u) 0 e
                have q3 := (Bv.W.unit HW.out (p * 8 + u) (by show _ < (L 5).length; omega)).1
                unfold Bv.g at q2 q3
                rw [q2] at q1 ⊢
                omega) (by rw [HP.out, ← HT2.out]; show _ = ((a : Int) :: L (k + 1)).filter _; rw [HLk.out])
            rw [HP.out] at h1
            unfold Wd
            have e0 : (upd (upd (upd (upd L 5 ((L 5).set a 0)) (k + 1) ((a : Int) :: l)) 0 (((upd (upd L 5 ((L 5).set a 0)) (k + 1) ((a : Int) :: l)) 0).set p 0)) (k + 1) T) 0 = (L 0).set p 0 := by rw [upd_ne _ (k + 1) 0 _ (by omega), upd_at, upd_ne _ (k + 1) 0 _ (by omega), upd_ne _ 5 0 _ (by omega)]
            have e5 : (upd (upd (upd (upd L 5 ((L 5).set a 0)) (k + 1) ((a : Int) :: l)) 0 (((upd (upd L 5 ((L 5).set a 0)) (k + 1) ((a : Int) :: l)) 0).set p 0)) (k + 1) T) 5 = (L 5).set a 0 := by rw [upd_ne _ (k + 1) 5 _ (by omega), upd_ne _ 0 5 _ (by omega), upd_ne _ (k + 1) 5 _ (by omega), upd_at]
            have e6 : (upd (upd (upd (upd L 5 ((L 5).set a 0)) (k + 1) ((a : Int) :: l)) 0 (((upd (upd L 5 ((L 5).set a 0)) (k + 1) ((a : Int) :: l)) 0).set p 0)) (k + 1) T) 6 = L 6 := by rw [upd_ne _ (k + 1) 6 _ (by omega), upd_ne _ 0 6 _ (by omega), upd_ne _ (k + 1) 6 _ (by omega), upd_ne _ 5 6 _ (by omega)]
            have e7 : (upd (upd (upd (upd L 5 ((L 5).set a 0)) (k + 1) ((a : Int) :: l)) 0 (((upd (upd L 5 ((L 5).set a 0)) (k + 1) ((a : Int) :: l)) 0).set p 0)) (k + 1) T) 7 = L 7 := by rw [upd_ne _ (k + 1) 7 _ (by omega), upd_ne _ 0 7 _ (by omega), upd_ne _ (k + 1) 7 _ (by omega), upd_ne _ 5 7 _ (by omega)]
            rw [e0, e5, e6, e7]
            refine Wcong h1 (fun j hj => ?_)
            by_cases e : j = k
            · rw [if_pos e, e, upd_at]
            · rw [if_neg e, upd_ne _ _ _ _ (by omega), upd_ne _ _ _ _ (by omega), upd_ne _ _ _ _ (by omega), upd_ne _ _ _ _ (by omega)]⟩
          refine bodyPost_ret (results_cell_row rfl _ _ gr 27 (bkV s (updV (updV V (k + 1) (Value.slice A1 ((a : Int) :: l).length c1)) (k + 1) (.slice A9 T.length c9))) (0, 0) _ rfl (S.out.blk 0 rfl) Try.underlying27 rfl (by kernel_rfl)) rfl ?_
          exact ⟨(updV (updV V (k + 1) (Value.slice A1 ((a : Int) :: l).length c1)) (k + 1) (.slice A9 T.length c9)), _, rfl, HWn.out, S.out.out 2 rfl⟩
  · skip
    have H7 := Aside0.mk h7
    have hkn : kindN v = -1 := by unfold kindN; rw [if_neg (by omega), if_pos (by omega)]
    rw [hkn]
    clear hkn h7 hfree
    have HVN := Aside0.mk hvn
    subst hvn
    have hpn : p + n ≤ (L 0).length := by
      have h1 := Bv.W.page HW.out p hpl
      have h2 : Bv.g (L 0) p = 8 + (n : Int) := HVv.out
      rcases h1 with ⟨a1, _⟩ | ⟨j, hj, a1, _⟩ | ⟨m, _, _, a3, a4, _⟩ | ⟨a1, _⟩ <;> omega
    have hn0 : (n : Int) ≤ 4 := by omega
    have HP0 : Aside0 ((L 0).length = (L 0).length ∧ ∀ j, (L 0).getD j 0 = if p ≤ j ∧ j < p + 0 then 0 else (L 0).getD j 0) := ⟨rfl, fun j => by rw [if_neg (by omega)]⟩
    have S1 : Aside0 (Sx (ownV V) w w3 [Bx gr (#[.int .i64 0, .slice none 0 0, .slice none 0 0, .slice none 0 0, .slice none 0 0, .slice none 0 0, .slice none 0 0, .slice none 0 0, .slice none 0 0]) 27, Bx gb (bkV s V) 27, Rb V (upd (upd L 5 ((L 5).set a 0)) 0 (L 0))]) := ⟨by
      have e : upd (upd L 5 ((L 5).set a 0)) 0 (L 0) = upd L 5 ((L 5).set a 0) := by
        funext x
        by_cases e : x = 0
        · rw [e, upd_at, upd_ne _ _ _ _ (by omega)]
        · rw [upd_ne _ _ _ _ e]
      rw [e]; exact S.out⟩
    clear S
    go_wp2
    go_loopg [7] (n + 1) (fun kq v7 w' => ∃ (i : Nat) (P' : List Int), i ≤ n ∧ kq = n + 1 - i ∧ v7 = .int .i64 i ∧ Aside0 (P'.length = (L 0).length ∧ ∀ j, P'.getD j 0 = if p ≤ j ∧ j < p + i then 0 else (L 0).getD j 0) ∧ Aside0 (Sx (ownV V) w w' [Bx gr (#[.int .i64 0, .slice none 0 0, .slice none 0 0, .slice none 0 0, .slice none 0 0, .slice none 0 0, .slice none 0 0, .slice none 0 0, .slice none 0 0]) 27, Bx gb (bkV s V) 27, Rb V (upd (upd L 5 ((L 5).set a 0)) 0 P')]))
    case atStart => exact ⟨0, L 0, by omega, by omega, rfl, ⟨⟨rfl, fun j => by rw [if_neg (by omega)]⟩⟩, S1⟩
    case round =>
      clear S1 HP0
      obtain ⟨i, P', hin, rfl, rfl, HP', S⟩ := hrel
      have hpl' := HP'.out.1
      by_cases hlt : i < n
      · skip
        have f_gb_1 : wr.cell? ⟨gb, 1, none⟩ = some (.slice (some ⟨g0, o0, none⟩) (L 0).length cap0) := (S.out.cell 1 rfl 1).trans (by rw [← hv0]; rfl)
        have hpi2 : (p : Int) + (i : Int) < ((L 0).length : Int) := by omega
        have hpi3 : (0 : Int) ≤ (p : Int) + (i : Int) := by omega
        have hi4 : (i : Int) < (n : Int) := by omega
        obtain ⟨hcp, hzp⟩ := S.out.rowCell 2 rfl (i := 0) (by omega) hv0 (p + i) (by rw [upd_at]; omega)
        go_wp2_with (first | ((with_reducible refine gate_store (t := 3) (p := 36) rfl ?_); refine store_event (t := 3) (p := 36) (v := ?vo_7) (w1 := wr.setCell ⟨g0, o0 + (p + i), none⟩ (.int .i64 (0))) ?hg ?ho ?hn ?hr ?_; (case ho => rfl); (case hg => rfl); (case hn => rfl); (case hr => first | (go_simp; done) | (go_simp; rfl)); intro w6 hw_; have Sn_ := Aside0.mk ((S.out.rowSet' (rs' := [Bx gr (#[.int .i64 0, .slice none 0 0, .slice none 0 0, .slice none 0 0, .slice none 0 0, .slice none 0 0, .slice none 0 0, .slice none 0 0, .slice none 0 0]) 27, Bx gb (bkV s V) 27, Rb V (upd (upd (upd L 5 ((L 5).set a 0)) 0 P') 0 (((upd (upd L 5 ((L 5).set a 0)) 0 P') 0).set (p + i) 0))]) 2 rfl (i := 0) (by omega) hv0 ((p + i)) (by rw [upd_at]; omega) (0) rfl).of hw_); clear S hw_ hcp hzp f_gb_1; have S := Sn_; clear Sn_))
        go_roundg (n + 1 - (i + 1))
        case measure => omega
        case rel =>
          refine ⟨i + 1, P'.set (p + i) 0, by omega, rfl, by go_num, ⟨by rw [List.length_set]; exact hpl', fun j => ?_⟩, ?_⟩
          · by_cases e : j = p + i
            · rw [e, getD_set_self' _ _ _ (by omega), if_pos (by omega)]
            · rw [getD_set_ne' _ _ _ _ e, HP'.out.2 j]
              by_cases e3 : p ≤ j ∧ j < p + i
              · rw [if_pos e3, if_pos (by omega)]
              · rw [if_neg e3, if_neg (by omega)]
          · have e : upd (upd (upd L 5 ((L 5).set a 0)) 0 P') 0 (((upd (upd L 5 ((L 5).set a 0)) 0 P') 0).set (p + i) 0) = upd (upd L 5 ((L 5).set a 0)) 0 (P'.set (p + i) 0) := by
              rw [upd_at]
              funext x
              by_cases e : x = 0
              · rw [e, upd_at, upd_at]
              · rw [upd_ne _ _ _ _ e, upd_ne _ _ _ _ e, upd_ne _ _ _ _ e]
            rw [e] at S
            exact S
      · skip
        have hin2 : i = n := by omega
        subst hin2
        clear hn0
        go_wp2_with (first | ((with_reducible refine gate_dst (N := 37) rfl ?_); refine Kd.event_run rfl (Row.load_row_run (g := gb) (t := 27) (cells := bkV s V) rfl rfl (S.out.blk 1 rfl) Try.underlying27 rfl (by kernel_rfl)) ?_) | ((with_reducible refine gate_store (t := 27) (p := 4) rfl ?_); refine store_event (t := 27) (p := 4) (v := ?vo_8) (w1 := wr.setRow gr (bkV s V)) ?hg ?ho ?hn ?hr ?_; (case ho => rfl); (case hg => rfl); (case hn => rfl); (case hr => exact (Row.store_row_run (g := gr) (cells := bkV s V) (t := 27) (old := #[.int .i64 0, .slice none 0 0, .slice none 0 0, .slice none 0 0, .slice none 0 0, .slice none 0 0, .slice none 0 0, .slice none 0 0, .slice none 0 0]) rfl (by rfl) (by rfl) (S.out.blk 0 rfl) (by kernel_rfl) rfl (HONE.out))); intro w7 hw_; have Sn_ := Aside0.mk ((S.out.setRow (cs' := bkV s V) (rs' := [Bx gr (bkV s V) 27, Bx gb (bkV s V) 27, Rb V (upd (upd L 5 ((L 5).set a 0)) 0 P')]) 0 rfl rfl).of hw_); clear S hw_; have S := Sn_; clear Sn_))
        have HWn : Aside0 (Wd s (upd (upd L 5 ((L 5).set a 0)) 0 P')) := ⟨by
          have h1 := Bv.W.backL (a := a) (n := i) HW.out HO.out (by rw [HP.out]; exact HVv.out) (by omega) (P' := P') hpl' (fun j => by rw [HP.out]; exact HP'.out.2 j)
          unfold Wd
          rw [upd_at, upd_ne _ 0 5 _ (by omega), upd_at, upd_ne _ 0 6 _ (by omega), upd_ne _ 5 6 _ (by omega), upd_ne _ 0 7 _ (by omega), upd_ne _ 5 7 _ (by omega)]
          exact Wcong h1 (fun k hk => by rw [upd_ne _ _ _ _ (by omega), upd_ne _ _ _ _ (by omega)])⟩
        refine bodyPost_ret (results_cell_row rfl _ _ gr 27 (bkV s V) (0, 0) _ rfl (S.out.blk 0 rfl) Try.underlying27 rfl (by kernel_rfl)) rfl ?_
        exact ⟨V, _, rfl, HWn.out, S.out.out 2 rfl⟩
end Go.Proofs.Ytekneicikmaplaa.Bk
namespace Go.Proofs.Ytekneicikmaplaa.PFnExactBookOpen
open Go.RowKit Go.Proofs.YtekneicikmaplaaW.PrintWords Go.Proofs.YtekneicikmaplaaW.PrintLast Go.Proofs.YtekneicikmaplaaW.PrintMore
attribute [local go_sem] max2_int min2_int max_two min_two max_three min_three max_four min_four   -- for this text's walks alone
def errW : Option Int → Value
  | none => .nilIface
  | some c => .iface 0 (.int .i64 c)
theorem errW_none : errW none = .nilIface := rfl
theorem errW_some (c : Int) : errW (some c) = .iface 0 (.int .i64 c) := rfl
theorem info3 : (Try.prog.info? 3).map (fun i => (i.zero, i.size, i.bytes)) = some (some (.int .i64 0), 1, 8) := by kernel_rfl
end Go.Proofs.Ytekneicikmaplaa.PFnExactBookOpen
namespace Go.Proofs.Ytekneicikmaplaa.PFnExactBookOpen
open Go.RowKit Go.Proofs.YtekneicikmaplaaW.PrintWords Go.Proofs.YtekneicikmaplaaW.PrintLast Go.Proofs.YtekneicikmaplaaW.PrintMore
attribute [local go_sem] max2_int min2_int max_two min_two max_three min_three max_four min_four   -- for this text's walks alone
def spec_PlatOk.f (a0_0 : Int) (a0_1 : Int) (a0_2 : Int) : Option (Bool) := if a0_0 ≥ 1 then (if a0_0 ≤ 4 then (if a0_1 ≥ 1 then (if a0_1 ≤ 6 then (if a0_2 ≥ 1 then (some (decide (a0_2 ≤ 20))) else (some false)) else (some false)) else (some false)) else (some false)) else (some false)
set_option maxHeartbeats 8000000 in
set_option maxRecDepth 100000 in
theorem spec_PlatOk.calls (a0_0 : Int) (a0_1 : Int) (a0_2 : Int) (r : Bool) (w : World) (h : spec_PlatOk.f a0_0 a0_1 a0_2 = some r) :
    Calls Try.prog 35 #[.agg #[.int .i64 a0_0, .int .i64 a0_1, .int .i64 a0_2]] w fun e w' => e = .returned (.bool r) ∧ Below w.heap.size w w' := by
  have hu29 := Try.underlying29
  have HB := Aside0.mk (Below.refl w.heap.size w)
  have H : (if a0_0 ≥ 1 then (if a0_0 ≤ 4 then (if a0_1 ≥ 1 then (if a0_1 ≤ 6 then (if a0_2 ≥ 1 then (some (decide (a0_2 ≤ 20))) else (some false)) else (some false)) else (some false)) else (some false)) else (some false)) = some r := h
  clear h
  by_cases c2 : a0_0 ≥ 1
  · rw [if_pos c2] at H
    have c2b0 : decide (1 ≤ a0_0) = true := decide_eq_true c2
    clear c2
    by_cases c3 : a0_0 ≤ 4
    · rw [if_pos c3] at H
      have c3b0 : decide (a0_0 ≤ 4) = true := decide_eq_true c3
      clear c3
      by_cases c4 : a0_1 ≥ 1
      · rw [if_pos c4] at H
        have c4b0 : decide (1 ≤ a0_1) = true := decide_eq_true c4
        clear c4
        by_cases c5 : a0_1 ≤ 6
        · rw [if_pos c5] at H
          have c5b0 : decide (a0_1 ≤ 6) = true := decide_eq_true c5
          clear c5
          by_cases c6 : a0_2 ≥ 1
          · rw [if_pos c6] at H
            have c6b0 : decide (1 ≤ a0_2) = true := decide_eq_true c6
            clear c6
            obtain rfl := Option.some.inj H
            go_enter Try.func35, Try.ntmps35
            go_wp2_with (first | ((with_reducible refine gate_dst (N := 1) rfl ?_); refine box_event ?hg (N := 1) ?hd (cs := #[.int .i64 a0_0, .int .i64 a0_1, .int .i64 a0_2]) (t := 29) ?hr ?_; (case hd => rfl); (case hg => rfl); (case hr => first | (go_simp; done) | (go_simp; rfl)); intro gb101 hg w7 hbox hb; have n0_ := Aside0.mk (below_step (by repeat (first | (with_reducible first | exact HB.out | apply below_alloc | apply pw_below_drewN | apply below_drew1) | exact HB.out)) hb); have n1_ := Aside0.mk (hbox); have n2_ := Aside0.mk ((by rw [hg]; exact (below_size (by repeat (first | (with_reducible first | exact HB.out | apply below_alloc | apply pw_below_drewN | apply below_drew1) | exact HB.out))) : w.heap.size ≤ gb101)); have n3_ := Aside0.mk ((by rw [hg]; exact (below_size (by repeat (first | (with_reducible first | exact HB.out | apply below_alloc | apply pw_below_drewN | apply below_drew1) | exact HB.out))) : w.heap.size ≤ gb101)); clear HB; have HB := n0_; have BK101 := n1_; have GW101 := n2_; have GE101 := n3_; clear n0_ n1_ n2_ n3_; clear hb hbox hg; have hcz8_0 : w7.cell? ⟨gb101, 0, none⟩ = some (.int .i64 a0_0) := (blk_cell BK101.out 0).trans rfl; have hcz8_1 : w7.cell? ⟨gb101, 1, none⟩ = some (.int .i64 a0_1) := (blk_cell BK101.out 1).trans rfl; have hcz8_2 : w7.cell? ⟨gb101, 2, none⟩ = some (.int .i64 a0_2) := (blk_cell BK101.out 2).trans rfl; have hfz8_0 := blk_frozen BK101.out 0; have hfz8_1 := blk_frozen BK101.out 1; have hfz8_2 := blk_frozen BK101.out 2))
            go_ret
            exact ⟨by first | rfl | (simp [errW_none, errW_some] <;> rfl) | (simp [*, errW_none, errW_some] <;> rfl), by repeat (first | (with_reducible first | exact HB.out | apply below_alloc | apply pw_below_drewN | apply below_drew1 | refine below_set ?_ GE101.out) | exact HB.out)⟩
          · rw [if_neg c6] at H
            have c6b0 : decide (1 ≤ a0_2) = false := decide_eq_false c6
            clear c6
            obtain rfl := Option.some.inj H
            go_enter Try.func35, Try.ntmps35
            go_wp2_with (first | ((with_reducible refine gate_dst (N := 1) rfl ?_); refine box_event ?hg (N := 1) ?hd (cs := #[.int .i64 a0_0, .int .i64 a0_1, .int .i64 a0_2]) (t := 29) ?hr ?_; (case hd => rfl); (case hg => rfl); (case hr => first | (go_simp; done) | (go_simp; rfl)); intro gb101 hg w9 hbox hb; have n0_ := Aside0.mk (below_step (by repeat (first | (with_reducible first | exact HB.out | apply below_alloc | apply pw_below_drewN | apply below_drew1) | exact HB.out)) hb); have n1_ := Aside0.mk (hbox); have n2_ := Aside0.mk ((by rw [hg]; exact (below_size (by repeat (first | (with_reducible first | exact HB.out | apply below_alloc | apply pw_below_drewN | apply below_drew1) | exact HB.out))) : w.heap.size ≤ gb101)); have n3_ := Aside0.mk ((by rw [hg]; exact (below_size (by repeat (first | (with_reducible first | exact HB.out | apply below_alloc | apply pw_below_drewN | apply below_drew1) | exact HB.out))) : w.heap.size ≤ gb101)); clear HB; have HB := n0_; have BK101 := n1_; have GW101 := n2_; have GE101 := n3_; clear n0_ n1_ n2_ n3_; clear hb hbox hg; have hcz10_0 : w9.cell? ⟨gb101, 0, none⟩ = some (.int .i64 a0_0) := (blk_cell BK101.out 0).trans rfl; have hcz10_1 : w9.cell? ⟨gb101, 1, none⟩ = some (.int .i64 a0_1) := (blk_cell BK101.out 1).trans rfl; have hcz10_2 : w9.cell? ⟨gb101, 2, none⟩ = some (.int .i64 a0_2) := (blk_cell BK101.out 2).trans rfl; have hfz10_0 := blk_frozen BK101.out 0; have hfz10_1 := blk_frozen BK101.out 1; have hfz10_2 := blk_frozen BK101.out 2))
            go_ret
            exact ⟨by first | rfl | (simp [errW_none, errW_some] <;> rfl) | (simp [*, errW_none, errW_some] <;> rfl), by repeat (first | (with_reducible first | exact HB.out | apply below_alloc | apply pw_below_drewN | apply below_drew1 | refine below_set ?_ GE101.out) | exact HB.out)⟩
        · rw [if_neg c5] at H
          have c5b0 : decide (a0_1 ≤ 6) = false := decide_eq_false c5
          clear c5
          obtain rfl := Option.some.inj H
          go_enter Try.func35, Try.ntmps35
          go_wp2_with (first | ((with_reducible refine gate_dst (N := 1) rfl ?_); refine box_event ?hg (N := 1) ?hd (cs := #[.int .i64 a0_0, .int .i64 a0_1, .int .i64 a0_2]) (t := 29) ?hr ?_; (case hd => rfl); (case hg => rfl); (case hr => first | (go_simp; done) | (go_simp; rfl)); intro gb101 hg w11 hbox hb; have n0_ := Aside0.mk (below_step (by repeat (first | (with_reducible first | exact HB.out | apply below_alloc | apply pw_below_drewN | apply below_drew1) | exact HB.out)) hb); have n1_ := Aside0.mk (hbox); have n2_ := Aside0.mk ((by rw [hg]; exact (below_size (by repeat (first | (with_reducible first | exact HB.out | apply below_alloc | apply pw_below_drewN | apply below_drew1) | exact HB.out))) : w.heap.size ≤ gb101)); have n3_ := Aside0.mk ((by rw [hg]; exact (below_size (by repeat (first | (with_reducible first | exact HB.out | apply below_alloc | apply pw_below_drewN | apply below_drew1) | exact HB.out))) : w.heap.size ≤ gb101)); clear HB; have HB := n0_; have BK101 := n1_; have GW101 := n2_; have GE101 := n3_; clear n0_ n1_ n2_ n3_; clear hb hbox hg; have hcz12_0 : w11.cell? ⟨gb101, 0, none⟩ = some (.int .i64 a0_0) := (blk_cell BK101.out 0).trans rfl; have hcz12_1 : w11.cell? ⟨gb101, 1, none⟩ = some (.int .i64 a0_1) := (blk_cell BK101.out 1).trans rfl; have hcz12_2 : w11.cell? ⟨gb101, 2, none⟩ = some (.int .i64 a0_2) := (blk_cell BK101.out 2).trans rfl; have hfz12_0 := blk_frozen BK101.out 0; have hfz12_1 := blk_frozen BK101.out 1; have hfz12_2 := blk_frozen BK101.out 2))
          go_ret
          exact ⟨by first | rfl | (simp [errW_none, errW_some] <;> rfl) | (simp [*, errW_none, errW_some] <;> rfl), by repeat (first | (with_reducible first | exact HB.out | apply below_alloc | apply pw_below_drewN | apply below_drew1 | refine below_set ?_ GE101.out) | exact HB.out)⟩
      · rw [if_neg c4] at H
        have c4b0 : decide (1 ≤ a0_1) = false := decide_eq_false c4
        clear c4
        obtain rfl := Option.some.inj H
        go_enter Try.func35, Try.ntmps35
        go_wp2_with (first | ((with_reducible refine gate_dst (N := 1) rfl ?_); refine box_event ?hg (N := 1) ?hd (cs := #[.int .i64 a0_0, .int .i64 a0_1, .int .i64 a0_2]) (t := 29) ?hr ?_; (case hd => rfl); (case hg => rfl); (case hr => first | (go_simp; done) | (go_simp; rfl)); intro gb101 hg w13 hbox hb; have n0_ := Aside0.mk (below_step (by repeat (first | (with_reducible first | exact HB.out | apply below_alloc | apply pw_below_drewN | apply below_drew1) | exact HB.out)) hb); have n1_ := Aside0.mk (hbox); have n2_ := Aside0.mk ((by rw [hg]; exact (below_size (by repeat (first | (with_reducible first | exact HB.out | apply below_alloc | apply pw_below_drewN | apply below_drew1) | exact HB.out))) : w.heap.size ≤ gb101)); have n3_ := Aside0.mk ((by rw [hg]; exact (below_size (by repeat (first | (with_reducible first | exact HB.out | apply below_alloc | apply pw_below_drewN | apply below_drew1) | exact HB.out))) : w.heap.size ≤ gb101)); clear HB; have HB := n0_; have BK101 := n1_; have GW101 := n2_; have GE101 := n3_; clear n0_ n1_ n2_ n3_; clear hb hbox hg; have hcz14_0 : w13.cell? ⟨gb101, 0, none⟩ = some (.int .i64 a0_0) := (blk_cell BK101.out 0).trans rfl; have hcz14_1 : w13.cell? ⟨gb101, 1, none⟩ = some (.int .i64 a0_1) := (blk_cell BK101.out 1).trans rfl; have hcz14_2 : w13.cell? ⟨gb101, 2, none⟩ = some (.int .i64 a0_2) := (blk_cell BK101.out 2).trans rfl; have hfz14_0 := blk_frozen BK101.out 0; have hfz14_1 := blk_frozen BK101.out 1; have hfz14_2 := blk_frozen BK101.out 2))
        go_ret
        exact ⟨by first | rfl | (simp [errW_none, errW_some] <;> rfl) | (simp [*, errW_none, errW_some] <;> rfl), by repeat (first | (with_reducible first | exact HB.out | apply below_alloc | apply pw_below_drewN | apply below_drew1 | refine below_set ?_ GE101.out) | exact HB.out)⟩
    · rw [if_neg c3] at H
      have c3b0 : decide (a0_0 ≤ 4) = false := decide_eq_false c3
      clear c3
      obtain rfl := Option.some.inj H
      go_enter Try.func35, Try.ntmps35
      go_wp2_with (first | ((with_reducible refine gate_dst (N := 1) rfl ?_); refine box_event ?hg (N := 1) ?hd (cs := #[.int .i64 a0_0, .int .i64 a0_1, .int .i64 a0_2]) (t := 29) ?hr ?_; (case hd => rfl); (case hg => rfl); (case hr => first | (go_simp; done) | (go_simp; rfl)); intro gb101 hg w15 hbox hb; have n0_ := Aside0.mk (below_step (by repeat (first | (with_reducible first | exact HB.out | apply below_alloc | apply pw_below_drewN | apply below_drew1) | exact HB.out)) hb); have n1_ := Aside0.mk (hbox); have n2_ := Aside0.mk ((by rw [hg]; exact (below_size (by repeat (first | (with_reducible first | exact HB.out | apply below_alloc | apply pw_below_drewN | apply below_drew1) | exact HB.out))) : w.heap.size ≤ gb101)); have n3_ := Aside0.mk ((by rw [hg]; exact (below_size (by repeat (first | (with_reducible first | exact HB.out | apply below_alloc | apply pw_below_drewN | apply below_drew1) | exact HB.out))) : w.heap.size ≤ gb101)); clear HB; have HB := n0_; have BK101 := n1_; have GW101 := n2_; have GE101 := n3_; clear n0_ n1_ n2_ n3_; clear hb hbox hg; have hcz16_0 : w15.cell? ⟨gb101, 0, none⟩ = some (.int .i64 a0_0) := (blk_cell BK101.out 0).trans rfl; have hcz16_1 : w15.cell? ⟨gb101, 1, none⟩ = some (.int .i64 a0_1) := (blk_cell BK101.out 1).trans rfl; have hcz16_2 : w15.cell? ⟨gb101, 2, none⟩ = some (.int .i64 a0_2) := (blk_cell BK101.out 2).trans rfl; have hfz16_0 := blk_frozen BK101.out 0; have hfz16_1 := blk_frozen BK101.out 1; have hfz16_2 := blk_frozen BK101.out 2))
      go_ret
      exact ⟨by first | rfl | (simp [errW_none, errW_some] <;> rfl) | (simp [*, errW_none, errW_some] <;> rfl), by repeat (first | (with_reducible first | exact HB.out | apply below_alloc | apply pw_below_drewN | apply below_drew1 | refine below_set ?_ GE101.out) | exact HB.out)⟩
  · rw [if_neg c2] at H
    have c2b0 : decide (1 ≤ a0_0) = false := decide_eq_false c2
    clear c2
    obtain rfl := Option.some.inj H
    go_enter Try.func35, Try.ntmps35
    go_wp2_with (first | ((with_reducible refine gate_dst (N := 1) rfl ?_); refine box_event ?hg (N := 1) ?hd (cs := #[.int .i64 a0_0, .int .i64 a0_1, .int .i64 a0_2]) (t := 29) ?hr ?_; (case hd => rfl); (case hg => rfl); (case hr => first | (go_simp; done) | (go_simp; rfl)); intro gb101 hg w17 hbox hb; have n0_ := Aside0.mk (below_step (by repeat (first | (with_reducible first | exact HB.out | apply below_alloc | apply pw_below_drewN | apply below_drew1) | exact HB.out)) hb); have n1_ := Aside0.mk (hbox); have n2_ := Aside0.mk ((by rw [hg]; exact (below_size (by repeat (first | (with_reducible first | exact HB.out | apply below_alloc | apply pw_below_drewN | apply below_drew1) | exact HB.out))) : w.heap.size ≤ gb101)); have n3_ := Aside0.mk ((by rw [hg]; exact (below_size (by repeat (first | (with_reducible first | exact HB.out | apply below_alloc | apply pw_below_drewN | apply below_drew1) | exact HB.out))) : w.heap.size ≤ gb101)); clear HB; have HB := n0_; have BK101 := n1_; have GW101 := n2_; have GE101 := n3_; clear n0_ n1_ n2_ n3_; clear hb hbox hg; have hcz18_0 : w17.cell? ⟨gb101, 0, none⟩ = some (.int .i64 a0_0) := (blk_cell BK101.out 0).trans rfl; have hcz18_1 : w17.cell? ⟨gb101, 1, none⟩ = some (.int .i64 a0_1) := (blk_cell BK101.out 1).trans rfl; have hcz18_2 : w17.cell? ⟨gb101, 2, none⟩ = some (.int .i64 a0_2) := (blk_cell BK101.out 2).trans rfl; have hfz18_0 := blk_frozen BK101.out 0; have hfz18_1 := blk_frozen BK101.out 1; have hfz18_2 := blk_frozen BK101.out 2))
    go_ret
    exact ⟨by first | rfl | (simp [errW_none, errW_some] <;> rfl) | (simp [*, errW_none, errW_some] <;> rfl), by repeat (first | (with_reducible first | exact HB.out | apply below_alloc | apply pw_below_drewN | apply below_drew1 | refine below_set ?_ GE101.out) | exact HB.out)⟩
end Go.Proofs.Ytekneicikmaplaa.PFnExactBookOpen
namespace Go.Proofs.Ytekneicikmaplaa.PFnExactBookOpen
open Go.RowKit Go.Proofs.YtekneicikmaplaaW.PrintWords Go.Proofs.YtekneicikmaplaaW.PrintLast Go.Proofs.YtekneicikmaplaaW.PrintMore
attribute [local go_sem] max2_int min2_int max_two min_two max_three min_three max_four min_four   -- for this text's walks alone
theorem zA2_0 {p : Prop} (h : p := by repeat (first | (with_reducible first | exact HB.out | apply below_alloc | apply pw_below_drewN | apply below_drew1 | refine below_set ?_ GE102.out | refine below_set ?_ GE103.out) | exact HB.out)) : p := h
theorem zA2_1 {p : Prop} (h : p := by (with_reducible repeat (first | refine blk_drewN ?_ _ | refine blk_drew ?_ | refine blk_alloc ?_ _)); exact BK102.out) : p := h
theorem zA2_2 {p : Prop} (h : p := by (with_reducible repeat (first | refine blk_drewN ?_ _ | refine blk_drew ?_ | refine blk_alloc ?_ _)); exact BK103.out) : p := h
theorem zA2_3 {p : Prop} (h : p := by first | (simp only [putAll, Act.put, List.setIfInBounds_toArray, List.set_cons_zero, List.set_cons_succ]; done) | (simp only [putAll, Act.put, List.setIfInBounds_toArray, List.set_cons_zero, List.set_cons_succ]; rfl)) : p := h
theorem zA2_4 {p : Prop} (h : p := by first | (with_reducible assumption) | assumption) : p := h
theorem zA2_5 {p : Prop} (h : p := by (with_reducible repeat (first | apply Kd.R_alloc | apply Kd.R_drewN | apply Kd.R_drew)); exact HO107.out) : p := h
theorem zA2_6 {p : Prop} (h : p := by (with_reducible repeat (first | apply Kd.R_alloc | apply Kd.R_drewN | apply Kd.R_drew)); exact HO110.out) : p := h
theorem zA2_7 {p : Prop} (h : p := by (with_reducible repeat (first | apply Kd.R_alloc | apply Kd.R_drewN | apply Kd.R_drew)); exact HO113.out) : p := h
theorem zA2_8 {p : Prop} (h : p := by (with_reducible repeat (first | apply Kd.R_alloc | apply Kd.R_drewN | apply Kd.R_drew)); exact HO116.out) : p := h
theorem zA2_9 {p : Prop} (h : p := by first | exact Kd.R_nil _ _ _ _ _ | exact Kd.N_nil _ _ _ _ _ | exact Kd.V_nil _ _ _ _ _ | exact Kd.Q_nil _ _ _ _ _ | exact Kd.S_nil _ _ _ _ _) : p := h
theorem zA2_10 {p : Prop} (h : p := by repeat (first | (with_reducible first | exact HB.out | apply below_alloc | apply pw_below_drewN | apply below_drew1 | refine below_set ?_ GE102.out) | exact HB.out)) : p := h
theorem zA2_11 {p : Prop} (h : p := by first | exact Kd.R_nil _ _ _ _ _ | exact Kd.N_nil _ _ _ _ _ | exact Kd.V_nil _ _ _ _ _ | exact Kd.Q_nil _ _ _ _ _ | exact Kd.S_nil _ _ _ _ _) : p := h
theorem zA2_12 {p : Prop} (h : p := by (with_reducible repeat (first | apply Kd.R_alloc | apply Kd.R_drewN | apply Kd.R_drew)); exact Kd.R_mono HO107.out (fun _ hk => hk.2)) : p := h
theorem zA2_13 {p : Prop} (h : p := by (with_reducible repeat (first | apply Kd.R_alloc | apply Kd.R_drewN | apply Kd.R_drew)); exact Kd.R_mono HO116.out (fun _ hk => hk.2)) : p := h
theorem zA2_14 {p : Prop} (h : p := by (with_reducible repeat (first | apply Kd.R_alloc | apply Kd.R_drewN | apply Kd.R_drew)); exact Kd.R_mono HO110.out (fun _ hk => hk.2)) : p := h
theorem zA2_15 {p : Prop} (h : p := by (with_reducible repeat (first | apply Kd.R_alloc | apply Kd.R_drewN | apply Kd.R_drew)); exact Kd.R_mono HO113.out (fun _ hk => hk.2)) : p := h
theorem zA2_16 {p : Prop} (h : p := by repeat (first | (with_reducible first | exact HB.out | apply below_alloc | apply pw_below_drewN | apply below_drew1) | exact HB.out)) : p := h
theorem zA2_17 {p : Prop} (h : p := by (with_reducible repeat (first | apply Kd.R_alloc | apply Kd.R_drewN | apply Kd.R_drew)); exact Kd.R_mono HO107.out (fun _ hk => ⟨hk.1.2, hk.2⟩)) : p := h
theorem zA2_18 {p : Prop} (h : p := by (with_reducible repeat (first | apply Kd.R_alloc | apply Kd.R_drewN | apply Kd.R_drew)); exact Kd.R_mono HO110.out (fun _ hk => ⟨hk.1.2, hk.2⟩)) : p := h
theorem zA2_19 {p : Prop} (h : p := by (with_reducible repeat (first | apply Kd.R_alloc | apply Kd.R_drewN | apply Kd.R_drew)); exact Kd.R_mono HO113.out (fun _ hk => ⟨hk.1.2, hk.2⟩)) : p := h
theorem zA2_20 {p : Prop} (h : p := by (with_reducible repeat (first | apply Kd.R_alloc | apply Kd.R_drewN | apply Kd.R_drew)); exact Kd.R_mono HO116.out (fun _ hk => ⟨hk.1.2, hk.2⟩)) : p := h
theorem zA2_21 {p : Prop} (h : p := by (with_reducible repeat (first | apply Kd.R_alloc | apply Kd.R_drewN | apply Kd.R_drew)); exact Kd.R_mono HO113.out (fun _ hk => ⟨hk.2, hk.1⟩)) : p := h
theorem zA2_22 {p : Prop} (h : p := by (with_reducible repeat (first | apply Kd.R_alloc | apply Kd.R_drewN | apply Kd.R_drew)); exact Kd.R_mono HO116.out (fun _ hk => ⟨hk.2, hk.1⟩)) : p := h
theorem zA2_23 {p : Prop} (h : p := by (with_reducible repeat (first | apply Kd.R_alloc | apply Kd.R_drewN | apply Kd.R_drew)); exact Kd.R_mono HO110.out (fun _ hk => ⟨hk.2, hk.1⟩)) : p := h
theorem zA2_24 {p : Prop} (h : p := by (with_reducible repeat (first | apply Kd.R_alloc | apply Kd.R_drewN | apply Kd.R_drew)); exact Kd.R_mono HO107.out (fun _ hk => ⟨hk.2, hk.1⟩)) : p := h
theorem zA2_25 {p : Prop} (h : p := by simp [Value.ownBlock]) : p := h
theorem zA2_26 {p : Prop} (h : p := by kernel_rfl) : p := h
theorem zp2_ {P : Program} {md : Region.Mode} {ops : Array Oper} {Q : Exit → Act → World → Prop} {S : World → Prop} {ds : List Nat} (i : Nat) (N : Tmp) {oi : Oper} {v : Value} {fuel : Nat} {l : Array Bool} {a : Act} {w : World} (l' : Array Bool) (hc : anyB md ops l l' i = true) {a' : Act} (h : wpAnyLast P md ops Q S ds fuel l' a' w) (hi : ops[i]? = some oi := by rfl) (hN : oi.dst = some N := by rfl) (hq : ∀ c a w, Q (.panic c) (a.put oi.dst v) w → Q (.panic c) a w := by exact fun _ _ _ h => h) (hy : Yields P ops oi v a := by exact Or.inl ⟨by rfl, by intro w'; go_simp; with_reducible rfl⟩) (ha : a.put (some N) v = a' := by simp only [Act.put, List.setIfInBounds_toArray, List.set_cons_zero, List.set_cons_succ, i64_w, i32_w]; rfl) : wpAnyLast P md ops Q S ds (fuel + 1) l a w := pure_ l' hi hN hc hq hy ha h
theorem zt2_2_ {P : Program} {md : Region.Mode} {ops : Array Oper} {Q : Exit → Act → World → Prop} {S : World → Prop} {ds : List Nat} (i : Nat) (N : Tmp) {oi : Oper} {v : Value} {fuel : Nat} {l : Array Bool} {a : Act} {w : World} (l' : Array Bool) (hc : takeB md ops ds l l' i = true) (hS : S w) {a' : Act} (h : wpAnyLast P md ops Q S ds fuel l' a' w) (hi : ops[i]? = some oi := by rfl) (hN : oi.dst = some N := by rfl) (hq : ∀ c a w, Q (.panic c) (a.put oi.dst v) w → Q (.panic c) a w := by exact fun _ _ _ h => h) (hy : YieldsIf P ops S oi v a := by exact Or.inl ⟨by rfl, by intro w' zz; obtain ⟨_, _, _⟩ := zz; go_simp; with_reducible rfl⟩) (ha : a.put (some N) v = a' := by simp only [Act.put, List.setIfInBounds_toArray, List.set_cons_zero, List.set_cons_succ, i64_w, i32_w]; rfl) : wpAnyLast P md ops Q S ds (fuel + 1) l a w := take_ l' hi hN hc hq hy hS ha h
abbrev zl2_0 : Array Bool := #[true, true, true, true, true, true, true, true, true, true, true, true, true, true, true, false, false]
abbrev zl2_1 : Array Bool := #[true, true, true, true, true, true, true, true, true, true, true, true, true, true, false, false, false]
abbrev zl2_2 : Array Bool := #[true, true, true, true, true, true, true, true, true, true, true, false, true, true, true, false, false]
abbrev zl2_3 : Array Bool := #[true, true, true, true, true, true, true, true, false, true, true, true, true, true, true, false, false]
abbrev zl2_4 : Array Bool := #[true, true, true, true, false, true, true, true, true, true, true, true, true, true, true, false, false]
abbrev zl2_5 : Array Bool := #[true, true, true, true, true, true, true, true, true, true, true, false, true, true, false, false, false]
abbrev zl2_6 : Array Bool := #[true, true, true, true, true, true, true, true, false, true, true, true, true, true, false, false, false]
abbrev zl2_7 : Array Bool := #[true, true, true, true, true, true, true, true, false, true, true, false, true, true, true, false, false]
abbrev zl2_8 : Array Bool := #[true, true, true, true, false, true, true, true, true, true, true, true, true, true, false, false, false]
abbrev zl2_9 : Array Bool := #[true, true, true, true, false, true, true, true, true, true, true, false, true, true, true, false, false]
abbrev zl2_10 : Array Bool := #[true, true, true, true, false, true, true, true, false, true, true, true, true, true, true, false, false]
abbrev zl2_11 : Array Bool := #[true, true, true, true, true, true, true, true, false, true, true, false, true, true, false, false, false]
abbrev zl2_12 : Array Bool := #[true, true, true, true, false, true, true, true, true, true, true, false, true, true, false, false, false]
abbrev zl2_13 : Array Bool := #[true, true, true, true, false, true, true, true, false, true, true, true, true, true, false, false, false]
abbrev zl2_14 : Array Bool := #[true, true, true, true, false, true, true, true, false, true, true, false, true, true, true, false, false]
abbrev zl2_15 : Array Bool := #[false, false, false, false, false, false, false, false, false, false, false, false, false, false, false, false, false]
abbrev zl2_16 : Array Bool := #[true, false, false, false, false, false, false, false, false, false, false, false, false, false, false, false, false]
abbrev zl2_17 : Array Bool := #[true, false, true, false, false, false, false, false, false, false, false, false, false, false, false, false, false]
abbrev zl2_18 : Array Bool := #[true, false, true, false, false, true, false, false, false, false, false, false, false, false, false, false, false]
abbrev zl2_19 : Array Bool := #[true, false, true, false, false, true, false, false, false, true, false, false, false, false, false, false, false]
abbrev zl2_20 : Array Bool := #[true, false, true, false, false, true, false, false, false, true, false, false, true, false, false, false, false]
abbrev zl2_21 : Array Bool := #[true, true, true, false, false, true, false, false, false, true, false, false, true, false, false, false, false]
abbrev zl2_22 : Array Bool := #[true, true, true, true, false, true, false, false, false, true, false, false, true, false, false, false, false]
abbrev zl2_23 : Array Bool := #[true, true, true, true, false, true, true, false, false, true, false, false, true, false, false, false, false]
abbrev zl2_24 : Array Bool := #[true, true, true, true, false, true, true, true, false, true, false, false, true, false, false, false, false]
abbrev zl2_25 : Array Bool := #[true, true, true, true, false, true, true, true, false, true, true, false, true, false, false, false, false]
abbrev zl2_26 : Array Bool := #[true, true, true, true, false, true, true, true, false, true, true, false, true, true, false, false, false]
abbrev zl2_27 : Array Bool := #[true, true, true, true, true, true, true, true, true, true, true, true, true, true, true, true, false]
abbrev zl2_28 : Array Bool := #[true, true, true, true, true, true, true, true, true, true, true, true, true, true, true, true, true]
def spec_BookOpen.f (a0_0 : Int) (a0_1 : Int) (a0_2 : Int) : Option (Int × List Int × List Int × List Int × List Int × List Int × List Int × List Int × List Int) := (spec_PlatOk.f a0_0 a0_1 a0_2).bind fun t104 => (if t104 = true then (if 0 ≤ a0_1 then (if (a0_1 : Int).toNat ≤ 35184372088832 then (if 0 ≤ (wrap64 (a0_1 * 8)) then (if (wrap64 (a0_1 * 8) : Int).toNat ≤ 35184372088832 then (if 0 ≤ a0_0 then (if (a0_0 : Int).toNat ≤ 35184372088832 then (some (a0_0, (List.replicate (a0_1 : Int).toNat 0), ([] : List Int), ([] : List Int), ([] : List Int), ([] : List Int), (List.replicate (wrap64 (a0_1 * 8) : Int).toNat 0), (List.replicate (a0_0 : Int).toNat 0), (List.replicate (a0_0 : Int).toNat 0))) else (none)) else (none)) else (none)) else (none)) else (none)) else (none)) else (some (0, ([] : List Int), ([] : List Int), ([] : List Int), ([] : List Int), ([] : List Int), ([] : List Int), ([] : List Int), ([] : List Int))))
def spec_BookOpen.T3 : Bool × List (List Nat × List Nat) := (true, [([], []), ([0], [0]), ([], []), ([2], [2]), ([3, 3], [3]), ([], []), ([5], [5]), ([6], [6]), ([7, 7], [7]), ([], []), ([9], [9]), ([10, 10], [10]), ([], []), ([12], [12]), ([13, 13], [13]), ([1, 4, 8, 11, 14], [1, 4, 8, 11, 14]), ([15, 0, 1, 2, 3, 4, 5, 6, 7, 8, 9, 10, 11, 12, 13, 14, 15], [15])])
def spec_BookOpen.B3 : List Nat := [0, 1, 0, 4, 12, 0, 32, 96, 224, 0, 512, 1536, 0, 4096, 12288, 32767, 65535]
theorem spec_BookOpen.tab3 : rtab .any (opsOf Try.f11 3) = spec_BookOpen.T3 := by kernel_rfl
theorem spec_BookOpen.bits3 : waitsOk spec_BookOpen.T3.2 spec_BookOpen.B3 = true := by kernel_rfl
set_option maxHeartbeats 8000000 in
set_option maxRecDepth 100000 in
theorem spec_BookOpen.calls (a0_0 : Int) (a0_1 : Int) (a0_2 : Int) (r1 : Int) (r2 : List Int) (r3 : List Int) (r4 : List Int) (r5 : List Int) (r6 : List Int) (r7 : List Int) (r8 : List Int) (r9 : List Int) (w : World) (h : spec_BookOpen.f a0_0 a0_1 a0_2 = some (r1, r2, r3, r4, r5, r6, r7, r8, r9)) :
  Calls Try.prog 11 #[.agg #[.int .i64 a0_0, .int .i64 a0_1, .int .i64 a0_2]] w fun e w' => ∃ v1_ v2_ v3_ v4_ v5_ v6_ v7_ v8_ : Value, e = .returned (.agg #[.int .i64 r1, v1_, v2_, v3_, v4_, v5_, v6_, v7_, v8_]) ∧ Kd.R (Kd.int .i64) 3 w' w.heap.size (fun k_ => some k_ ≠ (v2_ : Value).ownBlock ∧ some k_ ≠ (v3_ : Value).ownBlock ∧ some k_ ≠ (v4_ : Value).ownBlock ∧ some k_ ≠ (v5_ : Value).ownBlock ∧ some k_ ≠ (v6_ : Value).ownBlock ∧ some k_ ≠ (v7_ : Value).ownBlock ∧ some k_ ≠ (v8_ : Value).ownBlock) v1_ r2 ∧ Kd.R (Kd.int .i64) 3 w' w.heap.size (fun k_ => some k_ ≠ (v1_ : Value).ownBlock ∧ some k_ ≠ (v3_ : Value).ownBlock ∧ some k_ ≠ (v4_ : Value).ownBlock ∧ some k_ ≠ (v5_ : Value).ownBlock ∧ some k_ ≠ (v6_ : Value).ownBlock ∧ some k_ ≠ (v7_ : Value).ownBlock ∧ some k_ ≠ (v8_ : Value).ownBlock) v2_ r3 ∧ Kd.R (Kd.int .i64) 3 w' w.heap.size (fun k_ => some k_ ≠ (v1_ : Value).ownBlock ∧ some k_ ≠ (v2_ : Value).ownBlock ∧ some k_ ≠ (v4_ : Value).ownBlock ∧ some k_ ≠ (v5_ : Value).ownBlock ∧ some k_ ≠ (v6_ : Value).ownBlock ∧ some k_ ≠ (v7_ : Value).ownBlock ∧ some k_ ≠ (v8_ : Value).ownBlock) v3_ r4 ∧ Kd.R (Kd.int .i64) 3 w' w.heap.size (fun k_ => some k_ ≠ (v1_ : Value).ownBlock ∧ some k_ ≠ (v2_ : Value).ownBlock ∧ some k_ ≠ (v3_ : Value).ownBlock ∧ some k_ ≠ (v5_ : Value).ownBlock ∧ some k_ ≠ (v6_ : Value).ownBlock ∧ some k_ ≠ (v7_ : Value).ownBlock ∧ some k_ ≠ (v8_ : Value).ownBlock) v4_ r5 ∧ Kd.R (Kd.int .i64) 3 w' w.heap.size (fun k_ => some k_ ≠ (v1_ : Value).ownBlock ∧ some k_ ≠ (v2_ : Value).ownBlock ∧ some k_ ≠ (v3_ : Value).ownBlock ∧ some k_ ≠ (v4_ : Value).ownBlock ∧ some k_ ≠ (v6_ : Value).ownBlock ∧ some k_ ≠ (v7_ : Value).ownBlock ∧ some k_ ≠ (v8_ : Value).ownBlock) v5_ r6 ∧ Kd.R (Kd.int .i64) 3 w' w.heap.size (fun k_ => some k_ ≠ (v1_ : Value).ownBlock ∧ some k_ ≠ (v2_ : Value).ownBlock ∧ some k_ ≠ (v3_ : Value).ownBlock ∧ some k_ ≠ (v4_ : Value).ownBlock ∧ some k_ ≠ (v5_ : Value).ownBlock ∧ some k_ ≠ (v7_ : Value).ownBlock ∧ some k_ ≠ (v8_ : Value).ownBlock) v6_ r7 ∧ Kd.R (Kd.int .i64) 3 w' w.heap.size (fun k_ => some k_ ≠ (v1_ : Value).ownBlock ∧ some k_ ≠ (v2_ : Value).ownBlock ∧ some k_ ≠ (v3_ : Value).ownBlock ∧ some k_ ≠ (v4_ : Value).ownBlock ∧ some k_ ≠ (v5_ : Value).ownBlock ∧ some k_ ≠ (v6_ : Value).ownBlock ∧ some k_ ≠ (v8_ : Value).ownBlock) v7_ r8 ∧ Kd.R (Kd.int .i64) 3 w' w.heap.size (fun k_ => some k_ ≠ (v1_ : Value).ownBlock ∧ some k_ ≠ (v2_ : Value).ownBlock ∧ some k_ ≠ (v3_ : Value).ownBlock ∧ some k_ ≠ (v4_ : Value).ownBlock ∧ some k_ ≠ (v5_ : Value).ownBlock ∧ some k_ ≠ (v6_ : Value).ownBlock ∧ some k_ ≠ (v7_ : Value).ownBlock) v8_ r9 ∧ Below w.heap.size w w' := by
 have hu29 := Try.underlying29
 have hu27 := Try.underlying27
 have HB := Aside0.mk (Below.refl w.heap.size w)
 have H : ((spec_PlatOk.f a0_0 a0_1 a0_2).bind fun t104 => (if t104 = true then (if 0 ≤ a0_1 then (if (a0_1 : Int).toNat ≤ 35184372088832 then (if 0 ≤ (wrap64 (a0_1 * 8)) then (if (wrap64 (a0_1 * 8) : Int).toNat ≤ 35184372088832 then (if 0 ≤ a0_0 then (if (a0_0 : Int).toNat ≤ 35184372088832 then (some (a0_0, (List.replicate (a0_1 : Int).toNat 0), ([] : List Int), ([] : List Int), ([] : List Int), ([] : List Int), (List.replicate (wrap64 (a0_1 * 8) : Int).toNat 0), (List.replicate (a0_0 : Int).toNat 0), (List.replicate (a0_0 : Int).toNat 0))) else (none)) else (none)) else (none)) else (none)) else (none)) else (none)) else (some (0, ([] : List Int), ([] : List Int), ([] : List Int), ([] : List Int), ([] : List Int), ([] : List Int), ([] : List Int), ([] : List Int))))) = some (r1, r2, r3, r4, r5, r6, r7, r8, r9) := h
 clear h
 replace H := Option.bind_eq_some_iff.mp H
 obtain ⟨t104, A20, H⟩ := H
 replace H : (if t104 = true then (if 0 ≤ a0_1 then (if (a0_1 : Int).toNat ≤ 35184372088832 then (if 0 ≤ (wrap64 (a0_1 * 8)) then (if (wrap64 (a0_1 * 8) : Int).toNat ≤ 35184372088832 then (if 0 ≤ a0_0 then (if (a0_0 : Int).toNat ≤ 35184372088832 then (some (a0_0, (List.replicate (a0_1 : Int).toNat 0), ([] : List Int), ([] : List Int), ([] : List Int), ([] : List Int), (List.replicate (wrap64 (a0_1 * 8) : Int).toNat 0), (List.replicate (a0_0 : Int).toNat 0), (List.replicate (a0_0 : Int).toNat 0))) else (none)) else (none)) else (none)) else (none)) else (none)) else (none)) else (some (0, ([] : List Int), ([] : List Int), ([] : List Int), ([] : List Int), ([] : List Int), ([] : List Int), ([] : List Int), ([] : List Int)))) = some (r1, r2, r3, r4, r5, r6, r7, r8, r9) := H
 have A2 := Aside0.mk A20
 clear A20
 by_cases c3 : t104 = true
 ·subst c3
  have H1 : (if 0 ≤ a0_1 then (if (a0_1 : Int).toNat ≤ 35184372088832 then (if 0 ≤ (wrap64 (a0_1 * 8)) then (if (wrap64 (a0_1 * 8) : Int).toNat ≤ 35184372088832 then (if 0 ≤ a0_0 then (if (a0_0 : Int).toNat ≤ 35184372088832 then (some (a0_0, (List.replicate (a0_1 : Int).toNat 0), ([] : List Int), ([] : List Int), ([] : List Int), ([] : List Int), (List.replicate (wrap64 (a0_1 * 8) : Int).toNat 0), (List.replicate (a0_0 : Int).toNat 0), (List.replicate (a0_0 : Int).toNat 0))) else (none)) else (none)) else (none)) else (none)) else (none)) else (none)) = some (r1, r2, r3, r4, r5, r6, r7, r8, r9) := by rw [if_pos rfl] at H; exact H
  clear H
  have H := H1
  clear H1
  by_cases c4 : 0 ≤ a0_1
  ·rw [if_pos c4] at H
   have c4b0 := eq_true c4
   have c4b1 : decide (0 ≤ a0_1) = true := decide_eq_true c4
   clear c4
   by_cases c5 : (a0_1 : Int).toNat ≤ 35184372088832
   ·rw [if_pos c5] at H
    have c5b0 := eq_true c5
    have c5b1 : decide ((a0_1 : Int).toNat ≤ 35184372088832) = true := decide_eq_true c5
    clear c5
    obtain ⟨y105, hy105⟩ : ∃ y_ : List Int, y_ = (List.replicate (a0_1 : Int).toNat 0) := ⟨_, rfl⟩
    replace H : (if 0 ≤ (wrap64 (a0_1 * 8)) then (if (wrap64 (a0_1 * 8) : Int).toNat ≤ 35184372088832 then (if 0 ≤ a0_0 then (if (a0_0 : Int).toNat ≤ 35184372088832 then (some (a0_0, y105, ([] : List Int), ([] : List Int), ([] : List Int), ([] : List Int), (List.replicate (wrap64 (a0_1 * 8) : Int).toNat 0), (List.replicate (a0_0 : Int).toNat 0), (List.replicate (a0_0 : Int).toNat 0))) else (none)) else (none)) else (none)) else (none)) = some (r1, r2, r3, r4, r5, r6, r7, r8, r9) := by first | (rw [hy105]; with_reducible exact H) | (have H2_ := (Option.bind_some _ _).symm.trans H; rw [hy105]; with_reducible exact H2_) | (have H2_ := (Option.bind_some _ _).symm.trans H; with_reducible exact H2_) | with_reducible exact H | (rw [hy105]; exact H) | exact H
    have Ny105 := Aside0.mk hy105
    clear hy105
    obtain ⟨ji6, hji6⟩ : ∃ j_ : Int, (wrap64 (a0_1 * 8)) = j_ := ⟨_, rfl⟩
    replace H : (if 0 ≤ (ji6) then (if (ji6 : Int).toNat ≤ 35184372088832 then (if 0 ≤ a0_0 then (if (a0_0 : Int).toNat ≤ 35184372088832 then (some (a0_0, y105, ([] : List Int), ([] : List Int), ([] : List Int), ([] : List Int), (List.replicate (ji6 : Int).toNat 0), (List.replicate (a0_0 : Int).toNat 0), (List.replicate (a0_0 : Int).toNat 0))) else (none)) else (none)) else (none)) else (none)) = some (r1, r2, r3, r4, r5, r6, r7, r8, r9) := by first | (rw [hji6] at H; exact H) | (simp only [hji6] at H ⊢; exact H)
    (try rw [hji6] at A2)
    have hji6w : (IntKind.i64.wrap (a0_1 * 8)) = ji6 := (i64_w _).trans hji6
    by_cases c7 : 0 ≤ (ji6)
    ·rw [if_pos c7] at H
     have c7b0 := eq_true c7
     have c7b1 : decide (0 ≤ (ji6)) = true := decide_eq_true c7
     clear c7
     by_cases c8 : (ji6 : Int).toNat ≤ 35184372088832
     ·rw [if_pos c8] at H
      have c8b0 := eq_true c8
      have c8b1 : decide ((ji6 : Int).toNat ≤ 35184372088832) = true := decide_eq_true c8
      clear c8
      obtain ⟨y108, hy108⟩ : ∃ y_ : List Int, y_ = (List.replicate (ji6 : Int).toNat 0) := ⟨_, rfl⟩
      replace H : (if 0 ≤ a0_0 then (if (a0_0 : Int).toNat ≤ 35184372088832 then (some (a0_0, y105, ([] : List Int), ([] : List Int), ([] : List Int), ([] : List Int), y108, (List.replicate (a0_0 : Int).toNat 0), (List.replicate (a0_0 : Int).toNat 0))) else (none)) else (none)) = some (r1, r2, r3, r4, r5, r6, r7, r8, r9) := by first | (rw [hy108]; with_reducible exact H) | (have H2_ := (Option.bind_some _ _).symm.trans H; rw [hy108]; with_reducible exact H2_) | (have H2_ := (Option.bind_some _ _).symm.trans H; with_reducible exact H2_) | with_reducible exact H | (rw [hy108]; exact H) | exact H
      have Ny108 := Aside0.mk hy108
      clear hy108
      by_cases c9 : 0 ≤ a0_0
      ·rw [if_pos c9] at H
       have c9b0 := eq_true c9
       have c9b1 : decide (0 ≤ a0_0) = true := decide_eq_true c9
       clear c9
       by_cases c10 : (a0_0 : Int).toNat ≤ 35184372088832
       ·rw [if_pos c10] at H
        have c10b0 := eq_true c10
        have c10b1 : decide ((a0_0 : Int).toNat ≤ 35184372088832) = true := decide_eq_true c10
        clear c10
        obtain ⟨y111, hy111⟩ : ∃ y_ : List Int, y_ = (List.replicate (a0_0 : Int).toNat 0) := ⟨_, rfl⟩
        replace H : (some (a0_0, y105, ([] : List Int), ([] : List Int), ([] : List Int), ([] : List Int), y108, y111, (List.replicate (a0_0 : Int).toNat 0))) = some (r1, r2, r3, r4, r5, r6, r7, r8, r9) := by first | (rw [hy111]; with_reducible exact H) | (have H2_ := (Option.bind_some _ _).symm.trans H; rw [hy111]; with_reducible exact H2_) | (have H2_ := (Option.bind_some _ _).symm.trans H; with_reducible exact H2_) | with_reducible exact H | (rw [hy111]; exact H) | exact H
        have Ny111 := Aside0.mk hy111
        clear hy111
        obtain ⟨y114, hy114⟩ : ∃ y_ : List Int, y_ = (List.replicate (a0_0 : Int).toNat 0) := ⟨_, rfl⟩
        replace H : (some (a0_0, y105, ([] : List Int), ([] : List Int), ([] : List Int), ([] : List Int), y108, y111, y114)) = some (r1, r2, r3, r4, r5, r6, r7, r8, r9) := by first | (rw [hy114]; with_reducible exact H) | (have H2_ := (Option.bind_some _ _).symm.trans H; rw [hy114]; with_reducible exact H2_) | (have H2_ := (Option.bind_some _ _).symm.trans H; with_reducible exact H2_) | with_reducible exact H | (rw [hy114]; exact H) | exact H
        have Ny114 := Aside0.mk hy114
        clear hy114
        simp only [Option.some.injEq, Prod.mk.injEq] at H
        obtain ⟨rfl, rfl, rfl, rfl, rfl, rfl, rfl, rfl, rfl⟩ := H
        go_enter Try.func11, Try.ntmps11
        try go_wp2_with (first | ((with_reducible refine gate_dst (N := 1) rfl ?_); refine box_event ?hg (N := 1) ?hd (cs := #[.int .i64 a0_0, .int .i64 a0_1, .int .i64 a0_2]) (t := 29) ?hr ?_; (case hd => rfl); (case hg => rfl); (case hr => first | (go_simp; done) | (go_simp; rfl)); intro gb102 hg w11 hbox hb; have n0_ := Aside0.mk (below_step zA2_16 hb); have n1_ := Aside0.mk (hbox); have n2_ := Aside0.mk ((by rw [hg]; exact (below_size zA2_16) : w.heap.size ≤ gb102)); have n3_ := Aside0.mk ((by rw [hg]; exact (below_size zA2_16) : w.heap.size ≤ gb102)); clear HB; have HB := n0_; have BK102 := n1_; have GW102 := n2_; have GE102 := n3_; clear n0_ n1_ n2_ n3_; clear hb hbox hg) | ((with_reducible refine gate_dst (N := 2) rfl ?_); refine box_event ?hg (N := 2) ?hd (cs := #[.int .i64 0, .slice none 0 0, .slice none 0 0, .slice none 0 0, .slice none 0 0, .slice none 0 0, .slice none 0 0, .slice none 0 0, .slice none 0 0]) (t := 27) ?hr ?_; (case hd => rfl); (case hg => rfl); (case hr => first | (go_simp; done) | (go_simp; rfl)); intro gb103 hg w12 hbox hb; have n0_ := Aside0.mk (blk_below zA2_1 hb); have n1_ := Aside0.mk (below_step zA2_10 hb); have n2_ := Aside0.mk (hbox); have n3_ := Aside0.mk ((by rw [hg]; exact (below_size zA2_10) : w.heap.size ≤ gb103)); have n4_ := Aside0.mk ((by rw [hg]; exact (below_size zA2_10) : w.heap.size ≤ gb103)); have n5_ := Aside0.mk ((by rw [hg]; exact Nat.ne_of_lt (blk_lt (g := gb102) (o := .cells #[.int .i64 a0_0, .int .i64 a0_1, .int .i64 a0_2] 29 (0, 0)) zA2_1) : gb102 ≠ gb103)); have n6_ := Aside0.mk ((by rw [hg]; exact Nat.ne_of_gt (blk_lt (g := gb102) (o := .cells #[.int .i64 a0_0, .int .i64 a0_1, .int .i64 a0_2] 29 (0, 0)) zA2_1) : gb103 ≠ gb102)); clear BK102; clear HB; have BK102 := n0_; have HB := n1_; have BK103 := n2_; have GW103 := n3_; have GE103 := n4_; have NB102_103 := n5_; have NB103_102 := n6_; clear n0_ n1_ n2_ n3_ n4_ n5_ n6_; clear hb hbox hg) | ((with_reducible refine gate_dst (N := 3) rfl ?_); refine Kd.event_run rfl (Row.load_row_run (g := gb102) (t := 29) (cells := #[.int .i64 a0_0, .int .i64 a0_1, .int .i64 a0_2]) rfl (by first | rfl | (go_simp; done)) zA2_1 Try.underlying29 rfl zA2_26) ?_) | ((with_reducible refine gate_callee (f := 35) rfl ?_); refine goesL_ (some 4) rfl rfl Try.func35 zA2_26 rfl #[.agg #[.int .i64 a0_0, .int .i64 a0_1, .int .i64 a0_2]] rfl (by (try simp only [List.map_toArray, List.map_cons, List.map_nil]); first | done | rfl | (simp only [List.length_drop, List.length_take]; rfl)) ?_; (with_reducible refine (spec_PlatOk.calls a0_0 a0_1 a0_2 true _ A2.out).mono ?_); rintro e w13 ⟨rfl, hb⟩; refine ⟨_, rfl, ?_⟩; have n0_ := Aside0.mk (blk_below zA2_1 hb); have n1_ := Aside0.mk (blk_below zA2_2 hb); have n2_ := Aside0.mk (below_step zA2_0 hb); clear BK102; clear BK103; clear HB; have BK102 := n0_; have BK103 := n1_; have HB := n2_; clear n0_ n1_ n2_; (try clear hb); (try clear hb2); (try clear hk); (try clear hi)))
        have n0_ := Aside0.mk (blk_drew BK102.out)
        have n1_ := Aside0.mk (blk_drew BK103.out)
        have n2_ := Aside0.mk (below_drew1 HB.out)
        clear BK102
        clear BK103
        clear HB
        have BK102 := n0_
        have BK103 := n1_
        have HB := n2_
        clear n0_ n1_ n2_
        refine start_ (n := 17) (S := fun w' => w'.cell? ⟨gb102, 0, none⟩ = some (.int .i64 a0_0) ∧ w'.cell? ⟨gb102, 1, none⟩ = some (.int .i64 a0_1) ∧ w'.cell? ⟨gb102, 2, none⟩ = some (.int .i64 a0_2)) (ds := []) zl2_15 zA2_26 rfl rfl ⟨(blk_cell BK102.out 0).trans rfl, (blk_cell BK102.out 1).trans rfl, (blk_cell BK102.out 2).trans rfl⟩ (fun hHeld => ?_); refine with_tabW spec_BookOpen.tab3 spec_BookOpen.bits3 (fun HT_ HW_ => ?_)
        generalize w13.drew = w14 at BK102 BK103 HB hHeld ⊢
        refine zp2_ 0 7 zl2_16 (any_of HT_.out zA2_26) ?_
        refine zp2_ 2 9 zl2_17 (any_of HT_.out zA2_26) ?_
        refine zp2_ 5 12 zl2_18 (any_of HT_.out zA2_26) ?_
        refine zp2_ 9 16 zl2_19 (any_of HT_.out zA2_26) ?_
        refine zp2_ 12 19 zl2_20 (any_of HT_.out zA2_26) ?_
        refine zt2_2_ 1 8 zl2_21 (take_ofW HT_.out HW_.out zA2_26) hHeld ?_
        refine zt2_2_ 3 10 zl2_22 (take_ofW HT_.out HW_.out zA2_26) hHeld ?_
        refine zt2_2_ 6 13 zl2_23 (take_ofW HT_.out HW_.out zA2_26) hHeld ?_
        refine zp2_ 7 14 zl2_24 (any_of HT_.out zA2_26) ?_
        refine zt2_2_ 10 17 zl2_25 (take_ofW HT_.out HW_.out zA2_26) hHeld ?_
        refine zt2_2_ 13 20 zl2_26 (take_ofW HT_.out HW_.out zA2_26) hHeld ?_
        refine join_ (σ := Value × Value × Value × Value) 2 zl2_0 (fun s_ => [(11, s_.1), (15, s_.2.1), (18, s_.2.2.1), (21, s_.2.2.2)]) (fun s_ w' => (w'.cell? ⟨gb102, 0, none⟩ = some (.int .i64 a0_0) ∧ w'.cell? ⟨gb102, 1, none⟩ = some (.int .i64 a0_1) ∧ w'.cell? ⟨gb102, 2, none⟩ = some (.int .i64 a0_2)) ∧ (Kd.R (Kd.int .i64) 3 w' w.heap.size (fun k_ => some k_ ≠ (s_.2.1 : Value).ownBlock ∧ some k_ ≠ (s_.2.2.1 : Value).ownBlock ∧ some k_ ≠ (s_.2.2.2 : Value).ownBlock) s_.1 y105) ∧ (Kd.R (Kd.int .i64) 3 w' w.heap.size (fun k_ => some k_ ≠ (s_.1 : Value).ownBlock ∧ some k_ ≠ (s_.2.2.1 : Value).ownBlock ∧ some k_ ≠ (s_.2.2.2 : Value).ownBlock) s_.2.1 y108) ∧ (Kd.R (Kd.int .i64) 3 w' w.heap.size (fun k_ => some k_ ≠ (s_.1 : Value).ownBlock ∧ some k_ ≠ (s_.2.1 : Value).ownBlock ∧ some k_ ≠ (s_.2.2.2 : Value).ownBlock) s_.2.2.1 y111) ∧ (Kd.R (Kd.int .i64) 3 w' w.heap.size (fun k_ => some k_ ≠ (s_.1 : Value).ownBlock ∧ some k_ ≠ (s_.2.1 : Value).ownBlock ∧ some k_ ≠ (s_.2.2.1 : Value).ownBlock) s_.2.2.2 y114) ∧ (w'.heap[gb102]? = some (.cells #[.int .i64 a0_0, .int .i64 a0_1, .int .i64 a0_2] 29 (0, 0))) ∧ (w'.heap[gb103]? = some (.cells #[.int .i64 0, .slice none 0 0, .slice none 0 0, .slice none 0 0, .slice none 0 0, .slice none 0 0, .slice none 0 0, .slice none 0 0, .slice none 0 0] 27 (0, 0))) ∧ (Below w.heap.size w w')) ?_ ?_
        rotate_left
        ·intro hJ4_8_11_14
         refine join_ (σ := Value × Value × Value) 3 zl2_1 (fun s_ => [(11, s_.1), (15, s_.2.1), (18, s_.2.2)]) (fun s_ w' => (w'.cell? ⟨gb102, 0, none⟩ = some (.int .i64 a0_0) ∧ w'.cell? ⟨gb102, 1, none⟩ = some (.int .i64 a0_1) ∧ w'.cell? ⟨gb102, 2, none⟩ = some (.int .i64 a0_2)) ∧ (Kd.R (Kd.int .i64) 3 w' w.heap.size (fun k_ => some k_ ≠ (s_.2.1 : Value).ownBlock ∧ some k_ ≠ (s_.2.2 : Value).ownBlock) s_.1 y105) ∧ (Kd.R (Kd.int .i64) 3 w' w.heap.size (fun k_ => some k_ ≠ (s_.1 : Value).ownBlock ∧ some k_ ≠ (s_.2.2 : Value).ownBlock) s_.2.1 y108) ∧ (Kd.R (Kd.int .i64) 3 w' w.heap.size (fun k_ => some k_ ≠ (s_.1 : Value).ownBlock ∧ some k_ ≠ (s_.2.1 : Value).ownBlock) s_.2.2 y111) ∧ (w'.heap[gb102]? = some (.cells #[.int .i64 a0_0, .int .i64 a0_1, .int .i64 a0_2] 29 (0, 0))) ∧ (w'.heap[gb103]? = some (.cells #[.int .i64 0, .slice none 0 0, .slice none 0 0, .slice none 0 0, .slice none 0 0, .slice none 0 0, .slice none 0 0, .slice none 0 0, .slice none 0 0] 27 (0, 0))) ∧ (Below w.heap.size w w')) ?_ ?_
         rotate_left
         ·intro hJ4_8_11
          refine join_ (σ := Value × Value × Value) 3 zl2_2 (fun s_ => [(11, s_.1), (15, s_.2.1), (21, s_.2.2)]) (fun s_ w' => (w'.cell? ⟨gb102, 0, none⟩ = some (.int .i64 a0_0) ∧ w'.cell? ⟨gb102, 1, none⟩ = some (.int .i64 a0_1) ∧ w'.cell? ⟨gb102, 2, none⟩ = some (.int .i64 a0_2)) ∧ (Kd.R (Kd.int .i64) 3 w' w.heap.size (fun k_ => some k_ ≠ (s_.2.1 : Value).ownBlock ∧ some k_ ≠ (s_.2.2 : Value).ownBlock) s_.1 y105) ∧ (Kd.R (Kd.int .i64) 3 w' w.heap.size (fun k_ => some k_ ≠ (s_.1 : Value).ownBlock ∧ some k_ ≠ (s_.2.2 : Value).ownBlock) s_.2.1 y108) ∧ (Kd.R (Kd.int .i64) 3 w' w.heap.size (fun k_ => some k_ ≠ (s_.1 : Value).ownBlock ∧ some k_ ≠ (s_.2.1 : Value).ownBlock) s_.2.2 y114) ∧ (w'.heap[gb102]? = some (.cells #[.int .i64 a0_0, .int .i64 a0_1, .int .i64 a0_2] 29 (0, 0))) ∧ (w'.heap[gb103]? = some (.cells #[.int .i64 0, .slice none 0 0, .slice none 0 0, .slice none 0 0, .slice none 0 0, .slice none 0 0, .slice none 0 0, .slice none 0 0, .slice none 0 0] 27 (0, 0))) ∧ (Below w.heap.size w w')) ?_ ?_
          rotate_left
          ·intro hJ4_8_14
           refine join_ (σ := Value × Value × Value) 3 zl2_3 (fun s_ => [(11, s_.1), (18, s_.2.1), (21, s_.2.2)]) (fun s_ w' => (w'.cell? ⟨gb102, 0, none⟩ = some (.int .i64 a0_0) ∧ w'.cell? ⟨gb102, 1, none⟩ = some (.int .i64 a0_1) ∧ w'.cell? ⟨gb102, 2, none⟩ = some (.int .i64 a0_2)) ∧ (Kd.R (Kd.int .i64) 3 w' w.heap.size (fun k_ => some k_ ≠ (s_.2.1 : Value).ownBlock ∧ some k_ ≠ (s_.2.2 : Value).ownBlock) s_.1 y105) ∧ (Kd.R (Kd.int .i64) 3 w' w.heap.size (fun k_ => some k_ ≠ (s_.1 : Value).ownBlock ∧ some k_ ≠ (s_.2.2 : Value).ownBlock) s_.2.1 y111) ∧ (Kd.R (Kd.int .i64) 3 w' w.heap.size (fun k_ => some k_ ≠ (s_.1 : Value).ownBlock ∧ some k_ ≠ (s_.2.1 : Value).ownBlock) s_.2.2 y114) ∧ (w'.heap[gb102]? = some (.cells #[.int .i64 a0_0, .int .i64 a0_1, .int .i64 a0_2] 29 (0, 0))) ∧ (w'.heap[gb103]? = some (.cells #[.int .i64 0, .slice none 0 0, .slice none 0 0, .slice none 0 0, .slice none 0 0, .slice none 0 0, .slice none 0 0, .slice none 0 0, .slice none 0 0] 27 (0, 0))) ∧ (Below w.heap.size w w')) ?_ ?_
           rotate_left
           ·intro hJ4_11_14
            refine join_ (σ := Value × Value × Value) 3 zl2_4 (fun s_ => [(15, s_.1), (18, s_.2.1), (21, s_.2.2)]) (fun s_ w' => (w'.cell? ⟨gb102, 0, none⟩ = some (.int .i64 a0_0) ∧ w'.cell? ⟨gb102, 1, none⟩ = some (.int .i64 a0_1) ∧ w'.cell? ⟨gb102, 2, none⟩ = some (.int .i64 a0_2)) ∧ (Kd.R (Kd.int .i64) 3 w' w.heap.size (fun k_ => some k_ ≠ (s_.2.1 : Value).ownBlock ∧ some k_ ≠ (s_.2.2 : Value).ownBlock) s_.1 y108) ∧ (Kd.R (Kd.int .i64) 3 w' w.heap.size (fun k_ => some k_ ≠ (s_.1 : Value).ownBlock ∧ some k_ ≠ (s_.2.2 : Value).ownBlock) s_.2.1 y111) ∧ (Kd.R (Kd.int .i64) 3 w' w.heap.size (fun k_ => some k_ ≠ (s_.1 : Value).ownBlock ∧ some k_ ≠ (s_.2.1 : Value).ownBlock) s_.2.2 y114) ∧ (w'.heap[gb102]? = some (.cells #[.int .i64 a0_0, .int .i64 a0_1, .int .i64 a0_2] 29 (0, 0))) ∧ (w'.heap[gb103]? = some (.cells #[.int .i64 0, .slice none 0 0, .slice none 0 0, .slice none 0 0, .slice none 0 0, .slice none 0 0, .slice none 0 0, .slice none 0 0, .slice none 0 0] 27 (0, 0))) ∧ (Below w.heap.size w w')) ?_ ?_
            rotate_left
            ·intro hJ8_11_14
             refine join_ (σ := Value × Value) 4 zl2_5 (fun s_ => [(11, s_.1), (15, s_.2)]) (fun s_ w' => (w'.cell? ⟨gb102, 0, none⟩ = some (.int .i64 a0_0) ∧ w'.cell? ⟨gb102, 1, none⟩ = some (.int .i64 a0_1) ∧ w'.cell? ⟨gb102, 2, none⟩ = some (.int .i64 a0_2)) ∧ (Kd.R (Kd.int .i64) 3 w' w.heap.size (fun k_ => some k_ ≠ (s_.2 : Value).ownBlock) s_.1 y105) ∧ (Kd.R (Kd.int .i64) 3 w' w.heap.size (fun k_ => some k_ ≠ (s_.1 : Value).ownBlock) s_.2 y108) ∧ (w'.heap[gb102]? = some (.cells #[.int .i64 a0_0, .int .i64 a0_1, .int .i64 a0_2] 29 (0, 0))) ∧ (w'.heap[gb103]? = some (.cells #[.int .i64 0, .slice none 0 0, .slice none 0 0, .slice none 0 0, .slice none 0 0, .slice none 0 0, .slice none 0 0, .slice none 0 0, .slice none 0 0] 27 (0, 0))) ∧ (Below w.heap.size w w')) ?_ ?_
             rotate_left
             ·intro hJ4_8
              refine join_ (σ := Value × Value) 4 zl2_6 (fun s_ => [(11, s_.1), (18, s_.2)]) (fun s_ w' => (w'.cell? ⟨gb102, 0, none⟩ = some (.int .i64 a0_0) ∧ w'.cell? ⟨gb102, 1, none⟩ = some (.int .i64 a0_1) ∧ w'.cell? ⟨gb102, 2, none⟩ = some (.int .i64 a0_2)) ∧ (Kd.R (Kd.int .i64) 3 w' w.heap.size (fun k_ => some k_ ≠ (s_.2 : Value).ownBlock) s_.1 y105) ∧ (Kd.R (Kd.int .i64) 3 w' w.heap.size (fun k_ => some k_ ≠ (s_.1 : Value).ownBlock) s_.2 y111) ∧ (w'.heap[gb102]? = some (.cells #[.int .i64 a0_0, .int .i64 a0_1, .int .i64 a0_2] 29 (0, 0))) ∧ (w'.heap[gb103]? = some (.cells #[.int .i64 0, .slice none 0 0, .slice none 0 0, .slice none 0 0, .slice none 0 0, .slice none 0 0, .slice none 0 0, .slice none 0 0, .slice none 0 0] 27 (0, 0))) ∧ (Below w.heap.size w w')) ?_ ?_
              rotate_left
              ·intro hJ4_11
               refine join_ (σ := Value × Value) 4 zl2_7 (fun s_ => [(11, s_.1), (21, s_.2)]) (fun s_ w' => (w'.cell? ⟨gb102, 0, none⟩ = some (.int .i64 a0_0) ∧ w'.cell? ⟨gb102, 1, none⟩ = some (.int .i64 a0_1) ∧ w'.cell? ⟨gb102, 2, none⟩ = some (.int .i64 a0_2)) ∧ (Kd.R (Kd.int .i64) 3 w' w.heap.size (fun k_ => some k_ ≠ (s_.2 : Value).ownBlock) s_.1 y105) ∧ (Kd.R (Kd.int .i64) 3 w' w.heap.size (fun k_ => some k_ ≠ (s_.1 : Value).ownBlock) s_.2 y114) ∧ (w'.heap[gb102]? = some (.cells #[.int .i64 a0_0, .int .i64 a0_1, .int .i64 a0_2] 29 (0, 0))) ∧ (w'.heap[gb103]? = some (.cells #[.int .i64 0, .slice none 0 0, .slice none 0 0, .slice none 0 0, .slice none 0 0, .slice none 0 0, .slice none 0 0, .slice none 0 0, .slice none 0 0] 27 (0, 0))) ∧ (Below w.heap.size w w')) ?_ ?_
               rotate_left
               ·intro hJ4_14
                refine join_ (σ := Value × Value) 4 zl2_8 (fun s_ => [(15, s_.1), (18, s_.2)]) (fun s_ w' => (w'.cell? ⟨gb102, 0, none⟩ = some (.int .i64 a0_0) ∧ w'.cell? ⟨gb102, 1, none⟩ = some (.int .i64 a0_1) ∧ w'.cell? ⟨gb102, 2, none⟩ = some (.int .i64 a0_2)) ∧ (Kd.R (Kd.int .i64) 3 w' w.heap.size (fun k_ => some k_ ≠ (s_.2 : Value).ownBlock) s_.1 y108) ∧ (Kd.R (Kd.int .i64) 3 w' w.heap.size (fun k_ => some k_ ≠ (s_.1 : Value).ownBlock) s_.2 y111) ∧ (w'.heap[gb102]? = some (.cells #[.int .i64 a0_0, .int .i64 a0_1, .int .i64 a0_2] 29 (0, 0))) ∧ (w'.heap[gb103]? = some (.cells #[.int .i64 0, .slice none 0 0, .slice none 0 0, .slice none 0 0, .slice none 0 0, .slice none 0 0, .slice none 0 0, .slice none 0 0, .slice none 0 0] 27 (0, 0))) ∧ (Below w.heap.size w w')) ?_ ?_
                rotate_left
                ·intro hJ8_11
                 refine join_ (σ := Value × Value) 4 zl2_9 (fun s_ => [(15, s_.1), (21, s_.2)]) (fun s_ w' => (w'.cell? ⟨gb102, 0, none⟩ = some (.int .i64 a0_0) ∧ w'.cell? ⟨gb102, 1, none⟩ = some (.int .i64 a0_1) ∧ w'.cell? ⟨gb102, 2, none⟩ = some (.int .i64 a0_2)) ∧ (Kd.R (Kd.int .i64) 3 w' w.heap.size (fun k_ => some k_ ≠ (s_.2 : Value).ownBlock) s_.1 y108) ∧ (Kd.R (Kd.int .i64) 3 w' w.heap.size (fun k_ => some k_ ≠ (s_.1 : Value).ownBlock) s_.2 y114) ∧ (w'.heap[gb102]? = some (.cells #[.int .i64 a0_0, .int .i64 a0_1, .int .i64 a0_2] 29 (0, 0))) ∧ (w'.heap[gb103]? = some (.cells #[.int .i64 0, .slice none 0 0, .slice none 0 0, .slice none 0 0, .slice none 0 0, .slice none 0 0, .slice none 0 0, .slice none 0 0, .slice none 0 0] 27 (0, 0))) ∧ (Below w.heap.size w w')) ?_ ?_
                 rotate_left
                 ·intro hJ8_14
                  refine join_ (σ := Value × Value) 4 zl2_10 (fun s_ => [(18, s_.1), (21, s_.2)]) (fun s_ w' => (w'.cell? ⟨gb102, 0, none⟩ = some (.int .i64 a0_0) ∧ w'.cell? ⟨gb102, 1, none⟩ = some (.int .i64 a0_1) ∧ w'.cell? ⟨gb102, 2, none⟩ = some (.int .i64 a0_2)) ∧ (Kd.R (Kd.int .i64) 3 w' w.heap.size (fun k_ => some k_ ≠ (s_.2 : Value).ownBlock) s_.1 y111) ∧ (Kd.R (Kd.int .i64) 3 w' w.heap.size (fun k_ => some k_ ≠ (s_.1 : Value).ownBlock) s_.2 y114) ∧ (w'.heap[gb102]? = some (.cells #[.int .i64 a0_0, .int .i64 a0_1, .int .i64 a0_2] 29 (0, 0))) ∧ (w'.heap[gb103]? = some (.cells #[.int .i64 0, .slice none 0 0, .slice none 0 0, .slice none 0 0, .slice none 0 0, .slice none 0 0, .slice none 0 0, .slice none 0 0, .slice none 0 0] 27 (0, 0))) ∧ (Below w.heap.size w w')) ?_ ?_
                  rotate_left
                  ·intro hJ11_14
                   refine join_ (σ := Value) 5 zl2_11 (fun s_ => [(11, s_)]) (fun s_ w' => (w'.cell? ⟨gb102, 0, none⟩ = some (.int .i64 a0_0) ∧ w'.cell? ⟨gb102, 1, none⟩ = some (.int .i64 a0_1) ∧ w'.cell? ⟨gb102, 2, none⟩ = some (.int .i64 a0_2)) ∧ (Kd.R (Kd.int .i64) 3 w' w.heap.size (fun _ => True) s_ y105) ∧ (w'.heap[gb102]? = some (.cells #[.int .i64 a0_0, .int .i64 a0_1, .int .i64 a0_2] 29 (0, 0))) ∧ (w'.heap[gb103]? = some (.cells #[.int .i64 0, .slice none 0 0, .slice none 0 0, .slice none 0 0, .slice none 0 0, .slice none 0 0, .slice none 0 0, .slice none 0 0, .slice none 0 0] 27 (0, 0))) ∧ (Below w.heap.size w w')) ?_ ?_
                   rotate_left
                   ·intro hJ4
                    refine join_ (σ := Value) 5 zl2_12 (fun s_ => [(15, s_)]) (fun s_ w' => (w'.cell? ⟨gb102, 0, none⟩ = some (.int .i64 a0_0) ∧ w'.cell? ⟨gb102, 1, none⟩ = some (.int .i64 a0_1) ∧ w'.cell? ⟨gb102, 2, none⟩ = some (.int .i64 a0_2)) ∧ (Kd.R (Kd.int .i64) 3 w' w.heap.size (fun _ => True) s_ y108) ∧ (w'.heap[gb102]? = some (.cells #[.int .i64 a0_0, .int .i64 a0_1, .int .i64 a0_2] 29 (0, 0))) ∧ (w'.heap[gb103]? = some (.cells #[.int .i64 0, .slice none 0 0, .slice none 0 0, .slice none 0 0, .slice none 0 0, .slice none 0 0, .slice none 0 0, .slice none 0 0, .slice none 0 0] 27 (0, 0))) ∧ (Below w.heap.size w w')) ?_ ?_
                    rotate_left
                    ·intro hJ8
                     refine join_ (σ := Value) 5 zl2_13 (fun s_ => [(18, s_)]) (fun s_ w' => (w'.cell? ⟨gb102, 0, none⟩ = some (.int .i64 a0_0) ∧ w'.cell? ⟨gb102, 1, none⟩ = some (.int .i64 a0_1) ∧ w'.cell? ⟨gb102, 2, none⟩ = some (.int .i64 a0_2)) ∧ (Kd.R (Kd.int .i64) 3 w' w.heap.size (fun _ => True) s_ y111) ∧ (w'.heap[gb102]? = some (.cells #[.int .i64 a0_0, .int .i64 a0_1, .int .i64 a0_2] 29 (0, 0))) ∧ (w'.heap[gb103]? = some (.cells #[.int .i64 0, .slice none 0 0, .slice none 0 0, .slice none 0 0, .slice none 0 0, .slice none 0 0, .slice none 0 0, .slice none 0 0, .slice none 0 0] 27 (0, 0))) ∧ (Below w.heap.size w w')) ?_ ?_
                     rotate_left
                     ·intro hJ11
                      refine join_ (σ := Value) 5 zl2_14 (fun s_ => [(21, s_)]) (fun s_ w' => (w'.cell? ⟨gb102, 0, none⟩ = some (.int .i64 a0_0) ∧ w'.cell? ⟨gb102, 1, none⟩ = some (.int .i64 a0_1) ∧ w'.cell? ⟨gb102, 2, none⟩ = some (.int .i64 a0_2)) ∧ (Kd.R (Kd.int .i64) 3 w' w.heap.size (fun _ => True) s_ y114) ∧ (w'.heap[gb102]? = some (.cells #[.int .i64 a0_0, .int .i64 a0_1, .int .i64 a0_2] 29 (0, 0))) ∧ (w'.heap[gb103]? = some (.cells #[.int .i64 0, .slice none 0 0, .slice none 0 0, .slice none 0 0, .slice none 0 0, .slice none 0 0, .slice none 0 0, .slice none 0 0, .slice none 0 0] 27 (0, 0))) ∧ (Below w.heap.size w w')) ?_ ?_
                      rotate_left
                      ·intro hJ14
                       refine four_ (i := 4) (j := 8) (k := 11) (m := 14) (Ni := some 11) (Nj := some 15) (Nk := some 18) (Nm := some 21) zl2_11 zl2_12 zl2_13 zl2_14 rfl rfl rfl rfl rfl rfl rfl rfl (four_of HT_.out zA2_26) (by decide) (by decide) (by decide) (by decide) (fun K hK => ?_) (fun K hK => ?_) (fun K hK => ?_) (fun K hK => ?_)
                       ·skip
                        refine Kd.R_make_step (Kd.int .i64) _ 3 (by rfl) (N := 11) rfl 24 _ _ rfl a0_1 rfl rfl Try.underlying24 (.int .i64 0) 8 info3 rfl (by decide) (by omega) 0 (ok := fun _ => True) (okp := fun _ => True) rfl (fun _ hk => hk) trivial (of_decide_eq_true zA2_4) (Nat.le_trans (Nat.mul_le_mul_right _ (of_decide_eq_true zA2_4 : a0_1.toNat ≤ 35184372088832)) (by omega)) (Below.refl _ _) (Nat.le_refl _) ?_
                        intro v106 w15 ho16 hb hg_ hnew_
                        clear hg_ hnew_
                        (first | rw [← Ny105.out] at ho16 | (simp only [Int.reduceToNat] at ho16; rw [← Ny105.out] at ho16))
                        have n0_ := Aside0.mk (Kd.R_lower ho16 (below_size zA2_0))
                        have n1_ := Aside0.mk (blk_below zA2_1 hb)
                        have n2_ := Aside0.mk (blk_below zA2_2 hb)
                        have n3_ := Aside0.mk (below_step zA2_0 hb)
                        clear BK102
                        clear BK103
                        clear HB
                        have HO107 := n0_
                        have BK102 := n1_
                        have BK103 := n2_
                        have HB := n3_
                        clear n0_ n1_ n2_ n3_
                        clear hb ho16
                        refine hK.out _ _ ⟨(blk_cell BK102.out 0).trans rfl, (blk_cell BK102.out 1).trans rfl, (blk_cell BK102.out 2).trans rfl⟩ (fun hHeld => ?_)
                        clear hK K
                        refine norm_ (a' := ?_) ?_ ?_
                        rotate_left
                        ·show Act.put _ (some 11) _ = _
                         simp only [Act.put, List.setIfInBounds_toArray, List.set_cons_zero, List.set_cons_succ, i64_w, i32_w]
                         rfl
                        exact norm_ zA2_3 (hJ4 (v106) _ ⟨hHeld, zA2_5, zA2_1, zA2_2, zA2_0⟩)
                       ·skip
                        refine Kd.R_make_step (Kd.int .i64) _ 3 (by rfl) (N := 15) rfl 24 _ _ rfl ji6 rfl rfl Try.underlying24 (.int .i64 0) 8 info3 rfl (by decide) (by omega) 0 (ok := fun _ => True) (okp := fun _ => True) rfl (fun _ hk => hk) trivial (of_decide_eq_true zA2_4) (Nat.le_trans (Nat.mul_le_mul_right _ (of_decide_eq_true zA2_4 : ji6.toNat ≤ 35184372088832)) (by omega)) (Below.refl _ _) (Nat.le_refl _) ?_
                        intro v109 w15 ho16 hb hg_ hnew_
                        clear hg_ hnew_
                        (first | rw [← Ny108.out] at ho16 | (simp only [Int.reduceToNat] at ho16; rw [← Ny108.out] at ho16))
                        have n0_ := Aside0.mk (Kd.R_lower ho16 (below_size zA2_0))
                        have n1_ := Aside0.mk (blk_below zA2_1 hb)
                        have n2_ := Aside0.mk (blk_below zA2_2 hb)
                        have n3_ := Aside0.mk (below_step zA2_0 hb)
                        clear BK102
                        clear BK103
                        clear HB
                        have HO110 := n0_
                        have BK102 := n1_
                        have BK103 := n2_
                        have HB := n3_
                        clear n0_ n1_ n2_ n3_
                        clear hb ho16
                        refine hK.out _ _ ⟨(blk_cell BK102.out 0).trans rfl, (blk_cell BK102.out 1).trans rfl, (blk_cell BK102.out 2).trans rfl⟩ (fun hHeld => ?_)
                        clear hK K
                        refine norm_ (a' := ?_) ?_ ?_
                        rotate_left
                        ·show Act.put _ (some 15) _ = _
                         simp only [Act.put, List.setIfInBounds_toArray, List.set_cons_zero, List.set_cons_succ, i64_w, i32_w]
                         rfl
                        exact norm_ zA2_3 (hJ8 (v109) _ ⟨hHeld, zA2_6, zA2_1, zA2_2, zA2_0⟩)
                       ·skip
                        refine Kd.R_make_step (Kd.int .i64) _ 3 (by rfl) (N := 18) rfl 24 _ _ rfl a0_0 rfl rfl Try.underlying24 (.int .i64 0) 8 info3 rfl (by decide) (by omega) 0 (ok := fun _ => True) (okp := fun _ => True) rfl (fun _ hk => hk) trivial (of_decide_eq_true zA2_4) (Nat.le_trans (Nat.mul_le_mul_right _ (of_decide_eq_true zA2_4 : a0_0.toNat ≤ 35184372088832)) (by omega)) (Below.refl _ _) (Nat.le_refl _) ?_
                        intro v112 w15 ho16 hb hg_ hnew_
                        clear hg_ hnew_
                        (first | rw [← Ny111.out] at ho16 | (simp only [Int.reduceToNat] at ho16; rw [← Ny111.out] at ho16))
                        have n0_ := Aside0.mk (Kd.R_lower ho16 (below_size zA2_0))
                        have n1_ := Aside0.mk (blk_below zA2_1 hb)
                        have n2_ := Aside0.mk (blk_below zA2_2 hb)
                        have n3_ := Aside0.mk (below_step zA2_0 hb)
                        clear BK102
                        clear BK103
                        clear HB
                        have HO113 := n0_
                        have BK102 := n1_
                        have BK103 := n2_
                        have HB := n3_
                        clear n0_ n1_ n2_ n3_
                        clear hb ho16
                        refine hK.out _ _ ⟨(blk_cell BK102.out 0).trans rfl, (blk_cell BK102.out 1).trans rfl, (blk_cell BK102.out 2).trans rfl⟩ (fun hHeld => ?_)
                        clear hK K
                        refine norm_ (a' := ?_) ?_ ?_
                        rotate_left
                        ·show Act.put _ (some 18) _ = _
                         simp only [Act.put, List.setIfInBounds_toArray, List.set_cons_zero, List.set_cons_succ, i64_w, i32_w]
                         rfl
                        exact norm_ zA2_3 (hJ11 (v112) _ ⟨hHeld, zA2_7, zA2_1, zA2_2, zA2_0⟩)
                       ·skip
                        refine Kd.R_make_step (Kd.int .i64) _ 3 (by rfl) (N := 21) rfl 24 _ _ rfl a0_0 rfl rfl Try.underlying24 (.int .i64 0) 8 info3 rfl (by decide) (by omega) 0 (ok := fun _ => True) (okp := fun _ => True) rfl (fun _ hk => hk) trivial (of_decide_eq_true zA2_4) (Nat.le_trans (Nat.mul_le_mul_right _ (of_decide_eq_true zA2_4 : a0_0.toNat ≤ 35184372088832)) (by omega)) (Below.refl _ _) (Nat.le_refl _) ?_
                        intro v115 w15 ho16 hb hg_ hnew_
                        clear hg_ hnew_
                        (first | rw [← Ny114.out] at ho16 | (simp only [Int.reduceToNat] at ho16; rw [← Ny114.out] at ho16))
                        have n0_ := Aside0.mk (Kd.R_lower ho16 (below_size zA2_0))
                        have n1_ := Aside0.mk (blk_below zA2_1 hb)
                        have n2_ := Aside0.mk (blk_below zA2_2 hb)
                        have n3_ := Aside0.mk (below_step zA2_0 hb)
                        clear BK102
                        clear BK103
                        clear HB
                        have HO116 := n0_
                        have BK102 := n1_
                        have BK103 := n2_
                        have HB := n3_
                        clear n0_ n1_ n2_ n3_
                        clear hb ho16
                        refine hK.out _ _ ⟨(blk_cell BK102.out 0).trans rfl, (blk_cell BK102.out 1).trans rfl, (blk_cell BK102.out 2).trans rfl⟩ (fun hHeld => ?_)
                        clear hK K
                        refine norm_ (a' := ?_) ?_ ?_
                        rotate_left
                        ·show Act.put _ (some 21) _ = _
                         simp only [Act.put, List.setIfInBounds_toArray, List.set_cons_zero, List.set_cons_succ, i64_w, i32_w]
                         rfl
                        exact norm_ zA2_3 (hJ14 (v115) _ ⟨hHeld, zA2_8, zA2_1, zA2_2, zA2_0⟩)
                      ·skip
                       rintro v115 w17 ⟨hS_, h0_, h1_, h2_, h3_⟩
                       have n0_ : Aside0 (Kd.R (Kd.int .i64) 3 w17 w.heap.size (fun _ => True) v115 y114) := ⟨h0_⟩
                       have n1_ : Aside0 (w17.heap[gb102]? = some (.cells #[.int .i64 a0_0, .int .i64 a0_1, .int .i64 a0_2] 29 (0, 0))) := ⟨h1_⟩
                       have n2_ : Aside0 (w17.heap[gb103]? = some (.cells #[.int .i64 0, .slice none 0 0, .slice none 0 0, .slice none 0 0, .slice none 0 0, .slice none 0 0, .slice none 0 0, .slice none 0 0, .slice none 0 0] 27 (0, 0))) := ⟨h2_⟩
                       have n3_ : Aside0 (Below w.heap.size w w17) := ⟨h3_⟩
                       clear BK102
                       clear BK103
                       clear HB
                       clear h0_ h1_ h2_ h3_
                       have HO116 := n0_
                       have BK102 := n1_
                       have BK103 := n2_
                       have HB := n3_
                       clear n0_ n1_ n2_ n3_
                       have hHeld : w17.cell? ⟨gb102, 0, none⟩ = some (.int .i64 a0_0) ∧ w17.cell? ⟨gb102, 1, none⟩ = some (.int .i64 a0_1) ∧ w17.cell? ⟨gb102, 2, none⟩ = some (.int .i64 a0_2) := hS_
                       refine norm_ (a' := ?_) ?_ ?_
                       rotate_left
                       ·simp only [putAll, Act.put, List.setIfInBounds_toArray, List.set_cons_zero, List.set_cons_succ]
                        rfl
                       refine three_ (i := 4) (j := 8) (k := 11) (Ni := some 11) (Nj := some 15) (Nk := some 18) zl2_7 zl2_9 zl2_10 rfl rfl rfl rfl rfl rfl (three_of HT_.out zA2_26) (by decide) (by decide) (by decide) (fun K hK => ?_) (fun K hK => ?_) (fun K hK => ?_)
                       ·skip
                        refine Kd.R_make_step (Kd.int .i64) _ 3 (by rfl) (N := 11) rfl 24 _ _ rfl a0_1 rfl rfl Try.underlying24 (.int .i64 0) 8 info3 rfl (by decide) (by omega) 0 (ok := fun _ => True) (okp := fun _ => True) rfl (fun _ hk => hk) trivial (of_decide_eq_true zA2_4) (Nat.le_trans (Nat.mul_le_mul_right _ (of_decide_eq_true zA2_4 : a0_1.toNat ≤ 35184372088832)) (by omega)) (Below.refl _ _) (Nat.le_refl _) ?_
                        intro v106 w18 ho19 hb hg_ hnew_
                        clear hg_ hnew_
                        (first | rw [← Ny105.out] at ho19 | (simp only [Int.reduceToNat] at ho19; rw [← Ny105.out] at ho19))
                        have n0_ := Aside0.mk (Kd.R_elder' zA2_8 (Kd.R_base ho19) hb)
                        have n1_ := Aside0.mk (Kd.R_lower (Kd.R_new' ho19 (Kd.R_lt zA2_8)) (below_size zA2_0))
                        have n2_ := Aside0.mk (blk_below zA2_1 hb)
                        have n3_ := Aside0.mk (blk_below zA2_2 hb)
                        have n4_ := Aside0.mk (below_step zA2_0 hb)
                        clear HO116
                        clear BK102
                        clear BK103
                        clear HB
                        have HO116 := n0_
                        have HO107 := n1_
                        have BK102 := n2_
                        have BK103 := n3_
                        have HB := n4_
                        clear n0_ n1_ n2_ n3_ n4_
                        clear hb ho19
                        refine hK.out _ _ ⟨(blk_cell BK102.out 0).trans rfl, (blk_cell BK102.out 1).trans rfl, (blk_cell BK102.out 2).trans rfl⟩ (fun hHeld => ?_)
                        clear hK K
                        refine norm_ (a' := ?_) ?_ ?_
                        rotate_left
                        ·show Act.put _ (some 11) _ = _
                         simp only [Act.put, List.setIfInBounds_toArray, List.set_cons_zero, List.set_cons_succ, i64_w, i32_w]
                         rfl
                        exact norm_ zA2_3 (hJ4_14 (v106, v115) _ ⟨hHeld, zA2_12, zA2_13, zA2_1, zA2_2, zA2_0⟩)
                       ·skip
                        refine Kd.R_make_step (Kd.int .i64) _ 3 (by rfl) (N := 15) rfl 24 _ _ rfl ji6 rfl rfl Try.underlying24 (.int .i64 0) 8 info3 rfl (by decide) (by omega) 0 (ok := fun _ => True) (okp := fun _ => True) rfl (fun _ hk => hk) trivial (of_decide_eq_true zA2_4) (Nat.le_trans (Nat.mul_le_mul_right _ (of_decide_eq_true zA2_4 : ji6.toNat ≤ 35184372088832)) (by omega)) (Below.refl _ _) (Nat.le_refl _) ?_
                        intro v109 w18 ho19 hb hg_ hnew_
                        clear hg_ hnew_
                        (first | rw [← Ny108.out] at ho19 | (simp only [Int.reduceToNat] at ho19; rw [← Ny108.out] at ho19))
                        have n0_ := Aside0.mk (Kd.R_elder' zA2_8 (Kd.R_base ho19) hb)
                        have n1_ := Aside0.mk (Kd.R_lower (Kd.R_new' ho19 (Kd.R_lt zA2_8)) (below_size zA2_0))
                        have n2_ := Aside0.mk (blk_below zA2_1 hb)
                        have n3_ := Aside0.mk (blk_below zA2_2 hb)
                        have n4_ := Aside0.mk (below_step zA2_0 hb)
                        clear HO116
                        clear BK102
                        clear BK103
                        clear HB
                        have HO116 := n0_
                        have HO110 := n1_
                        have BK102 := n2_
                        have BK103 := n3_
                        have HB := n4_
                        clear n0_ n1_ n2_ n3_ n4_
                        clear hb ho19
                        refine hK.out _ _ ⟨(blk_cell BK102.out 0).trans rfl, (blk_cell BK102.out 1).trans rfl, (blk_cell BK102.out 2).trans rfl⟩ (fun hHeld => ?_)
                        clear hK K
                        refine norm_ (a' := ?_) ?_ ?_
                        rotate_left
                        ·show Act.put _ (some 15) _ = _
                         simp only [Act.put, List.setIfInBounds_toArray, List.set_cons_zero, List.set_cons_succ, i64_w, i32_w]
                         rfl
                        exact norm_ zA2_3 (hJ8_14 (v109, v115) _ ⟨hHeld, zA2_14, zA2_13, zA2_1, zA2_2, zA2_0⟩)
                       ·skip
                        refine Kd.R_make_step (Kd.int .i64) _ 3 (by rfl) (N := 18) rfl 24 _ _ rfl a0_0 rfl rfl Try.underlying24 (.int .i64 0) 8 info3 rfl (by decide) (by omega) 0 (ok := fun _ => True) (okp := fun _ => True) rfl (fun _ hk => hk) trivial (of_decide_eq_true zA2_4) (Nat.le_trans (Nat.mul_le_mul_right _ (of_decide_eq_true zA2_4 : a0_0.toNat ≤ 35184372088832)) (by omega)) (Below.refl _ _) (Nat.le_refl _) ?_
                        intro v112 w18 ho19 hb hg_ hnew_
                        clear hg_ hnew_
                        (first | rw [← Ny111.out] at ho19 | (simp only [Int.reduceToNat] at ho19; rw [← Ny111.out] at ho19))
                        have n0_ := Aside0.mk (Kd.R_elder' zA2_8 (Kd.R_base ho19) hb)
                        have n1_ := Aside0.mk (Kd.R_lower (Kd.R_new' ho19 (Kd.R_lt zA2_8)) (below_size zA2_0))
                        have n2_ := Aside0.mk (blk_below zA2_1 hb)
                        have n3_ := Aside0.mk (blk_below zA2_2 hb)
                        have n4_ := Aside0.mk (below_step zA2_0 hb)
                        clear HO116
                        clear BK102
                        clear BK103
                        clear HB
                        have HO116 := n0_
                        have HO113 := n1_
                        have BK102 := n2_
                        have BK103 := n3_
                        have HB := n4_
                        clear n0_ n1_ n2_ n3_ n4_
                        clear hb ho19
                        refine hK.out _ _ ⟨(blk_cell BK102.out 0).trans rfl, (blk_cell BK102.out 1).trans rfl, (blk_cell BK102.out 2).trans rfl⟩ (fun hHeld => ?_)
                        clear hK K
                        refine norm_ (a' := ?_) ?_ ?_
                        rotate_left
                        ·show Act.put _ (some 18) _ = _
                         simp only [Act.put, List.setIfInBounds_toArray, List.set_cons_zero, List.set_cons_succ, i64_w, i32_w]
                         rfl
                        exact norm_ zA2_3 (hJ11_14 (v112, v115) _ ⟨hHeld, zA2_15, zA2_13, zA2_1, zA2_2, zA2_0⟩)
                     ·skip
                      rintro v112 w17 ⟨hS_, h0_, h1_, h2_, h3_⟩
                      have n0_ : Aside0 (Kd.R (Kd.int .i64) 3 w17 w.heap.size (fun _ => True) v112 y111) := ⟨h0_⟩
                      have n1_ : Aside0 (w17.heap[gb102]? = some (.cells #[.int .i64 a0_0, .int .i64 a0_1, .int .i64 a0_2] 29 (0, 0))) := ⟨h1_⟩
                      have n2_ : Aside0 (w17.heap[gb103]? = some (.cells #[.int .i64 0, .slice none 0 0, .slice none 0 0, .slice none 0 0, .slice none 0 0, .slice none 0 0, .slice none 0 0, .slice none 0 0, .slice none 0 0] 27 (0, 0))) := ⟨h2_⟩
                      have n3_ : Aside0 (Below w.heap.size w w17) := ⟨h3_⟩
                      clear BK102
                      clear BK103
                      clear HB
                      clear h0_ h1_ h2_ h3_
                      have HO113 := n0_
                      have BK102 := n1_
                      have BK103 := n2_
                      have HB := n3_
                      clear n0_ n1_ n2_ n3_
                      have hHeld : w17.cell? ⟨gb102, 0, none⟩ = some (.int .i64 a0_0) ∧ w17.cell? ⟨gb102, 1, none⟩ = some (.int .i64 a0_1) ∧ w17.cell? ⟨gb102, 2, none⟩ = some (.int .i64 a0_2) := hS_
                      refine norm_ (a' := ?_) ?_ ?_
                      rotate_left
                      ·simp only [putAll, Act.put, List.setIfInBounds_toArray, List.set_cons_zero, List.set_cons_succ]
                       rfl
                      refine three_ (i := 4) (j := 8) (k := 14) (Ni := some 11) (Nj := some 15) (Nk := some 21) zl2_6 zl2_8 zl2_10 rfl rfl rfl rfl rfl rfl (three_of HT_.out zA2_26) (by decide) (by decide) (by decide) (fun K hK => ?_) (fun K hK => ?_) (fun K hK => ?_)
                      ·skip
                       refine Kd.R_make_step (Kd.int .i64) _ 3 (by rfl) (N := 11) rfl 24 _ _ rfl a0_1 rfl rfl Try.underlying24 (.int .i64 0) 8 info3 rfl (by decide) (by omega) 0 (ok := fun _ => True) (okp := fun _ => True) rfl (fun _ hk => hk) trivial (of_decide_eq_true zA2_4) (Nat.le_trans (Nat.mul_le_mul_right _ (of_decide_eq_true zA2_4 : a0_1.toNat ≤ 35184372088832)) (by omega)) (Below.refl _ _) (Nat.le_refl _) ?_
                       intro v106 w18 ho19 hb hg_ hnew_
                       clear hg_ hnew_
                       (first | rw [← Ny105.out] at ho19 | (simp only [Int.reduceToNat] at ho19; rw [← Ny105.out] at ho19))
                       have n0_ := Aside0.mk (Kd.R_elder' zA2_7 (Kd.R_base ho19) hb)
                       have n1_ := Aside0.mk (Kd.R_lower (Kd.R_new' ho19 (Kd.R_lt zA2_7)) (below_size zA2_0))
                       have n2_ := Aside0.mk (blk_below zA2_1 hb)
                       have n3_ := Aside0.mk (blk_below zA2_2 hb)
                       have n4_ := Aside0.mk (below_step zA2_0 hb)
                       clear HO113
                       clear BK102
                       clear BK103
                       clear HB
                       have HO113 := n0_
                       have HO107 := n1_
                       have BK102 := n2_
                       have BK103 := n3_
                       have HB := n4_
                       clear n0_ n1_ n2_ n3_ n4_
                       clear hb ho19
                       refine hK.out _ _ ⟨(blk_cell BK102.out 0).trans rfl, (blk_cell BK102.out 1).trans rfl, (blk_cell BK102.out 2).trans rfl⟩ (fun hHeld => ?_)
                       clear hK K
                       refine norm_ (a' := ?_) ?_ ?_
                       rotate_left
                       ·show Act.put _ (some 11) _ = _
                        simp only [Act.put, List.setIfInBounds_toArray, List.set_cons_zero, List.set_cons_succ, i64_w, i32_w]
                        rfl
                       exact norm_ zA2_3 (hJ4_11 (v106, v112) _ ⟨hHeld, zA2_12, zA2_15, zA2_1, zA2_2, zA2_0⟩)
                      ·skip
                       refine Kd.R_make_step (Kd.int .i64) _ 3 (by rfl) (N := 15) rfl 24 _ _ rfl ji6 rfl rfl Try.underlying24 (.int .i64 0) 8 info3 rfl (by decide) (by omega) 0 (ok := fun _ => True) (okp := fun _ => True) rfl (fun _ hk => hk) trivial (of_decide_eq_true zA2_4) (Nat.le_trans (Nat.mul_le_mul_right _ (of_decide_eq_true zA2_4 : ji6.toNat ≤ 35184372088832)) (by omega)) (Below.refl _ _) (Nat.le_refl _) ?_
                       intro v109 w18 ho19 hb hg_ hnew_
                       clear hg_ hnew_
                       (first | rw [← Ny108.out] at ho19 | (simp only [Int.reduceToNat] at ho19; rw [← Ny108.out] at ho19))
                       have n0_ := Aside0.mk (Kd.R_elder' zA2_7 (Kd.R_base ho19) hb)
                       have n1_ := Aside0.mk (Kd.R_lower (Kd.R_new' ho19 (Kd.R_lt zA2_7)) (below_size zA2_0))
                       have n2_ := Aside0.mk (blk_below zA2_1 hb)
                       have n3_ := Aside0.mk (blk_below zA2_2 hb)
                       have n4_ := Aside0.mk (below_step zA2_0 hb)
                       clear HO113
                       clear BK102
                       clear BK103
                       clear HB
                       have HO113 := n0_
                       have HO110 := n1_
                       have BK102 := n2_
                       have BK103 := n3_
                       have HB := n4_
                       clear n0_ n1_ n2_ n3_ n4_
                       clear hb ho19
                       refine hK.out _ _ ⟨(blk_cell BK102.out 0).trans rfl, (blk_cell BK102.out 1).trans rfl, (blk_cell BK102.out 2).trans rfl⟩ (fun hHeld => ?_)
                       clear hK K
                       refine norm_ (a' := ?_) ?_ ?_
                       rotate_left
                       ·show Act.put _ (some 15) _ = _
                        simp only [Act.put, List.setIfInBounds_toArray, List.set_cons_zero, List.set_cons_succ, i64_w, i32_w]
                        rfl
                       exact norm_ zA2_3 (hJ8_11 (v109, v112) _ ⟨hHeld, zA2_14, zA2_15, zA2_1, zA2_2, zA2_0⟩)
                      ·skip
                       refine Kd.R_make_step (Kd.int .i64) _ 3 (by rfl) (N := 21) rfl 24 _ _ rfl a0_0 rfl rfl Try.underlying24 (.int .i64 0) 8 info3 rfl (by decide) (by omega) 0 (ok := fun _ => True) (okp := fun _ => True) rfl (fun _ hk => hk) trivial (of_decide_eq_true zA2_4) (Nat.le_trans (Nat.mul_le_mul_right _ (of_decide_eq_true zA2_4 : a0_0.toNat ≤ 35184372088832)) (by omega)) (Below.refl _ _) (Nat.le_refl _) ?_
                       intro v115 w18 ho19 hb hg_ hnew_
                       clear hg_ hnew_
                       (first | rw [← Ny114.out] at ho19 | (simp only [Int.reduceToNat] at ho19; rw [← Ny114.out] at ho19))
                       have n0_ := Aside0.mk (Kd.R_elder' zA2_7 (Kd.R_base ho19) hb)
                       have n1_ := Aside0.mk (Kd.R_lower (Kd.R_new' ho19 (Kd.R_lt zA2_7)) (below_size zA2_0))
                       have n2_ := Aside0.mk (blk_below zA2_1 hb)
                       have n3_ := Aside0.mk (blk_below zA2_2 hb)
                       have n4_ := Aside0.mk (below_step zA2_0 hb)
                       clear HO113
                       clear BK102
                       clear BK103
                       clear HB
                       have HO113 := n0_
                       have HO116 := n1_
                       have BK102 := n2_
                       have BK103 := n3_
                       have HB := n4_
                       clear n0_ n1_ n2_ n3_ n4_
                       clear hb ho19
                       refine hK.out _ _ ⟨(blk_cell BK102.out 0).trans rfl, (blk_cell BK102.out 1).trans rfl, (blk_cell BK102.out 2).trans rfl⟩ (fun hHeld => ?_)
                       clear hK K
                       refine norm_ (a' := ?_) ?_ ?_
                       rotate_left
                       ·show Act.put _ (some 21) _ = _
                        simp only [Act.put, List.setIfInBounds_toArray, List.set_cons_zero, List.set_cons_succ, i64_w, i32_w]
                        rfl
                       exact norm_ zA2_3 (hJ11_14 (v112, v115) _ ⟨hHeld, zA2_15, zA2_13, zA2_1, zA2_2, zA2_0⟩)
                    ·skip
                     rintro v109 w17 ⟨hS_, h0_, h1_, h2_, h3_⟩
                     have n0_ : Aside0 (Kd.R (Kd.int .i64) 3 w17 w.heap.size (fun _ => True) v109 y108) := ⟨h0_⟩
                     have n1_ : Aside0 (w17.heap[gb102]? = some (.cells #[.int .i64 a0_0, .int .i64 a0_1, .int .i64 a0_2] 29 (0, 0))) := ⟨h1_⟩
                     have n2_ : Aside0 (w17.heap[gb103]? = some (.cells #[.int .i64 0, .slice none 0 0, .slice none 0 0, .slice none 0 0, .slice none 0 0, .slice none 0 0, .slice none 0 0, .slice none 0 0, .slice none 0 0] 27 (0, 0))) := ⟨h2_⟩
                     have n3_ : Aside0 (Below w.heap.size w w17) := ⟨h3_⟩
                     clear BK102
                     clear BK103
                     clear HB
                     clear h0_ h1_ h2_ h3_
                     have HO110 := n0_
                     have BK102 := n1_
                     have BK103 := n2_
                     have HB := n3_
                     clear n0_ n1_ n2_ n3_
                     have hHeld : w17.cell? ⟨gb102, 0, none⟩ = some (.int .i64 a0_0) ∧ w17.cell? ⟨gb102, 1, none⟩ = some (.int .i64 a0_1) ∧ w17.cell? ⟨gb102, 2, none⟩ = some (.int .i64 a0_2) := hS_
                     refine norm_ (a' := ?_) ?_ ?_
                     rotate_left
                     ·simp only [putAll, Act.put, List.setIfInBounds_toArray, List.set_cons_zero, List.set_cons_succ]
                      rfl
                     refine three_ (i := 4) (j := 11) (k := 14) (Ni := some 11) (Nj := some 18) (Nk := some 21) zl2_5 zl2_8 zl2_9 rfl rfl rfl rfl rfl rfl (three_of HT_.out zA2_26) (by decide) (by decide) (by decide) (fun K hK => ?_) (fun K hK => ?_) (fun K hK => ?_)
                     ·skip
                      refine Kd.R_make_step (Kd.int .i64) _ 3 (by rfl) (N := 11) rfl 24 _ _ rfl a0_1 rfl rfl Try.underlying24 (.int .i64 0) 8 info3 rfl (by decide) (by omega) 0 (ok := fun _ => True) (okp := fun _ => True) rfl (fun _ hk => hk) trivial (of_decide_eq_true zA2_4) (Nat.le_trans (Nat.mul_le_mul_right _ (of_decide_eq_true zA2_4 : a0_1.toNat ≤ 35184372088832)) (by omega)) (Below.refl _ _) (Nat.le_refl _) ?_
                      intro v106 w18 ho19 hb hg_ hnew_
                      clear hg_ hnew_
                      (first | rw [← Ny105.out] at ho19 | (simp only [Int.reduceToNat] at ho19; rw [← Ny105.out] at ho19))
                      have n0_ := Aside0.mk (Kd.R_elder' zA2_6 (Kd.R_base ho19) hb)
                      have n1_ := Aside0.mk (Kd.R_lower (Kd.R_new' ho19 (Kd.R_lt zA2_6)) (below_size zA2_0))
                      have n2_ := Aside0.mk (blk_below zA2_1 hb)
                      have n3_ := Aside0.mk (blk_below zA2_2 hb)
                      have n4_ := Aside0.mk (below_step zA2_0 hb)
                      clear HO110
                      clear BK102
                      clear BK103
                      clear HB
                      have HO110 := n0_
                      have HO107 := n1_
                      have BK102 := n2_
                      have BK103 := n3_
                      have HB := n4_
                      clear n0_ n1_ n2_ n3_ n4_
                      clear hb ho19
                      refine hK.out _ _ ⟨(blk_cell BK102.out 0).trans rfl, (blk_cell BK102.out 1).trans rfl, (blk_cell BK102.out 2).trans rfl⟩ (fun hHeld => ?_)
                      clear hK K
                      refine norm_ (a' := ?_) ?_ ?_
                      rotate_left
                      ·show Act.put _ (some 11) _ = _
                       simp only [Act.put, List.setIfInBounds_toArray, List.set_cons_zero, List.set_cons_succ, i64_w, i32_w]
                       rfl
                      exact norm_ zA2_3 (hJ4_8 (v106, v109) _ ⟨hHeld, zA2_12, zA2_14, zA2_1, zA2_2, zA2_0⟩)
                     ·skip
                      refine Kd.R_make_step (Kd.int .i64) _ 3 (by rfl) (N := 18) rfl 24 _ _ rfl a0_0 rfl rfl Try.underlying24 (.int .i64 0) 8 info3 rfl (by decide) (by omega) 0 (ok := fun _ => True) (okp := fun _ => True) rfl (fun _ hk => hk) trivial (of_decide_eq_true zA2_4) (Nat.le_trans (Nat.mul_le_mul_right _ (of_decide_eq_true zA2_4 : a0_0.toNat ≤ 35184372088832)) (by omega)) (Below.refl _ _) (Nat.le_refl _) ?_
                      intro v112 w18 ho19 hb hg_ hnew_
                      clear hg_ hnew_
                      (first | rw [← Ny111.out] at ho19 | (simp only [Int.reduceToNat] at ho19; rw [← Ny111.out] at ho19))
                      have n0_ := Aside0.mk (Kd.R_elder' zA2_6 (Kd.R_base ho19) hb)
                      have n1_ := Aside0.mk (Kd.R_lower (Kd.R_new' ho19 (Kd.R_lt zA2_6)) (below_size zA2_0))
                      have n2_ := Aside0.mk (blk_below zA2_1 hb)
                      have n3_ := Aside0.mk (blk_below zA2_2 hb)
                      have n4_ := Aside0.mk (below_step zA2_0 hb)
                      clear HO110
                      clear BK102
                      clear BK103
                      clear HB
                      have HO110 := n0_
                      have HO113 := n1_
                      have BK102 := n2_
                      have BK103 := n3_
                      have HB := n4_
                      clear n0_ n1_ n2_ n3_ n4_
                      clear hb ho19
                      refine hK.out _ _ ⟨(blk_cell BK102.out 0).trans rfl, (blk_cell BK102.out 1).trans rfl, (blk_cell BK102.out 2).trans rfl⟩ (fun hHeld => ?_)
                      clear hK K
                      refine norm_ (a' := ?_) ?_ ?_
                      rotate_left
                      ·show Act.put _ (some 18) _ = _
                       simp only [Act.put, List.setIfInBounds_toArray, List.set_cons_zero, List.set_cons_succ, i64_w, i32_w]
                       rfl
                      exact norm_ zA2_3 (hJ8_11 (v109, v112) _ ⟨hHeld, zA2_14, zA2_15, zA2_1, zA2_2, zA2_0⟩)
                     ·skip
                      refine Kd.R_make_step (Kd.int .i64) _ 3 (by rfl) (N := 21) rfl 24 _ _ rfl a0_0 rfl rfl Try.underlying24 (.int .i64 0) 8 info3 rfl (by decide) (by omega) 0 (ok := fun _ => True) (okp := fun _ => True) rfl (fun _ hk => hk) trivial (of_decide_eq_true zA2_4) (Nat.le_trans (Nat.mul_le_mul_right _ (of_decide_eq_true zA2_4 : a0_0.toNat ≤ 35184372088832)) (by omega)) (Below.refl _ _) (Nat.le_refl _) ?_
                      intro v115 w18 ho19 hb hg_ hnew_
                      clear hg_ hnew_
                      (first | rw [← Ny114.out] at ho19 | (simp only [Int.reduceToNat] at ho19; rw [← Ny114.out] at ho19))
                      have n0_ := Aside0.mk (Kd.R_elder' zA2_6 (Kd.R_base ho19) hb)
                      have n1_ := Aside0.mk (Kd.R_lower (Kd.R_new' ho19 (Kd.R_lt zA2_6)) (below_size zA2_0))
                      have n2_ := Aside0.mk (blk_below zA2_1 hb)
                      have n3_ := Aside0.mk (blk_below zA2_2 hb)
                      have n4_ := Aside0.mk (below_step zA2_0 hb)
                      clear HO110
                      clear BK102
                      clear BK103
                      clear HB
                      have HO110 := n0_
                      have HO116 := n1_
                      have BK102 := n2_
                      have BK103 := n3_
                      have HB := n4_
                      clear n0_ n1_ n2_ n3_ n4_
                      clear hb ho19
                      refine hK.out _ _ ⟨(blk_cell BK102.out 0).trans rfl, (blk_cell BK102.out 1).trans rfl, (blk_cell BK102.out 2).trans rfl⟩ (fun hHeld => ?_)
                      clear hK K
                      refine norm_ (a' := ?_) ?_ ?_
                      rotate_left
                      ·show Act.put _ (some 21) _ = _
                       simp only [Act.put, List.setIfInBounds_toArray, List.set_cons_zero, List.set_cons_succ, i64_w, i32_w]
                       rfl
                      exact norm_ zA2_3 (hJ8_14 (v109, v115) _ ⟨hHeld, zA2_14, zA2_13, zA2_1, zA2_2, zA2_0⟩)
                   ·skip
                    rintro v106 w17 ⟨hS_, h0_, h1_, h2_, h3_⟩
                    have n0_ : Aside0 (Kd.R (Kd.int .i64) 3 w17 w.heap.size (fun _ => True) v106 y105) := ⟨h0_⟩
                    have n1_ : Aside0 (w17.heap[gb102]? = some (.cells #[.int .i64 a0_0, .int .i64 a0_1, .int .i64 a0_2] 29 (0, 0))) := ⟨h1_⟩
                    have n2_ : Aside0 (w17.heap[gb103]? = some (.cells #[.int .i64 0, .slice none 0 0, .slice none 0 0, .slice none 0 0, .slice none 0 0, .slice none 0 0, .slice none 0 0, .slice none 0 0, .slice none 0 0] 27 (0, 0))) := ⟨h2_⟩
                    have n3_ : Aside0 (Below w.heap.size w w17) := ⟨h3_⟩
                    clear BK102
                    clear BK103
                    clear HB
                    clear h0_ h1_ h2_ h3_
                    have HO107 := n0_
                    have BK102 := n1_
                    have BK103 := n2_
                    have HB := n3_
                    clear n0_ n1_ n2_ n3_
                    have hHeld : w17.cell? ⟨gb102, 0, none⟩ = some (.int .i64 a0_0) ∧ w17.cell? ⟨gb102, 1, none⟩ = some (.int .i64 a0_1) ∧ w17.cell? ⟨gb102, 2, none⟩ = some (.int .i64 a0_2) := hS_
                    refine norm_ (a' := ?_) ?_ ?_
                    rotate_left
                    ·simp only [putAll, Act.put, List.setIfInBounds_toArray, List.set_cons_zero, List.set_cons_succ]
                     rfl
                    refine three_ (i := 8) (j := 11) (k := 14) (Ni := some 15) (Nj := some 18) (Nk := some 21) zl2_5 zl2_6 zl2_7 rfl rfl rfl rfl rfl rfl (three_of HT_.out zA2_26) (by decide) (by decide) (by decide) (fun K hK => ?_) (fun K hK => ?_) (fun K hK => ?_)
                    ·skip
                     refine Kd.R_make_step (Kd.int .i64) _ 3 (by rfl) (N := 15) rfl 24 _ _ rfl ji6 rfl rfl Try.underlying24 (.int .i64 0) 8 info3 rfl (by decide) (by omega) 0 (ok := fun _ => True) (okp := fun _ => True) rfl (fun _ hk => hk) trivial (of_decide_eq_true zA2_4) (Nat.le_trans (Nat.mul_le_mul_right _ (of_decide_eq_true zA2_4 : ji6.toNat ≤ 35184372088832)) (by omega)) (Below.refl _ _) (Nat.le_refl _) ?_
                     intro v109 w18 ho19 hb hg_ hnew_
                     clear hg_ hnew_
                     (first | rw [← Ny108.out] at ho19 | (simp only [Int.reduceToNat] at ho19; rw [← Ny108.out] at ho19))
                     have n0_ := Aside0.mk (Kd.R_elder' zA2_5 (Kd.R_base ho19) hb)
                     have n1_ := Aside0.mk (Kd.R_lower (Kd.R_new' ho19 (Kd.R_lt zA2_5)) (below_size zA2_0))
                     have n2_ := Aside0.mk (blk_below zA2_1 hb)
                     have n3_ := Aside0.mk (blk_below zA2_2 hb)
                     have n4_ := Aside0.mk (below_step zA2_0 hb)
                     clear HO107
                     clear BK102
                     clear BK103
                     clear HB
                     have HO107 := n0_
                     have HO110 := n1_
                     have BK102 := n2_
                     have BK103 := n3_
                     have HB := n4_
                     clear n0_ n1_ n2_ n3_ n4_
                     clear hb ho19
                     refine hK.out _ _ ⟨(blk_cell BK102.out 0).trans rfl, (blk_cell BK102.out 1).trans rfl, (blk_cell BK102.out 2).trans rfl⟩ (fun hHeld => ?_)
                     clear hK K
                     refine norm_ (a' := ?_) ?_ ?_
                     rotate_left
                     ·show Act.put _ (some 15) _ = _
                      simp only [Act.put, List.setIfInBounds_toArray, List.set_cons_zero, List.set_cons_succ, i64_w, i32_w]
                      rfl
                     exact norm_ zA2_3 (hJ4_8 (v106, v109) _ ⟨hHeld, zA2_12, zA2_14, zA2_1, zA2_2, zA2_0⟩)
                    ·skip
                     refine Kd.R_make_step (Kd.int .i64) _ 3 (by rfl) (N := 18) rfl 24 _ _ rfl a0_0 rfl rfl Try.underlying24 (.int .i64 0) 8 info3 rfl (by decide) (by omega) 0 (ok := fun _ => True) (okp := fun _ => True) rfl (fun _ hk => hk) trivial (of_decide_eq_true zA2_4) (Nat.le_trans (Nat.mul_le_mul_right _ (of_decide_eq_true zA2_4 : a0_0.toNat ≤ 35184372088832)) (by omega)) (Below.refl _ _) (Nat.le_refl _) ?_
                     intro v112 w18 ho19 hb hg_ hnew_
                     clear hg_ hnew_
                     (first | rw [← Ny111.out] at ho19 | (simp only [Int.reduceToNat] at ho19; rw [← Ny111.out] at ho19))
                     have n0_ := Aside0.mk (Kd.R_elder' zA2_5 (Kd.R_base ho19) hb)
                     have n1_ := Aside0.mk (Kd.R_lower (Kd.R_new' ho19 (Kd.R_lt zA2_5)) (below_size zA2_0))
                     have n2_ := Aside0.mk (blk_below zA2_1 hb)
                     have n3_ := Aside0.mk (blk_below zA2_2 hb)
                     have n4_ := Aside0.mk (below_step zA2_0 hb)
                     clear HO107
                     clear BK102
                     clear BK103
                     clear HB
                     have HO107 := n0_
                     have HO113 := n1_
                     have BK102 := n2_
                     have BK103 := n3_
                     have HB := n4_
                     clear n0_ n1_ n2_ n3_ n4_
                     clear hb ho19
                     refine hK.out _ _ ⟨(blk_cell BK102.out 0).trans rfl, (blk_cell BK102.out 1).trans rfl, (blk_cell BK102.out 2).trans rfl⟩ (fun hHeld => ?_)
                     clear hK K
                     refine norm_ (a' := ?_) ?_ ?_
                     rotate_left
                     ·show Act.put _ (some 18) _ = _
                      simp only [Act.put, List.setIfInBounds_toArray, List.set_cons_zero, List.set_cons_succ, i64_w, i32_w]
                      rfl
                     exact norm_ zA2_3 (hJ4_11 (v106, v112) _ ⟨hHeld, zA2_12, zA2_15, zA2_1, zA2_2, zA2_0⟩)
                    ·skip
                     refine Kd.R_make_step (Kd.int .i64) _ 3 (by rfl) (N := 21) rfl 24 _ _ rfl a0_0 rfl rfl Try.underlying24 (.int .i64 0) 8 info3 rfl (by decide) (by omega) 0 (ok := fun _ => True) (okp := fun _ => True) rfl (fun _ hk => hk) trivial (of_decide_eq_true zA2_4) (Nat.le_trans (Nat.mul_le_mul_right _ (of_decide_eq_true zA2_4 : a0_0.toNat ≤ 35184372088832)) (by omega)) (Below.refl _ _) (Nat.le_refl _) ?_
                     intro v115 w18 ho19 hb hg_ hnew_
                     clear hg_ hnew_
                     (first | rw [← Ny114.out] at ho19 | (simp only [Int.reduceToNat] at ho19; rw [← Ny114.out] at ho19))
                     have n0_ := Aside0.mk (Kd.R_elder' zA2_5 (Kd.R_base ho19) hb)
                     have n1_ := Aside0.mk (Kd.R_lower (Kd.R_new' ho19 (Kd.R_lt zA2_5)) (below_size zA2_0))
                     have n2_ := Aside0.mk (blk_below zA2_1 hb)
                     have n3_ := Aside0.mk (blk_below zA2_2 hb)
                     have n4_ := Aside0.mk (below_step zA2_0 hb)
                     clear HO107
                     clear BK102
                     clear BK103
                     clear HB
                     have HO107 := n0_
                     have HO116 := n1_
                     have BK102 := n2_
                     have BK103 := n3_
                     have HB := n4_
                     clear n0_ n1_ n2_ n3_ n4_
                     clear hb ho19
                     refine hK.out _ _ ⟨(blk_cell BK102.out 0).trans rfl, (blk_cell BK102.out 1).trans rfl, (blk_cell BK102.out 2).trans rfl⟩ (fun hHeld => ?_)
                     clear hK K
                     refine norm_ (a' := ?_) ?_ ?_
                     rotate_left
                     ·show Act.put _ (some 21) _ = _
                      simp only [Act.put, List.setIfInBounds_toArray, List.set_cons_zero, List.set_cons_succ, i64_w, i32_w]
                      rfl
                     exact norm_ zA2_3 (hJ4_14 (v106, v115) _ ⟨hHeld, zA2_12, zA2_13, zA2_1, zA2_2, zA2_0⟩)
                  ·skip
                   rintro ⟨v112, v115⟩ w19 ⟨hS_, h0_, h1_, h2_, h3_, h4_⟩
                   have n0_ : Aside0 (Kd.R (Kd.int .i64) 3 w19 w.heap.size (fun k_ => some k_ ≠ (v115 : Value).ownBlock) v112 y111) := ⟨h0_⟩
                   have n1_ : Aside0 (Kd.R (Kd.int .i64) 3 w19 w.heap.size (fun k_ => some k_ ≠ (v112 : Value).ownBlock) v115 y114) := ⟨h1_⟩
                   have n2_ : Aside0 (w19.heap[gb102]? = some (.cells #[.int .i64 a0_0, .int .i64 a0_1, .int .i64 a0_2] 29 (0, 0))) := ⟨h2_⟩
                   have n3_ : Aside0 (w19.heap[gb103]? = some (.cells #[.int .i64 0, .slice none 0 0, .slice none 0 0, .slice none 0 0, .slice none 0 0, .slice none 0 0, .slice none 0 0, .slice none 0 0, .slice none 0 0] 27 (0, 0))) := ⟨h3_⟩
                   have n4_ : Aside0 (Below w.heap.size w w19) := ⟨h4_⟩
                   clear BK102
                   clear BK103
                   clear HB
                   clear h0_ h1_ h2_ h3_ h4_
                   have HO113 := n0_
                   have HO116 := n1_
                   have BK102 := n2_
                   have BK103 := n3_
                   have HB := n4_
                   clear n0_ n1_ n2_ n3_ n4_
                   have hHeld : w19.cell? ⟨gb102, 0, none⟩ = some (.int .i64 a0_0) ∧ w19.cell? ⟨gb102, 1, none⟩ = some (.int .i64 a0_1) ∧ w19.cell? ⟨gb102, 2, none⟩ = some (.int .i64 a0_2) := hS_
                   refine norm_ (a' := ?_) ?_ ?_
                   rotate_left
                   ·simp only [putAll, Act.put, List.setIfInBounds_toArray, List.set_cons_zero, List.set_cons_succ]
                    rfl
                   refine two_ (i := 4) (j := 8) (Ni := some 11) (Nj := some 15) zl2_3 zl2_4 rfl rfl rfl rfl (two_of HT_.out zA2_26) (by decide) (by decide) (fun K hK => ?_) (fun K hK => ?_)
                   ·skip
                    refine Kd.R_make_step (Kd.int .i64) _ 3 (by rfl) (N := 11) rfl 24 _ _ rfl a0_1 rfl rfl Try.underlying24 (.int .i64 0) 8 info3 rfl (by decide) (by omega) 0 (ok := fun _ => True) (okp := fun _ => True) rfl (fun _ hk => hk) trivial (of_decide_eq_true zA2_4) (Nat.le_trans (Nat.mul_le_mul_right _ (of_decide_eq_true zA2_4 : a0_1.toNat ≤ 35184372088832)) (by omega)) (Below.refl _ _) (Nat.le_refl _) ?_
                    intro v106 w20 ho21 hb hg_ hnew_
                    clear hg_ hnew_
                    (first | rw [← Ny105.out] at ho21 | (simp only [Int.reduceToNat] at ho21; rw [← Ny105.out] at ho21))
                    have n0_ := Aside0.mk (Kd.R_elder' zA2_7 (Kd.R_base ho21) hb)
                    have n1_ := Aside0.mk (Kd.R_elder' zA2_8 (Kd.R_base ho21) hb)
                    have n2_ := Aside0.mk (Kd.R_lower (Kd.R_new' (Kd.R_new' ho21 (Kd.R_lt zA2_7)) (Kd.R_lt zA2_8)) (below_size zA2_0))
                    have n3_ := Aside0.mk (blk_below zA2_1 hb)
                    have n4_ := Aside0.mk (blk_below zA2_2 hb)
                    have n5_ := Aside0.mk (below_step zA2_0 hb)
                    clear HO113
                    clear HO116
                    clear BK102
                    clear BK103
                    clear HB
                    have HO113 := n0_
                    have HO116 := n1_
                    have HO107 := n2_
                    have BK102 := n3_
                    have BK103 := n4_
                    have HB := n5_
                    clear n0_ n1_ n2_ n3_ n4_ n5_
                    clear hb ho21
                    refine hK.out _ _ ⟨(blk_cell BK102.out 0).trans rfl, (blk_cell BK102.out 1).trans rfl, (blk_cell BK102.out 2).trans rfl⟩ (fun hHeld => ?_)
                    clear hK K
                    refine norm_ (a' := ?_) ?_ ?_
                    rotate_left
                    ·show Act.put _ (some 11) _ = _
                     simp only [Act.put, List.setIfInBounds_toArray, List.set_cons_zero, List.set_cons_succ, i64_w, i32_w]
                     rfl
                    exact norm_ zA2_3 (hJ4_11_14 (v106, v112, v115) _ ⟨hHeld, zA2_17, zA2_21, zA2_22, zA2_1, zA2_2, zA2_0⟩)
                   ·skip
                    refine Kd.R_make_step (Kd.int .i64) _ 3 (by rfl) (N := 15) rfl 24 _ _ rfl ji6 rfl rfl Try.underlying24 (.int .i64 0) 8 info3 rfl (by decide) (by omega) 0 (ok := fun _ => True) (okp := fun _ => True) rfl (fun _ hk => hk) trivial (of_decide_eq_true zA2_4) (Nat.le_trans (Nat.mul_le_mul_right _ (of_decide_eq_true zA2_4 : ji6.toNat ≤ 35184372088832)) (by omega)) (Below.refl _ _) (Nat.le_refl _) ?_
                    intro v109 w20 ho21 hb hg_ hnew_
                    clear hg_ hnew_
                    (first | rw [← Ny108.out] at ho21 | (simp only [Int.reduceToNat] at ho21; rw [← Ny108.out] at ho21))
                    have n0_ := Aside0.mk (Kd.R_elder' zA2_7 (Kd.R_base ho21) hb)
                    have n1_ := Aside0.mk (Kd.R_elder' zA2_8 (Kd.R_base ho21) hb)
                    have n2_ := Aside0.mk (Kd.R_lower (Kd.R_new' (Kd.R_new' ho21 (Kd.R_lt zA2_7)) (Kd.R_lt zA2_8)) (below_size zA2_0))
                    have n3_ := Aside0.mk (blk_below zA2_1 hb)
                    have n4_ := Aside0.mk (blk_below zA2_2 hb)
                    have n5_ := Aside0.mk (below_step zA2_0 hb)
                    clear HO113
                    clear HO116
                    clear BK102
                    clear BK103
                    clear HB
                    have HO113 := n0_
                    have HO116 := n1_
                    have HO110 := n2_
                    have BK102 := n3_
                    have BK103 := n4_
                    have HB := n5_
                    clear n0_ n1_ n2_ n3_ n4_ n5_
                    clear hb ho21
                    refine hK.out _ _ ⟨(blk_cell BK102.out 0).trans rfl, (blk_cell BK102.out 1).trans rfl, (blk_cell BK102.out 2).trans rfl⟩ (fun hHeld => ?_)
                    clear hK K
                    refine norm_ (a' := ?_) ?_ ?_
                    rotate_left
                    ·show Act.put _ (some 15) _ = _
                     simp only [Act.put, List.setIfInBounds_toArray, List.set_cons_zero, List.set_cons_succ, i64_w, i32_w]
                     rfl
                    exact norm_ zA2_3 (hJ8_11_14 (v109, v112, v115) _ ⟨hHeld, zA2_18, zA2_21, zA2_22, zA2_1, zA2_2, zA2_0⟩)
                 ·skip
                  rintro ⟨v109, v115⟩ w19 ⟨hS_, h0_, h1_, h2_, h3_, h4_⟩
                  have n0_ : Aside0 (Kd.R (Kd.int .i64) 3 w19 w.heap.size (fun k_ => some k_ ≠ (v115 : Value).ownBlock) v109 y108) := ⟨h0_⟩
                  have n1_ : Aside0 (Kd.R (Kd.int .i64) 3 w19 w.heap.size (fun k_ => some k_ ≠ (v109 : Value).ownBlock) v115 y114) := ⟨h1_⟩
                  have n2_ : Aside0 (w19.heap[gb102]? = some (.cells #[.int .i64 a0_0, .int .i64 a0_1, .int .i64 a0_2] 29 (0, 0))) := ⟨h2_⟩
                  have n3_ : Aside0 (w19.heap[gb103]? = some (.cells #[.int .i64 0, .slice none 0 0, .slice none 0 0, .slice none 0 0, .slice none 0 0, .slice none 0 0, .slice none 0 0, .slice none 0 0, .slice none 0 0] 27 (0, 0))) := ⟨h3_⟩
                  have n4_ : Aside0 (Below w.heap.size w w19) := ⟨h4_⟩
                  clear BK102
                  clear BK103
                  clear HB
                  clear h0_ h1_ h2_ h3_ h4_
                  have HO110 := n0_
                  have HO116 := n1_
                  have BK102 := n2_
                  have BK103 := n3_
                  have HB := n4_
                  clear n0_ n1_ n2_ n3_ n4_
                  have hHeld : w19.cell? ⟨gb102, 0, none⟩ = some (.int .i64 a0_0) ∧ w19.cell? ⟨gb102, 1, none⟩ = some (.int .i64 a0_1) ∧ w19.cell? ⟨gb102, 2, none⟩ = some (.int .i64 a0_2) := hS_
                  refine norm_ (a' := ?_) ?_ ?_
                  rotate_left
                  ·simp only [putAll, Act.put, List.setIfInBounds_toArray, List.set_cons_zero, List.set_cons_succ]
                   rfl
                  refine two_ (i := 4) (j := 11) (Ni := some 11) (Nj := some 18) zl2_2 zl2_4 rfl rfl rfl rfl (two_of HT_.out zA2_26) (by decide) (by decide) (fun K hK => ?_) (fun K hK => ?_)
                  ·skip
                   refine Kd.R_make_step (Kd.int .i64) _ 3 (by rfl) (N := 11) rfl 24 _ _ rfl a0_1 rfl rfl Try.underlying24 (.int .i64 0) 8 info3 rfl (by decide) (by omega) 0 (ok := fun _ => True) (okp := fun _ => True) rfl (fun _ hk => hk) trivial (of_decide_eq_true zA2_4) (Nat.le_trans (Nat.mul_le_mul_right _ (of_decide_eq_true zA2_4 : a0_1.toNat ≤ 35184372088832)) (by omega)) (Below.refl _ _) (Nat.le_refl _) ?_
                   intro v106 w20 ho21 hb hg_ hnew_
                   clear hg_ hnew_
                   (first | rw [← Ny105.out] at ho21 | (simp only [Int.reduceToNat] at ho21; rw [← Ny105.out] at ho21))
                   have n0_ := Aside0.mk (Kd.R_elder' zA2_6 (Kd.R_base ho21) hb)
                   have n1_ := Aside0.mk (Kd.R_elder' zA2_8 (Kd.R_base ho21) hb)
                   have n2_ := Aside0.mk (Kd.R_lower (Kd.R_new' (Kd.R_new' ho21 (Kd.R_lt zA2_6)) (Kd.R_lt zA2_8)) (below_size zA2_0))
                   have n3_ := Aside0.mk (blk_below zA2_1 hb)
                   have n4_ := Aside0.mk (blk_below zA2_2 hb)
                   have n5_ := Aside0.mk (below_step zA2_0 hb)
                   clear HO110
                   clear HO116
                   clear BK102
                   clear BK103
                   clear HB
                   have HO110 := n0_
                   have HO116 := n1_
                   have HO107 := n2_
                   have BK102 := n3_
                   have BK103 := n4_
                   have HB := n5_
                   clear n0_ n1_ n2_ n3_ n4_ n5_
                   clear hb ho21
                   refine hK.out _ _ ⟨(blk_cell BK102.out 0).trans rfl, (blk_cell BK102.out 1).trans rfl, (blk_cell BK102.out 2).trans rfl⟩ (fun hHeld => ?_)
                   clear hK K
                   refine norm_ (a' := ?_) ?_ ?_
                   rotate_left
                   ·show Act.put _ (some 11) _ = _
                    simp only [Act.put, List.setIfInBounds_toArray, List.set_cons_zero, List.set_cons_succ, i64_w, i32_w]
                    rfl
                   exact norm_ zA2_3 (hJ4_8_14 (v106, v109, v115) _ ⟨hHeld, zA2_17, zA2_23, zA2_22, zA2_1, zA2_2, zA2_0⟩)
                  ·skip
                   refine Kd.R_make_step (Kd.int .i64) _ 3 (by rfl) (N := 18) rfl 24 _ _ rfl a0_0 rfl rfl Try.underlying24 (.int .i64 0) 8 info3 rfl (by decide) (by omega) 0 (ok := fun _ => True) (okp := fun _ => True) rfl (fun _ hk => hk) trivial (of_decide_eq_true zA2_4) (Nat.le_trans (Nat.mul_le_mul_right _ (of_decide_eq_true zA2_4 : a0_0.toNat ≤ 35184372088832)) (by omega)) (Below.refl _ _) (Nat.le_refl _) ?_
                   intro v112 w20 ho21 hb hg_ hnew_
                   clear hg_ hnew_
                   (first | rw [← Ny111.out] at ho21 | (simp only [Int.reduceToNat] at ho21; rw [← Ny111.out] at ho21))
                   have n0_ := Aside0.mk (Kd.R_elder' zA2_6 (Kd.R_base ho21) hb)
                   have n1_ := Aside0.mk (Kd.R_elder' zA2_8 (Kd.R_base ho21) hb)
                   have n2_ := Aside0.mk (Kd.R_lower (Kd.R_new' (Kd.R_new' ho21 (Kd.R_lt zA2_6)) (Kd.R_lt zA2_8)) (below_size zA2_0))
                   have n3_ := Aside0.mk (blk_below zA2_1 hb)
                   have n4_ := Aside0.mk (blk_below zA2_2 hb)
                   have n5_ := Aside0.mk (below_step zA2_0 hb)
                   clear HO110
                   clear HO116
                   clear BK102
                   clear BK103
                   clear HB
                   have HO110 := n0_
                   have HO116 := n1_
                   have HO113 := n2_
                   have BK102 := n3_
                   have BK103 := n4_
                   have HB := n5_
                   clear n0_ n1_ n2_ n3_ n4_ n5_
                   clear hb ho21
                   refine hK.out _ _ ⟨(blk_cell BK102.out 0).trans rfl, (blk_cell BK102.out 1).trans rfl, (blk_cell BK102.out 2).trans rfl⟩ (fun hHeld => ?_)
                   clear hK K
                   refine norm_ (a' := ?_) ?_ ?_
                   rotate_left
                   ·show Act.put _ (some 18) _ = _
                    simp only [Act.put, List.setIfInBounds_toArray, List.set_cons_zero, List.set_cons_succ, i64_w, i32_w]
                    rfl
                   exact norm_ zA2_3 (hJ8_11_14 (v109, v112, v115) _ ⟨hHeld, zA2_23, zA2_19, zA2_8, zA2_1, zA2_2, zA2_0⟩)
                ·skip
                 rintro ⟨v109, v112⟩ w19 ⟨hS_, h0_, h1_, h2_, h3_, h4_⟩
                 have n0_ : Aside0 (Kd.R (Kd.int .i64) 3 w19 w.heap.size (fun k_ => some k_ ≠ (v112 : Value).ownBlock) v109 y108) := ⟨h0_⟩
                 have n1_ : Aside0 (Kd.R (Kd.int .i64) 3 w19 w.heap.size (fun k_ => some k_ ≠ (v109 : Value).ownBlock) v112 y111) := ⟨h1_⟩
                 have n2_ : Aside0 (w19.heap[gb102]? = some (.cells #[.int .i64 a0_0, .int .i64 a0_1, .int .i64 a0_2] 29 (0, 0))) := ⟨h2_⟩
                 have n3_ : Aside0 (w19.heap[gb103]? = some (.cells #[.int .i64 0, .slice none 0 0, .slice none 0 0, .slice none 0 0, .slice none 0 0, .slice none 0 0, .slice none 0 0, .slice none 0 0, .slice none 0 0] 27 (0, 0))) := ⟨h3_⟩
                 have n4_ : Aside0 (Below w.heap.size w w19) := ⟨h4_⟩
                 clear BK102
                 clear BK103
                 clear HB
                 clear h0_ h1_ h2_ h3_ h4_
                 have HO110 := n0_
                 have HO113 := n1_
                 have BK102 := n2_
                 have BK103 := n3_
                 have HB := n4_
                 clear n0_ n1_ n2_ n3_ n4_
                 have hHeld : w19.cell? ⟨gb102, 0, none⟩ = some (.int .i64 a0_0) ∧ w19.cell? ⟨gb102, 1, none⟩ = some (.int .i64 a0_1) ∧ w19.cell? ⟨gb102, 2, none⟩ = some (.int .i64 a0_2) := hS_
                 refine norm_ (a' := ?_) ?_ ?_
                 rotate_left
                 ·simp only [putAll, Act.put, List.setIfInBounds_toArray, List.set_cons_zero, List.set_cons_succ]
                  rfl
                 refine two_ (i := 4) (j := 14) (Ni := some 11) (Nj := some 21) zl2_1 zl2_4 rfl rfl rfl rfl (two_of HT_.out zA2_26) (by decide) (by decide) (fun K hK => ?_) (fun K hK => ?_)
                 ·skip
                  refine Kd.R_make_step (Kd.int .i64) _ 3 (by rfl) (N := 11) rfl 24 _ _ rfl a0_1 rfl rfl Try.underlying24 (.int .i64 0) 8 info3 rfl (by decide) (by omega) 0 (ok := fun _ => True) (okp := fun _ => True) rfl (fun _ hk => hk) trivial (of_decide_eq_true zA2_4) (Nat.le_trans (Nat.mul_le_mul_right _ (of_decide_eq_true zA2_4 : a0_1.toNat ≤ 35184372088832)) (by omega)) (Below.refl _ _) (Nat.le_refl _) ?_
                  intro v106 w20 ho21 hb hg_ hnew_
                  clear hg_ hnew_
                  (first | rw [← Ny105.out] at ho21 | (simp only [Int.reduceToNat] at ho21; rw [← Ny105.out] at ho21))
                  have n0_ := Aside0.mk (Kd.R_elder' zA2_6 (Kd.R_base ho21) hb)
                  have n1_ := Aside0.mk (Kd.R_elder' zA2_7 (Kd.R_base ho21) hb)
                  have n2_ := Aside0.mk (Kd.R_lower (Kd.R_new' (Kd.R_new' ho21 (Kd.R_lt zA2_6)) (Kd.R_lt zA2_7)) (below_size zA2_0))
                  have n3_ := Aside0.mk (blk_below zA2_1 hb)
                  have n4_ := Aside0.mk (blk_below zA2_2 hb)
                  have n5_ := Aside0.mk (below_step zA2_0 hb)
                  clear HO110
                  clear HO113
                  clear BK102
                  clear BK103
                  clear HB
                  have HO110 := n0_
                  have HO113 := n1_
                  have HO107 := n2_
                  have BK102 := n3_
                  have BK103 := n4_
                  have HB := n5_
                  clear n0_ n1_ n2_ n3_ n4_ n5_
                  clear hb ho21
                  refine hK.out _ _ ⟨(blk_cell BK102.out 0).trans rfl, (blk_cell BK102.out 1).trans rfl, (blk_cell BK102.out 2).trans rfl⟩ (fun hHeld => ?_)
                  clear hK K
                  refine norm_ (a' := ?_) ?_ ?_
                  rotate_left
                  ·show Act.put _ (some 11) _ = _
                   simp only [Act.put, List.setIfInBounds_toArray, List.set_cons_zero, List.set_cons_succ, i64_w, i32_w]
                   rfl
                  exact norm_ zA2_3 (hJ4_8_11 (v106, v109, v112) _ ⟨hHeld, zA2_17, zA2_23, zA2_21, zA2_1, zA2_2, zA2_0⟩)
                 ·skip
                  refine Kd.R_make_step (Kd.int .i64) _ 3 (by rfl) (N := 21) rfl 24 _ _ rfl a0_0 rfl rfl Try.underlying24 (.int .i64 0) 8 info3 rfl (by decide) (by omega) 0 (ok := fun _ => True) (okp := fun _ => True) rfl (fun _ hk => hk) trivial (of_decide_eq_true zA2_4) (Nat.le_trans (Nat.mul_le_mul_right _ (of_decide_eq_true zA2_4 : a0_0.toNat ≤ 35184372088832)) (by omega)) (Below.refl _ _) (Nat.le_refl _) ?_
                  intro v115 w20 ho21 hb hg_ hnew_
                  clear hg_ hnew_
                  (first | rw [← Ny114.out] at ho21 | (simp only [Int.reduceToNat] at ho21; rw [← Ny114.out] at ho21))
                  have n0_ := Aside0.mk (Kd.R_elder' zA2_6 (Kd.R_base ho21) hb)
                  have n1_ := Aside0.mk (Kd.R_elder' zA2_7 (Kd.R_base ho21) hb)
                  have n2_ := Aside0.mk (Kd.R_lower (Kd.R_new' (Kd.R_new' ho21 (Kd.R_lt zA2_6)) (Kd.R_lt zA2_7)) (below_size zA2_0))
                  have n3_ := Aside0.mk (blk_below zA2_1 hb)
                  have n4_ := Aside0.mk (blk_below zA2_2 hb)
                  have n5_ := Aside0.mk (below_step zA2_0 hb)
                  clear HO110
                  clear HO113
                  clear BK102
                  clear BK103
                  clear HB
                  have HO110 := n0_
                  have HO113 := n1_
                  have HO116 := n2_
                  have BK102 := n3_
                  have BK103 := n4_
                  have HB := n5_
                  clear n0_ n1_ n2_ n3_ n4_ n5_
                  clear hb ho21
                  refine hK.out _ _ ⟨(blk_cell BK102.out 0).trans rfl, (blk_cell BK102.out 1).trans rfl, (blk_cell BK102.out 2).trans rfl⟩ (fun hHeld => ?_)
                  clear hK K
                  refine norm_ (a' := ?_) ?_ ?_
                  rotate_left
                  ·show Act.put _ (some 21) _ = _
                   simp only [Act.put, List.setIfInBounds_toArray, List.set_cons_zero, List.set_cons_succ, i64_w, i32_w]
                   rfl
                  exact norm_ zA2_3 (hJ8_11_14 (v109, v112, v115) _ ⟨hHeld, zA2_6, zA2_7, zA2_20, zA2_1, zA2_2, zA2_0⟩)
               ·skip
                rintro ⟨v106, v115⟩ w19 ⟨hS_, h0_, h1_, h2_, h3_, h4_⟩
                have n0_ : Aside0 (Kd.R (Kd.int .i64) 3 w19 w.heap.size (fun k_ => some k_ ≠ (v115 : Value).ownBlock) v106 y105) := ⟨h0_⟩
                have n1_ : Aside0 (Kd.R (Kd.int .i64) 3 w19 w.heap.size (fun k_ => some k_ ≠ (v106 : Value).ownBlock) v115 y114) := ⟨h1_⟩
                have n2_ : Aside0 (w19.heap[gb102]? = some (.cells #[.int .i64 a0_0, .int .i64 a0_1, .int .i64 a0_2] 29 (0, 0))) := ⟨h2_⟩
                have n3_ : Aside0 (w19.heap[gb103]? = some (.cells #[.int .i64 0, .slice none 0 0, .slice none 0 0, .slice none 0 0, .slice none 0 0, .slice none 0 0, .slice none 0 0, .slice none 0 0, .slice none 0 0] 27 (0, 0))) := ⟨h3_⟩
                have n4_ : Aside0 (Below w.heap.size w w19) := ⟨h4_⟩
                clear BK102
                clear BK103
                clear HB
                clear h0_ h1_ h2_ h3_ h4_
                have HO107 := n0_
                have HO116 := n1_
                have BK102 := n2_
                have BK103 := n3_
                have HB := n4_
                clear n0_ n1_ n2_ n3_ n4_
                have hHeld : w19.cell? ⟨gb102, 0, none⟩ = some (.int .i64 a0_0) ∧ w19.cell? ⟨gb102, 1, none⟩ = some (.int .i64 a0_1) ∧ w19.cell? ⟨gb102, 2, none⟩ = some (.int .i64 a0_2) := hS_
                refine norm_ (a' := ?_) ?_ ?_
                rotate_left
                ·simp only [putAll, Act.put, List.setIfInBounds_toArray, List.set_cons_zero, List.set_cons_succ]
                 rfl
                refine two_ (i := 8) (j := 11) (Ni := some 15) (Nj := some 18) zl2_2 zl2_3 rfl rfl rfl rfl (two_of HT_.out zA2_26) (by decide) (by decide) (fun K hK => ?_) (fun K hK => ?_)
                ·skip
                 refine Kd.R_make_step (Kd.int .i64) _ 3 (by rfl) (N := 15) rfl 24 _ _ rfl ji6 rfl rfl Try.underlying24 (.int .i64 0) 8 info3 rfl (by decide) (by omega) 0 (ok := fun _ => True) (okp := fun _ => True) rfl (fun _ hk => hk) trivial (of_decide_eq_true zA2_4) (Nat.le_trans (Nat.mul_le_mul_right _ (of_decide_eq_true zA2_4 : ji6.toNat ≤ 35184372088832)) (by omega)) (Below.refl _ _) (Nat.le_refl _) ?_
                 intro v109 w20 ho21 hb hg_ hnew_
                 clear hg_ hnew_
                 (first | rw [← Ny108.out] at ho21 | (simp only [Int.reduceToNat] at ho21; rw [← Ny108.out] at ho21))
                 have n0_ := Aside0.mk (Kd.R_elder' zA2_5 (Kd.R_base ho21) hb)
                 have n1_ := Aside0.mk (Kd.R_elder' zA2_8 (Kd.R_base ho21) hb)
                 have n2_ := Aside0.mk (Kd.R_lower (Kd.R_new' (Kd.R_new' ho21 (Kd.R_lt zA2_5)) (Kd.R_lt zA2_8)) (below_size zA2_0))
                 have n3_ := Aside0.mk (blk_below zA2_1 hb)
                 have n4_ := Aside0.mk (blk_below zA2_2 hb)
                 have n5_ := Aside0.mk (below_step zA2_0 hb)
                 clear HO107
                 clear HO116
                 clear BK102
                 clear BK103
                 clear HB
                 have HO107 := n0_
                 have HO116 := n1_
                 have HO110 := n2_
                 have BK102 := n3_
                 have BK103 := n4_
                 have HB := n5_
                 clear n0_ n1_ n2_ n3_ n4_ n5_
                 clear hb ho21
                 refine hK.out _ _ ⟨(blk_cell BK102.out 0).trans rfl, (blk_cell BK102.out 1).trans rfl, (blk_cell BK102.out 2).trans rfl⟩ (fun hHeld => ?_)
                 clear hK K
                 refine norm_ (a' := ?_) ?_ ?_
                 rotate_left
                 ·show Act.put _ (some 15) _ = _
                  simp only [Act.put, List.setIfInBounds_toArray, List.set_cons_zero, List.set_cons_succ, i64_w, i32_w]
                  rfl
                 exact norm_ zA2_3 (hJ4_8_14 (v106, v109, v115) _ ⟨hHeld, zA2_24, zA2_18, zA2_8, zA2_1, zA2_2, zA2_0⟩)
                ·skip
                 refine Kd.R_make_step (Kd.int .i64) _ 3 (by rfl) (N := 18) rfl 24 _ _ rfl a0_0 rfl rfl Try.underlying24 (.int .i64 0) 8 info3 rfl (by decide) (by omega) 0 (ok := fun _ => True) (okp := fun _ => True) rfl (fun _ hk => hk) trivial (of_decide_eq_true zA2_4) (Nat.le_trans (Nat.mul_le_mul_right _ (of_decide_eq_true zA2_4 : a0_0.toNat ≤ 35184372088832)) (by omega)) (Below.refl _ _) (Nat.le_refl _) ?_
                 intro v112 w20 ho21 hb hg_ hnew_
                 clear hg_ hnew_
                 (first | rw [← Ny111.out] at ho21 | (simp only [Int.reduceToNat] at ho21; rw [← Ny111.out] at ho21))
                 have n0_ := Aside0.mk (Kd.R_elder' zA2_5 (Kd.R_base ho21) hb)
                 have n1_ := Aside0.mk (Kd.R_elder' zA2_8 (Kd.R_base ho21) hb)
                 have n2_ := Aside0.mk (Kd.R_lower (Kd.R_new' (Kd.R_new' ho21 (Kd.R_lt zA2_5)) (Kd.R_lt zA2_8)) (below_size zA2_0))
                 have n3_ := Aside0.mk (blk_below zA2_1 hb)
                 have n4_ := Aside0.mk (blk_below zA2_2 hb)
                 have n5_ := Aside0.mk (below_step zA2_0 hb)
                 clear HO107
                 clear HO116
                 clear BK102
                 clear BK103
                 clear HB
                 have HO107 := n0_
                 have HO116 := n1_
                 have HO113 := n2_
                 have BK102 := n3_
                 have BK103 := n4_
                 have HB := n5_
                 clear n0_ n1_ n2_ n3_ n4_ n5_
                 clear hb ho21
                 refine hK.out _ _ ⟨(blk_cell BK102.out 0).trans rfl, (blk_cell BK102.out 1).trans rfl, (blk_cell BK102.out 2).trans rfl⟩ (fun hHeld => ?_)
                 clear hK K
                 refine norm_ (a' := ?_) ?_ ?_
                 rotate_left
                 ·show Act.put _ (some 18) _ = _
                  simp only [Act.put, List.setIfInBounds_toArray, List.set_cons_zero, List.set_cons_succ, i64_w, i32_w]
                  rfl
                 exact norm_ zA2_3 (hJ4_11_14 (v106, v112, v115) _ ⟨hHeld, zA2_24, zA2_19, zA2_8, zA2_1, zA2_2, zA2_0⟩)
              ·skip
               rintro ⟨v106, v112⟩ w19 ⟨hS_, h0_, h1_, h2_, h3_, h4_⟩
               have n0_ : Aside0 (Kd.R (Kd.int .i64) 3 w19 w.heap.size (fun k_ => some k_ ≠ (v112 : Value).ownBlock) v106 y105) := ⟨h0_⟩
               have n1_ : Aside0 (Kd.R (Kd.int .i64) 3 w19 w.heap.size (fun k_ => some k_ ≠ (v106 : Value).ownBlock) v112 y111) := ⟨h1_⟩
               have n2_ : Aside0 (w19.heap[gb102]? = some (.cells #[.int .i64 a0_0, .int .i64 a0_1, .int .i64 a0_2] 29 (0, 0))) := ⟨h2_⟩
               have n3_ : Aside0 (w19.heap[gb103]? = some (.cells #[.int .i64 0, .slice none 0 0, .slice none 0 0, .slice none 0 0, .slice none 0 0, .slice none 0 0, .slice none 0 0, .slice none 0 0, .slice none 0 0] 27 (0, 0))) := ⟨h3_⟩
               have n4_ : Aside0 (Below w.heap.size w w19) := ⟨h4_⟩
               clear BK102
               clear BK103
               clear HB
               clear h0_ h1_ h2_ h3_ h4_
               have HO107 := n0_
               have HO113 := n1_
               have BK102 := n2_
               have BK103 := n3_
               have HB := n4_
               clear n0_ n1_ n2_ n3_ n4_
               have hHeld : w19.cell? ⟨gb102, 0, none⟩ = some (.int .i64 a0_0) ∧ w19.cell? ⟨gb102, 1, none⟩ = some (.int .i64 a0_1) ∧ w19.cell? ⟨gb102, 2, none⟩ = some (.int .i64 a0_2) := hS_
               refine norm_ (a' := ?_) ?_ ?_
               rotate_left
               ·simp only [putAll, Act.put, List.setIfInBounds_toArray, List.set_cons_zero, List.set_cons_succ]
                rfl
               refine two_ (i := 8) (j := 14) (Ni := some 15) (Nj := some 21) zl2_1 zl2_3 rfl rfl rfl rfl (two_of HT_.out zA2_26) (by decide) (by decide) (fun K hK => ?_) (fun K hK => ?_)
               ·skip
                refine Kd.R_make_step (Kd.int .i64) _ 3 (by rfl) (N := 15) rfl 24 _ _ rfl ji6 rfl rfl Try.underlying24 (.int .i64 0) 8 info3 rfl (by decide) (by omega) 0 (ok := fun _ => True) (okp := fun _ => True) rfl (fun _ hk => hk) trivial (of_decide_eq_true zA2_4) (Nat.le_trans (Nat.mul_le_mul_right _ (of_decide_eq_true zA2_4 : ji6.toNat ≤ 35184372088832)) (by omega)) (Below.refl _ _) (Nat.le_refl _) ?_
                intro v109 w20 ho21 hb hg_ hnew_
                clear hg_ hnew_
                (first | rw [← Ny108.out] at ho21 | (simp only [Int.reduceToNat] at ho21; rw [← Ny108.out] at ho21))
                have n0_ := Aside0.mk (Kd.R_elder' zA2_5 (Kd.R_base ho21) hb)
                have n1_ := Aside0.mk (Kd.R_elder' zA2_7 (Kd.R_base ho21) hb)
                have n2_ := Aside0.mk (Kd.R_lower (Kd.R_new' (Kd.R_new' ho21 (Kd.R_lt zA2_5)) (Kd.R_lt zA2_7)) (below_size zA2_0))
                have n3_ := Aside0.mk (blk_below zA2_1 hb)
                have n4_ := Aside0.mk (blk_below zA2_2 hb)
                have n5_ := Aside0.mk (below_step zA2_0 hb)
                clear HO107
                clear HO113
                clear BK102
                clear BK103
                clear HB
                have HO107 := n0_
                have HO113 := n1_
                have HO110 := n2_
                have BK102 := n3_
                have BK103 := n4_
                have HB := n5_
                clear n0_ n1_ n2_ n3_ n4_ n5_
                clear hb ho21
                refine hK.out _ _ ⟨(blk_cell BK102.out 0).trans rfl, (blk_cell BK102.out 1).trans rfl, (blk_cell BK102.out 2).trans rfl⟩ (fun hHeld => ?_)
                clear hK K
                refine norm_ (a' := ?_) ?_ ?_
                rotate_left
                ·show Act.put _ (some 15) _ = _
                 simp only [Act.put, List.setIfInBounds_toArray, List.set_cons_zero, List.set_cons_succ, i64_w, i32_w]
                 rfl
                exact norm_ zA2_3 (hJ4_8_11 (v106, v109, v112) _ ⟨hHeld, zA2_24, zA2_18, zA2_7, zA2_1, zA2_2, zA2_0⟩)
               ·skip
                refine Kd.R_make_step (Kd.int .i64) _ 3 (by rfl) (N := 21) rfl 24 _ _ rfl a0_0 rfl rfl Try.underlying24 (.int .i64 0) 8 info3 rfl (by decide) (by omega) 0 (ok := fun _ => True) (okp := fun _ => True) rfl (fun _ hk => hk) trivial (of_decide_eq_true zA2_4) (Nat.le_trans (Nat.mul_le_mul_right _ (of_decide_eq_true zA2_4 : a0_0.toNat ≤ 35184372088832)) (by omega)) (Below.refl _ _) (Nat.le_refl _) ?_
                intro v115 w20 ho21 hb hg_ hnew_
                clear hg_ hnew_
                (first | rw [← Ny114.out] at ho21 | (simp only [Int.reduceToNat] at ho21; rw [← Ny114.out] at ho21))
                have n0_ := Aside0.mk (Kd.R_elder' zA2_5 (Kd.R_base ho21) hb)
                have n1_ := Aside0.mk (Kd.R_elder' zA2_7 (Kd.R_base ho21) hb)
                have n2_ := Aside0.mk (Kd.R_lower (Kd.R_new' (Kd.R_new' ho21 (Kd.R_lt zA2_5)) (Kd.R_lt zA2_7)) (below_size zA2_0))
                have n3_ := Aside0.mk (blk_below zA2_1 hb)
                have n4_ := Aside0.mk (blk_below zA2_2 hb)
                have n5_ := Aside0.mk (below_step zA2_0 hb)
                clear HO107
                clear HO113
                clear BK102
                clear BK103
                clear HB
                have HO107 := n0_
                have HO113 := n1_
                have HO116 := n2_
                have BK102 := n3_
                have BK103 := n4_
                have HB := n5_
                clear n0_ n1_ n2_ n3_ n4_ n5_
                clear hb ho21
                refine hK.out _ _ ⟨(blk_cell BK102.out 0).trans rfl, (blk_cell BK102.out 1).trans rfl, (blk_cell BK102.out 2).trans rfl⟩ (fun hHeld => ?_)
                clear hK K
                refine norm_ (a' := ?_) ?_ ?_
                rotate_left
                ·show Act.put _ (some 21) _ = _
                 simp only [Act.put, List.setIfInBounds_toArray, List.set_cons_zero, List.set_cons_succ, i64_w, i32_w]
                 rfl
                exact norm_ zA2_3 (hJ4_11_14 (v106, v112, v115) _ ⟨hHeld, zA2_5, zA2_7, zA2_20, zA2_1, zA2_2, zA2_0⟩)
             ·skip
              rintro ⟨v106, v109⟩ w19 ⟨hS_, h0_, h1_, h2_, h3_, h4_⟩
              have n0_ : Aside0 (Kd.R (Kd.int .i64) 3 w19 w.heap.size (fun k_ => some k_ ≠ (v109 : Value).ownBlock) v106 y105) := ⟨h0_⟩
              have n1_ : Aside0 (Kd.R (Kd.int .i64) 3 w19 w.heap.size (fun k_ => some k_ ≠ (v106 : Value).ownBlock) v109 y108) := ⟨h1_⟩
              have n2_ : Aside0 (w19.heap[gb102]? = some (.cells #[.int .i64 a0_0, .int .i64 a0_1, .int .i64 a0_2] 29 (0, 0))) := ⟨h2_⟩
              have n3_ : Aside0 (w19.heap[gb103]? = some (.cells #[.int .i64 0, .slice none 0 0, .slice none 0 0, .slice none 0 0, .slice none 0 0, .slice none 0 0, .slice none 0 0, .slice none 0 0, .slice none 0 0] 27 (0, 0))) := ⟨h3_⟩
              have n4_ : Aside0 (Below w.heap.size w w19) := ⟨h4_⟩
              clear BK102
              clear BK103
              clear HB
              clear h0_ h1_ h2_ h3_ h4_
              have HO107 := n0_
              have HO110 := n1_
              have BK102 := n2_
              have BK103 := n3_
              have HB := n4_
              clear n0_ n1_ n2_ n3_ n4_
              have hHeld : w19.cell? ⟨gb102, 0, none⟩ = some (.int .i64 a0_0) ∧ w19.cell? ⟨gb102, 1, none⟩ = some (.int .i64 a0_1) ∧ w19.cell? ⟨gb102, 2, none⟩ = some (.int .i64 a0_2) := hS_
              refine norm_ (a' := ?_) ?_ ?_
              rotate_left
              ·simp only [putAll, Act.put, List.setIfInBounds_toArray, List.set_cons_zero, List.set_cons_succ]
               rfl
              refine two_ (i := 11) (j := 14) (Ni := some 18) (Nj := some 21) zl2_1 zl2_2 rfl rfl rfl rfl (two_of HT_.out zA2_26) (by decide) (by decide) (fun K hK => ?_) (fun K hK => ?_)
              ·skip
               refine Kd.R_make_step (Kd.int .i64) _ 3 (by rfl) (N := 18) rfl 24 _ _ rfl a0_0 rfl rfl Try.underlying24 (.int .i64 0) 8 info3 rfl (by decide) (by omega) 0 (ok := fun _ => True) (okp := fun _ => True) rfl (fun _ hk => hk) trivial (of_decide_eq_true zA2_4) (Nat.le_trans (Nat.mul_le_mul_right _ (of_decide_eq_true zA2_4 : a0_0.toNat ≤ 35184372088832)) (by omega)) (Below.refl _ _) (Nat.le_refl _) ?_
               intro v112 w20 ho21 hb hg_ hnew_
               clear hg_ hnew_
               (first | rw [← Ny111.out] at ho21 | (simp only [Int.reduceToNat] at ho21; rw [← Ny111.out] at ho21))
               have n0_ := Aside0.mk (Kd.R_elder' zA2_5 (Kd.R_base ho21) hb)
               have n1_ := Aside0.mk (Kd.R_elder' zA2_6 (Kd.R_base ho21) hb)
               have n2_ := Aside0.mk (Kd.R_lower (Kd.R_new' (Kd.R_new' ho21 (Kd.R_lt zA2_5)) (Kd.R_lt zA2_6)) (below_size zA2_0))
               have n3_ := Aside0.mk (blk_below zA2_1 hb)
               have n4_ := Aside0.mk (blk_below zA2_2 hb)
               have n5_ := Aside0.mk (below_step zA2_0 hb)
               clear HO107
               clear HO110
               clear BK102
               clear BK103
               clear HB
               have HO107 := n0_
               have HO110 := n1_
               have HO113 := n2_
               have BK102 := n3_
               have BK103 := n4_
               have HB := n5_
               clear n0_ n1_ n2_ n3_ n4_ n5_
               clear hb ho21
               refine hK.out _ _ ⟨(blk_cell BK102.out 0).trans rfl, (blk_cell BK102.out 1).trans rfl, (blk_cell BK102.out 2).trans rfl⟩ (fun hHeld => ?_)
               clear hK K
               refine norm_ (a' := ?_) ?_ ?_
               rotate_left
               ·show Act.put _ (some 18) _ = _
                simp only [Act.put, List.setIfInBounds_toArray, List.set_cons_zero, List.set_cons_succ, i64_w, i32_w]
                rfl
               exact norm_ zA2_3 (hJ4_8_11 (v106, v109, v112) _ ⟨hHeld, zA2_5, zA2_6, zA2_19, zA2_1, zA2_2, zA2_0⟩)
              ·skip
               refine Kd.R_make_step (Kd.int .i64) _ 3 (by rfl) (N := 21) rfl 24 _ _ rfl a0_0 rfl rfl Try.underlying24 (.int .i64 0) 8 info3 rfl (by decide) (by omega) 0 (ok := fun _ => True) (okp := fun _ => True) rfl (fun _ hk => hk) trivial (of_decide_eq_true zA2_4) (Nat.le_trans (Nat.mul_le_mul_right _ (of_decide_eq_true zA2_4 : a0_0.toNat ≤ 35184372088832)) (by omega)) (Below.refl _ _) (Nat.le_refl _) ?_
               intro v115 w20 ho21 hb hg_ hnew_
               clear hg_ hnew_
               (first | rw [← Ny114.out] at ho21 | (simp only [Int.reduceToNat] at ho21; rw [← Ny114.out] at ho21))
               have n0_ := Aside0.mk (Kd.R_elder' zA2_5 (Kd.R_base ho21) hb)
               have n1_ := Aside0.mk (Kd.R_elder' zA2_6 (Kd.R_base ho21) hb)
               have n2_ := Aside0.mk (Kd.R_lower (Kd.R_new' (Kd.R_new' ho21 (Kd.R_lt zA2_5)) (Kd.R_lt zA2_6)) (below_size zA2_0))
               have n3_ := Aside0.mk (blk_below zA2_1 hb)
               have n4_ := Aside0.mk (blk_below zA2_2 hb)
               have n5_ := Aside0.mk (below_step zA2_0 hb)
               clear HO107
               clear HO110
               clear BK102
               clear BK103
               clear HB
               have HO107 := n0_
               have HO110 := n1_
               have HO116 := n2_
               have BK102 := n3_
               have BK103 := n4_
               have HB := n5_
               clear n0_ n1_ n2_ n3_ n4_ n5_
               clear hb ho21
               refine hK.out _ _ ⟨(blk_cell BK102.out 0).trans rfl, (blk_cell BK102.out 1).trans rfl, (blk_cell BK102.out 2).trans rfl⟩ (fun hHeld => ?_)
               clear hK K
               refine norm_ (a' := ?_) ?_ ?_
               rotate_left
               ·show Act.put _ (some 21) _ = _
                simp only [Act.put, List.setIfInBounds_toArray, List.set_cons_zero, List.set_cons_succ, i64_w, i32_w]
                rfl
               exact norm_ zA2_3 (hJ4_8_14 (v106, v109, v115) _ ⟨hHeld, zA2_5, zA2_6, zA2_20, zA2_1, zA2_2, zA2_0⟩)
            ·skip
             rintro ⟨v109, v112, v115⟩ w21 ⟨hS_, h0_, h1_, h2_, h3_, h4_, h5_⟩
             have n0_ : Aside0 (Kd.R (Kd.int .i64) 3 w21 w.heap.size (fun k_ => some k_ ≠ (v112 : Value).ownBlock ∧ some k_ ≠ (v115 : Value).ownBlock) v109 y108) := ⟨h0_⟩
             have n1_ : Aside0 (Kd.R (Kd.int .i64) 3 w21 w.heap.size (fun k_ => some k_ ≠ (v109 : Value).ownBlock ∧ some k_ ≠ (v115 : Value).ownBlock) v112 y111) := ⟨h1_⟩
             have n2_ : Aside0 (Kd.R (Kd.int .i64) 3 w21 w.heap.size (fun k_ => some k_ ≠ (v109 : Value).ownBlock ∧ some k_ ≠ (v112 : Value).ownBlock) v115 y114) := ⟨h2_⟩
             have n3_ : Aside0 (w21.heap[gb102]? = some (.cells #[.int .i64 a0_0, .int .i64 a0_1, .int .i64 a0_2] 29 (0, 0))) := ⟨h3_⟩
             have n4_ : Aside0 (w21.heap[gb103]? = some (.cells #[.int .i64 0, .slice none 0 0, .slice none 0 0, .slice none 0 0, .slice none 0 0, .slice none 0 0, .slice none 0 0, .slice none 0 0, .slice none 0 0] 27 (0, 0))) := ⟨h4_⟩
             have n5_ : Aside0 (Below w.heap.size w w21) := ⟨h5_⟩
             clear BK102
             clear BK103
             clear HB
             clear h0_ h1_ h2_ h3_ h4_ h5_
             have HO110 := n0_
             have HO113 := n1_
             have HO116 := n2_
             have BK102 := n3_
             have BK103 := n4_
             have HB := n5_
             clear n0_ n1_ n2_ n3_ n4_ n5_
             have hHeld : w21.cell? ⟨gb102, 0, none⟩ = some (.int .i64 a0_0) ∧ w21.cell? ⟨gb102, 1, none⟩ = some (.int .i64 a0_1) ∧ w21.cell? ⟨gb102, 2, none⟩ = some (.int .i64 a0_2) := hS_
             refine norm_ (a' := ?_) ?_ ?_
             rotate_left
             ·simp only [putAll, Act.put, List.setIfInBounds_toArray, List.set_cons_zero, List.set_cons_succ]
              rfl
             refine one_ (i := 4) (N := some 11) zl2_0 rfl rfl (one_of HT_.out zA2_26) (by decide) (fun K hK => ?_)
             refine Kd.R_make_step (Kd.int .i64) _ 3 (by rfl) (N := 11) rfl 24 _ _ rfl a0_1 rfl rfl Try.underlying24 (.int .i64 0) 8 info3 rfl (by decide) (by omega) 0 (ok := fun _ => True) (okp := fun _ => True) rfl (fun _ hk => hk) trivial (of_decide_eq_true zA2_4) (Nat.le_trans (Nat.mul_le_mul_right _ (of_decide_eq_true zA2_4 : a0_1.toNat ≤ 35184372088832)) (by omega)) (Below.refl _ _) (Nat.le_refl _) ?_
             intro v106 w22 ho23 hb hg_ hnew_
             clear hg_ hnew_
             (first | rw [← Ny105.out] at ho23 | (simp only [Int.reduceToNat] at ho23; rw [← Ny105.out] at ho23))
             have n0_ := Aside0.mk (Kd.R_elder' zA2_6 (Kd.R_base ho23) hb)
             have n1_ := Aside0.mk (Kd.R_elder' zA2_7 (Kd.R_base ho23) hb)
             have n2_ := Aside0.mk (Kd.R_elder' zA2_8 (Kd.R_base ho23) hb)
             have n3_ := Aside0.mk (Kd.R_lower (Kd.R_new' (Kd.R_new' (Kd.R_new' ho23 (Kd.R_lt zA2_6)) (Kd.R_lt zA2_7)) (Kd.R_lt zA2_8)) (below_size zA2_0))
             have n4_ := Aside0.mk (blk_below zA2_1 hb)
             have n5_ := Aside0.mk (blk_below zA2_2 hb)
             have n6_ := Aside0.mk (below_step zA2_0 hb)
             clear HO110
             clear HO113
             clear HO116
             clear BK102
             clear BK103
             clear HB
             have HO110 := n0_
             have HO113 := n1_
             have HO116 := n2_
             have HO107 := n3_
             have BK102 := n4_
             have BK103 := n5_
             have HB := n6_
             clear n0_ n1_ n2_ n3_ n4_ n5_ n6_
             clear hb ho23
             obtain ⟨Ao24, co24, eo24⟩ := Kd.R_slice HO116.out
             (first | subst eo24 | (injection eo24 with f1_ f2_ f3_; have f4_ := f1_.symm; have f5_ := f3_.symm; clear f1_ f2_ f3_; subst f4_; subst f5_))
             obtain ⟨Ao25, co25, eo25⟩ := Kd.R_slice HO113.out
             (first | subst eo25 | (injection eo25 with f1_ f2_ f3_; have f4_ := f1_.symm; have f5_ := f3_.symm; clear f1_ f2_ f3_; subst f4_; subst f5_))
             obtain ⟨Ao26, co26, eo26⟩ := Kd.R_slice HO110.out
             (first | subst eo26 | (injection eo26 with f1_ f2_ f3_; have f4_ := f1_.symm; have f5_ := f3_.symm; clear f1_ f2_ f3_; subst f4_; subst f5_))
             obtain ⟨Ao27, co27, eo27⟩ := Kd.R_slice HO107.out
             (first | subst eo27 | (injection eo27 with f1_ f2_ f3_; have f4_ := f1_.symm; have f5_ := f3_.symm; clear f1_ f2_ f3_; subst f4_; subst f5_))
             refine hK.out _ _ ⟨(blk_cell BK102.out 0).trans rfl, (blk_cell BK102.out 1).trans rfl, (blk_cell BK102.out 2).trans rfl⟩ (fun hHeld => ?_)
             clear hK K
             refine norm_ (a' := ?_) ?_ ?_
             rotate_left
             ·show Act.put _ (some 11) _ = _
              simp only [Act.put, List.setIfInBounds_toArray, List.set_cons_zero, List.set_cons_succ, i64_w, i32_w]
              rfl
             exact norm_ zA2_3 (hJ4_8_11_14 (.slice Ao27 y105.length co27, .slice Ao26 y108.length co26, .slice Ao25 y111.length co25, .slice Ao24 y114.length co24) _ ⟨hHeld, (by (with_reducible repeat (first | apply Kd.R_alloc | apply Kd.R_drewN | apply Kd.R_drew)); exact Kd.R_mono HO107.out (fun _ hk => ⟨hk.1.1.2, ⟨hk.1.2, hk.2⟩⟩)), (by (with_reducible repeat (first | apply Kd.R_alloc | apply Kd.R_drewN | apply Kd.R_drew)); exact Kd.R_mono HO110.out (fun _ hk => ⟨hk.2, ⟨hk.1.1, hk.1.2⟩⟩)), (by (with_reducible repeat (first | apply Kd.R_alloc | apply Kd.R_drewN | apply Kd.R_drew)); exact Kd.R_mono HO113.out (fun _ hk => ⟨hk.2, ⟨hk.1.1, hk.1.2⟩⟩)), (by (with_reducible repeat (first | apply Kd.R_alloc | apply Kd.R_drewN | apply Kd.R_drew)); exact Kd.R_mono HO116.out (fun _ hk => ⟨hk.2, ⟨hk.1.1, hk.1.2⟩⟩)), zA2_1, zA2_2, zA2_0⟩)
           ·skip
            rintro ⟨v106, v112, v115⟩ w21 ⟨hS_, h0_, h1_, h2_, h3_, h4_, h5_⟩
            have n0_ : Aside0 (Kd.R (Kd.int .i64) 3 w21 w.heap.size (fun k_ => some k_ ≠ (v112 : Value).ownBlock ∧ some k_ ≠ (v115 : Value).ownBlock) v106 y105) := ⟨h0_⟩
            have n1_ : Aside0 (Kd.R (Kd.int .i64) 3 w21 w.heap.size (fun k_ => some k_ ≠ (v106 : Value).ownBlock ∧ some k_ ≠ (v115 : Value).ownBlock) v112 y111) := ⟨h1_⟩
            have n2_ : Aside0 (Kd.R (Kd.int .i64) 3 w21 w.heap.size (fun k_ => some k_ ≠ (v106 : Value).ownBlock ∧ some k_ ≠ (v112 : Value).ownBlock) v115 y114) := ⟨h2_⟩
            have n3_ : Aside0 (w21.heap[gb102]? = some (.cells #[.int .i64 a0_0, .int .i64 a0_1, .int .i64 a0_2] 29 (0, 0))) := ⟨h3_⟩
            have n4_ : Aside0 (w21.heap[gb103]? = some (.cells #[.int .i64 0, .slice none 0 0, .slice none 0 0, .slice none 0 0, .slice none 0 0, .slice none 0 0, .slice none 0 0, .slice none 0 0, .slice none 0 0] 27 (0, 0))) := ⟨h4_⟩
            have n5_ : Aside0 (Below w.heap.size w w21) := ⟨h5_⟩
            clear BK102
            clear BK103
            clear HB
            clear h0_ h1_ h2_ h3_ h4_ h5_
            have HO107 := n0_
            have HO113 := n1_
            have HO116 := n2_
            have BK102 := n3_
            have BK103 := n4_
            have HB := n5_
            clear n0_ n1_ n2_ n3_ n4_ n5_
            have hHeld : w21.cell? ⟨gb102, 0, none⟩ = some (.int .i64 a0_0) ∧ w21.cell? ⟨gb102, 1, none⟩ = some (.int .i64 a0_1) ∧ w21.cell? ⟨gb102, 2, none⟩ = some (.int .i64 a0_2) := hS_
            refine norm_ (a' := ?_) ?_ ?_
            rotate_left
            ·simp only [putAll, Act.put, List.setIfInBounds_toArray, List.set_cons_zero, List.set_cons_succ]
             rfl
            refine one_ (i := 8) (N := some 15) zl2_0 rfl rfl (one_of HT_.out zA2_26) (by decide) (fun K hK => ?_)
            refine Kd.R_make_step (Kd.int .i64) _ 3 (by rfl) (N := 15) rfl 24 _ _ rfl ji6 rfl rfl Try.underlying24 (.int .i64 0) 8 info3 rfl (by decide) (by omega) 0 (ok := fun _ => True) (okp := fun _ => True) rfl (fun _ hk => hk) trivial (of_decide_eq_true zA2_4) (Nat.le_trans (Nat.mul_le_mul_right _ (of_decide_eq_true zA2_4 : ji6.toNat ≤ 35184372088832)) (by omega)) (Below.refl _ _) (Nat.le_refl _) ?_
            intro v109 w22 ho23 hb hg_ hnew_
            clear hg_ hnew_
            (first | rw [← Ny108.out] at ho23 | (simp only [Int.reduceToNat] at ho23; rw [← Ny108.out] at ho23))
            have n0_ := Aside0.mk (Kd.R_elder' zA2_5 (Kd.R_base ho23) hb)
            have n1_ := Aside0.mk (Kd.R_elder' zA2_7 (Kd.R_base ho23) hb)
            have n2_ := Aside0.mk (Kd.R_elder' zA2_8 (Kd.R_base ho23) hb)
            have n3_ := Aside0.mk (Kd.R_lower (Kd.R_new' (Kd.R_new' (Kd.R_new' ho23 (Kd.R_lt zA2_5)) (Kd.R_lt zA2_7)) (Kd.R_lt zA2_8)) (below_size zA2_0))
            have n4_ := Aside0.mk (blk_below zA2_1 hb)
            have n5_ := Aside0.mk (blk_below zA2_2 hb)
            have n6_ := Aside0.mk (below_step zA2_0 hb)
            clear HO107
            clear HO113
            clear HO116
            clear BK102
            clear BK103
            clear HB
            have HO107 := n0_
            have HO113 := n1_
            have HO116 := n2_
            have HO110 := n3_
            have BK102 := n4_
            have BK103 := n5_
            have HB := n6_
            clear n0_ n1_ n2_ n3_ n4_ n5_ n6_
            clear hb ho23
            obtain ⟨Ao24, co24, eo24⟩ := Kd.R_slice HO116.out
            (first | subst eo24 | (injection eo24 with f1_ f2_ f3_; have f4_ := f1_.symm; have f5_ := f3_.symm; clear f1_ f2_ f3_; subst f4_; subst f5_))
            obtain ⟨Ao25, co25, eo25⟩ := Kd.R_slice HO113.out
            (first | subst eo25 | (injection eo25 with f1_ f2_ f3_; have f4_ := f1_.symm; have f5_ := f3_.symm; clear f1_ f2_ f3_; subst f4_; subst f5_))
            obtain ⟨Ao26, co26, eo26⟩ := Kd.R_slice HO110.out
            (first | subst eo26 | (injection eo26 with f1_ f2_ f3_; have f4_ := f1_.symm; have f5_ := f3_.symm; clear f1_ f2_ f3_; subst f4_; subst f5_))
            obtain ⟨Ao27, co27, eo27⟩ := Kd.R_slice HO107.out
            (first | subst eo27 | (injection eo27 with f1_ f2_ f3_; have f4_ := f1_.symm; have f5_ := f3_.symm; clear f1_ f2_ f3_; subst f4_; subst f5_))
            refine hK.out _ _ ⟨(blk_cell BK102.out 0).trans rfl, (blk_cell BK102.out 1).trans rfl, (blk_cell BK102.out 2).trans rfl⟩ (fun hHeld => ?_)
            clear hK K
            refine norm_ (a' := ?_) ?_ ?_
            rotate_left
            ·show Act.put _ (some 15) _ = _
             simp only [Act.put, List.setIfInBounds_toArray, List.set_cons_zero, List.set_cons_succ, i64_w, i32_w]
             rfl
            exact norm_ zA2_3 (hJ4_8_11_14 (.slice Ao27 y105.length co27, .slice Ao26 y108.length co26, .slice Ao25 y111.length co25, .slice Ao24 y114.length co24) _ ⟨hHeld, (by (with_reducible repeat (first | apply Kd.R_alloc | apply Kd.R_drewN | apply Kd.R_drew)); exact Kd.R_mono HO107.out (fun _ hk => ⟨hk.2, ⟨hk.1.1, hk.1.2⟩⟩)), (by (with_reducible repeat (first | apply Kd.R_alloc | apply Kd.R_drewN | apply Kd.R_drew)); exact Kd.R_mono HO110.out (fun _ hk => ⟨hk.1.1.2, ⟨hk.1.2, hk.2⟩⟩)), (by (with_reducible repeat (first | apply Kd.R_alloc | apply Kd.R_drewN | apply Kd.R_drew)); exact Kd.R_mono HO113.out (fun _ hk => ⟨hk.1.1, ⟨hk.2, hk.1.2⟩⟩)), (by (with_reducible repeat (first | apply Kd.R_alloc | apply Kd.R_drewN | apply Kd.R_drew)); exact Kd.R_mono HO116.out (fun _ hk => ⟨hk.1.1, ⟨hk.2, hk.1.2⟩⟩)), zA2_1, zA2_2, zA2_0⟩)
          ·skip
           rintro ⟨v106, v109, v115⟩ w21 ⟨hS_, h0_, h1_, h2_, h3_, h4_, h5_⟩
           have n0_ : Aside0 (Kd.R (Kd.int .i64) 3 w21 w.heap.size (fun k_ => some k_ ≠ (v109 : Value).ownBlock ∧ some k_ ≠ (v115 : Value).ownBlock) v106 y105) := ⟨h0_⟩
           have n1_ : Aside0 (Kd.R (Kd.int .i64) 3 w21 w.heap.size (fun k_ => some k_ ≠ (v106 : Value).ownBlock ∧ some k_ ≠ (v115 : Value).ownBlock) v109 y108) := ⟨h1_⟩
           have n2_ : Aside0 (Kd.R (Kd.int .i64) 3 w21 w.heap.size (fun k_ => some k_ ≠ (v106 : Value).ownBlock ∧ some k_ ≠ (v109 : Value).ownBlock) v115 y114) := ⟨h2_⟩
           have n3_ : Aside0 (w21.heap[gb102]? = some (.cells #[.int .i64 a0_0, .int .i64 a0_1, .int .i64 a0_2] 29 (0, 0))) := ⟨h3_⟩
           have n4_ : Aside0 (w21.heap[gb103]? = some (.cells #[.int .i64 0, .slice none 0 0, .slice none 0 0, .slice none 0 0, .slice none 0 0, .slice none 0 0, .slice none 0 0, .slice none 0 0, .slice none 0 0] 27 (0, 0))) := ⟨h4_⟩
           have n5_ : Aside0 (Below w.heap.size w w21) := ⟨h5_⟩
           clear BK102
           clear BK103
           clear HB
           clear h0_ h1_ h2_ h3_ h4_ h5_
           have HO107 := n0_
           have HO110 := n1_
           have HO116 := n2_
           have BK102 := n3_
           have BK103 := n4_
           have HB := n5_
           clear n0_ n1_ n2_ n3_ n4_ n5_
           have hHeld : w21.cell? ⟨gb102, 0, none⟩ = some (.int .i64 a0_0) ∧ w21.cell? ⟨gb102, 1, none⟩ = some (.int .i64 a0_1) ∧ w21.cell? ⟨gb102, 2, none⟩ = some (.int .i64 a0_2) := hS_
           refine norm_ (a' := ?_) ?_ ?_
           rotate_left
           ·simp only [putAll, Act.put, List.setIfInBounds_toArray, List.set_cons_zero, List.set_cons_succ]
            rfl
           refine one_ (i := 11) (N := some 18) zl2_0 rfl rfl (one_of HT_.out zA2_26) (by decide) (fun K hK => ?_)
           refine Kd.R_make_step (Kd.int .i64) _ 3 (by rfl) (N := 18) rfl 24 _ _ rfl a0_0 rfl rfl Try.underlying24 (.int .i64 0) 8 info3 rfl (by decide) (by omega) 0 (ok := fun _ => True) (okp := fun _ => True) rfl (fun _ hk => hk) trivial (of_decide_eq_true zA2_4) (Nat.le_trans (Nat.mul_le_mul_right _ (of_decide_eq_true zA2_4 : a0_0.toNat ≤ 35184372088832)) (by omega)) (Below.refl _ _) (Nat.le_refl _) ?_
           intro v112 w22 ho23 hb hg_ hnew_
           clear hg_ hnew_
           (first | rw [← Ny111.out] at ho23 | (simp only [Int.reduceToNat] at ho23; rw [← Ny111.out] at ho23))
           have n0_ := Aside0.mk (Kd.R_elder' zA2_5 (Kd.R_base ho23) hb)
           have n1_ := Aside0.mk (Kd.R_elder' zA2_6 (Kd.R_base ho23) hb)
           have n2_ := Aside0.mk (Kd.R_elder' zA2_8 (Kd.R_base ho23) hb)
           have n3_ := Aside0.mk (Kd.R_lower (Kd.R_new' (Kd.R_new' (Kd.R_new' ho23 (Kd.R_lt zA2_5)) (Kd.R_lt zA2_6)) (Kd.R_lt zA2_8)) (below_size zA2_0))
           have n4_ := Aside0.mk (blk_below zA2_1 hb)
           have n5_ := Aside0.mk (blk_below zA2_2 hb)
           have n6_ := Aside0.mk (below_step zA2_0 hb)
           clear HO107
           clear HO110
           clear HO116
           clear BK102
           clear BK103
           clear HB
           have HO107 := n0_
           have HO110 := n1_
           have HO116 := n2_
           have HO113 := n3_
           have BK102 := n4_
           have BK103 := n5_
           have HB := n6_
           clear n0_ n1_ n2_ n3_ n4_ n5_ n6_
           clear hb ho23
           obtain ⟨Ao24, co24, eo24⟩ := Kd.R_slice HO116.out
           (first | subst eo24 | (injection eo24 with f1_ f2_ f3_; have f4_ := f1_.symm; have f5_ := f3_.symm; clear f1_ f2_ f3_; subst f4_; subst f5_))
           obtain ⟨Ao25, co25, eo25⟩ := Kd.R_slice HO113.out
           (first | subst eo25 | (injection eo25 with f1_ f2_ f3_; have f4_ := f1_.symm; have f5_ := f3_.symm; clear f1_ f2_ f3_; subst f4_; subst f5_))
           obtain ⟨Ao26, co26, eo26⟩ := Kd.R_slice HO110.out
           (first | subst eo26 | (injection eo26 with f1_ f2_ f3_; have f4_ := f1_.symm; have f5_ := f3_.symm; clear f1_ f2_ f3_; subst f4_; subst f5_))
           obtain ⟨Ao27, co27, eo27⟩ := Kd.R_slice HO107.out
           (first | subst eo27 | (injection eo27 with f1_ f2_ f3_; have f4_ := f1_.symm; have f5_ := f3_.symm; clear f1_ f2_ f3_; subst f4_; subst f5_))
           refine hK.out _ _ ⟨(blk_cell BK102.out 0).trans rfl, (blk_cell BK102.out 1).trans rfl, (blk_cell BK102.out 2).trans rfl⟩ (fun hHeld => ?_)
           clear hK K
           refine norm_ (a' := ?_) ?_ ?_
           rotate_left
           ·show Act.put _ (some 18) _ = _
            simp only [Act.put, List.setIfInBounds_toArray, List.set_cons_zero, List.set_cons_succ, i64_w, i32_w]
            rfl
           exact norm_ zA2_3 (hJ4_8_11_14 (.slice Ao27 y105.length co27, .slice Ao26 y108.length co26, .slice Ao25 y111.length co25, .slice Ao24 y114.length co24) _ ⟨hHeld, (by (with_reducible repeat (first | apply Kd.R_alloc | apply Kd.R_drewN | apply Kd.R_drew)); exact Kd.R_mono HO107.out (fun _ hk => ⟨hk.1.1, ⟨hk.2, hk.1.2⟩⟩)), (by (with_reducible repeat (first | apply Kd.R_alloc | apply Kd.R_drewN | apply Kd.R_drew)); exact Kd.R_mono HO110.out (fun _ hk => ⟨hk.1.1, ⟨hk.2, hk.1.2⟩⟩)), (by (with_reducible repeat (first | apply Kd.R_alloc | apply Kd.R_drewN | apply Kd.R_drew)); exact Kd.R_mono HO113.out (fun _ hk => ⟨hk.1.1.2, ⟨hk.1.2, hk.2⟩⟩)), (by (with_reducible repeat (first | apply Kd.R_alloc | apply Kd.R_drewN | apply Kd.R_drew)); exact Kd.R_mono HO116.out (fun _ hk => ⟨hk.1.1, ⟨hk.1.2, hk.2⟩⟩)), zA2_1, zA2_2, zA2_0⟩)
         ·skip
          rintro ⟨v106, v109, v112⟩ w21 ⟨hS_, h0_, h1_, h2_, h3_, h4_, h5_⟩
          have n0_ : Aside0 (Kd.R (Kd.int .i64) 3 w21 w.heap.size (fun k_ => some k_ ≠ (v109 : Value).ownBlock ∧ some k_ ≠ (v112 : Value).ownBlock) v106 y105) := ⟨h0_⟩
          have n1_ : Aside0 (Kd.R (Kd.int .i64) 3 w21 w.heap.size (fun k_ => some k_ ≠ (v106 : Value).ownBlock ∧ some k_ ≠ (v112 : Value).ownBlock) v109 y108) := ⟨h1_⟩
          have n2_ : Aside0 (Kd.R (Kd.int .i64) 3 w21 w.heap.size (fun k_ => some k_ ≠ (v106 : Value).ownBlock ∧ some k_ ≠ (v109 : Value).ownBlock) v112 y111) := ⟨h2_⟩
          have n3_ : Aside0 (w21.heap[gb102]? = some (.cells #[.int .i64 a0_0, .int .i64 a0_1, .int .i64 a0_2] 29 (0, 0))) := ⟨h3_⟩
          have n4_ : Aside0 (w21.heap[gb103]? = some (.cells #[.int .i64 0, .slice none 0 0, .slice none 0 0, .slice none 0 0, .slice none 0 0, .slice none 0 0, .slice none 0 0, .slice none 0 0, .slice none 0 0] 27 (0, 0))) := ⟨h4_⟩
          have n5_ : Aside0 (Below w.heap.size w w21) := ⟨h5_⟩
          clear BK102
          clear BK103
          clear HB
          clear h0_ h1_ h2_ h3_ h4_ h5_
          have HO107 := n0_
          have HO110 := n1_
          have HO113 := n2_
          have BK102 := n3_
          have BK103 := n4_
          have HB := n5_
          clear n0_ n1_ n2_ n3_ n4_ n5_
          have hHeld : w21.cell? ⟨gb102, 0, none⟩ = some (.int .i64 a0_0) ∧ w21.cell? ⟨gb102, 1, none⟩ = some (.int .i64 a0_1) ∧ w21.cell? ⟨gb102, 2, none⟩ = some (.int .i64 a0_2) := hS_
          refine norm_ (a' := ?_) ?_ ?_
          rotate_left
          ·simp only [putAll, Act.put, List.setIfInBounds_toArray, List.set_cons_zero, List.set_cons_succ]
           rfl
          refine one_ (i := 14) (N := some 21) zl2_0 rfl rfl (one_of HT_.out zA2_26) (by decide) (fun K hK => ?_)
          refine Kd.R_make_step (Kd.int .i64) _ 3 (by rfl) (N := 21) rfl 24 _ _ rfl a0_0 rfl rfl Try.underlying24 (.int .i64 0) 8 info3 rfl (by decide) (by omega) 0 (ok := fun _ => True) (okp := fun _ => True) rfl (fun _ hk => hk) trivial (of_decide_eq_true zA2_4) (Nat.le_trans (Nat.mul_le_mul_right _ (of_decide_eq_true zA2_4 : a0_0.toNat ≤ 35184372088832)) (by omega)) (Below.refl _ _) (Nat.le_refl _) ?_
          intro v115 w22 ho23 hb hg_ hnew_
          clear hg_ hnew_
          (first | rw [← Ny114.out] at ho23 | (simp only [Int.reduceToNat] at ho23; rw [← Ny114.out] at ho23))
          have n0_ := Aside0.mk (Kd.R_elder' zA2_5 (Kd.R_base ho23) hb)
          have n1_ := Aside0.mk (Kd.R_elder' zA2_6 (Kd.R_base ho23) hb)
          have n2_ := Aside0.mk (Kd.R_elder' zA2_7 (Kd.R_base ho23) hb)
          have n3_ := Aside0.mk (Kd.R_lower (Kd.R_new' (Kd.R_new' (Kd.R_new' ho23 (Kd.R_lt zA2_5)) (Kd.R_lt zA2_6)) (Kd.R_lt zA2_7)) (below_size zA2_0))
          have n4_ := Aside0.mk (blk_below zA2_1 hb)
          have n5_ := Aside0.mk (blk_below zA2_2 hb)
          have n6_ := Aside0.mk (below_step zA2_0 hb)
          clear HO107
          clear HO110
          clear HO113
          clear BK102
          clear BK103
          clear HB
          have HO107 := n0_
          have HO110 := n1_
          have HO113 := n2_
          have HO116 := n3_
          have BK102 := n4_
          have BK103 := n5_
          have HB := n6_
          clear n0_ n1_ n2_ n3_ n4_ n5_ n6_
          clear hb ho23
          obtain ⟨Ao24, co24, eo24⟩ := Kd.R_slice HO116.out
          (first | subst eo24 | (injection eo24 with f1_ f2_ f3_; have f4_ := f1_.symm; have f5_ := f3_.symm; clear f1_ f2_ f3_; subst f4_; subst f5_))
          obtain ⟨Ao25, co25, eo25⟩ := Kd.R_slice HO113.out
          (first | subst eo25 | (injection eo25 with f1_ f2_ f3_; have f4_ := f1_.symm; have f5_ := f3_.symm; clear f1_ f2_ f3_; subst f4_; subst f5_))
          obtain ⟨Ao26, co26, eo26⟩ := Kd.R_slice HO110.out
          (first | subst eo26 | (injection eo26 with f1_ f2_ f3_; have f4_ := f1_.symm; have f5_ := f3_.symm; clear f1_ f2_ f3_; subst f4_; subst f5_))
          obtain ⟨Ao27, co27, eo27⟩ := Kd.R_slice HO107.out
          (first | subst eo27 | (injection eo27 with f1_ f2_ f3_; have f4_ := f1_.symm; have f5_ := f3_.symm; clear f1_ f2_ f3_; subst f4_; subst f5_))
          refine hK.out _ _ ⟨(blk_cell BK102.out 0).trans rfl, (blk_cell BK102.out 1).trans rfl, (blk_cell BK102.out 2).trans rfl⟩ (fun hHeld => ?_)
          clear hK K
          refine norm_ (a' := ?_) ?_ ?_
          rotate_left
          ·show Act.put _ (some 21) _ = _
           simp only [Act.put, List.setIfInBounds_toArray, List.set_cons_zero, List.set_cons_succ, i64_w, i32_w]
           rfl
          exact norm_ zA2_3 (hJ4_8_11_14 (.slice Ao27 y105.length co27, .slice Ao26 y108.length co26, .slice Ao25 y111.length co25, .slice Ao24 y114.length co24) _ ⟨hHeld, (by (with_reducible repeat (first | apply Kd.R_alloc | apply Kd.R_drewN | apply Kd.R_drew)); exact Kd.R_mono HO107.out (fun _ hk => ⟨hk.1.1, ⟨hk.1.2, hk.2⟩⟩)), (by (with_reducible repeat (first | apply Kd.R_alloc | apply Kd.R_drewN | apply Kd.R_drew)); exact Kd.R_mono HO110.out (fun _ hk => ⟨hk.1.1, ⟨hk.1.2, hk.2⟩⟩)), (by (with_reducible repeat (first | apply Kd.R_alloc | apply Kd.R_drewN | apply Kd.R_drew)); exact Kd.R_mono HO113.out (fun _ hk => ⟨hk.1.1, ⟨hk.1.2, hk.2⟩⟩)), (by (with_reducible repeat (first | apply Kd.R_alloc | apply Kd.R_drewN | apply Kd.R_drew)); exact Kd.R_mono HO116.out (fun _ hk => ⟨hk.1.1.2, ⟨hk.1.2, hk.2⟩⟩)), zA2_1, zA2_2, zA2_0⟩)
        rintro ⟨v106, v109, v112, v115⟩ w27 ⟨hS_, h0_, h1_, h2_, h3_, h4_, h5_, h6_⟩
        have n0_ : Aside0 (Kd.R (Kd.int .i64) 3 w27 w.heap.size (fun k_ => some k_ ≠ (v109 : Value).ownBlock ∧ some k_ ≠ (v112 : Value).ownBlock ∧ some k_ ≠ (v115 : Value).ownBlock) v106 y105) := ⟨h0_⟩
        have n1_ : Aside0 (Kd.R (Kd.int .i64) 3 w27 w.heap.size (fun k_ => some k_ ≠ (v106 : Value).ownBlock ∧ some k_ ≠ (v112 : Value).ownBlock ∧ some k_ ≠ (v115 : Value).ownBlock) v109 y108) := ⟨h1_⟩
        have n2_ : Aside0 (Kd.R (Kd.int .i64) 3 w27 w.heap.size (fun k_ => some k_ ≠ (v106 : Value).ownBlock ∧ some k_ ≠ (v109 : Value).ownBlock ∧ some k_ ≠ (v115 : Value).ownBlock) v112 y111) := ⟨h2_⟩
        have n3_ : Aside0 (Kd.R (Kd.int .i64) 3 w27 w.heap.size (fun k_ => some k_ ≠ (v106 : Value).ownBlock ∧ some k_ ≠ (v109 : Value).ownBlock ∧ some k_ ≠ (v112 : Value).ownBlock) v115 y114) := ⟨h3_⟩
        have n4_ : Aside0 (w27.heap[gb102]? = some (.cells #[.int .i64 a0_0, .int .i64 a0_1, .int .i64 a0_2] 29 (0, 0))) := ⟨h4_⟩
        have n5_ : Aside0 (w27.heap[gb103]? = some (.cells #[.int .i64 0, .slice none 0 0, .slice none 0 0, .slice none 0 0, .slice none 0 0, .slice none 0 0, .slice none 0 0, .slice none 0 0, .slice none 0 0] 27 (0, 0))) := ⟨h5_⟩
        have n6_ : Aside0 (Below w.heap.size w w27) := ⟨h6_⟩
        clear BK102
        clear BK103
        clear HB
        clear h0_ h1_ h2_ h3_ h4_ h5_ h6_
        have HO107 := n0_
        have HO110 := n1_
        have HO113 := n2_
        have HO116 := n3_
        have BK102 := n4_
        have BK103 := n5_
        have HB := n6_
        clear n0_ n1_ n2_ n3_ n4_ n5_ n6_
        have hHeld : w27.cell? ⟨gb102, 0, none⟩ = some (.int .i64 a0_0) ∧ w27.cell? ⟨gb102, 1, none⟩ = some (.int .i64 a0_1) ∧ w27.cell? ⟨gb102, 2, none⟩ = some (.int .i64 a0_2) := hS_
        obtain ⟨Ao28, co28, eo28⟩ := Kd.R_slice HO116.out
        (first | subst eo28 | (injection eo28 with f1_ f2_ f3_; have f4_ := f1_.symm; have f5_ := f3_.symm; clear f1_ f2_ f3_; subst f4_; subst f5_))
        obtain ⟨Ao29, co29, eo29⟩ := Kd.R_slice HO113.out
        (first | subst eo29 | (injection eo29 with f1_ f2_ f3_; have f4_ := f1_.symm; have f5_ := f3_.symm; clear f1_ f2_ f3_; subst f4_; subst f5_))
        obtain ⟨Ao30, co30, eo30⟩ := Kd.R_slice HO110.out
        (first | subst eo30 | (injection eo30 with f1_ f2_ f3_; have f4_ := f1_.symm; have f5_ := f3_.symm; clear f1_ f2_ f3_; subst f4_; subst f5_))
        obtain ⟨Ao31, co31, eo31⟩ := Kd.R_slice HO107.out
        (first | subst eo31 | (injection eo31 with f1_ f2_ f3_; have f4_ := f1_.symm; have f5_ := f3_.symm; clear f1_ f2_ f3_; subst f4_; subst f5_))
        refine norm_ (a' := ?_) ?_ ?_
        rotate_left
        ·simp only [putAll, Act.put, List.setIfInBounds_toArray, List.set_cons_zero, List.set_cons_succ]
         rfl
        refine zp2_ 15 22 zl2_27 (any_of HT_.out zA2_26) ?_
        refine one_ (i := 16) (N := none) zl2_28 rfl rfl (one_of HT_.out zA2_26) (by decide) (fun K hK => ?_)
        have hs32 : w27.cell? ⟨gb103, 0, none⟩ = some (.int .i64 0) := (blk_cell BK103.out 0).trans rfl
        have hfs32 := blk_frozen BK103.out 0
        have hns32_0 := NB102_103.out
        have hms32_0 := NB103_102.out
        have hs33 : w27.cell? ⟨gb103, 1, none⟩ = some (.slice none 0 0) := (blk_cell BK103.out 1).trans rfl
        have hfs33 := blk_frozen BK103.out 1
        have hns33_0 := NB102_103.out
        have hms33_0 := NB103_102.out
        have hs34 : w27.cell? ⟨gb103, 2, none⟩ = some (.slice none 0 0) := (blk_cell BK103.out 2).trans rfl
        have hfs34 := blk_frozen BK103.out 2
        have hns34_0 := NB102_103.out
        have hms34_0 := NB103_102.out
        have hs35 : w27.cell? ⟨gb103, 3, none⟩ = some (.slice none 0 0) := (blk_cell BK103.out 3).trans rfl
        have hfs35 := blk_frozen BK103.out 3
        have hns35_0 := NB102_103.out
        have hms35_0 := NB103_102.out
        have hs36 : w27.cell? ⟨gb103, 4, none⟩ = some (.slice none 0 0) := (blk_cell BK103.out 4).trans rfl
        have hfs36 := blk_frozen BK103.out 4
        have hns36_0 := NB102_103.out
        have hms36_0 := NB103_102.out
        have hs37 : w27.cell? ⟨gb103, 5, none⟩ = some (.slice none 0 0) := (blk_cell BK103.out 5).trans rfl
        have hfs37 := blk_frozen BK103.out 5
        have hns37_0 := NB102_103.out
        have hms37_0 := NB103_102.out
        have hs38 : w27.cell? ⟨gb103, 6, none⟩ = some (.slice none 0 0) := (blk_cell BK103.out 6).trans rfl
        have hfs38 := blk_frozen BK103.out 6
        have hns38_0 := NB102_103.out
        have hms38_0 := NB103_102.out
        have hs39 : w27.cell? ⟨gb103, 7, none⟩ = some (.slice none 0 0) := (blk_cell BK103.out 7).trans rfl
        have hfs39 := blk_frozen BK103.out 7
        have hns39_0 := NB102_103.out
        have hms39_0 := NB103_102.out
        have hs40 : w27.cell? ⟨gb103, 8, none⟩ = some (.slice none 0 0) := (blk_cell BK103.out 8).trans rfl
        have hfs40 := blk_frozen BK103.out 8
        have hns40_0 := NB102_103.out
        have hms40_0 := NB103_102.out
        refine skip_ (w1 := ?_) (by rfl) rfl ?_ ?_
        rotate_left
        ·go_simp
         rfl
        refine hK.out _ _ ⟨((cell_far (p := ⟨gb103, _, none⟩) NB102_103.out _).trans (((cell_far (p := ⟨gb103, _, none⟩) NB102_103.out _).trans (((cell_far (p := ⟨gb103, _, none⟩) NB102_103.out _).trans (((cell_far (p := ⟨gb103, _, none⟩) NB102_103.out _).trans (((cell_far (p := ⟨gb103, _, none⟩) NB102_103.out _).trans (((cell_far (p := ⟨gb103, _, none⟩) NB102_103.out _).trans (((cell_far (p := ⟨gb103, _, none⟩) NB102_103.out _).trans (((cell_far (p := ⟨gb103, _, none⟩) NB102_103.out _).trans (((cell_far (p := ⟨gb103, _, none⟩) NB102_103.out _).trans (hHeld.1)))))))))))))))))), ((cell_far (p := ⟨gb103, _, none⟩) NB102_103.out _).trans (((cell_far (p := ⟨gb103, _, none⟩) NB102_103.out _).trans (((cell_far (p := ⟨gb103, _, none⟩) NB102_103.out _).trans (((cell_far (p := ⟨gb103, _, none⟩) NB102_103.out _).trans (((cell_far (p := ⟨gb103, _, none⟩) NB102_103.out _).trans (((cell_far (p := ⟨gb103, _, none⟩) NB102_103.out _).trans (((cell_far (p := ⟨gb103, _, none⟩) NB102_103.out _).trans (((cell_far (p := ⟨gb103, _, none⟩) NB102_103.out _).trans (((cell_far (p := ⟨gb103, _, none⟩) NB102_103.out _).trans (hHeld.2.1)))))))))))))))))), ((cell_far (p := ⟨gb103, _, none⟩) NB102_103.out _).trans (((cell_far (p := ⟨gb103, _, none⟩) NB102_103.out _).trans (((cell_far (p := ⟨gb103, _, none⟩) NB102_103.out _).trans (((cell_far (p := ⟨gb103, _, none⟩) NB102_103.out _).trans (((cell_far (p := ⟨gb103, _, none⟩) NB102_103.out _).trans (((cell_far (p := ⟨gb103, _, none⟩) NB102_103.out _).trans (((cell_far (p := ⟨gb103, _, none⟩) NB102_103.out _).trans (((cell_far (p := ⟨gb103, _, none⟩) NB102_103.out _).trans (((cell_far (p := ⟨gb103, _, none⟩) NB102_103.out _).trans (hHeld.2.2))))))))))))))))))⟩ (fun hHeld => ?_)
        clear hK K
        refine done_ (done_of HT_.out zA2_26) ?_
        try go_wp2
        refine bodyPost_ret (results_cell_row rfl _ _ gb103 27 #[.int .i64 a0_0, .slice Ao31 y105.length co31, .slice none 0 0, .slice none 0 0, .slice none 0 0, .slice none 0 0, .slice Ao30 y108.length co30, .slice Ao29 y111.length co29, .slice Ao28 y114.length co28] (0, 0) _ rfl (by (with_reducible repeat (first | refine blk_drewN ?_ _ | refine blk_drew ?_ | refine blk_alloc ?_ _)); refine blk_put (cs := #[.int .i64 a0_0, .slice Ao31 y105.length co31, .slice none 0 0, .slice none 0 0, .slice none 0 0, .slice none 0 0, .slice Ao30 y108.length co30, .slice Ao29 y111.length co29, .slice none 0 0]) ?_ 8 _ rfl; (with_reducible repeat (first | refine blk_drewN ?_ _ | refine blk_drew ?_ | refine blk_alloc ?_ _)); refine blk_put (cs := #[.int .i64 a0_0, .slice Ao31 y105.length co31, .slice none 0 0, .slice none 0 0, .slice none 0 0, .slice none 0 0, .slice Ao30 y108.length co30, .slice none 0 0, .slice none 0 0]) ?_ 7 _ rfl; (with_reducible repeat (first | refine blk_drewN ?_ _ | refine blk_drew ?_ | refine blk_alloc ?_ _)); refine blk_put (cs := #[.int .i64 a0_0, .slice Ao31 y105.length co31, .slice none 0 0, .slice none 0 0, .slice none 0 0, .slice none 0 0, .slice none 0 0, .slice none 0 0, .slice none 0 0]) ?_ 6 _ rfl; (with_reducible repeat (first | refine blk_drewN ?_ _ | refine blk_drew ?_ | refine blk_alloc ?_ _)); refine blk_put (cs := #[.int .i64 a0_0, .slice Ao31 y105.length co31, .slice none 0 0, .slice none 0 0, .slice none 0 0, .slice none 0 0, .slice none 0 0, .slice none 0 0, .slice none 0 0]) ?_ 5 _ rfl; (with_reducible repeat (first | refine blk_drewN ?_ _ | refine blk_drew ?_ | refine blk_alloc ?_ _)); refine blk_put (cs := #[.int .i64 a0_0, .slice Ao31 y105.length co31, .slice none 0 0, .slice none 0 0, .slice none 0 0, .slice none 0 0, .slice none 0 0, .slice none 0 0, .slice none 0 0]) ?_ 4 _ rfl; (with_reducible repeat (first | refine blk_drewN ?_ _ | refine blk_drew ?_ | refine blk_alloc ?_ _)); refine blk_put (cs := #[.int .i64 a0_0, .slice Ao31 y105.length co31, .slice none 0 0, .slice none 0 0, .slice none 0 0, .slice none 0 0, .slice none 0 0, .slice none 0 0, .slice none 0 0]) ?_ 3 _ rfl; (with_reducible repeat (first | refine blk_drewN ?_ _ | refine blk_drew ?_ | refine blk_alloc ?_ _)); refine blk_put (cs := #[.int .i64 a0_0, .slice Ao31 y105.length co31, .slice none 0 0, .slice none 0 0, .slice none 0 0, .slice none 0 0, .slice none 0 0, .slice none 0 0, .slice none 0 0]) ?_ 2 _ rfl; (with_reducible repeat (first | refine blk_drewN ?_ _ | refine blk_drew ?_ | refine blk_alloc ?_ _)); refine blk_put (cs := #[.int .i64 a0_0, .slice none 0 0, .slice none 0 0, .slice none 0 0, .slice none 0 0, .slice none 0 0, .slice none 0 0, .slice none 0 0, .slice none 0 0]) ?_ 1 _ rfl; (with_reducible repeat (first | refine blk_drewN ?_ _ | refine blk_drew ?_ | refine blk_alloc ?_ _)); refine blk_put (cs := #[.int .i64 0, .slice none 0 0, .slice none 0 0, .slice none 0 0, .slice none 0 0, .slice none 0 0, .slice none 0 0, .slice none 0 0, .slice none 0 0]) ?_ 0 _ rfl; (with_reducible repeat (first | refine blk_drewN ?_ _ | refine blk_drew ?_ | refine blk_alloc ?_ _)); exact BK103.out) Try.underlying27 rfl zA2_26) rfl ?_
        exact ⟨_, _, _, _, _, _, _, _, by first | rfl | (simp [errW_none, errW_some] <;> rfl) | (simp only [← hji6]; first | rfl | (simp [errW_none, errW_some] <;> rfl)) | (simp [*, errW_none, errW_some] <;> rfl), by (with_reducible repeat (first | apply Kd.R_alloc | apply Kd.R_drewN | apply Kd.R_drew)); exact Kd.R_mono (Kd.R_far (p := ⟨gb103, 8, none⟩) (Kd.R_far (p := ⟨gb103, 7, none⟩) (Kd.R_far (p := ⟨gb103, 6, none⟩) (Kd.R_far (p := ⟨gb103, 5, none⟩) (Kd.R_far (p := ⟨gb103, 4, none⟩) (Kd.R_far (p := ⟨gb103, 3, none⟩) (Kd.R_far (p := ⟨gb103, 2, none⟩) (Kd.R_far (p := ⟨gb103, 1, none⟩) (Kd.R_far (p := ⟨gb103, 0, none⟩) (Kd.R_types HO107.out BK103.out (by decide)) (fun _ hk => hk.2) (.int .i64 a0_0)) (fun _ hk => hk.2) (.slice Ao31 y105.length co31)) (fun _ hk => hk.2) (.slice none 0 0)) (fun _ hk => hk.2) (.slice none 0 0)) (fun _ hk => hk.2) (.slice none 0 0)) (fun _ hk => hk.2) (.slice none 0 0)) (fun _ hk => hk.2) (.slice Ao30 y108.length co30)) (fun _ hk => hk.2) (.slice Ao29 y111.length co29)) (fun _ hk => hk.2) (.slice Ao28 y114.length co28)) (fun _ hk => ⟨zA2_25, ⟨zA2_25, ⟨zA2_25, ⟨zA2_25, ⟨hk.1.1, ⟨hk.1.2.1, hk.1.2.2⟩⟩⟩⟩⟩⟩), zA2_9, zA2_11, zA2_9, zA2_11, by (with_reducible repeat (first | apply Kd.R_alloc | apply Kd.R_drewN | apply Kd.R_drew)); exact Kd.R_mono (Kd.R_far (p := ⟨gb103, 8, none⟩) (Kd.R_far (p := ⟨gb103, 7, none⟩) (Kd.R_far (p := ⟨gb103, 6, none⟩) (Kd.R_far (p := ⟨gb103, 5, none⟩) (Kd.R_far (p := ⟨gb103, 4, none⟩) (Kd.R_far (p := ⟨gb103, 3, none⟩) (Kd.R_far (p := ⟨gb103, 2, none⟩) (Kd.R_far (p := ⟨gb103, 1, none⟩) (Kd.R_far (p := ⟨gb103, 0, none⟩) (Kd.R_types HO110.out BK103.out (by decide)) (fun _ hk => hk.2) (.int .i64 a0_0)) (fun _ hk => hk.2) (.slice Ao31 y105.length co31)) (fun _ hk => hk.2) (.slice none 0 0)) (fun _ hk => hk.2) (.slice none 0 0)) (fun _ hk => hk.2) (.slice none 0 0)) (fun _ hk => hk.2) (.slice none 0 0)) (fun _ hk => hk.2) (.slice Ao30 y108.length co30)) (fun _ hk => hk.2) (.slice Ao29 y111.length co29)) (fun _ hk => hk.2) (.slice Ao28 y114.length co28)) (fun _ hk => ⟨hk.1.1, ⟨zA2_25, ⟨zA2_25, ⟨zA2_25, ⟨zA2_25, ⟨hk.1.2.1, hk.1.2.2⟩⟩⟩⟩⟩⟩), by (with_reducible repeat (first | apply Kd.R_alloc | apply Kd.R_drewN | apply Kd.R_drew)); exact Kd.R_mono (Kd.R_far (p := ⟨gb103, 8, none⟩) (Kd.R_far (p := ⟨gb103, 7, none⟩) (Kd.R_far (p := ⟨gb103, 6, none⟩) (Kd.R_far (p := ⟨gb103, 5, none⟩) (Kd.R_far (p := ⟨gb103, 4, none⟩) (Kd.R_far (p := ⟨gb103, 3, none⟩) (Kd.R_far (p := ⟨gb103, 2, none⟩) (Kd.R_far (p := ⟨gb103, 1, none⟩) (Kd.R_far (p := ⟨gb103, 0, none⟩) (Kd.R_types HO113.out BK103.out (by decide)) (fun _ hk => hk.2) (.int .i64 a0_0)) (fun _ hk => hk.2) (.slice Ao31 y105.length co31)) (fun _ hk => hk.2) (.slice none 0 0)) (fun _ hk => hk.2) (.slice none 0 0)) (fun _ hk => hk.2) (.slice none 0 0)) (fun _ hk => hk.2) (.slice none 0 0)) (fun _ hk => hk.2) (.slice Ao30 y108.length co30)) (fun _ hk => hk.2) (.slice Ao29 y111.length co29)) (fun _ hk => hk.2) (.slice Ao28 y114.length co28)) (fun _ hk => ⟨hk.1.1, ⟨zA2_25, ⟨zA2_25, ⟨zA2_25, ⟨zA2_25, ⟨hk.1.2.1, hk.1.2.2⟩⟩⟩⟩⟩⟩), by (with_reducible repeat (first | apply Kd.R_alloc | apply Kd.R_drewN | apply Kd.R_drew)); exact Kd.R_mono (Kd.R_far (p := ⟨gb103, 8, none⟩) (Kd.R_far (p := ⟨gb103, 7, none⟩) (Kd.R_far (p := ⟨gb103, 6, none⟩) (Kd.R_far (p := ⟨gb103, 5, none⟩) (Kd.R_far (p := ⟨gb103, 4, none⟩) (Kd.R_far (p := ⟨gb103, 3, none⟩) (Kd.R_far (p := ⟨gb103, 2, none⟩) (Kd.R_far (p := ⟨gb103, 1, none⟩) (Kd.R_far (p := ⟨gb103, 0, none⟩) (Kd.R_types HO116.out BK103.out (by decide)) (fun _ hk => hk.2) (.int .i64 a0_0)) (fun _ hk => hk.2) (.slice Ao31 y105.length co31)) (fun _ hk => hk.2) (.slice none 0 0)) (fun _ hk => hk.2) (.slice none 0 0)) (fun _ hk => hk.2) (.slice none 0 0)) (fun _ hk => hk.2) (.slice none 0 0)) (fun _ hk => hk.2) (.slice Ao30 y108.length co30)) (fun _ hk => hk.2) (.slice Ao29 y111.length co29)) (fun _ hk => hk.2) (.slice Ao28 y114.length co28)) (fun _ hk => ⟨hk.1.1, ⟨zA2_25, ⟨zA2_25, ⟨zA2_25, ⟨zA2_25, ⟨hk.1.2.1, hk.1.2.2⟩⟩⟩⟩⟩⟩), zA2_0⟩
       ·rw [if_neg c10] at H
        exact absurd H (by simp)
      ·rw [if_neg c9] at H
       exact absurd H (by simp)
     ·rw [if_neg c8] at H
      exact absurd H (by simp)
    ·rw [if_neg c7] at H
     exact absurd H (by simp)
   ·rw [if_neg c5] at H
    exact absurd H (by simp)
  ·rw [if_neg c4] at H
   exact absurd H (by simp)
 ·replace c3 := Bool.eq_false_iff.mpr c3
  subst c3
  have H1 : (some (0, ([] : List Int), ([] : List Int), ([] : List Int), ([] : List Int), ([] : List Int), ([] : List Int), ([] : List Int), ([] : List Int))) = some (r1, r2, r3, r4, r5, r6, r7, r8, r9) := by rw [if_neg (show ¬ (false = true) by decide)] at H; exact H
  clear H
  have H := H1
  clear H1
  simp only [Option.some.injEq, Prod.mk.injEq] at H
  obtain ⟨rfl, rfl, rfl, rfl, rfl, rfl, rfl, rfl, rfl⟩ := H
  go_enter Try.func11, Try.ntmps11
  go_wp2_with (first | ((with_reducible refine gate_dst (N := 1) rfl ?_); refine box_event ?hg (N := 1) ?hd (cs := #[.int .i64 a0_0, .int .i64 a0_1, .int .i64 a0_2]) (t := 29) ?hr ?_; (case hd => rfl); (case hg => rfl); (case hr => first | (go_simp; done) | (go_simp; rfl)); intro gb102 hg w41 hbox hb; have n0_ := Aside0.mk (below_step zA2_16 hb); have n1_ := Aside0.mk (hbox); have n2_ := Aside0.mk ((by rw [hg]; exact (below_size zA2_16) : w.heap.size ≤ gb102)); have n3_ := Aside0.mk ((by rw [hg]; exact (below_size zA2_16) : w.heap.size ≤ gb102)); clear HB; have HB := n0_; have BK102 := n1_; have GW102 := n2_; have GE102 := n3_; clear n0_ n1_ n2_ n3_; clear hb hbox hg) | ((with_reducible refine gate_dst (N := 2) rfl ?_); refine box_event ?hg (N := 2) ?hd (cs := #[.int .i64 0, .slice none 0 0, .slice none 0 0, .slice none 0 0, .slice none 0 0, .slice none 0 0, .slice none 0 0, .slice none 0 0, .slice none 0 0]) (t := 27) ?hr ?_; (case hd => rfl); (case hg => rfl); (case hr => first | (go_simp; done) | (go_simp; rfl)); intro gb103 hg w42 hbox hb; have n0_ := Aside0.mk (blk_below zA2_1 hb); have n1_ := Aside0.mk (below_step zA2_10 hb); have n2_ := Aside0.mk (hbox); have n3_ := Aside0.mk ((by rw [hg]; exact (below_size zA2_10) : w.heap.size ≤ gb103)); have n4_ := Aside0.mk ((by rw [hg]; exact (below_size zA2_10) : w.heap.size ≤ gb103)); have n5_ := Aside0.mk ((by rw [hg]; exact Nat.ne_of_lt (blk_lt (g := gb102) (o := .cells #[.int .i64 a0_0, .int .i64 a0_1, .int .i64 a0_2] 29 (0, 0)) zA2_1) : gb102 ≠ gb103)); have n6_ := Aside0.mk ((by rw [hg]; exact Nat.ne_of_gt (blk_lt (g := gb102) (o := .cells #[.int .i64 a0_0, .int .i64 a0_1, .int .i64 a0_2] 29 (0, 0)) zA2_1) : gb103 ≠ gb102)); clear BK102; clear HB; have BK102 := n0_; have HB := n1_; have BK103 := n2_; have GW103 := n3_; have GE103 := n4_; have NB102_103 := n5_; have NB103_102 := n6_; clear n0_ n1_ n2_ n3_ n4_ n5_ n6_; clear hb hbox hg) | ((with_reducible refine gate_dst (N := 3) rfl ?_); refine Kd.event_run rfl (Row.load_row_run (g := gb102) (t := 29) (cells := #[.int .i64 a0_0, .int .i64 a0_1, .int .i64 a0_2]) rfl (by first | rfl | (go_simp; done)) zA2_1 Try.underlying29 rfl zA2_26) ?_) | ((with_reducible refine gate_callee (f := 35) rfl ?_); refine goesL_ (some 4) rfl rfl Try.func35 zA2_26 rfl #[.agg #[.int .i64 a0_0, .int .i64 a0_1, .int .i64 a0_2]] rfl (by (try simp only [List.map_toArray, List.map_cons, List.map_nil]); first | done | rfl | (simp only [List.length_drop, List.length_take]; rfl)) ?_; (with_reducible refine (spec_PlatOk.calls a0_0 a0_1 a0_2 false _ A2.out).mono ?_); rintro e w43 ⟨rfl, hb⟩; refine ⟨_, rfl, ?_⟩; have n0_ := Aside0.mk (blk_below zA2_1 hb); have n1_ := Aside0.mk (blk_below zA2_2 hb); have n2_ := Aside0.mk (below_step zA2_0 hb); clear BK102; clear BK103; clear HB; have BK102 := n0_; have BK103 := n1_; have HB := n2_; clear n0_ n1_ n2_; (try clear hb); (try clear hb2); (try clear hk); (try clear hi)) | ((with_reducible refine gate_store (t := 27) (p := 2) rfl ?_); refine store_event (t := 27) (p := 2) (v := ?vo_w44) (w1 := (w43.setRow gb103 #[.int .i64 0, .slice none 0 0, .slice none 0 0, .slice none 0 0, .slice none 0 0, .slice none 0 0, .slice none 0 0, .slice none 0 0, .slice none 0 0])) ?hg ?ho ?hn ?hr ?_; (case ho => rfl); (case hg => rfl); (case hn => rfl); (case hr => exact Row.store_row_run (g := gb103) (cells := #[.int .i64 0, .slice none 0 0, .slice none 0 0, .slice none 0 0, .slice none 0 0, .slice none 0 0, .slice none 0 0, .slice none 0 0, .slice none 0 0]) (t := 27) (old := #[.int .i64 0, .slice none 0 0, .slice none 0 0, .slice none 0 0, .slice none 0 0, .slice none 0 0, .slice none 0 0, .slice none 0 0, .slice none 0 0]) rfl (by first | rfl | (go_simp; done)) (by first | rfl | (go_simp; done) | (go_simp; rfl)) zA2_2 zA2_26 rfl (by first | rfl | (simp [Value.oneCell']; done))); intro w44 hw; have n0_ : Aside0 (w44.heap[gb102]? = some (.cells #[.int .i64 a0_0, .int .i64 a0_1, .int .i64 a0_2] 29 (0, 0))) := ⟨(by exact Row.row_there hw zA2_1 NB102_103.out)⟩; have n1_ : Aside0 (w44.heap[gb103]? = some (.cells #[.int .i64 0, .slice none 0 0, .slice none 0 0, .slice none 0 0, .slice none 0 0, .slice none 0 0, .slice none 0 0, .slice none 0 0, .slice none 0 0] 27 (0, 0))) := ⟨(by exact Row.row_here (old := #[.int .i64 0, .slice none 0 0, .slice none 0 0, .slice none 0 0, .slice none 0 0, .slice none 0 0, .slice none 0 0, .slice none 0 0, .slice none 0 0]) (t := 27) hw zA2_2)⟩; have n2_ : Aside0 (Below w.heap.size w w44) := ⟨(by exact Row.row_below hw zA2_0 GE103.out)⟩; clear hw; clear BK102; clear BK103; clear HB; have BK102 := n0_; have BK103 := n1_; have HB := n2_; clear n0_ n1_ n2_))
  refine bodyPost_ret (results_cell_row rfl _ _ gb103 27 #[.int .i64 0, .slice none 0 0, .slice none 0 0, .slice none 0 0, .slice none 0 0, .slice none 0 0, .slice none 0 0, .slice none 0 0, .slice none 0 0] (0, 0) _ rfl zA2_2 Try.underlying27 rfl zA2_26) rfl ?_
  exact ⟨_, _, _, _, _, _, _, _, by first | rfl | (simp [errW_none, errW_some] <;> rfl) | (simp [*, errW_none, errW_some] <;> rfl), zA2_9, zA2_11, zA2_9, zA2_11, zA2_9, zA2_11, zA2_9, zA2_11, zA2_0⟩
end Go.Proofs.Ytekneicikmaplaa.PFnExactBookOpen
namespace Go.Proofs.Ytekneicikmaplaa.Bk
open Go.RowKit Go.Proofs.YtekneicikmaplaaW.PrintWords Go.Proofs.YtekneicikmaplaaW.PrintLast Go.Proofs.YtekneicikmaplaaW.PrintMore
def val8 (v0 v1 v2 v3 v4 v5 v6 v7 : Value) : Nat → Value
  | 0 => v0
  | 1 => v1
  | 2 => v2
  | 3 => v3
  | 4 => v4
  | 5 => v5
  | 6 => v6
  | _ => v7
theorem all8 {p : Nat → Prop} (h0 : p 0) (h1 : p 1) (h2 : p 2) (h3 : p 3) (h4 : p 4) (h5 : p 5) (h6 : p 6) (h7 : p 7) : ∀ i, i < 8 → p i := fun i hi => match i, hi with
  | 0, _ => h0
  | 1, _ => h1
  | 2, _ => h2
  | 3, _ => h3
  | 4, _ => h4
  | 5, _ => h5
  | 6, _ => h6
  | 7, _ => h7
def d8 (V : Nat → Value) (L : Nat → List Int) (i : Nat) : Option (Value × List Int) := if i < 8 then some (V i, L i) else none
theorem d8_lt {V : Nat → Value} {L : Nat → List Int} {i : Nat} (h : i < 8) : d8 V L i = some (V i, L i) := if_pos h
theorem d8_of {V : Nat → Value} {L : Nat → List Int} {i : Nat} {v : Value} {l : List Int} (h : d8 V L i = some (v, l)) : i < 8 ∧ v = V i ∧ l = L i := by
  unfold d8 at h
  by_cases hi : i < 8
  · rw [if_pos hi] at h; cases h; exact ⟨hi, rfl, rfl⟩
  · rw [if_neg hi] at h; cases h
theorem own8 {w : World} {lo : Nat} {V : Nat → Value} {L : Nat → List Int} (h : ∀ i, i < 8 → Kd.R (Kd.int .i64) 3 w lo (fun k => ∀ j, j < 8 → j ≠ i → some k ≠ (V j).ownBlock) (V i) (L i)) : Own w lo (d8 V L) := by
  refine ⟨fun i v l e => ?_, fun i j v l v' l' hne e e' => ?_⟩
  · obtain ⟨hi, rfl, rfl⟩ := d8_of e
    exact Kd.R_mono (h i hi) (fun _ _ => trivial)
  · obtain ⟨hi, rfl, rfl⟩ := d8_of e
    obtain ⟨hj, rfl, rfl⟩ := d8_of e'
    exact fun k hk hk' => (h i hi).1 k hk j hj (Ne.symm hne) hk'.symm
set_option maxRecDepth 100000 in
theorem bk_of_print {w w' : World} {e : Ending} {s : Int} {L : Nat → List Int} (h : ∃ v0 v1 v2 v3 v4 v5 v6 v7 : Value, e = .returned (.agg #[.int .i64 s, v0, v1, v2, v3, v4, v5, v6, v7]) ∧ Kd.R (Kd.int .i64) 3 w' w.heap.size (fun k => some k ≠ (v1 : Value).ownBlock ∧ some k ≠ (v2 : Value).ownBlock ∧ some k ≠ (v3 : Value).ownBlock ∧ some k ≠ (v4 : Value).ownBlock ∧ some k ≠ (v5 : Value).ownBlock ∧ some k ≠ (v6 : Value).ownBlock ∧ some k ≠ (v7 : Value).ownBlock) v0 (L 0) ∧ Kd.R (Kd.int .i64) 3 w' w.heap.size (fun k => some k ≠ (v0 : Value).ownBlock ∧ some k ≠ (v2 : Value).ownBlock ∧ some k ≠ (v3 : Value).ownBlock ∧ some k ≠ (v4 : Value).ownBlock ∧ some k ≠ (v5 : Value).ownBlock ∧ some k ≠ (v6 : Value).ownBlock ∧ some k ≠ (v7 : Value).ownBlock) v1 (L 1) ∧ Kd.R (Kd.int .i64) 3 w' w.heap.size (fun k => some k ≠ (v0 : Value).ownBlock ∧ some k ≠ (v1 : Value).ownBlock ∧ some k ≠ (v3 : Value).ownBlock ∧ some k ≠ (v4 : Value).ownBlock ∧ some k ≠ (v5 : Value).ownBlock ∧ some k ≠ (v6 : Value).ownBlock ∧ some k ≠ (v7 : Value).ownBlock) v2 (L 2) ∧ Kd.R (Kd.int .i64) 3 w' w.heap.size (fun k => some k ≠ (v0 : Value).ownBlock ∧ some k ≠ (v1 : Value).ownBlock ∧ some k ≠ (v2 : Value).ownBlock ∧ some k ≠ (v4 : Value).ownBlock ∧ some k ≠ (v5 : Value).ownBlock ∧ some k ≠ (v6 : Value).ownBlock ∧ some k ≠ (v7 : Value).ownBlock) v3 (L 3) ∧ Kd.R (Kd.int .i64) 3 w' w.heap.size (fun k => some k ≠ (v0 : Value).ownBlock ∧ some k ≠ (v1 : Value).ownBlock ∧ some k ≠ (v2 : Value).ownBlock ∧ some k ≠ (v3 : Value).ownBlock ∧ some k ≠ (v5 : Value).ownBlock ∧ some k ≠ (v6 : Value).ownBlock ∧ some k ≠ (v7 : Value).ownBlock) v4 (L 4) ∧ Kd.R (Kd.int .i64) 3 w' w.heap.size (fun k => some k ≠ (v0 : Value).ownBlock ∧ some k ≠ (v1 : Value).ownBlock ∧ some k ≠ (v2 : Value).ownBlock ∧ some k ≠ (v3 : Value).ownBlock ∧ some k ≠ (v4 : Value).ownBlock ∧ some k ≠ (v6 : Value).ownBlock ∧ some k ≠ (v7 : Value).ownBlock) v5 (L 5) ∧ Kd.R (Kd.int .i64) 3 w' w.heap.size (fun k => some k ≠ (v0 : Value).ownBlock ∧ some k ≠ (v1 : Value).ownBlock ∧ some k ≠ (v2 : Value).ownBlock ∧ some k ≠ (v3 : Value).ownBlock ∧ some k ≠ (v4 : Value).ownBlock ∧ some k ≠ (v5 : Value).ownBlock ∧ some k ≠ (v7 : Value).ownBlock) v6 (L 6) ∧ Kd.R (Kd.int .i64) 3 w' w.heap.size (fun k => some k ≠ (v0 : Value).ownBlock ∧ some k ≠ (v1 : Value).ownBlock ∧ some k ≠ (v2 : Value).ownBlock ∧ some k ≠ (v3 : Value).ownBlock ∧ some k ≠ (v4 : Value).ownBlock ∧ some k ≠ (v5 : Value).ownBlock ∧ some k ≠ (v6 : Value).ownBlock) v7 (L 7) ∧ Below w.heap.size w w') :
    ∃ A c, e = .returned (.agg (bkCells s A c L)) ∧ BkO w' w.heap.size w'.heap.size A c L ∧ Below w.heap.size w w' := by
  obtain ⟨v0, v1, v2, v3, v4, v5, v6, v7, he, h0, h1, h2, h3, h4, h5, h6, h7, hb⟩ := h
  have g0 := Kd.R_mono h0 (ok' := fun k => ∀ j, j < 8 → j ≠ 0 → some k ≠ (val8 v0 v1 v2 v3 v4 v5 v6 v7 j).ownBlock) (fun k hk => all8 (p := fun j => j ≠ 0 → some k ≠ (val8 v0 v1 v2 v3 v4 v5 v6 v7 j).ownBlock) (fun hne => absurd rfl hne) (fun _ => hk.1) (fun _ => hk.2.1) (fun _ => hk.2.2.1) (fun _ => hk.2.2.2.1) (fun _ => hk.2.2.2.2.1) (fun _ => hk.2.2.2.2.2.1) (fun _ => hk.2.2.2.2.2.2))
  have g1 := Kd.R_mono h1 (ok' := fun k => ∀ j, j < 8 → j ≠ 1 → some k ≠ (val8 v0 v1 v2 v3 v4 v5 v6 v7 j).ownBlock) (fun k hk => all8 (p := fun j => j ≠ 1 → some k ≠ (val8 v0 v1 v2 v3 v4 v5 v6 v7 j).ownBlock) (fun _ => hk.1) (fun hne => absurd rfl hne) (fun _ => hk.2.1) (fun _ => hk.2.2.1) (fun _ => hk.2.2.2.1) (fun _ => hk.2.2.2.2.1) (fun _ => hk.2.2.2.2.2.1) (fun _ => hk.2.2.2.2.2.2))
  have g2 := Kd.R_mono h2 (ok' := fun k => ∀ j, j < 8 → j ≠ 2 → some k ≠ (val8 v0 v1 v2 v3 v4 v5 v6 v7 j).ownBlock) (fun k hk => all8 (p := fun j => j ≠ 2 → some k ≠ (val8 v0 v1 v2 v3 v4 v5 v6 v7 j).ownBlock) (fun _ => hk.1) (fun _ => hk.2.1) (fun hne => absurd rfl hne) (fun _ => hk.2.2.1) (fun _ => hk.2.2.2.1) (fun _ => hk.2.2.2.2.1) (fun _ => hk.2.2.2.2.2.1) (fun _ => hk.2.2.2.2.2.2))
  have g3 := Kd.R_mono h3 (ok' := fun k => ∀ j, j < 8 → j ≠ 3 → some k ≠ (val8 v0 v1 v2 v3 v4 v5 v6 v7 j).ownBlock) (fun k hk => all8 (p := fun j => j ≠ 3 → some k ≠ (val8 v0 v1 v2 v3 v4 v5 v6 v7 j).ownBlock) (fun _ => hk.1) (fun _ => hk.2.1) (fun _ => hk.2.2.1) (fun hne => absurd rfl hne) (fun _ => hk.2.2.2.1) (fun _ => hk.2.2.2.2.1) (fun _ => hk.2.2.2.2.2.1) (fun _ => hk.2.2.2.2.2.2))
  have g4 := Kd.R_mono h4 (ok' := fun k => ∀ j, j < 8 → j ≠ 4 → some k ≠ (val8 v0 v1 v2 v3 v4 v5 v6 v7 j).ownBlock) (fun k hk => all8 (p := fun j => j ≠ 4 → some k ≠ (val8 v0 v1 v2 v3 v4 v5 v6 v7 j).ownBlock) (fun _ => hk.1) (fun _ => hk.2.1) (fun _ => hk.2.2.1) (fun _ => hk.2.2.2.1) (fun hne => absurd rfl hne) (fun _ => hk.2.2.2.2.1) (fun _ => hk.2.2.2.2.2.1) (fun _ => hk.2.2.2.2.2.2))
  have g5 := Kd.R_mono h5 (ok' := fun k => ∀ j, j < 8 → j ≠ 5 → some k ≠ (val8 v0 v1 v2 v3 v4 v5 v6 v7 j).ownBlock) (fun k hk => all8 (p := fun j => j ≠ 5 → some k ≠ (val8 v0 v1 v2 v3 v4 v5 v6 v7 j).ownBlock) (fun _ => hk.1) (fun _ => hk.2.1) (fun _ => hk.2.2.1) (fun _ => hk.2.2.2.1) (fun _ => hk.2.2.2.2.1) (fun hne => absurd rfl hne) (fun _ => hk.2.2.2.2.2.1) (fun _ => hk.2.2.2.2.2.2))
  have g6 := Kd.R_mono h6 (ok' := fun k => ∀ j, j < 8 → j ≠ 6 → some k ≠ (val8 v0 v1 v2 v3 v4 v5 v6 v7 j).ownBlock) (fun k hk => all8 (p := fun j => j ≠ 6 → some k ≠ (val8 v0 v1 v2 v3 v4 v5 v6 v7 j).ownBlock) (fun _ => hk.1) (fun _ => hk.2.1) (fun _ => hk.2.2.1) (fun _ => hk.2.2.2.1) (fun _ => hk.2.2.2.2.1) (fun _ => hk.2.2.2.2.2.1) (fun hne => absurd rfl hne) (fun _ => hk.2.2.2.2.2.2))
  have g7 := Kd.R_mono h7 (ok' := fun k => ∀ j, j < 8 → j ≠ 7 → some k ≠ (val8 v0 v1 v2 v3 v4 v5 v6 v7 j).ownBlock) (fun k hk => all8 (p := fun j => j ≠ 7 → some k ≠ (val8 v0 v1 v2 v3 v4 v5 v6 v7 j).ownBlock) (fun _ => hk.1) (fun _ => hk.2.1) (fun _ => hk.2.2.1) (fun _ => hk.2.2.2.1) (fun _ => hk.2.2.2.2.1) (fun _ => hk.2.2.2.2.2.1) (fun _ => hk.2.2.2.2.2.2) (fun hne => absurd rfl hne))
  have ho : Own w' w.heap.size (d8 (val8 v0 v1 v2 v3 v4 v5 v6 v7) L) := own8 (all8 (p := fun i => Kd.R (Kd.int .i64) 3 w' w.heap.size (fun k => ∀ j, j < 8 → j ≠ i → some k ≠ (val8 v0 v1 v2 v3 v4 v5 v6 v7 j).ownBlock) (val8 v0 v1 v2 v3 v4 v5 v6 v7 i) (L i)) g0 g1 g2 g3 g4 g5 g6 g7)
  have e0 : v0 = .slice (aOf v0) (L 0).length (cOf v0) := ho.slice (i := 0) rfl
  have e1 : v1 = .slice (aOf v1) (L 1).length (cOf v1) := ho.slice (i := 1) rfl
  have e2 : v2 = .slice (aOf v2) (L 2).length (cOf v2) := ho.slice (i := 2) rfl
  have e3 : v3 = .slice (aOf v3) (L 3).length (cOf v3) := ho.slice (i := 3) rfl
  have e4 : v4 = .slice (aOf v4) (L 4).length (cOf v4) := ho.slice (i := 4) rfl
  have e5 : v5 = .slice (aOf v5) (L 5).length (cOf v5) := ho.slice (i := 5) rfl
  have e6 : v6 = .slice (aOf v6) (L 6).length (cOf v6) := ho.slice (i := 6) rfl
  have e7 : v7 = .slice (aOf v7) (L 7).length (cOf v7) := ho.slice (i := 7) rfl
  refine ⟨_, _, ?_, ho.bk (V := val8 v0 v1 v2 v3 v4 v5 v6 v7) (fun i hi => Or.inl (d8_lt hi)), hb⟩
  rw [he]
  show Ending.returned (.agg #[.int .i64 s, v0, v1, v2, v3, v4, v5, v6, v7]) = .returned (.agg #[.int .i64 s, .slice (aOf v0) (L 0).length (cOf v0), .slice (aOf v1) (L 1).length (cOf v1), .slice (aOf v2) (L 2).length (cOf v2), .slice (aOf v3) (L 3).length (cOf v3), .slice (aOf v4) (L 4).length (cOf v4), .slice (aOf v5) (L 5).length (cOf v5), .slice (aOf v6) (L 6).length (cOf v6), .slice (aOf v7) (L 7).length (cOf v7)])
  rw [← e0, ← e1, ← e2, ← e3, ← e4, ← e5, ← e6, ← e7]
def okCfg (a b c : Int) : Bool := decide (1 ≤ a) && decide (a ≤ 4) && decide (1 ≤ b) && decide (b ≤ 6) && decide (1 ≤ c) && decide (c ≤ 20)
theorem specPlatOk_f (a b c : Int) : PFnExactBookOpen.spec_PlatOk.f a b c = some (okCfg a b c) := by
  unfold PFnExactBookOpen.spec_PlatOk.f okCfg
  by_cases h1 : 1 ≤ a <;> by_cases h2 : a ≤ 4 <;> by_cases h3 : 1 ≤ b <;> by_cases h4 : b ≤ 6 <;> by_cases h5 : 1 ≤ c <;> simp [h1, h2, h3, h4, h5]
def opS (a b c : Int) : Int := if okCfg a b c = true then a else 0
def opLN (a b c : Int) : Nat → List Int
  | 0 => List.replicate b.toNat 0
  | 5 => List.replicate (wrap64 (b * 8)).toNat 0
  | 6 => List.replicate a.toNat 0
  | 7 => List.replicate a.toNat 0
  | _ => []
def opL (a b c : Int) (i : Nat) : List Int := if okCfg a b c = true then opLN a b c i else []
theorem okCfg_le {a b c : Int} (h : okCfg a b c = true) : 1 ≤ a ∧ a ≤ 4 ∧ 1 ≤ b ∧ b ≤ 6 := by
  simp [okCfg] at h
  omega
theorem specOpen_f (a b c : Int) : PFnExactBookOpen.spec_BookOpen.f a b c = some (opS a b c, opL a b c 0, opL a b c 1, opL a b c 2, opL a b c 3, opL a b c 4, opL a b c 5, opL a b c 6, opL a b c 7) := by
  unfold PFnExactBookOpen.spec_BookOpen.f
  rw [specPlatOk_f]
  by_cases h : okCfg a b c = true
  · have := okCfg_le h
    have h1 : 0 ≤ wrap64 (b * 8) := by unfold wrap64; omega
    have h2 : (wrap64 (b * 8)).toNat ≤ 35184372088832 := by unfold wrap64; omega
    simp only [Option.bind_some, opS, opL, if_pos h]
    rw [if_pos (by omega), if_pos (by omega), if_pos h1, if_pos h2, if_pos (by omega), if_pos (by omega)]
    rfl
  · simp only [Option.bind_some, opS, opL, if_neg h]
theorem specOpen_calls (a b c : Int) (w : World) : Calls Try.prog 11 #[.agg #[.int .i64 a, .int .i64 b, .int .i64 c]] w fun e w' => ∃ A k, e = .returned (.agg (bkCells (opS a b c) A k (opL a b c))) ∧ BkO w' w.heap.size w'.heap.size A k (opL a b c) ∧ Below w.heap.size w w' :=
  (PFnExactBookOpen.spec_BookOpen.calls a b c _ _ _ _ _ _ _ _ _ w (specOpen_f a b c)).mono fun e w' h => bk_of_print h
end Go.Proofs.Ytekneicikmaplaa.Bk
namespace Go.Proofs.Ytekneicikmaplaa.Bk
open Go.RowKit Go.Proofs.YtekneicikmaplaaW.PrintWords Go.Proofs.YtekneicikmaplaaW.PrintLast Go.Proofs.YtekneicikmaplaaW.PrintMore
theorem copyD_lit {V : Nat → Value} {L : Nat → List Int} {k : Nat} {v : Value} (hk : k < 4) : copyD (fun i => if i = k + 1 then v else V i) (fun i => if i = k + 1 then [] else L i) (k + 1) (k + 1) = some (v, []) := by
  unfold copyD
  rw [if_pos ⟨by omega, by omega⟩]
  simp
theorem copyD_litold {V : Nat → Value} {L : Nat → List Int} {k : Nat} {v : Value} : ∀ j, j ≠ k + 1 → copyD (fun i => if i = k + 1 then v else V i) (fun i => if i = k + 1 then [] else L i) (k + 1) j = copyD V L k j := by
  intro j hj
  unfold copyD
  simp only [if_neg hj]
  by_cases h : j < 8 ∧ (j = 0 ∨ 5 ≤ j ∨ j ≤ k)
  · rw [if_pos h, if_pos ⟨h.1, by omega⟩]
  · rw [if_neg h, if_neg (fun q => h ⟨q.1, by omega⟩)]
theorem copyD_fin {V : Nat → Value} {L : Nat → List Int} {k : Nat} {v v' : Value} : ∀ j, j ≠ k + 1 → copyD (fun i => if i = k + 1 then v else V i) L (k + 1) j = copyD (fun i => if i = k + 1 then v' else V i) (fun i => if i = k + 1 then [] else L i) (k + 1) j := by
  intro j hj
  unfold copyD
  simp only [if_neg hj]
set_option maxHeartbeats 8000000 in
set_option maxRecDepth 100000 in
theorem l3Copy_calls (s : Int) (A : Nat → Option Addr) (c : Nat → Nat) (L : Nat → List Int) (w : World) (h : BkC w A c L) (hl : ∀ i, (L i).length ≤ 1048576) :
    Calls Try.prog 58 #[.agg (bkCells s A c L)] w fun e w' => ∃ A' c', e = .returned (.agg (bkCells s A' c' L)) ∧ BkO w' w.heap.size w'.heap.size A' c' L ∧ Below w.heap.size w w' := by
  have HR := Aside0.mk h
  have HL := Aside0.mk hl
  clear h hl
  have HB := Aside0.mk (Below.refl w.heap.size w)
  go_enter Try.func58, Try.ntmps58
  go_wp2_with (first | ((with_reducible refine gate_dst (N := 1) rfl ?_); refine box_event rfl (N := 1) rfl (cs := bkCells s A c L) (t := 27) (by first | (go_simp; done) | (go_simp; rfl)) ?_; intro gb hggb w1 hbox hb; have n0_ := Aside0.mk (below_step HB.out hb); have BKgb := Aside0.mk hbox; have HGgb := Aside0.mk (show w.heap.size ≤ gb by rw [hggb]; exact HB.out.size); clear HB; have HB := n0_; clear n0_ hbox hb hggb) | ((with_reducible refine gate_dst (N := 2) rfl ?_); refine box_event rfl (N := 2) rfl (cs := #[.int .i64 0, .slice none 0 0, .slice none 0 0, .slice none 0 0, .slice none 0 0, .slice none 0 0, .slice none 0 0, .slice none 0 0, .slice none 0 0]) (t := 27) (by first | (go_simp; done) | (go_simp; rfl)) ?_; intro gr hggr w2 hbox hb; have n0_ := Aside0.mk (below_step HB.out hb); have BKgr := Aside0.mk hbox; have HGgr := Aside0.mk (show w.heap.size ≤ gr by rw [hggr]; exact HB.out.size); clear HB; have HB := n0_; have NE1 := Aside0.mk (show gb ≠ gr by have := blk_lt BKgb.out; omega); have BKgb := Aside0.mk (blk_below BKgb.out hb); clear n0_ hbox hb hggr))
  have BKd := Aside0.mk (blk_drew BKgb.out)
  have BRd := Aside0.mk (blk_drew BKgr.out)
  have HBd := Aside0.mk (below_drew1 HB.out)
  clear BKgb BKgr HB
  refine start_ (n := 21) (S := fun w' => w'.heap[gb]? = some (.cells (bkCells s A c L) 27 (0, 0))) (ds := []) #[false, false, false, false, false, false, false, false, false, false, false, false, false, false, false, false, false, false, false, false, false] (by kernel_rfl) rfl rfl BKd.out (fun hHeld => ?_)
  generalize w2.drew = wd at BKd BRd HBd hHeld ⊢
  refine pure_ (i := 0) (N := some 5) (v := ?_) (a' := ?_) #[true, false, false, false, false, false, false, false, false, false, false, false, false, false, false, false, false, false, false, false, false] rfl rfl (by kernel_rfl) (fun _ _ _ h => h) (Or.inl ⟨by rfl, ?_⟩) ?_ ?_
  rotate_left
  · intro w'
    go_simp
    with_reducible rfl
  rotate_left
  · simp only [Act.put, List.setIfInBounds_toArray, List.set_cons_zero, List.set_cons_succ, i64_w, i32_w]
    rfl
  refine pure_ (i := 3) (N := some 8) (v := ?_) (a' := ?_) #[true, false, false, true, false, false, false, false, false, false, false, false, false, false, false, false, false, false, false, false, false] rfl rfl (by kernel_rfl) (fun _ _ _ h => h) (Or.inl ⟨by rfl, ?_⟩) ?_ ?_
  rotate_left
  · intro w'
    go_simp
    with_reducible rfl
  rotate_left
  · simp only [Act.put, List.setIfInBounds_toArray, List.set_cons_zero, List.set_cons_succ, i64_w, i32_w]
    rfl
  refine pure_ (i := 7) (N := some 12) (v := ?_) (a' := ?_) #[true, false, false, true, false, false, false, true, false, false, false, false, false, false, false, false, false, false, false, false, false] rfl rfl (by kernel_rfl) (fun _ _ _ h => h) (Or.inl ⟨by rfl, ?_⟩) ?_ ?_
  rotate_left
  · intro w'
    go_simp
    with_reducible rfl
  rotate_left
  · simp only [Act.put, List.setIfInBounds_toArray, List.set_cons_zero, List.set_cons_succ, i64_w, i32_w]
    rfl
  refine pure_ (i := 11) (N := some 16) (v := ?_) (a' := ?_) #[true, false, false, true, false, false, false, true, false, false, false, true, false, false, false, false, false, false, false, false, false] rfl rfl (by kernel_rfl) (fun _ _ _ h => h) (Or.inl ⟨by rfl, ?_⟩) ?_ ?_
  rotate_left
  · intro w'
    go_simp
    with_reducible rfl
  rotate_left
  · simp only [Act.put, List.setIfInBounds_toArray, List.set_cons_zero, List.set_cons_succ, i64_w, i32_w]
    rfl
  refine pure_ (i := 15) (N := some 20) (v := ?_) (a' := ?_) #[true, false, false, true, false, false, false, true, false, false, false, true, false, false, false, true, false, false, false, false, false] rfl rfl (by kernel_rfl) (fun _ _ _ h => h) (Or.inl ⟨by rfl, ?_⟩) ?_ ?_
  rotate_left
  · intro w'
    go_simp
    with_reducible rfl
  rotate_left
  · simp only [Act.put, List.setIfInBounds_toArray, List.set_cons_zero, List.set_cons_succ, i64_w, i32_w]
    rfl
  refine take_ (i := 1) (N := some 6) (v := ?_) (a' := ?_) #[true, true, false, true, false, false, false, true, false, false, false, true, false, false, false, true, false, false, false, false, false] rfl rfl (by kernel_rfl) (fun _ _ _ h => h) (Or.inl ⟨by rfl, ?_⟩) hHeld ?_ ?_
  rotate_left
  · intro w' hS
    have f1 : w'.cell? ⟨gb, 0, none⟩ = some (.int .i64 s) := (blk_cell hS 0).trans rfl
    have z1 := blk_frozen hS 0
    clear hS
    go_simp
    with_reducible rfl
  rotate_left
  · simp only [Act.put, List.setIfInBounds_toArray, List.set_cons_zero, List.set_cons_succ, i64_w, i32_w]
    rfl
  refine take_ (i := 4) (N := some 9) (v := ?_) (a' := ?_) #[true, true, false, true, true, false, false, true, false, false, false, true, false, false, false, true, false, false, false, false, false] rfl rfl (by kernel_rfl) (fun _ _ _ h => h) (Or.inl ⟨by rfl, ?_⟩) hHeld ?_ ?_
  rotate_left
  · intro w' hS
    have f1 : w'.cell? ⟨gb, 1, none⟩ = some (.slice (A 0) (L 0).length (c 0)) := (blk_cell hS 1).trans rfl
    have z1 := blk_frozen hS 1
    clear hS
    go_simp
    with_reducible rfl
  rotate_left
  · simp only [Act.put, List.setIfInBounds_toArray, List.set_cons_zero, List.set_cons_succ, i64_w, i32_w]
    rfl
  refine take_ (i := 8) (N := some 13) (v := ?_) (a' := ?_) #[true, true, false, true, true, false, false, true, true, false, false, true, false, false, false, true, false, false, false, false, false] rfl rfl (by kernel_rfl) (fun _ _ _ h => h) (Or.inl ⟨by rfl, ?_⟩) hHeld ?_ ?_
  rotate_left
  · intro w' hS
    have f1 : w'.cell? ⟨gb, 6, none⟩ = some (.slice (A 5) (L 5).length (c 5)) := (blk_cell hS 6).trans rfl
    have z1 := blk_frozen hS 6
    clear hS
    go_simp
    with_reducible rfl
  rotate_left
  · simp only [Act.put, List.setIfInBounds_toArray, List.set_cons_zero, List.set_cons_succ, i64_w, i32_w]
    rfl
  refine take_ (i := 12) (N := some 17) (v := ?_) (a' := ?_) #[true, true, false, true, true, false, false, true, true, false, false, true, true, false, false, true, false, false, false, false, false] rfl rfl (by kernel_rfl) (fun _ _ _ h => h) (Or.inl ⟨by rfl, ?_⟩) hHeld ?_ ?_
  rotate_left
  · intro w' hS
    have f1 : w'.cell? ⟨gb, 7, none⟩ = some (.slice (A 6) (L 6).length (c 6)) := (blk_cell hS 7).trans rfl
    have z1 := blk_frozen hS 7
    clear hS
    go_simp
    with_reducible rfl
  rotate_left
  · simp only [Act.put, List.setIfInBounds_toArray, List.set_cons_zero, List.set_cons_succ, i64_w, i32_w]
    rfl
  refine take_ (i := 16) (N := some 21) (v := ?_) (a' := ?_) #[true, true, false, true, true, false, false, true, true, false, false, true, true, false, false, true, true, false, false, false, false] rfl rfl (by kernel_rfl) (fun _ _ _ h => h) (Or.inl ⟨by rfl, ?_⟩) hHeld ?_ ?_
  rotate_left
  · intro w' hS
    have f1 : w'.cell? ⟨gb, 8, none⟩ = some (.slice (A 7) (L 7).length (c 7)) := (blk_cell hS 8).trans rfl
    have z1 := blk_frozen hS 8
    clear hS
    go_simp
    with_reducible rfl
  rotate_left
  · simp only [Act.put, List.setIfInBounds_toArray, List.set_cons_zero, List.set_cons_succ, i64_w, i32_w]
    rfl
  refine inv_ (I := fun A0 W0 l a w' => ∃ (b2 b5 b6 b9 b10 b13 b14 b17 b18 b19 : Bool) (x7 x10 x11 x14 x15 x18 x19 x22 x23 x3 : Value), l = #[true, true, b2, true, true, b5, b6, true, true, b9, b10, true, true, b13, b14, true, true, b17, b18, b19, false] ∧ a = putAll A0 [(7, x7), (10, x10), (11, x11), (14, x14), (15, x15), (18, x18), (19, x19), (22, x22), (23, x23), (3, x3)] ∧ Aside0 (Own w' w.heap.size (four8 (bif b5 then some (x10, L 0) else bif b2 then some (x7, []) else none) (bif b9 then some (x14, L 5) else bif b6 then some (x11, []) else none) (bif b13 then some (x18, L 6) else bif b10 then some (x15, []) else none) (bif b17 then some (x22, L 7) else bif b14 then some (x19, []) else none))) ∧ Aside0 (b18 = true → (b5 = true ∧ b9 = true ∧ b13 = true ∧ b17 = true) ∧ x23 = .agg #[.int .i64 s, x10, .slice none 0 0, .slice none 0 0, .slice none 0 0, .slice none 0 0, x14, x18, x22]) ∧ Aside0 (b19 = true → ∃ g, x3 = .pointer (some ⟨g, 0, none⟩) ∧ w'.heap[g]? = some (.cells #[.int .i64 0, .slice none 0 0, .slice none 0 0, .slice none 0 0, .slice none 0 0, .slice none 0 0, .slice none 0 0, .slice none 0 0, .slice none 0 0] 27 (0, 0)) ∧ w.heap.size ≤ g ∧ gb ≠ g ∧ gr ≠ g) ∧ Aside0 (w'.heap[gr]? = some (.cells #[.int .i64 0, .slice none 0 0, .slice none 0 0, .slice none 0 0, .slice none 0 0, .slice none 0 0, .slice none 0 0, .slice none 0 0, .slice none 0 0] 27 (0, 0))) ∧ Aside0 (Below w.heap.size w w') ∧ Aside0 (b5 = true → b2 = true) ∧ Aside0 (b9 = true → b6 = true) ∧ Aside0 (b13 = true → b10 = true) ∧ Aside0 (b17 = true → b14 = true)) (by decide) hHeld ⟨false, false, false, false, false, false, false, false, false, false, undef, undef, undef, undef, undef, undef, undef, undef, undef, undef, rfl, by simp only [putAll, Act.put, List.setIfInBounds_toArray, List.set_cons_zero, List.set_cons_succ], ⟨(Own.nil _ _).congr (fun i => by unfold four8; split <;> rfl)⟩, ⟨fun h => by cases h⟩, ⟨fun h => by cases h⟩, BRd, HBd, ⟨fun h => by cases h⟩, ⟨fun h => by cases h⟩, ⟨fun h => by cases h⟩, ⟨fun h => by cases h⟩⟩ ?_
  clear BKd BRd HBd hHeld
  intro l a wa hS hI
  obtain ⟨b2, b5, b6, b9, b10, b13, b14, b17, b18, b19, x7, x10, x11, x14, x15, x18, x19, x22, x23, x3, rfl, rfl, HO, HU, HA, BR, HB, HT0, HT5, HT6, HT7⟩ := hI
  simp only [putAll, Act.put, List.setIfInBounds_toArray, List.set_cons_zero, List.set_cons_succ]
  by_cases hx : b18 = true ∧ b19 = true
  rotate_left
  · refine Or.inr ⟨?_, fun i hi => ?_⟩
    · cases b2 with
      | false => exact ready_ne (ready_mem (i := 2) rfl rfl (by kernel_rfl))
      | true =>
        · cases b6 with
          | false => exact ready_ne (ready_mem (i := 6) rfl rfl (by kernel_rfl))
          | true =>
            · cases b10 with
              | false => exact ready_ne (ready_mem (i := 10) rfl rfl (by kernel_rfl))
              | true =>
                · cases b14 with
                  | false => exact ready_ne (ready_mem (i := 14) rfl rfl (by kernel_rfl))
                  | true =>
                    · cases b5 with
                      | false => exact ready_ne (ready_mem (i := 5) rfl rfl (by kernel_rfl))
                      | true =>
                        · cases b9 with
                          | false => exact ready_ne (ready_mem (i := 9) rfl rfl (by kernel_rfl))
                          | true =>
                            · cases b13 with
                              | false => exact ready_ne (ready_mem (i := 13) rfl rfl (by kernel_rfl))
                              | true =>
                                · cases b17 with
                                  | false => exact ready_ne (ready_mem (i := 17) rfl rfl (by kernel_rfl))
                                  | true =>
                                    · cases b18 with
                                      | false => exact ready_ne (ready_mem (i := 18) rfl rfl (by kernel_rfl))
                                      | true =>
                                        cases b19 with
                                        | false => exact ready_ne (ready_mem (i := 19) rfl rfl (by kernel_rfl))
                                        | true => exact absurd ⟨rfl, rfl⟩ hx
    · have hlt : i < 21 := ready_lt hi
      match i, hlt, hi with
      | 0, _, hi => exact (nomatch (show true = false from (mem_ready.1 hi).1))
      | 1, _, hi => exact (nomatch (show true = false from (mem_ready.1 hi).1))
      | 3, _, hi => exact (nomatch (show true = false from (mem_ready.1 hi).1))
      | 4, _, hi => exact (nomatch (show true = false from (mem_ready.1 hi).1))
      | 7, _, hi => exact (nomatch (show true = false from (mem_ready.1 hi).1))
      | 8, _, hi => exact (nomatch (show true = false from (mem_ready.1 hi).1))
      | 11, _, hi => exact (nomatch (show true = false from (mem_ready.1 hi).1))
      | 12, _, hi => exact (nomatch (show true = false from (mem_ready.1 hi).1))
      | 15, _, hi => exact (nomatch (show true = false from (mem_ready.1 hi).1))
      | 16, _, hi => exact (nomatch (show true = false from (mem_ready.1 hi).1))
      | 2, _, hi =>
        have h0 : b2 = false := (mem_ready.1 hi).1
        obtain rfl : b5 = false := by cases hq : b5 with
          | false => rfl
          | true => exact absurd (HT0.out hq) (by rw [h0]; simp)
        subst h0
        refine wpOp_step rfl (fun K' hK => ?_)
        refine Kd.R_lit_step (Kd.int .i64) (w0 := w) w.heap.size 3 (by rfl) (N := 7) rfl (xs := ([] : List Int)) (inner := []) (ok := fun _ => True) (okp := fun _ => True) (by first | (go_simp; done) | (go_simp; rfl)) (Reps.none _ _) (fun _ hk => hk) trivial HB.out HB.out.size (by simp) ?_
        intro v1 w5 ho hb hg hnew
        exact hK _ _ ⟨blk_grown hS hg (by simp), true, false, b6, b9, b10, b13, b14, b17, b18, b19, v1, x10, x11, x14, x15, x18, x19, x22, x23, x3, rfl, rfl, ⟨HO.out.add hg 0 ho (fun k hk => by obtain ⟨b, e, hl⟩ := hnew; rw [e] at hk; cases hk; exact hl) rfl four8_ne0⟩, ⟨fun h => by have := (HU.out h).1; simp at this⟩, ⟨fun h => by obtain ⟨g, e, hg', h1, h2, h3⟩ := HA.out h; exact ⟨g, e, blk_grown hg' hg (by simp), h1, h2, h3⟩⟩, ⟨blk_grown BR.out hg (by simp)⟩, ⟨hb⟩, ⟨fun h => by cases h⟩, HT5, HT6, HT7⟩
      | 5, _, hi =>
        have h0 : b5 = false := (mem_ready.1 hi).1
        have d1 : b2 = true := dep_ (j := 2) hi (by kernel_rfl)
        subst h0 d1
        refine wpOp_step rfl (fun K' hK => ?_)
        refine Kd.R_append_rows_step (Kd.int .i64) (w0 := w) w.heap.size (by rfl) (.tmp 7) (.tmp 9) 24 3 (.int .i64 0) 8 rfl Try.underlying24 info3 rfl (by decide) (by omega) x7 [] (L 0) _ _ _ (fun _ => True) (fun _ => False) rfl rfl (HO.out.1 0 _ _ rfl) ((HR.out 0 (by omega)).below HB.out).1 (fun _ _ h => h) (fun _ h => h.elim) (fun _ _ => trivial) HB.out HB.out.size (by have := HL.out 0; simp only [List.length_nil]; omega) ?_
        intro v1 w5 ho hb hg hat
        have hn := fun (g : Nat) (cs : Array Value) (h : wa.heap[g]? = some (.cells cs 27 (0, 0))) => R_ne_blk (HO.out.1 0 _ _ rfl) h (by decide)
        exact hK _ _ ⟨blk_grown hS hg (hn _ _ hS), true, true, b6, b9, b10, b13, b14, b17, b18, b19, x7, v1, x11, x14, x15, x18, x19, x22, x23, x3, rfl, rfl, ⟨HO.out.app 0 rfl hg (by simpa using ho) hat rfl four8_ne0⟩, ⟨fun h => by have := (HU.out h).1; simp at this⟩, ⟨fun h => by obtain ⟨g, e, hg', h1, h2, h3⟩ := HA.out h; exact ⟨g, e, blk_grown hg' hg (hn _ _ hg'), h1, h2, h3⟩⟩, ⟨blk_grown BR.out hg (hn _ _ BR.out)⟩, ⟨hb⟩, ⟨fun _ => rfl⟩, HT5, HT6, HT7⟩
      | 6, _, hi =>
        have h0 : b6 = false := (mem_ready.1 hi).1
        obtain rfl : b9 = false := by cases hq : b9 with
          | false => rfl
          | true => exact absurd (HT5.out hq) (by rw [h0]; simp)
        subst h0
        refine wpOp_step rfl (fun K' hK => ?_)
        refine Kd.R_lit_step (Kd.int .i64) (w0 := w) w.heap.size 3 (by rfl) (N := 11) rfl (xs := ([] : List Int)) (inner := []) (ok := fun _ => True) (okp := fun _ => True) (by first | (go_simp; done) | (go_simp; rfl)) (Reps.none _ _) (fun _ hk => hk) trivial HB.out HB.out.size (by simp) ?_
        intro v1 w5 ho hb hg hnew
        exact hK _ _ ⟨blk_grown hS hg (by simp), b2, b5, true, false, b10, b13, b14, b17, b18, b19, x7, x10, v1, x14, x15, x18, x19, x22, x23, x3, rfl, rfl, ⟨HO.out.add hg 5 ho (fun k hk => by obtain ⟨b, e, hl⟩ := hnew; rw [e] at hk; cases hk; exact hl) rfl four8_ne5⟩, ⟨fun h => by have := (HU.out h).1; simp at this⟩, ⟨fun h => by obtain ⟨g, e, hg', h1, h2, h3⟩ := HA.out h; exact ⟨g, e, blk_grown hg' hg (by simp), h1, h2, h3⟩⟩, ⟨blk_grown BR.out hg (by simp)⟩, ⟨hb⟩, HT0, ⟨fun h => by cases h⟩, HT6, HT7⟩
      | 9, _, hi =>
        have h0 : b9 = false := (mem_ready.1 hi).1
        have d1 : b6 = true := dep_ (j := 6) hi (by kernel_rfl)
        subst h0 d1
        refine wpOp_step rfl (fun K' hK => ?_)
        refine Kd.R_append_rows_step (Kd.int .i64) (w0 := w) w.heap.size (by rfl) (.tmp 11) (.tmp 13) 24 3 (.int .i64 0) 8 rfl Try.underlying24 info3 rfl (by decide) (by omega) x11 [] (L 5) _ _ _ (fun _ => True) (fun _ => False) rfl rfl (HO.out.1 5 _ _ rfl) ((HR.out 5 (by omega)).below HB.out).1 (fun _ _ h => h) (fun _ h => h.elim) (fun _ _ => trivial) HB.out HB.out.size (by have := HL.out 5; simp only [List.length_nil]; omega) ?_
        intro v1 w5 ho hb hg hat
        have hn := fun (g : Nat) (cs : Array Value) (h : wa.heap[g]? = some (.cells cs 27 (0, 0))) => R_ne_blk (HO.out.1 5 _ _ rfl) h (by decide)
        exact hK _ _ ⟨blk_grown hS hg (hn _ _ hS), b2, b5, true, true, b10, b13, b14, b17, b18, b19, x7, x10, x11, v1, x15, x18, x19, x22, x23, x3, rfl, rfl, ⟨HO.out.app 5 rfl hg (by simpa using ho) hat rfl four8_ne5⟩, ⟨fun h => by have := (HU.out h).1; simp at this⟩, ⟨fun h => by obtain ⟨g, e, hg', h1, h2, h3⟩ := HA.out h; exact ⟨g, e, blk_grown hg' hg (hn _ _ hg'), h1, h2, h3⟩⟩, ⟨blk_grown BR.out hg (hn _ _ BR.out)⟩, ⟨hb⟩, HT0, ⟨fun _ => rfl⟩, HT6, HT7⟩
      | 10, _, hi =>
        have h0 : b10 = false := (mem_ready.1 hi).1
        obtain rfl : b13 = false := by cases hq : b13 with
          | false => rfl
          | true => exact absurd (HT6.out hq) (by rw [h0]; simp)
        subst h0
        refine wpOp_step rfl (fun K' hK => ?_)
        refine Kd.R_lit_step (Kd.int .i64) (w0 := w) w.heap.size 3 (by rfl) (N := 15) rfl (xs := ([] : List Int)) (inner := []) (ok := fun _ => True) (okp := fun _ => True) (by first | (go_simp; done) | (go_simp; rfl)) (Reps.none _ _) (fun _ hk => hk) trivial HB.out HB.out.size (by simp) ?_
        intro v1 w5 ho hb hg hnew
        exact hK _ _ ⟨blk_grown hS hg (by simp), b2, b5, b6, b9, true, false, b14, b17, b18, b19, x7, x10, x11, x14, v1, x18, x19, x22, x23, x3, rfl, rfl, ⟨HO.out.add hg 6 ho (fun k hk => by obtain ⟨b, e, hl⟩ := hnew; rw [e] at hk; cases hk; exact hl) rfl four8_ne6⟩, ⟨fun h => by have := (HU.out h).1; simp at this⟩, ⟨fun h => by obtain ⟨g, e, hg', h1, h2, h3⟩ := HA.out h; exact ⟨g, e, blk_grown hg' hg (by simp), h1, h2, h3⟩⟩, ⟨blk_grown BR.out hg (by simp)⟩, ⟨hb⟩, HT0, HT5, ⟨fun h => by cases h⟩, HT7⟩
      | 13, _, hi =>
        have h0 : b13 = false := (mem_ready.1 hi).1
        have d1 : b10 = true := dep_ (j := 10) hi (by kernel_rfl)
        subst h0 d1
        refine wpOp_step rfl (fun K' hK => ?_)
        refine Kd.R_append_rows_step (Kd.int .i64) (w0 := w) w.heap.size (by rfl) (.tmp 15) (.tmp 17) 24 3 (.int .i64 0) 8 rfl Try.underlying24 info3 rfl (by decide) (by omega) x15 [] (L 6) _ _ _ (fun _ => True) (fun _ => False) rfl rfl (HO.out.1 6 _ _ rfl) ((HR.out 6 (by omega)).below HB.out).1 (fun _ _ h => h) (fun _ h => h.elim) (fun _ _ => trivial) HB.out HB.out.size (by have := HL.out 6; simp only [List.length_nil]; omega) ?_
        intro v1 w5 ho hb hg hat
        have hn := fun (g : Nat) (cs : Array Value) (h : wa.heap[g]? = some (.cells cs 27 (0, 0))) => R_ne_blk (HO.out.1 6 _ _ rfl) h (by decide)
        exact hK _ _ ⟨blk_grown hS hg (hn _ _ hS), b2, b5, b6, b9, true, true, b14, b17, b18, b19, x7, x10, x11, x14, x15, v1, x19, x22, x23, x3, rfl, rfl, ⟨HO.out.app 6 rfl hg (by simpa using ho) hat rfl four8_ne6⟩, ⟨fun h => by have := (HU.out h).1; simp at this⟩, ⟨fun h => by obtain ⟨g, e, hg', h1, h2, h3⟩ := HA.out h; exact ⟨g, e, blk_grown hg' hg (hn _ _ hg'), h1, h2, h3⟩⟩, ⟨blk_grown BR.out hg (hn _ _ BR.out)⟩, ⟨hb⟩, HT0, HT5, ⟨fun _ => rfl⟩, HT7⟩
      | 14, _, hi =>
        have h0 : b14 = false := (mem_ready.1 hi).1
        obtain rfl : b17 = false := by cases hq : b17 with
          | false => rfl
          | true => exact absurd (HT7.out hq) (by rw [h0]; simp)
        subst h0
        refine wpOp_step rfl (fun K' hK => ?_)
        refine Kd.R_lit_step (Kd.int .i64) (w0 := w) w.heap.size 3 (by rfl) (N := 19) rfl (xs := ([] : List Int)) (inner := []) (ok := fun _ => True) (okp := fun _ => True) (by first | (go_simp; done) | (go_simp; rfl)) (Reps.none _ _) (fun _ hk => hk) trivial HB.out HB.out.size (by simp) ?_
        intro v1 w5 ho hb hg hnew
        exact hK _ _ ⟨blk_grown hS hg (by simp), b2, b5, b6, b9, b10, b13, true, false, b18, b19, x7, x10, x11, x14, x15, x18, v1, x22, x23, x3, rfl, rfl, ⟨HO.out.add hg 7 ho (fun k hk => by obtain ⟨b, e, hl⟩ := hnew; rw [e] at hk; cases hk; exact hl) rfl four8_ne7⟩, ⟨fun h => by have := (HU.out h).1; simp at this⟩, ⟨fun h => by obtain ⟨g, e, hg', h1, h2, h3⟩ := HA.out h; exact ⟨g, e, blk_grown hg' hg (by simp), h1, h2, h3⟩⟩, ⟨blk_grown BR.out hg (by simp)⟩, ⟨hb⟩, HT0, HT5, HT6, ⟨fun h => by cases h⟩⟩
      | 17, _, hi =>
        have h0 : b17 = false := (mem_ready.1 hi).1
        have d1 : b14 = true := dep_ (j := 14) hi (by kernel_rfl)
        subst h0 d1
        refine wpOp_step rfl (fun K' hK => ?_)
        refine Kd.R_append_rows_step (Kd.int .i64) (w0 := w) w.heap.size (by rfl) (.tmp 19) (.tmp 21) 24 3 (.int .i64 0) 8 rfl Try.underlying24 info3 rfl (by decide) (by omega) x19 [] (L 7) _ _ _ (fun _ => True) (fun _ => False) rfl rfl (HO.out.1 7 _ _ rfl) ((HR.out 7 (by omega)).below HB.out).1 (fun _ _ h => h) (fun _ h => h.elim) (fun _ _ => trivial) HB.out HB.out.size (by have := HL.out 7; simp only [List.length_nil]; omega) ?_
        intro v1 w5 ho hb hg hat
        have hn := fun (g : Nat) (cs : Array Value) (h : wa.heap[g]? = some (.cells cs 27 (0, 0))) => R_ne_blk (HO.out.1 7 _ _ rfl) h (by decide)
        exact hK _ _ ⟨blk_grown hS hg (hn _ _ hS), b2, b5, b6, b9, b10, b13, true, true, b18, b19, x7, x10, x11, x14, x15, x18, x19, v1, x23, x3, rfl, rfl, ⟨HO.out.app 7 rfl hg (by simpa using ho) hat rfl four8_ne7⟩, ⟨fun h => by have := (HU.out h).1; simp at this⟩, ⟨fun h => by obtain ⟨g, e, hg', h1, h2, h3⟩ := HA.out h; exact ⟨g, e, blk_grown hg' hg (hn _ _ hg'), h1, h2, h3⟩⟩, ⟨blk_grown BR.out hg (hn _ _ BR.out)⟩, ⟨hb⟩, HT0, HT5, HT6, ⟨fun _ => rfl⟩⟩
      | 18, _, hi =>
        have h0 : b18 = false := (mem_ready.1 hi).1
        subst h0
        have d5 : b5 = true := dep_ (j := 5) hi (by kernel_rfl)
        have d9 : b9 = true := dep_ (j := 9) hi (by kernel_rfl)
        have d13 : b13 = true := dep_ (j := 13) hi (by kernel_rfl)
        have d17 : b17 = true := dep_ (j := 17) hi (by kernel_rfl)
        subst d5 d9 d13 d17
        refine wpOp_step rfl (fun K' hK => ?_)
        obtain ⟨A0', c0', rfl⟩ := Kd.R_slice (HO.out.1 0 _ _ rfl)
        obtain ⟨A5', c5', rfl⟩ := Kd.R_slice (HO.out.1 5 _ _ rfl)
        obtain ⟨A6', c6', rfl⟩ := Kd.R_slice (HO.out.1 6 _ _ rfl)
        obtain ⟨A7', c7', rfl⟩ := Kd.R_slice (HO.out.1 7 _ _ rfl)
        refine value_ (v := .agg #[.int .i64 s, .slice A0' (L 0).length c0', .slice none 0 0, .slice none 0 0, .slice none 0 0, .slice none 0 0, .slice A5' (L 5).length c5', .slice A6' (L 6).length c6', .slice A7' (L 7).length c7']) (w1 := wa) (by rfl) rfl (by first | (go_simp; done) | (go_simp; rfl)) ?_
        exact hK _ _ ⟨hS, b2, true, b6, true, b10, true, b14, true, true, b19, _, _, _, _, _, _, _, _, _, _, rfl, rfl, HO, ⟨fun _ => ⟨⟨rfl, rfl, rfl, rfl⟩, rfl⟩⟩, HA, BR, HB, HT0, HT5, HT6, HT7⟩
      | 19, _, hi =>
        have h0 : b19 = false := (mem_ready.1 hi).1
        subst h0
        refine wpOp_step rfl (fun K' hK => ?_)
        refine box_step (by rfl) (N := 3) rfl (cs := #[.int .i64 0, .slice none 0 0, .slice none 0 0, .slice none 0 0, .slice none 0 0, .slice none 0 0, .slice none 0 0, .slice none 0 0, .slice none 0 0]) (t := 27) (by first | (go_simp; done) | (go_simp; rfl)) ?_
        intro g hg w5 hbox hb
        exact hK _ _ ⟨blk_below hS hb, b2, b5, b6, b9, b10, b13, b14, b17, b18, true, x7, x10, x11, x14, x15, x18, x19, x22, x23, (.pointer (some ⟨g, 0, none⟩)), rfl, rfl, ⟨HO.out.below hb⟩, HU, ⟨fun _ => ⟨g, rfl, hbox, by rw [hg]; exact HB.out.size, by rw [hg]; exact Nat.ne_of_lt (blk_lt hS), by rw [hg]; exact Nat.ne_of_lt (blk_lt BR.out)⟩⟩, ⟨blk_below BR.out hb⟩, ⟨below_step HB.out hb⟩, HT0, HT5, HT6, HT7⟩
      | j + 21, h, _ => exact absurd h (by omega)
      | 20, _, hi => exact absurd ⟨dep_ (j := 18) hi (by kernel_rfl), dep_ (j := 19) hi (by kernel_rfl)⟩ hx
  obtain ⟨rfl, rfl⟩ := hx
  obtain ⟨⟨rfl, rfl, rfl, rfl⟩, hu⟩ := HU.out rfl
  obtain rfl : b2 = true := HT0.out rfl
  obtain rfl : b6 = true := HT5.out rfl
  obtain rfl : b10 = true := HT6.out rfl
  obtain rfl : b14 = true := HT7.out rfl
  obtain ⟨go, hp, BG, HG0, NBG, NRG⟩ := HA.out rfl
  obtain ⟨A0', c0', rfl⟩ := Kd.R_slice (HO.out.1 0 _ _ rfl)
  obtain ⟨A5', c5', rfl⟩ := Kd.R_slice (HO.out.1 5 _ _ rfl)
  obtain ⟨A6', c6', rfl⟩ := Kd.R_slice (HO.out.1 6 _ _ rfl)
  obtain ⟨A7', c7', rfl⟩ := Kd.R_slice (HO.out.1 7 _ _ rfl)
  subst hu hp
  clear HU HA HT0 HT5 HT6 HT7
  refine Or.inl fun fuel hm => ?_
  obtain ⟨fuel, rfl⟩ : ∃ k, fuel = k + 1 := ⟨fuel - 1, by have h1 : 1 ≤ fuel := hm; omega⟩
  refine one_ (i := 20) (N := none) #[true, true, true, true, true, true, true, true, true, true, true, true, true, true, true, true, true, true, true, true, true] rfl rfl (by kernel_rfl) (by decide) (fun K hK => ?_)
  refine skip_ (w1 := wa.setRow go #[.int .i64 s, .slice A0' (L 0).length c0', .slice none 0 0, .slice none 0 0, .slice none 0 0, .slice none 0 0, .slice A5' (L 5).length c5', .slice A6' (L 6).length c6', .slice A7' (L 7).length c7']) (by rfl) rfl (Row.store_row_run (g := go) (cells := #[.int .i64 s, .slice A0' (L 0).length c0', .slice none 0 0, .slice none 0 0, .slice none 0 0, .slice none 0 0, .slice A5' (L 5).length c5', .slice A6' (L 6).length c6', .slice A7' (L 7).length c7']) (t := 27) (old := #[.int .i64 0, .slice none 0 0, .slice none 0 0, .slice none 0 0, .slice none 0 0, .slice none 0 0, .slice none 0 0, .slice none 0 0, .slice none 0 0]) rfl (by rfl) (by rfl) BG (by kernel_rfl) rfl (by simp [Value.oneCell'])) ?_
  refine hK.out _ _ (Row.row_there rfl hS NBG) (fun _ => done_ (by kernel_rfl) ?_)
  clear hK
  have HOw := Aside0.mk (HO.out.row BG (by decide) #[.int .i64 s, .slice A0' (L 0).length c0', .slice none 0 0, .slice none 0 0, .slice none 0 0, .slice none 0 0, .slice A5' (L 5).length c5', .slice A6' (L 6).length c6', .slice A7' (L 7).length c7'])
  have BKgb : Aside0 ((wa.setRow go #[.int .i64 s, .slice A0' (L 0).length c0', .slice none 0 0, .slice none 0 0, .slice none 0 0, .slice none 0 0, .slice A5' (L 5).length c5', .slice A6' (L 6).length c6', .slice A7' (L 7).length c7']).heap[gb]? = some (.cells (bkCells s A c L) 27 (0, 0))) := ⟨Row.row_there rfl hS NBG⟩
  have BKgr : Aside0 ((wa.setRow go #[.int .i64 s, .slice A0' (L 0).length c0', .slice none 0 0, .slice none 0 0, .slice none 0 0, .slice none 0 0, .slice A5' (L 5).length c5', .slice A6' (L 6).length c6', .slice A7' (L 7).length c7']).heap[gr]? = some (.cells #[.int .i64 0, .slice none 0 0, .slice none 0 0, .slice none 0 0, .slice none 0 0, .slice none 0 0, .slice none 0 0, .slice none 0 0, .slice none 0 0] 27 (0, 0))) := ⟨Row.row_there rfl BR.out NRG⟩
  have BKgo : Aside0 ((wa.setRow go #[.int .i64 s, .slice A0' (L 0).length c0', .slice none 0 0, .slice none 0 0, .slice none 0 0, .slice none 0 0, .slice A5' (L 5).length c5', .slice A6' (L 6).length c6', .slice A7' (L 7).length c7']).heap[go]? = some (.cells #[.int .i64 s, .slice A0' (L 0).length c0', .slice none 0 0, .slice none 0 0, .slice none 0 0, .slice none 0 0, .slice A5' (L 5).length c5', .slice A6' (L 6).length c6', .slice A7' (L 7).length c7'] 27 (0, 0))) := ⟨Row.row_here rfl BG⟩
  have HBw : Aside0 (Below w.heap.size w (wa.setRow go #[.int .i64 s, .slice A0' (L 0).length c0', .slice none 0 0, .slice none 0 0, .slice none 0 0, .slice none 0 0, .slice A5' (L 5).length c5', .slice A6' (L 6).length c6', .slice A7' (L 7).length c7'])) := ⟨Row.row_below rfl HB.out HG0⟩
  clear HO BR HB hS BG
  generalize wa.setRow go #[.int .i64 s, .slice A0' (L 0).length c0', .slice none 0 0, .slice none 0 0, .slice none 0 0, .slice none 0 0, .slice A5' (L 5).length c5', .slice A6' (L 6).length c6', .slice A7' (L 7).length c7'] = w9 at HOw BKgb BKgr BKgo HBw ⊢
  have HO := HOw
  have HB := HBw
  clear HOw HBw
  have HO0 := Aside0.mk (HO.out.congr (D' := copyD (vals8 (.slice A0' (L 0).length c0') (.slice A5' (L 5).length c5') (.slice A6' (L 6).length c6') (.slice A7' (L 7).length c7')) L 0) copyD_four)
  have BKgo0 : Aside0 (w9.heap[go]? = some (.cells (bkV s (vals8 (.slice A0' (L 0).length c0') (.slice A5' (L 5).length c5') (.slice A6' (L 6).length c6') (.slice A7' (L 7).length c7'))) 27 (0, 0))) := ⟨BKgo.out⟩
  clear HO BKgo
  have HO := HO0
  have BKgo := BKgo0
  clear HO0 BKgo0
  generalize (vals8 (.slice A0' (L 0).length c0') (.slice A5' (L 5).length c5') (.slice A6' (L 6).length c6') (.slice A7' (L 7).length c7')) = V at HO BKgo ⊢
  go_wp2_with fail
  go_loopg [4] 5 (fun kq v4 w' => ∃ (k : Nat) (V : Nat → Value), k ≤ 4 ∧ kq = 5 - k ∧ v4 = .int .i64 k ∧ Aside0 (w'.heap[gb]? = some (.cells (bkCells s A c L) 27 (0, 0))) ∧ Aside0 (w'.heap[gr]? = some (.cells #[.int .i64 0, .slice none 0 0, .slice none 0 0, .slice none 0 0, .slice none 0 0, .slice none 0 0, .slice none 0 0, .slice none 0 0, .slice none 0 0] 27 (0, 0))) ∧ Aside0 (w'.heap[go]? = some (.cells (bkV s V) 27 (0, 0))) ∧ Aside0 (Own w' w.heap.size (copyD V L k)) ∧ Aside0 (Below w.heap.size w w'))
  case atStart => exact ⟨0, V, by omega, by omega, rfl, BKgb, BKgr, BKgo, HO, HB⟩
  case round =>
    clear HB BKgb BKgr BKgo HO V
    obtain ⟨k, V, hk, rfl, rfl, BKgb, BKgr, BKgo, HO, HB⟩ := hrel
    by_cases hlt : k < 4
    · have hcell : wr.cell? ⟨gb, 2 + k, none⟩ = some (.slice (A (k + 1)) (L (k + 1)).length (c (k + 1))) := (blk_cell BKgb.out (2 + k)).trans (bkCells_at s A c L k hlt)
      have hfz := blk_frozen BKgb.out (2 + k)
      have hi : (k : Int) < 4 := by omega
      go_wp2_with (first | ((with_reducible refine gate_dst (N := 29) rfl ?_); refine Kd.R_lit (Kd.int .i64) (w0 := w) w.heap.size 3 ?hg (N := 29) ?hd (xs := ([] : List Int)) (inner := []) (ok := fun _ => True) (okp := fun _ => True) ?hr ?hp (fun _ hk => hk) trivial HB.out HB.out.size (by simp) ?_; (case hd => rfl); (case hg => rfl); (case hr => first | (go_simp; done) | (go_simp; rfl)); (case hp => exact (Reps.none _ _)); intro v0 w4 ho hb hg hnew; have HO4 := Aside0.mk (HO.out.add (D' := copyD (fun i => if i = k + 1 then v0 else V i) (fun i => if i = k + 1 then [] else L i) (k + 1)) hg (k + 1) ho (fun k hk => by obtain ⟨b, e, hl⟩ := hnew; rw [e] at hk; cases hk; exact hl) (copyD_lit hlt) copyD_litold); have HVX := Aside0.mk ho; have BKgb4 := Aside0.mk (blk_grown BKgb.out hg (by simp)); have BKgr4 := Aside0.mk (blk_grown BKgr.out hg (by simp)); have BKgo4 := Aside0.mk (blk_grown BKgo.out hg (by simp)); have HB4 := Aside0.mk hb; clear HO HB BKgb BKgr BKgo hb hg hnew hcell hfz ho; have hcell : w4.cell? ⟨gb, 2 + k, none⟩ = some (.slice (A (k + 1)) (L (k + 1)).length (c (k + 1))) := (blk_cell BKgb4.out (2 + k)).trans (bkCells_at s A c L k hlt); have hfz := blk_frozen BKgb4.out (2 + k)) | ((with_reducible refine gate_builtin (b := .append) (xs := #[.tmp 29, .tmp 33]) rfl ?_); at_builtin; refine Kd.R_append_rows (Kd.int .i64) (w0 := w) w.heap.size rfl (.tmp 29) (.tmp 33) 24 3 (.int .i64 0) 8 rfl Try.underlying24 info3 rfl (by decide) (by omega) v0 [] (L (k + 1)) _ _ _ (fun _ => True) (fun _ => False) rfl rfl HVX.out ((HR.out (k + 1) (by omega)).below HB4.out).1 (fun _ _ h => h) (fun _ h => h.elim) (fun _ _ => trivial) HB4.out HB4.out.size (by have := HL.out (k + 1); simp only [List.length_nil]; omega) ?_; intro v1 w5 ho hb hg hat; rw [List.nil_append] at ho; obtain ⟨A', c', hv1⟩ := Kd.R_slice ho; subst hv1; have hn := fun (g : Nat) (cs : Array Value) (h : w4.heap[g]? = some (.cells cs 27 (0, 0))) => R_ne_blk HVX.out h (by decide); have HO5 := Aside0.mk (HO4.out.app (D' := copyD (fun i => if i = k + 1 then .slice A' (L (k + 1)).length c' else V i) L (k + 1)) (k + 1) (copyD_lit hlt) hg ho hat (copyD_new hlt) copyD_fin); have BKgb5 := Aside0.mk (blk_grown BKgb4.out hg (hn _ _ BKgb4.out)); have BKgr5 := Aside0.mk (blk_grown BKgr4.out hg (hn _ _ BKgr4.out)); have BKgo5 := Aside0.mk (blk_grown BKgo4.out hg (hn _ _ BKgo4.out)); have HB5 := Aside0.mk hb; clear HO4 HVX HB4 BKgb4 BKgr4 BKgo4 hb hg hat ho hn hcell hfz; have hold : w5.cell? ⟨go, 2 + k, none⟩ = some (V (k + 1)) := (blk_cell BKgo5.out (2 + k)).trans (bkV_at s V k hlt); have hfo := blk_frozen BKgo5.out (2 + k)) | ((with_reducible refine gate_store (t := 24) (p := 36) rfl ?_); refine store_event (t := 24) (p := 36) (v := ?vo_1) (w1 := (w5.setCell ⟨go, 2 + k, none⟩ (.slice A' (L (k + 1)).length c'))) ?hg ?ho ?hn ?hr ?_; (case ho => rfl); (case hg => rfl); (case hn => rfl); (case hr => first | (go_simp; done) | (go_simp; rfl)); intro w6 hw; have HO := Aside0.mk (show Own w6 w.heap.size (copyD _ L (k + 1)) by rw [hw]; exact HO5.out.set BKgo5.out (by decide) (2 + k) _); have HB := Aside0.mk (show Below w.heap.size w w6 by rw [hw]; exact below_set HB5.out HG0); have BKgb := Aside0.mk (show w6.heap[gb]? = some (.cells (bkCells s A c L) 27 (0, 0)) by rw [hw]; exact blk_far BKgb5.out NBG _); have BKgr := Aside0.mk (show w6.heap[gr]? = some (.cells #[.int .i64 0, .slice none 0 0, .slice none 0 0, .slice none 0 0, .slice none 0 0, .slice none 0 0, .slice none 0 0, .slice none 0 0, .slice none 0 0] 27 (0, 0)) by rw [hw]; exact blk_far BKgr5.out NRG _); have BKgo := Aside0.mk (show w6.heap[go]? = some (.cells (bkV s _) 27 (0, 0)) by rw [hw]; exact (blk_set BKgo5.out (2 + k) _).trans (by rw [bkV_set s V k _ hlt])); clear hw))
      go_roundg (5 - (k + 1))
      case measure => omega
      case rel => exact ⟨k + 1, _, by omega, rfl, by go_num, BKgb, BKgr, BKgo, HO, HB⟩
    · have hk4 : k = 4 := by omega
      subst hk4
      have BKgo2 := Aside0.mk (show wr.heap[go]? = some (.cells (bkCells s (fun i => aOf (V i)) (fun i => cOf (V i)) L) 27 (0, 0)) by rw [← HO.out.bkV s]; exact BKgo.out)
      have HOo := Aside0.mk (HO.out.bk (V := V) (fun i hi => Or.inl (copyD_all hi)))
      clear BKgo HO
      go_wp2_with (first | ((with_reducible refine gate_dst (N := 37) rfl ?_); refine Kd.event_run rfl (Row.load_row_run (g := go) (t := 27) (cells := bkCells s (fun i => aOf (V i)) (fun i => cOf (V i)) L) rfl rfl BKgo2.out Try.underlying27 rfl (by kernel_rfl)) ?_) | ((with_reducible refine gate_store (t := 27) (p := 2) rfl ?_); refine store_event (t := 27) (p := 2) (v := ?vo_2) (w1 := wr.setRow gr (bkCells s (fun i => aOf (V i)) (fun i => cOf (V i)) L)) ?hg ?ho ?hn ?hr ?_; (case ho => rfl); (case hg => rfl); (case hn => rfl); (case hr => exact (Row.store_row_run (g := gr) (cells := bkCells s (fun i => aOf (V i)) (fun i => cOf (V i)) L) (t := 27) (old := #[.int .i64 0, .slice none 0 0, .slice none 0 0, .slice none 0 0, .slice none 0 0, .slice none 0 0, .slice none 0 0, .slice none 0 0, .slice none 0 0]) rfl (by rfl) (by rfl) BKgr.out (by kernel_rfl) rfl (by simp [Value.oneCell']))); intro w6 hw; have HO5 := Aside0.mk (show BkO w6 w.heap.size w6.heap.size _ _ L by rw [hw, size_row]; exact VO.row HOo.out BKgr.out (by decide) _); have HB5 := Aside0.mk (Row.row_below hw HB.out HGgr.out); have BK5 := Aside0.mk (Row.row_here hw BKgr.out); clear hw))
      refine bodyPost_ret (results_cell_row rfl _ _ gr 27 (bkCells s (fun i => aOf (V i)) (fun i => cOf (V i)) L) (0, 0) _ rfl BK5.out Try.underlying27 rfl (by kernel_rfl)) rfl ?_
      exact ⟨_, _, rfl, HO5.out, HB5.out⟩
end Go.Proofs.Ytekneicikmaplaa.Bk
