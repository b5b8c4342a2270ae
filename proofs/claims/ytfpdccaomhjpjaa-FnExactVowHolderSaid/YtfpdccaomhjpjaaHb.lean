/- VowHolder, the reference's, the program's and the law's walk, over what WorldOk and CellDoor answer. -/
import Derived.Test.YtfpdccaomhjpjaaGz
set_option linter.unusedVariables false
set_option linter.unusedSimpArgs false
namespace Go.Proofs.Ytfpdccaomhjpjaa.Gu
open Go.RowKit Go.Proofs.YtfpdccaomhjpjaaW.PrintWords Go.Proofs.YtfpdccaomhjpjaaW.PrintLast Go.Proofs.YtfpdccaomhjpjaaW.PrintMore Go.Proofs.Ytfpdccaomhjpjaa.St0

/-- Function F answers the door's word. -/
def Doors (F : FuncId) (dv : Int → Int → Int → Int) : Prop := ∀ (s e q : Int) (w : World),
  Calls Try.prog F #[.int .i64 1, .int .i64 s, .int .i64 e, .int .i64 q] w fun x w' => x = .returned (.int .u64 (dv s e q)) ∧ Below w.heap.size w w'
def inV (pc : Int) : Bool := decide (11 ≤ pc ∧ pc ≤ 15) || decide (pc = 26)
def heldB (dv : Int → Int → Int → Int) (D : Int) (g : Gu) : Bool := g.busy && ((inV g.pc && decide (D = dv g.slot g.epoch g.seq)) || (g.own && decide (D = g.door)))
def scanH (p : Gu → Bool) : List Gu → Int → Int × Bool
  | [], _ => (0, false)
  | g :: gs, k => if p g then (k, true) else scanH p gs (k + 1)
theorem scan_drop (p : Gu → Bool) (gs : List Gu) (k : Nat) (hk : k < gs.length) : scanH p (gs.drop k) (k : Int) = if p (gs.getD k zG) then ((k : Int), true) else scanH p (gs.drop (k + 1)) ((k + 1 : Nat) : Int) := by
  rw [List.drop_eq_getElem_cons hk]
  have : gs.getD k zG = gs[k] := by simp [List.getD, hk]
  rw [this]
  show (if p gs[k] then _ else _) = _
  rw [Int.natCast_add]; rfl
def holder (ok : Bool) (gk : Gu → Bool) (dv : Int → Int → Int → Int) (l : List Int) (gs : List Gu) : Int × Bool := if wokB ok gk gs then scanH (heldB dv (l.getD 2 0)) gs 0 else (0, false)
set_option maxRecDepth 100000 in
theorem within_calls (n a b : Int) (w : World) : Calls Try.prog 44 #[.int .i64 n, .int .i64 a, .int .i64 b] w fun e w' => e = .returned (.bool (decide (a ≤ n ∧ n ≤ b))) ∧ Below w.heap.size w w' := by
  have S := Aside0.mk (St.start w)
  go_enter Try.func44, Try.ntmps44
  by_cases h : a ≤ n
  · have h1 : decide (a ≤ n) = true := decide_eq_true h
    have h2 : decide (a ≤ n ∧ n ≤ b) = decide (n ≤ b) := by simp [h]
    rw [h2]
    go_wp2
    go_ret
    exact ⟨rfl, S.out.base⟩
  · have h1 : decide (a ≤ n) = false := decide_eq_false h
    have h2 : decide (a ≤ n ∧ n ≤ b) = false := by simp [h]
    rw [h2]
    go_wp2
    go_ret
    exact ⟨rfl, S.out.base⟩
set_option maxRecDepth 100000 in
theorem heldF_calls {dv : Int → Int → Int → Int} (hd : Doors 58 dv) (gb : Nat) (cs : Array Value) (s e q : Int) (w : World) (hb : w.heap[gb]? = some (.cells cs 59 (0, 0))) (h1 : cs[1]? = some (.int .i64 s)) (h2 : cs[2]? = some (.int .i64 e)) (h3 : cs[11]? = some (.int .i64 q)) :
    Calls Try.prog 45 #[.pointer (some ⟨gb, 0, none⟩)] w fun x w' => x = .returned (.int .u64 (dv s e q)) ∧ Below w.heap.size w w' := by
  have HB := Aside0.mk hb
  have hlt : gb < w.heap.size := (Array.getElem?_eq_some_iff.1 hb).1
  have H1 := Aside0.mk h1
  have H2 := Aside0.mk h2
  have H3 := Aside0.mk h3
  have HD := Aside0.mk (hd s e q)
  obtain ⟨r, hr⟩ : ∃ r, dv s e q = r := ⟨_, rfl⟩
  rw [hr] at HD ⊢
  clear hr hb h1 h2 h3 hd
  have S := Aside0.mk (St.start w)
  go_enter Try.func45, Try.ntmps45
  go_wp2
  refine start_ (n := 14) (S := fun w_ => St w w_ []) (ds := []) #[false, false, false, false, false, false, false, false, false, false, false, false, false, false] (by kernel_rfl) rfl rfl (S.out.drew) (fun hH_ => ?_)
  refine pure_ (i := 0) (N := some 3) (v := ?_) (a' := ?_) #[true, false, false, false, false, false, false, false, false, false, false, false, false, false] rfl rfl (by kernel_rfl) (fun _ _ _ h => h) (Or.inl ⟨by rfl, ?_⟩) ?_ ?_
  rotate_left
  · intro w'
    go_simp
    with_reducible rfl
  rotate_left
  · simp only [Act.put, List.setIfInBounds_toArray, List.set_cons_zero, List.set_cons_succ, i64_w, i32_w]
    rfl
  refine pure_ (i := 1) (N := some 4) (v := ?_) (a' := ?_) #[true, true, false, false, false, false, false, false, false, false, false, false, false, false] rfl rfl (by kernel_rfl) (fun _ _ _ h => h) (Or.inl ⟨by rfl, ?_⟩) ?_ ?_
  rotate_left
  · intro w'
    go_simp
    with_reducible rfl
  rotate_left
  · simp only [Act.put, List.setIfInBounds_toArray, List.set_cons_zero, List.set_cons_succ, i64_w, i32_w]
    rfl
  refine pure_ (i := 2) (N := some 5) (v := ?_) (a' := ?_) #[true, true, true, false, false, false, false, false, false, false, false, false, false, false] rfl rfl (by kernel_rfl) (fun _ _ _ h => h) (Or.inl ⟨by rfl, ?_⟩) ?_ ?_
  rotate_left
  · intro w'
    go_simp
    with_reducible rfl
  rotate_left
  · simp only [Act.put, List.setIfInBounds_toArray, List.set_cons_zero, List.set_cons_succ, i64_w, i32_w]
    rfl
  refine take_ (i := 3) (N := some 6) (v := ?_) (a' := ?_) #[true, true, true, true, false, false, false, false, false, false, false, false, false, false] rfl rfl (by kernel_rfl) (fun _ _ _ h => h) (Or.inl ⟨by rfl, ?_⟩) hH_ ?_ ?_
  rotate_left
  · intro w' s0
    have f_ : w'.cell? ⟨gb, 1, none⟩ = some (.int .i64 s) := (blk_cell ((s0.base.block gb hlt).trans HB.out) 1).trans H1.out
    clear s0
    go_simp
    with_reducible rfl
  rotate_left
  · simp only [Act.put, List.setIfInBounds_toArray, List.set_cons_zero, List.set_cons_succ, i64_w, i32_w]
    rfl
  refine pure_ (i := 4) (N := some 7) (v := ?_) (a' := ?_) #[true, true, true, true, true, false, false, false, false, false, false, false, false, false] rfl rfl (by kernel_rfl) (fun _ _ _ h => h) (Or.inl ⟨by rfl, ?_⟩) ?_ ?_
  rotate_left
  · intro w'
    go_simp
    with_reducible rfl
  rotate_left
  · simp only [Act.put, List.setIfInBounds_toArray, List.set_cons_zero, List.set_cons_succ, i64_w, i32_w]
    rfl
  refine pure_ (i := 5) (N := some 8) (v := ?_) (a' := ?_) #[true, true, true, true, true, true, false, false, false, false, false, false, false, false] rfl rfl (by kernel_rfl) (fun _ _ _ h => h) (Or.inl ⟨by rfl, ?_⟩) ?_ ?_
  rotate_left
  · intro w'
    go_simp
    with_reducible rfl
  rotate_left
  · simp only [Act.put, List.setIfInBounds_toArray, List.set_cons_zero, List.set_cons_succ, i64_w, i32_w]
    rfl
  refine pure_ (i := 6) (N := some 9) (v := ?_) (a' := ?_) #[true, true, true, true, true, true, true, false, false, false, false, false, false, false] rfl rfl (by kernel_rfl) (fun _ _ _ h => h) (Or.inl ⟨by rfl, ?_⟩) ?_ ?_
  rotate_left
  · intro w'
    go_simp
    with_reducible rfl
  rotate_left
  · simp only [Act.put, List.setIfInBounds_toArray, List.set_cons_zero, List.set_cons_succ, i64_w, i32_w]
    rfl
  refine take_ (i := 7) (N := some 10) (v := ?_) (a' := ?_) #[true, true, true, true, true, true, true, true, false, false, false, false, false, false] rfl rfl (by kernel_rfl) (fun _ _ _ h => h) (Or.inl ⟨by rfl, ?_⟩) hH_ ?_ ?_
  rotate_left
  · intro w' s0
    have f_ : w'.cell? ⟨gb, 2, none⟩ = some (.int .i64 e) := (blk_cell ((s0.base.block gb hlt).trans HB.out) 2).trans H2.out
    clear s0
    go_simp
    with_reducible rfl
  rotate_left
  · simp only [Act.put, List.setIfInBounds_toArray, List.set_cons_zero, List.set_cons_succ, i64_w, i32_w]
    rfl
  refine pure_ (i := 8) (N := some 11) (v := ?_) (a' := ?_) #[true, true, true, true, true, true, true, true, true, false, false, false, false, false] rfl rfl (by kernel_rfl) (fun _ _ _ h => h) (Or.inl ⟨by rfl, ?_⟩) ?_ ?_
  rotate_left
  · intro w'
    go_simp
    with_reducible rfl
  rotate_left
  · simp only [Act.put, List.setIfInBounds_toArray, List.set_cons_zero, List.set_cons_succ, i64_w, i32_w]
    rfl
  refine pure_ (i := 9) (N := some 12) (v := ?_) (a' := ?_) #[true, true, true, true, true, true, true, true, true, true, false, false, false, false] rfl rfl (by kernel_rfl) (fun _ _ _ h => h) (Or.inl ⟨by rfl, ?_⟩) ?_ ?_
  rotate_left
  · intro w'
    go_simp
    with_reducible rfl
  rotate_left
  · simp only [Act.put, List.setIfInBounds_toArray, List.set_cons_zero, List.set_cons_succ, i64_w, i32_w]
    rfl
  refine pure_ (i := 10) (N := some 13) (v := ?_) (a' := ?_) #[true, true, true, true, true, true, true, true, true, true, true, false, false, false] rfl rfl (by kernel_rfl) (fun _ _ _ h => h) (Or.inl ⟨by rfl, ?_⟩) ?_ ?_
  rotate_left
  · intro w'
    go_simp
    with_reducible rfl
  rotate_left
  · simp only [Act.put, List.setIfInBounds_toArray, List.set_cons_zero, List.set_cons_succ, i64_w, i32_w]
    rfl
  refine take_ (i := 11) (N := some 14) (v := ?_) (a' := ?_) #[true, true, true, true, true, true, true, true, true, true, true, true, false, false] rfl rfl (by kernel_rfl) (fun _ _ _ h => h) (Or.inl ⟨by rfl, ?_⟩) hH_ ?_ ?_
  rotate_left
  · intro w' s0
    have f_ : w'.cell? ⟨gb, 11, none⟩ = some (.int .i64 q) := (blk_cell ((s0.base.block gb hlt).trans HB.out) 11).trans H3.out
    clear s0
    go_simp
    with_reducible rfl
  rotate_left
  · simp only [Act.put, List.setIfInBounds_toArray, List.set_cons_zero, List.set_cons_succ, i64_w, i32_w]
    rfl
  refine one_ (i := 12) (N := some 15) #[true, true, true, true, true, true, true, true, true, true, true, true, true, false] rfl rfl (by kernel_rfl) (by decide) (fun K hK => ?_)
  refine goes_ Try.func58 (by kernel_rfl) rfl #[.int .i64 1, .int .i64 s, .int .i64 e, .int .i64 q] (by rfl) rfl rfl (by (try simp only [List.map_toArray, List.map_cons, List.map_nil]); first | done | rfl) ?_
  refine (HD.out _).mono ?_
  rintro e w1 ⟨rfl, hb⟩
  have hHw1_ := hH_.call hb
  refine ⟨_, rfl, hK.out _ _ hHw1_ (fun hX_ => ?_)⟩
  clear hK K hX_
  refine norm_ (a' := ?_) ?_ ?_
  rotate_left
  · show Act.put _ (some 15) _ = _
    simp only [Act.put, List.setIfInBounds_toArray, List.set_cons_zero, List.set_cons_succ, i64_w, i32_w]
    rfl
  clear hb
  refine pure_ (i := 13) (N := some 2) (v := ?_) (a' := ?_) #[true, true, true, true, true, true, true, true, true, true, true, true, true, true] rfl rfl (by kernel_rfl) (fun _ _ _ h => h) (Or.inl ⟨by rfl, ?_⟩) ?_ ?_
  rotate_left
  · intro w'
    go_simp
    with_reducible rfl
  rotate_left
  · simp only [Act.put, List.setIfInBounds_toArray, List.set_cons_zero, List.set_cons_succ, i64_w, i32_w]
    rfl
  refine done_ (by kernel_rfl) ?_
  have Sn_ := Aside0.mk (hHw1_)
  clear S
  have S := Sn_
  clear Sn_
  clear hH_ hHw1_
  go_wp2
  go_ret
  exact ⟨rfl, S.out.base⟩
set_option maxHeartbeats 16000000 in
set_option maxRecDepth 100000 in
theorem shold_calls {a b d : Int} {gk : Gu → Bool} {l : List Int} {ok : Bool} {dv : Int → Int → Int → Int} (hc : Checks 22 l a b d ok) (hok : ok = true → Asks 34 a b d gk) (hlen : ok = true → 2 < l.length) (hd : Doors 28 dv) (A : Option Addr) (c : Nat) (B : Option Addr) (e : Nat) (gs : List Gu) (w : World) (hu : UC w A c l) (h : GsC w B e gs) (hl : gs.length ≤ 1048576) :
    Calls Try.prog 20 #[.agg #[.slice A l.length c, .slice B gs.length e]] w fun x w' => x = .returned (.tuple #[.int .i64 (holder ok gk dv l gs).1, .bool (holder ok gk dv l gs).2]) ∧ Below w.heap.size w w' := by
  have HR := Aside0.mk h
  have HU := Aside0.mk hu
  have HL := Aside0.mk hlen
  have HD := Aside0.mk hd
  have HS := Aside0.mk (fun w_ h0_ h1_ => swok_calls hc hok A c B e gs w_ h0_ h1_ hl)
  clear h hu hlen
  have HT : Aside0 (wokB ok gk gs = true → ok = true) := ⟨fun h_ => by unfold wokB at h_; cases ok with | true => rfl | false => cases h_⟩
  have HV : Aside0 (holder ok gk dv l gs = if wokB ok gk gs then scanH (heldB dv (l.getD 2 0)) gs 0 else (0, false)) := ⟨rfl⟩
  obtain ⟨z, hz⟩ : ∃ z, holder ok gk dv l gs = z := ⟨_, rfl⟩
  rw [hz] at HV ⊢
  clear hz
  obtain ⟨r, hr⟩ : ∃ r, wokB ok gk gs = r := ⟨_, rfl⟩
  rw [hr] at HS HV HT
  clear hr hc hok
  have S := Aside0.mk (St.start w)
  go_enter Try.func20, Try.ntmps20
  go_wp2_with (first | ((with_reducible refine gate_dst (N := 1) rfl ?_); refine box_event rfl (N := 1) rfl (cs := #[.slice A l.length c, .slice B gs.length e]) (t := 34) (by first | (go_simp; done) | (go_simp; rfl)) ?_; intro gb hg_ w1 hbox_ hb_; have Sn_ := Aside0.mk (S.out.box hg_ hbox_ hb_); clear hbox_ hb_ hg_ S; have S := Sn_; clear Sn_) | ((with_reducible refine gate_dst (N := 8) rfl ?_); refine Kd.event_run rfl (Row.load_row_run (g := gb) (t := 34) (cells := #[.slice A l.length c, .slice B gs.length e]) rfl rfl (S.out.blk 0 rfl) Try.underlying34 rfl (by kernel_rfl)) ?_))
  refine (HS.out _ (HU.out.below S.out.base) (HR.out.below S.out.base)).mono ?_
  rintro e w2 ⟨rfl, hb⟩
  have Sn_ := Aside0.mk (S.out.call hb)
  clear S hb
  have S := Sn_
  clear Sn_
  cases r with
  | false =>
    go_wp2
    refine bodyPost_ret (results_tmp2 rfl _ _ _) rfl ?_
    exact ⟨by rw [HV.out]; rfl, S.out.base⟩
  | true =>
    have hlt2 : 2 < l.length := HL.out (HT.out rfl)
    have hi2 : (2 : Int) < (l.length : Int) := by omega
    obtain ⟨ad0, eA, hw0⟩ := at_u HU.out 2 hlt2
    subst eA
    have HW := Aside0.mk (show w.cell? ⟨ad0.block, ad0.off + 2, none⟩ = some (.int .u64 (l.getD 2 0)) by simpa [Addr.add] using hw0)
    clear hw0
    obtain ⟨D, hD⟩ : ∃ D, l.getD 2 0 = D := ⟨_, rfl⟩
    rw [hD] at HW HV
    clear hD HL HT HS
    have f_gb_0 : w2.cell? ⟨gb, 0, none⟩ = some (.slice (some ad0) l.length c) := (S.out.cell 0 rfl 0).trans rfl
    have f_gb_1 : w2.cell? ⟨gb, 1, none⟩ = some (.slice B gs.length e) := (S.out.cell 0 rfl 1).trans rfl
    go_wp2_with fail
    clear f_gb_0 f_gb_1
    go_loopg [4] (gs.length + 1) (fun kq v5 w' => ∃ k : Nat, k ≤ gs.length ∧ kq = gs.length + 1 - k ∧ v5 = .int .i64 k ∧ Aside0 (z = scanH (heldB dv D) (gs.drop k) (k : Int)) ∧ Aside0 (St w w' [Blk gb (#[.slice (some ad0) l.length c, .slice B gs.length e]) 34]))
    case atStart => exact ⟨0, by omega, by omega, rfl, HV, S⟩
    case round =>
      clear S HV
      obtain ⟨k, hk, rfl, rfl, HV, S⟩ := hrel
      by_cases hlt : k < gs.length
      · obtain ⟨ad, A1, c1, B1, d1, eB, hg, hc⟩ := elemG HR.out k hlt
        subst eB
        have HC := Aside0.mk hc
        have HG := Aside0.mk hg
        clear hc hg
        have HA := Aside0.mk (scan_drop (heldB dv D) gs k hlt)
        obtain ⟨g, hgd⟩ : ∃ g, gs.getD k zG = g := ⟨_, rfl⟩
        rw [hgd] at HC HG HA
        clear hgd
        have HI := Aside0.mk (show (Try.prog.info? 59).map (·.size) = some (gC g A1 c1 B1 d1).size by kernel_rfl)
        have H1 := Aside0.mk (show (gC g A1 c1 B1 d1).all (·.oneCell') = true by simp [gC, Value.oneCell'])
        have HSZ := Aside0.mk (show (26 : Nat) = (gC g A1 c1 B1 d1).size by rfl)
        have HK8 := Aside0.mk (show (gC g A1 c1 B1 d1)[8]? = some (.int .i64 g.pc) by rfl)
        have HK3 := Aside0.mk (show (gC g A1 c1 B1 d1)[3]? = some (.bool g.busy) by rfl)
        have HK1 := Aside0.mk (show (gC g A1 c1 B1 d1)[1]? = some (.int .i64 g.slot) by rfl)
        have HK2 := Aside0.mk (show (gC g A1 c1 B1 d1)[2]? = some (.int .i64 g.epoch) by rfl)
        have HK11 := Aside0.mk (show (gC g A1 c1 B1 d1)[11]? = some (.int .i64 g.seq) by rfl)
        have HK15 := Aside0.mk (show (gC g A1 c1 B1 d1)[15]? = some (.bool g.own) by rfl)
        have HK18 := Aside0.mk (show (gC g A1 c1 B1 d1)[18]? = some (.int .u64 g.door) by rfl)
        obtain ⟨cs, hcs⟩ : ∃ cs, gC g A1 c1 B1 d1 = cs := ⟨_, rfl⟩
        rw [hcs] at HC HI H1 HSZ HK8 HK3 HK1 HK2 HK11 HK15 HK18
        clear hcs
        have hi : (k : Int) < (gs.length : Int) := by omega
        have hi0 : (0 : Int) ≤ (k : Int) := by omega
        have f_gb_0 : wr.cell? ⟨gb, 0, none⟩ = some (.slice (some ad0) l.length c) := (S.out.cell 0 rfl 0).trans rfl
        have f_gb_1 : wr.cell? ⟨gb, 1, none⟩ = some (.slice (some ad) gs.length e) := (S.out.cell 0 rfl 1).trans rfl
        have f_w : wr.cell? ⟨ad0.block, ad0.off + 2, none⟩ = some (.int .u64 D) := (S.out.base.cell (World.block_lt_of_cell? w _ HW.out)).trans HW.out
        go_upto_region 7 with (first | ((with_reducible refine gate_dst (N := 22) rfl ?_); refine Kd.event_run rfl (load_elem_run (ad := ad.add (k * 26)) (cs := cs) rfl (by first | (go_simp; done) | (go_simp; rfl)) (fun j v hv => (S.out.base.cell (World.block_lt_of_cell? w _ (HC.out j v hv))).trans (HC.out j v hv)) Try.underlying59 rfl HI.out) ?_) | ((with_reducible refine gate_dst (N := 5) rfl ?_); refine box_event rfl (N := 5) rfl (cs := #[.bool false, .int .i64 0, .int .i64 0, .bool false, .int .i64 0, .int .i64 0, .int .i64 0, .int .i64 0, .int .i64 0, .int .i64 0, .int .i64 0, .int .i64 0, .int .i64 0, .int .i64 0, .int .i64 0, .bool false, .int .i64 0, .int .u64 0, .int .u64 0, .int .u64 0, .int .u64 0, .slice none 0 0, .slice none 0 0, .int .i64 0, .int .i64 0, .int .i64 0]) (t := 59) (by first | (go_simp; done) | (go_simp; rfl)) ?_; intro ge hg_ w3 hbox_ hb_; have Sn_ := Aside0.mk (S.out.box hg_ hbox_ hb_); clear hbox_ hb_ hg_ S; have S := Sn_; clear Sn_; have f_gb_0 : w3.cell? ⟨gb, 0, none⟩ = some (.slice (some ad0) l.length c) := (S.out.cell 1 rfl 0).trans rfl; have f_gb_1 : w3.cell? ⟨gb, 1, none⟩ = some (.slice (some ad) gs.length e) := (S.out.cell 1 rfl 1).trans rfl; have f_w : w3.cell? ⟨ad0.block, ad0.off + 2, none⟩ = some (.int .u64 D) := (S.out.base.cell (World.block_lt_of_cell? w _ HW.out)).trans HW.out) | ((with_reducible refine gate_store (t := 59) (p := 5) rfl ?_); refine store_event (t := 59) (p := 5) (v := ?vo_1) (w1 := w3.setRow ge (cs)) ?hg ?ho ?hn ?hr ?_; (case ho => rfl); (case hg => rfl); (case hn => rfl); (case hr => exact (Row.store_row_run (g := ge) (cells := cs) (t := 59) (old := #[.bool false, .int .i64 0, .int .i64 0, .bool false, .int .i64 0, .int .i64 0, .int .i64 0, .int .i64 0, .int .i64 0, .int .i64 0, .int .i64 0, .int .i64 0, .int .i64 0, .int .i64 0, .int .i64 0, .bool false, .int .i64 0, .int .u64 0, .int .u64 0, .int .u64 0, .int .u64 0, .slice none 0 0, .slice none 0 0, .int .i64 0, .int .i64 0, .int .i64 0]) rfl (by rfl) (by rfl) (S.out.blk 0 rfl) HI.out HSZ.out H1.out)); intro w4 hw_; have Sn_ := Aside0.mk ((S.out.setRow (cs' := cs) (rs' := [Blk ge (cs) 59, Blk gb (#[.slice (some ad0) l.length c, .slice (some ad) gs.length e]) 34]) 0 rfl rfl).of hw_); clear S hw_; have S := Sn_; clear Sn_; have f_gb_0 : w4.cell? ⟨gb, 0, none⟩ = some (.slice (some ad0) l.length c) := (S.out.cell 1 rfl 0).trans rfl; have f_gb_1 : w4.cell? ⟨gb, 1, none⟩ = some (.slice (some ad) gs.length e) := (S.out.cell 1 rfl 1).trans rfl; have f_ge_8 : w4.cell? ⟨ge, 8, none⟩ = some (.int .i64 g.pc) := (S.out.cell 0 rfl 8).trans HK8.out; have f_ge_3 : w4.cell? ⟨ge, 3, none⟩ = some (.bool g.busy) := (S.out.cell 0 rfl 3).trans HK3.out; have f_ge_1 : w4.cell? ⟨ge, 1, none⟩ = some (.int .i64 g.slot) := (S.out.cell 0 rfl 1).trans HK1.out; have f_ge_2 : w4.cell? ⟨ge, 2, none⟩ = some (.int .i64 g.epoch) := (S.out.cell 0 rfl 2).trans HK2.out; have f_ge_11 : w4.cell? ⟨ge, 11, none⟩ = some (.int .i64 g.seq) := (S.out.cell 0 rfl 11).trans HK11.out; have f_ge_15 : w4.cell? ⟨ge, 15, none⟩ = some (.bool g.own) := (S.out.cell 0 rfl 15).trans HK15.out; have f_ge_18 : w4.cell? ⟨ge, 18, none⟩ = some (.int .u64 g.door) := (S.out.cell 0 rfl 18).trans HK18.out; have f_w : w4.cell? ⟨ad0.block, ad0.off + 2, none⟩ = some (.int .u64 D) := (S.out.base.cell (World.block_lt_of_cell? w _ HW.out)).trans HW.out))
        skip
        by_cases y1 : 11 ≤ g.pc
        rotate_left
        · have q1 : decide (11 ≤ g.pc) = false := decide_eq_false y1
          have q3 : (g.pc == 26) = false := beq_eq_false_iff_ne.mpr (by omega)
          have q5 : decide (11 ≤ g.pc ∧ g.pc ≤ 15) = false := decide_eq_false (fun h => y1 h.1)
          have hv : Aside0 (inV g.pc = false) := ⟨by unfold inV; rw [q5]; simpa using (by omega : ¬ g.pc = 26)⟩
          clear q5
          cases hbz : g.busy with
          | false =>
            have HP : Aside0 (heldB dv D g = false) := ⟨by unfold heldB; rw [hbz]; rfl⟩
            have HZ : Aside0 (z = scanH (heldB dv D) (gs.drop (k + 1)) ((k + 1 : Nat) : Int)) := ⟨by rw [HV.out, HA.out, HP.out]; rfl⟩
            clear HV HA HP
            go_wp2_with fail
            clear f_ge_8 f_ge_3 f_ge_1 f_ge_2 f_ge_11 f_ge_15 f_ge_18 f_gb_0 f_gb_1 f_w
            have Sn_ := Aside0.mk (S.out.drop (rs' := [Blk gb (#[.slice (some ad0) l.length c, .slice (some ad) gs.length e]) 34]) 0 rfl)
            clear S
            have S := Sn_
            clear Sn_
            go_roundg (gs.length + 1 - (k + 1))
            case measure => omega
            case rel => exact ⟨k + 1, by omega, rfl, by go_num, HZ, S⟩
          | true =>
            cases how : g.own with
            | false =>
              have HP : Aside0 (heldB dv D g = false) := ⟨by unfold heldB; rw [hbz, hv.out, how]; simp⟩
              have HZ : Aside0 (z = scanH (heldB dv D) (gs.drop (k + 1)) ((k + 1 : Nat) : Int)) := ⟨by rw [HV.out, HA.out, HP.out]; rfl⟩
              clear HV HA HP
              go_wp2_with fail
              clear f_ge_8 f_ge_3 f_ge_1 f_ge_2 f_ge_11 f_ge_15 f_ge_18 f_gb_0 f_gb_1 f_w
              have Sn_ := Aside0.mk (S.out.drop (rs' := [Blk gb (#[.slice (some ad0) l.length c, .slice (some ad) gs.length e]) 34]) 0 rfl)
              clear S
              have S := Sn_
              clear Sn_
              go_roundg (gs.length + 1 - (k + 1))
              case measure => omega
              case rel => exact ⟨k + 1, by omega, rfl, by go_num, HZ, S⟩
            | true =>
              by_cases e2 : D = g.door
              · have r2 : (D == g.door) = true := beq_iff_eq.mpr e2
                have HP : Aside0 (heldB dv D g = true) := ⟨by unfold heldB; rw [hbz, hv.out, how, show decide (D = g.door) = true from decide_eq_true e2]; simp⟩
                have HZ : Aside0 (z = ((k : Int), true)) := ⟨by rw [HV.out, HA.out, HP.out]; rfl⟩
                clear HV HA HP
                go_wp2_with fail
                clear f_ge_8 f_ge_3 f_ge_1 f_ge_2 f_ge_11 f_ge_15 f_ge_18 f_gb_0 f_gb_1 f_w
                refine bodyPost_ret (results_tmp2 rfl _ _ _) rfl ?_
                exact ⟨by first | (rw [HZ.out]; done) | (rw [HZ.out]; rfl), S.out.base⟩
              · have r2 : (D == g.door) = false := beq_eq_false_iff_ne.mpr e2
                have HP : Aside0 (heldB dv D g = false) := ⟨by unfold heldB; rw [hbz, hv.out, how, show decide (D = g.door) = false from decide_eq_false e2]; simp⟩
                have HZ : Aside0 (z = scanH (heldB dv D) (gs.drop (k + 1)) ((k + 1 : Nat) : Int)) := ⟨by rw [HV.out, HA.out, HP.out]; rfl⟩
                clear HV HA HP
                go_wp2_with fail
                clear f_ge_8 f_ge_3 f_ge_1 f_ge_2 f_ge_11 f_ge_15 f_ge_18 f_gb_0 f_gb_1 f_w
                have Sn_ := Aside0.mk (S.out.drop (rs' := [Blk gb (#[.slice (some ad0) l.length c, .slice (some ad) gs.length e]) 34]) 0 rfl)
                clear S
                have S := Sn_
                clear Sn_
                go_roundg (gs.length + 1 - (k + 1))
                case measure => omega
                case rel => exact ⟨k + 1, by omega, rfl, by go_num, HZ, S⟩
        · have q1 : decide (11 ≤ g.pc) = true := decide_eq_true y1
          by_cases y2 : g.pc ≤ 15
          · have q2 : decide (g.pc ≤ 15) = true := decide_eq_true y2
            have q5 : decide (11 ≤ g.pc ∧ g.pc ≤ 15) = true := decide_eq_true ⟨y1, y2⟩
            have hv : Aside0 (inV g.pc = true) := ⟨by unfold inV; rw [q5]; rfl⟩
            clear q5
            cases hbz : g.busy with
            | false =>
              have HP : Aside0 (heldB dv D g = false) := ⟨by unfold heldB; rw [hbz]; rfl⟩
              have HZ : Aside0 (z = scanH (heldB dv D) (gs.drop (k + 1)) ((k + 1 : Nat) : Int)) := ⟨by rw [HV.out, HA.out, HP.out]; rfl⟩
              clear HV HA HP
              go_wp2_with fail
              clear f_ge_8 f_ge_3 f_ge_1 f_ge_2 f_ge_11 f_ge_15 f_ge_18 f_gb_0 f_gb_1 f_w
              have Sn_ := Aside0.mk (S.out.drop (rs' := [Blk gb (#[.slice (some ad0) l.length c, .slice (some ad) gs.length e]) 34]) 0 rfl)
              clear S
              have S := Sn_
              clear Sn_
              go_roundg (gs.length + 1 - (k + 1))
              case measure => omega
              case rel => exact ⟨k + 1, by omega, rfl, by go_num, HZ, S⟩
            | true =>
              by_cases e1 : D = dv g.slot g.epoch g.seq
              · have r1 : (D == dv g.slot g.epoch g.seq) = true := beq_iff_eq.mpr e1
                have HP : Aside0 (heldB dv D g = true) := ⟨by unfold heldB; rw [hbz, hv.out, show decide (D = dv g.slot g.epoch g.seq) = true from decide_eq_true e1]; simp⟩
                have HZ : Aside0 (z = ((k : Int), true)) := ⟨by rw [HV.out, HA.out, HP.out]; rfl⟩
                clear HV HA HP
                go_wp2_with fail
                clear f_ge_8 f_ge_3 f_ge_1 f_ge_2 f_ge_11 f_ge_15 f_ge_18 f_gb_0 f_gb_1 f_w
                refine (HD.out g.slot g.epoch g.seq _).mono ?_
                rintro e w10 ⟨rfl, hb⟩
                have Sn_ := Aside0.mk (S.out.call hb)
                clear S hb
                have S := Sn_
                clear Sn_
                have f_gb_0 : w10.cell? ⟨gb, 0, none⟩ = some (.slice (some ad0) l.length c) := (S.out.cell 1 rfl 0).trans rfl
                have f_gb_1 : w10.cell? ⟨gb, 1, none⟩ = some (.slice (some ad) gs.length e) := (S.out.cell 1 rfl 1).trans rfl
                have f_ge_8 : w10.cell? ⟨ge, 8, none⟩ = some (.int .i64 g.pc) := (S.out.cell 0 rfl 8).trans HK8.out
                have f_ge_3 : w10.cell? ⟨ge, 3, none⟩ = some (.bool g.busy) := (S.out.cell 0 rfl 3).trans HK3.out
                have f_ge_1 : w10.cell? ⟨ge, 1, none⟩ = some (.int .i64 g.slot) := (S.out.cell 0 rfl 1).trans HK1.out
                have f_ge_2 : w10.cell? ⟨ge, 2, none⟩ = some (.int .i64 g.epoch) := (S.out.cell 0 rfl 2).trans HK2.out
                have f_ge_11 : w10.cell? ⟨ge, 11, none⟩ = some (.int .i64 g.seq) := (S.out.cell 0 rfl 11).trans HK11.out
                have f_ge_15 : w10.cell? ⟨ge, 15, none⟩ = some (.bool g.own) := (S.out.cell 0 rfl 15).trans HK15.out
                have f_ge_18 : w10.cell? ⟨ge, 18, none⟩ = some (.int .u64 g.door) := (S.out.cell 0 rfl 18).trans HK18.out
                have f_w : w10.cell? ⟨ad0.block, ad0.off + 2, none⟩ = some (.int .u64 D) := (S.out.base.cell (World.block_lt_of_cell? w _ HW.out)).trans HW.out
                go_wp2
                clear f_ge_8 f_ge_3 f_ge_1 f_ge_2 f_ge_11 f_ge_15 f_ge_18 f_gb_0 f_gb_1 f_w
                refine bodyPost_ret (results_tmp2 rfl _ _ _) rfl ?_
                exact ⟨by first | (rw [HZ.out]; done) | (rw [HZ.out]; rfl), S.out.base⟩
              · have r1 : (D == dv g.slot g.epoch g.seq) = false := beq_eq_false_iff_ne.mpr e1
                cases how : g.own with
                | false =>
                  have HP : Aside0 (heldB dv D g = false) := ⟨by unfold heldB; rw [hbz, hv.out, show decide (D = dv g.slot g.epoch g.seq) = false from decide_eq_false e1, how]; simp⟩
                  have HZ : Aside0 (z = scanH (heldB dv D) (gs.drop (k + 1)) ((k + 1 : Nat) : Int)) := ⟨by rw [HV.out, HA.out, HP.out]; rfl⟩
                  clear HV HA HP
                  go_wp2_with fail
                  clear f_ge_8 f_ge_3 f_ge_1 f_ge_2 f_ge_11 f_ge_15 f_ge_18 f_gb_0 f_gb_1 f_w
                  refine (HD.out g.slot g.epoch g.seq _).mono ?_
                  rintro e w10 ⟨rfl, hb⟩
                  have Sn_ := Aside0.mk (S.out.call hb)
                  clear S hb
                  have S := Sn_
                  clear Sn_
                  have f_gb_0 : w10.cell? ⟨gb, 0, none⟩ = some (.slice (some ad0) l.length c) := (S.out.cell 1 rfl 0).trans rfl
                  have f_gb_1 : w10.cell? ⟨gb, 1, none⟩ = some (.slice (some ad) gs.length e) := (S.out.cell 1 rfl 1).trans rfl
                  have f_ge_8 : w10.cell? ⟨ge, 8, none⟩ = some (.int .i64 g.pc) := (S.out.cell 0 rfl 8).trans HK8.out
                  have f_ge_3 : w10.cell? ⟨ge, 3, none⟩ = some (.bool g.busy) := (S.out.cell 0 rfl 3).trans HK3.out
                  have f_ge_1 : w10.cell? ⟨ge, 1, none⟩ = some (.int .i64 g.slot) := (S.out.cell 0 rfl 1).trans HK1.out
                  have f_ge_2 : w10.cell? ⟨ge, 2, none⟩ = some (.int .i64 g.epoch) := (S.out.cell 0 rfl 2).trans HK2.out
                  have f_ge_11 : w10.cell? ⟨ge, 11, none⟩ = some (.int .i64 g.seq) := (S.out.cell 0 rfl 11).trans HK11.out
                  have f_ge_15 : w10.cell? ⟨ge, 15, none⟩ = some (.bool g.own) := (S.out.cell 0 rfl 15).trans HK15.out
                  have f_ge_18 : w10.cell? ⟨ge, 18, none⟩ = some (.int .u64 g.door) := (S.out.cell 0 rfl 18).trans HK18.out
                  have f_w : w10.cell? ⟨ad0.block, ad0.off + 2, none⟩ = some (.int .u64 D) := (S.out.base.cell (World.block_lt_of_cell? w _ HW.out)).trans HW.out
                  go_wp2
                  clear f_ge_8 f_ge_3 f_ge_1 f_ge_2 f_ge_11 f_ge_15 f_ge_18 f_gb_0 f_gb_1 f_w
                  have Sn_ := Aside0.mk (S.out.drop (rs' := [Blk gb (#[.slice (some ad0) l.length c, .slice (some ad) gs.length e]) 34]) 0 rfl)
                  clear S
                  have S := Sn_
                  clear Sn_
                  go_roundg (gs.length + 1 - (k + 1))
                  case measure => omega
                  case rel => exact ⟨k + 1, by omega, rfl, by go_num, HZ, S⟩
                | true =>
                  by_cases e2 : D = g.door
                  · have r2 : (D == g.door) = true := beq_iff_eq.mpr e2
                    have HP : Aside0 (heldB dv D g = true) := ⟨by unfold heldB; rw [hbz, hv.out, show decide (D = dv g.slot g.epoch g.seq) = false from decide_eq_false e1, how, show decide (D = g.door) = true from decide_eq_true e2]; simp⟩
                    have HZ : Aside0 (z = ((k : Int), true)) := ⟨by rw [HV.out, HA.out, HP.out]; rfl⟩
                    clear HV HA HP
                    go_wp2_with fail
                    clear f_ge_8 f_ge_3 f_ge_1 f_ge_2 f_ge_11 f_ge_15 f_ge_18 f_gb_0 f_gb_1 f_w
                    refine (HD.out g.slot g.epoch g.seq _).mono ?_
                    rintro e w10 ⟨rfl, hb⟩
                    have Sn_ := Aside0.mk (S.out.call hb)
                    clear S hb
                    have S := Sn_
                    clear Sn_
                    have f_gb_0 : w10.cell? ⟨gb, 0, none⟩ = some (.slice (some ad0) l.length c) := (S.out.cell 1 rfl 0).trans rfl
                    have f_gb_1 : w10.cell? ⟨gb, 1, none⟩ = some (.slice (some ad) gs.length e) := (S.out.cell 1 rfl 1).trans rfl
                    have f_ge_8 : w10.cell? ⟨ge, 8, none⟩ = some (.int .i64 g.pc) := (S.out.cell 0 rfl 8).trans HK8.out
                    have f_ge_3 : w10.cell? ⟨ge, 3, none⟩ = some (.bool g.busy) := (S.out.cell 0 rfl 3).trans HK3.out
                    have f_ge_1 : w10.cell? ⟨ge, 1, none⟩ = some (.int .i64 g.slot) := (S.out.cell 0 rfl 1).trans HK1.out
                    have f_ge_2 : w10.cell? ⟨ge, 2, none⟩ = some (.int .i64 g.epoch) := (S.out.cell 0 rfl 2).trans HK2.out
                    have f_ge_11 : w10.cell? ⟨ge, 11, none⟩ = some (.int .i64 g.seq) := (S.out.cell 0 rfl 11).trans HK11.out
                    have f_ge_15 : w10.cell? ⟨ge, 15, none⟩ = some (.bool g.own) := (S.out.cell 0 rfl 15).trans HK15.out
                    have f_ge_18 : w10.cell? ⟨ge, 18, none⟩ = some (.int .u64 g.door) := (S.out.cell 0 rfl 18).trans HK18.out
                    have f_w : w10.cell? ⟨ad0.block, ad0.off + 2, none⟩ = some (.int .u64 D) := (S.out.base.cell (World.block_lt_of_cell? w _ HW.out)).trans HW.out
                    go_wp2
                    clear f_ge_8 f_ge_3 f_ge_1 f_ge_2 f_ge_11 f_ge_15 f_ge_18 f_gb_0 f_gb_1 f_w
                    refine bodyPost_ret (results_tmp2 rfl _ _ _) rfl ?_
                    exact ⟨by first | (rw [HZ.out]; done) | (rw [HZ.out]; rfl), S.out.base⟩
                  · have r2 : (D == g.door) = false := beq_eq_false_iff_ne.mpr e2
                    have HP : Aside0 (heldB dv D g = false) := ⟨by unfold heldB; rw [hbz, hv.out, show decide (D = dv g.slot g.epoch g.seq) = false from decide_eq_false e1, how, show decide (D = g.door) = false from decide_eq_false e2]; simp⟩
                    have HZ : Aside0 (z = scanH (heldB dv D) (gs.drop (k + 1)) ((k + 1 : Nat) : Int)) := ⟨by rw [HV.out, HA.out, HP.out]; rfl⟩
                    clear HV HA HP
                    go_wp2_with fail
                    clear f_ge_8 f_ge_3 f_ge_1 f_ge_2 f_ge_11 f_ge_15 f_ge_18 f_gb_0 f_gb_1 f_w
                    refine (HD.out g.slot g.epoch g.seq _).mono ?_
                    rintro e w10 ⟨rfl, hb⟩
                    have Sn_ := Aside0.mk (S.out.call hb)
                    clear S hb
                    have S := Sn_
                    clear Sn_
                    have f_gb_0 : w10.cell? ⟨gb, 0, none⟩ = some (.slice (some ad0) l.length c) := (S.out.cell 1 rfl 0).trans rfl
                    have f_gb_1 : w10.cell? ⟨gb, 1, none⟩ = some (.slice (some ad) gs.length e) := (S.out.cell 1 rfl 1).trans rfl
                    have f_ge_8 : w10.cell? ⟨ge, 8, none⟩ = some (.int .i64 g.pc) := (S.out.cell 0 rfl 8).trans HK8.out
                    have f_ge_3 : w10.cell? ⟨ge, 3, none⟩ = some (.bool g.busy) := (S.out.cell 0 rfl 3).trans HK3.out
                    have f_ge_1 : w10.cell? ⟨ge, 1, none⟩ = some (.int .i64 g.slot) := (S.out.cell 0 rfl 1).trans HK1.out
                    have f_ge_2 : w10.cell? ⟨ge, 2, none⟩ = some (.int .i64 g.epoch) := (S.out.cell 0 rfl 2).trans HK2.out
                    have f_ge_11 : w10.cell? ⟨ge, 11, none⟩ = some (.int .i64 g.seq) := (S.out.cell 0 rfl 11).trans HK11.out
                    have f_ge_15 : w10.cell? ⟨ge, 15, none⟩ = some (.bool g.own) := (S.out.cell 0 rfl 15).trans HK15.out
                    have f_ge_18 : w10.cell? ⟨ge, 18, none⟩ = some (.int .u64 g.door) := (S.out.cell 0 rfl 18).trans HK18.out
                    have f_w : w10.cell? ⟨ad0.block, ad0.off + 2, none⟩ = some (.int .u64 D) := (S.out.base.cell (World.block_lt_of_cell? w _ HW.out)).trans HW.out
                    go_wp2
                    clear f_ge_8 f_ge_3 f_ge_1 f_ge_2 f_ge_11 f_ge_15 f_ge_18 f_gb_0 f_gb_1 f_w
                    have Sn_ := Aside0.mk (S.out.drop (rs' := [Blk gb (#[.slice (some ad0) l.length c, .slice (some ad) gs.length e]) 34]) 0 rfl)
                    clear S
                    have S := Sn_
                    clear Sn_
                    go_roundg (gs.length + 1 - (k + 1))
                    case measure => omega
                    case rel => exact ⟨k + 1, by omega, rfl, by go_num, HZ, S⟩
          · have q2 : decide (g.pc ≤ 15) = false := decide_eq_false y2
            have q5 : decide (11 ≤ g.pc ∧ g.pc ≤ 15) = false := decide_eq_false (fun h => y2 h.2)
            by_cases y3 : g.pc = 26
            · have q3 : (g.pc == 26) = true := beq_iff_eq.mpr y3
              have hv : Aside0 (inV g.pc = true) := ⟨by unfold inV; rw [q5]; simpa using y3⟩
              clear y3
              clear q5
              cases hbz : g.busy with
              | false =>
                have HP : Aside0 (heldB dv D g = false) := ⟨by unfold heldB; rw [hbz]; rfl⟩
                have HZ : Aside0 (z = scanH (heldB dv D) (gs.drop (k + 1)) ((k + 1 : Nat) : Int)) := ⟨by rw [HV.out, HA.out, HP.out]; rfl⟩
                clear HV HA HP
                go_wp2_with fail
                clear f_ge_8 f_ge_3 f_ge_1 f_ge_2 f_ge_11 f_ge_15 f_ge_18 f_gb_0 f_gb_1 f_w
                have Sn_ := Aside0.mk (S.out.drop (rs' := [Blk gb (#[.slice (some ad0) l.length c, .slice (some ad) gs.length e]) 34]) 0 rfl)
                clear S
                have S := Sn_
                clear Sn_
                go_roundg (gs.length + 1 - (k + 1))
                case measure => omega
                case rel => exact ⟨k + 1, by omega, rfl, by go_num, HZ, S⟩
              | true =>
                by_cases e1 : D = dv g.slot g.epoch g.seq
                · have r1 : (D == dv g.slot g.epoch g.seq) = true := beq_iff_eq.mpr e1
                  have HP : Aside0 (heldB dv D g = true) := ⟨by unfold heldB; rw [hbz, hv.out, show decide (D = dv g.slot g.epoch g.seq) = true from decide_eq_true e1]; simp⟩
                  have HZ : Aside0 (z = ((k : Int), true)) := ⟨by rw [HV.out, HA.out, HP.out]; rfl⟩
                  clear HV HA HP
                  go_wp2_with fail
                  clear f_ge_8 f_ge_3 f_ge_1 f_ge_2 f_ge_11 f_ge_15 f_ge_18 f_gb_0 f_gb_1 f_w
                  refine (HD.out g.slot g.epoch g.seq _).mono ?_
                  rintro e w10 ⟨rfl, hb⟩
                  have Sn_ := Aside0.mk (S.out.call hb)
                  clear S hb
                  have S := Sn_
                  clear Sn_
                  have f_gb_0 : w10.cell? ⟨gb, 0, none⟩ = some (.slice (some ad0) l.length c) := (S.out.cell 1 rfl 0).trans rfl
                  have f_gb_1 : w10.cell? ⟨gb, 1, none⟩ = some (.slice (some ad) gs.length e) := (S.out.cell 1 rfl 1).trans rfl
                  have f_ge_8 : w10.cell? ⟨ge, 8, none⟩ = some (.int .i64 g.pc) := (S.out.cell 0 rfl 8).trans HK8.out
                  have f_ge_3 : w10.cell? ⟨ge, 3, none⟩ = some (.bool g.busy) := (S.out.cell 0 rfl 3).trans HK3.out
                  have f_ge_1 : w10.cell? ⟨ge, 1, none⟩ = some (.int .i64 g.slot) := (S.out.cell 0 rfl 1).trans HK1.out
                  have f_ge_2 : w10.cell? ⟨ge, 2, none⟩ = some (.int .i64 g.epoch) := (S.out.cell 0 rfl 2).trans HK2.out
                  have f_ge_11 : w10.cell? ⟨ge, 11, none⟩ = some (.int .i64 g.seq) := (S.out.cell 0 rfl 11).trans HK11.out
                  have f_ge_15 : w10.cell? ⟨ge, 15, none⟩ = some (.bool g.own) := (S.out.cell 0 rfl 15).trans HK15.out
                  have f_ge_18 : w10.cell? ⟨ge, 18, none⟩ = some (.int .u64 g.door) := (S.out.cell 0 rfl 18).trans HK18.out
                  have f_w : w10.cell? ⟨ad0.block, ad0.off + 2, none⟩ = some (.int .u64 D) := (S.out.base.cell (World.block_lt_of_cell? w _ HW.out)).trans HW.out
                  go_wp2
                  clear f_ge_8 f_ge_3 f_ge_1 f_ge_2 f_ge_11 f_ge_15 f_ge_18 f_gb_0 f_gb_1 f_w
                  refine bodyPost_ret (results_tmp2 rfl _ _ _) rfl ?_
                  exact ⟨by first | (rw [HZ.out]; done) | (rw [HZ.out]; rfl), S.out.base⟩
                · have r1 : (D == dv g.slot g.epoch g.seq) = false := beq_eq_false_iff_ne.mpr e1
                  cases how : g.own with
                  | false =>
                    have HP : Aside0 (heldB dv D g = false) := ⟨by unfold heldB; rw [hbz, hv.out, show decide (D = dv g.slot g.epoch g.seq) = false from decide_eq_false e1, how]; simp⟩
                    have HZ : Aside0 (z = scanH (heldB dv D) (gs.drop (k + 1)) ((k + 1 : Nat) : Int)) := ⟨by rw [HV.out, HA.out, HP.out]; rfl⟩
                    clear HV HA HP
                    go_wp2_with fail
                    clear f_ge_8 f_ge_3 f_ge_1 f_ge_2 f_ge_11 f_ge_15 f_ge_18 f_gb_0 f_gb_1 f_w
                    refine (HD.out g.slot g.epoch g.seq _).mono ?_
                    rintro e w10 ⟨rfl, hb⟩
                    have Sn_ := Aside0.mk (S.out.call hb)
                    clear S hb
                    have S := Sn_
                    clear Sn_
                    have f_gb_0 : w10.cell? ⟨gb, 0, none⟩ = some (.slice (some ad0) l.length c) := (S.out.cell 1 rfl 0).trans rfl
                    have f_gb_1 : w10.cell? ⟨gb, 1, none⟩ = some (.slice (some ad) gs.length e) := (S.out.cell 1 rfl 1).trans rfl
                    have f_ge_8 : w10.cell? ⟨ge, 8, none⟩ = some (.int .i64 g.pc) := (S.out.cell 0 rfl 8).trans HK8.out
                    have f_ge_3 : w10.cell? ⟨ge, 3, none⟩ = some (.bool g.busy) := (S.out.cell 0 rfl 3).trans HK3.out
                    have f_ge_1 : w10.cell? ⟨ge, 1, none⟩ = some (.int .i64 g.slot) := (S.out.cell 0 rfl 1).trans HK1.out
                    have f_ge_2 : w10.cell? ⟨ge, 2, none⟩ = some (.int .i64 g.epoch) := (S.out.cell 0 rfl 2).trans HK2.out
                    have f_ge_11 : w10.cell? ⟨ge, 11, none⟩ = some (.int .i64 g.seq) := (S.out.cell 0 rfl 11).trans HK11.out
                    have f_ge_15 : w10.cell? ⟨ge, 15, none⟩ = some (.bool g.own) := (S.out.cell 0 rfl 15).trans HK15.out
                    have f_ge_18 : w10.cell? ⟨ge, 18, none⟩ = some (.int .u64 g.door) := (S.out.cell 0 rfl 18).trans HK18.out
                    have f_w : w10.cell? ⟨ad0.block, ad0.off + 2, none⟩ = some (.int .u64 D) := (S.out.base.cell (World.block_lt_of_cell? w _ HW.out)).trans HW.out
                    go_wp2
                    clear f_ge_8 f_ge_3 f_ge_1 f_ge_2 f_ge_11 f_ge_15 f_ge_18 f_gb_0 f_gb_1 f_w
                    have Sn_ := Aside0.mk (S.out.drop (rs' := [Blk gb (#[.slice (some ad0) l.length c, .slice (some ad) gs.length e]) 34]) 0 rfl)
                    clear S
                    have S := Sn_
                    clear Sn_
                    go_roundg (gs.length + 1 - (k + 1))
                    case measure => omega
                    case rel => exact ⟨k + 1, by omega, rfl, by go_num, HZ, S⟩
                  | true =>
                    by_cases e2 : D = g.door
                    · have r2 : (D == g.door) = true := beq_iff_eq.mpr e2
                      have HP : Aside0 (heldB dv D g = true) := ⟨by unfold heldB; rw [hbz, hv.out, show decide (D = dv g.slot g.epoch g.seq) = false from decide_eq_false e1, how, show decide (D = g.door) = true from decide_eq_true e2]; simp⟩
                      have HZ : Aside0 (z = ((k : Int), true)) := ⟨by rw [HV.out, HA.out, HP.out]; rfl⟩
                      clear HV HA HP
                      go_wp2_with fail
                      clear f_ge_8 f_ge_3 f_ge_1 f_ge_2 f_ge_11 f_ge_15 f_ge_18 f_gb_0 f_gb_1 f_w
                      refine (HD.out g.slot g.epoch g.seq _).mono ?_
                      rintro e w10 ⟨rfl, hb⟩
                      have Sn_ := Aside0.mk (S.out.call hb)
                      clear S hb
                      have S := Sn_
                      clear Sn_
                      have f_gb_0 : w10.cell? ⟨gb, 0, none⟩ = some (.slice (some ad0) l.length c) := (S.out.cell 1 rfl 0).trans rfl
                      have f_gb_1 : w10.cell? ⟨gb, 1, none⟩ = some (.slice (some ad) gs.length e) := (S.out.cell 1 rfl 1).trans rfl
                      have f_ge_8 : w10.cell? ⟨ge, 8, none⟩ = some (.int .i64 g.pc) := (S.out.cell 0 rfl 8).trans HK8.out
                      have f_ge_3 : w10.cell? ⟨ge, 3, none⟩ = some (.bool g.busy) := (S.out.cell 0 rfl 3).trans HK3.out
                      have f_ge_1 : w10.cell? ⟨ge, 1, none⟩ = some (.int .i64 g.slot) := (S.out.cell 0 rfl 1).trans HK1.out
                      have f_ge_2 : w10.cell? ⟨ge, 2, none⟩ = some (.int .i64 g.epoch) := (S.out.cell 0 rfl 2).trans HK2.out
                      have f_ge_11 : w10.cell? ⟨ge, 11, none⟩ = some (.int .i64 g.seq) := (S.out.cell 0 rfl 11).trans HK11.out
                      have f_ge_15 : w10.cell? ⟨ge, 15, none⟩ = some (.bool g.own) := (S.out.cell 0 rfl 15).trans HK15.out
                      have f_ge_18 : w10.cell? ⟨ge, 18, none⟩ = some (.int .u64 g.door) := (S.out.cell 0 rfl 18).trans HK18.out
                      have f_w : w10.cell? ⟨ad0.block, ad0.off + 2, none⟩ = some (.int .u64 D) := (S.out.base.cell (World.block_lt_of_cell? w _ HW.out)).trans HW.out
                      go_wp2
                      clear f_ge_8 f_ge_3 f_ge_1 f_ge_2 f_ge_11 f_ge_15 f_ge_18 f_gb_0 f_gb_1 f_w
                      refine bodyPost_ret (results_tmp2 rfl _ _ _) rfl ?_
                      exact ⟨by first | (rw [HZ.out]; done) | (rw [HZ.out]; rfl), S.out.base⟩
                    · have r2 : (D == g.door) = false := beq_eq_false_iff_ne.mpr e2
                      have HP : Aside0 (heldB dv D g = false) := ⟨by unfold heldB; rw [hbz, hv.out, show decide (D = dv g.slot g.epoch g.seq) = false from decide_eq_false e1, how, show decide (D = g.door) = false from decide_eq_false e2]; simp⟩
                      have HZ : Aside0 (z = scanH (heldB dv D) (gs.drop (k + 1)) ((k + 1 : Nat) : Int)) := ⟨by rw [HV.out, HA.out, HP.out]; rfl⟩
                      clear HV HA HP
                      go_wp2_with fail
                      clear f_ge_8 f_ge_3 f_ge_1 f_ge_2 f_ge_11 f_ge_15 f_ge_18 f_gb_0 f_gb_1 f_w
                      refine (HD.out g.slot g.epoch g.seq _).mono ?_
                      rintro e w10 ⟨rfl, hb⟩
                      have Sn_ := Aside0.mk (S.out.call hb)
                      clear S hb
                      have S := Sn_
                      clear Sn_
                      have f_gb_0 : w10.cell? ⟨gb, 0, none⟩ = some (.slice (some ad0) l.length c) := (S.out.cell 1 rfl 0).trans rfl
                      have f_gb_1 : w10.cell? ⟨gb, 1, none⟩ = some (.slice (some ad) gs.length e) := (S.out.cell 1 rfl 1).trans rfl
                      have f_ge_8 : w10.cell? ⟨ge, 8, none⟩ = some (.int .i64 g.pc) := (S.out.cell 0 rfl 8).trans HK8.out
                      have f_ge_3 : w10.cell? ⟨ge, 3, none⟩ = some (.bool g.busy) := (S.out.cell 0 rfl 3).trans HK3.out
                      have f_ge_1 : w10.cell? ⟨ge, 1, none⟩ = some (.int .i64 g.slot) := (S.out.cell 0 rfl 1).trans HK1.out
                      have f_ge_2 : w10.cell? ⟨ge, 2, none⟩ = some (.int .i64 g.epoch) := (S.out.cell 0 rfl 2).trans HK2.out
                      have f_ge_11 : w10.cell? ⟨ge, 11, none⟩ = some (.int .i64 g.seq) := (S.out.cell 0 rfl 11).trans HK11.out
                      have f_ge_15 : w10.cell? ⟨ge, 15, none⟩ = some (.bool g.own) := (S.out.cell 0 rfl 15).trans HK15.out
                      have f_ge_18 : w10.cell? ⟨ge, 18, none⟩ = some (.int .u64 g.door) := (S.out.cell 0 rfl 18).trans HK18.out
                      have f_w : w10.cell? ⟨ad0.block, ad0.off + 2, none⟩ = some (.int .u64 D) := (S.out.base.cell (World.block_lt_of_cell? w _ HW.out)).trans HW.out
                      go_wp2
                      clear f_ge_8 f_ge_3 f_ge_1 f_ge_2 f_ge_11 f_ge_15 f_ge_18 f_gb_0 f_gb_1 f_w
                      have Sn_ := Aside0.mk (S.out.drop (rs' := [Blk gb (#[.slice (some ad0) l.length c, .slice (some ad) gs.length e]) 34]) 0 rfl)
                      clear S
                      have S := Sn_
                      clear Sn_
                      go_roundg (gs.length + 1 - (k + 1))
                      case measure => omega
                      case rel => exact ⟨k + 1, by omega, rfl, by go_num, HZ, S⟩
            · have q3 : (g.pc == 26) = false := beq_eq_false_iff_ne.mpr y3
              have hv : Aside0 (inV g.pc = false) := ⟨by unfold inV; rw [q5]; simpa using y3⟩
              clear q5
              cases hbz : g.busy with
              | false =>
                have HP : Aside0 (heldB dv D g = false) := ⟨by unfold heldB; rw [hbz]; rfl⟩
                have HZ : Aside0 (z = scanH (heldB dv D) (gs.drop (k + 1)) ((k + 1 : Nat) : Int)) := ⟨by rw [HV.out, HA.out, HP.out]; rfl⟩
                clear HV HA HP
                go_wp2_with fail
                clear f_ge_8 f_ge_3 f_ge_1 f_ge_2 f_ge_11 f_ge_15 f_ge_18 f_gb_0 f_gb_1 f_w
                have Sn_ := Aside0.mk (S.out.drop (rs' := [Blk gb (#[.slice (some ad0) l.length c, .slice (some ad) gs.length e]) 34]) 0 rfl)
                clear S
                have S := Sn_
                clear Sn_
                go_roundg (gs.length + 1 - (k + 1))
                case measure => omega
                case rel => exact ⟨k + 1, by omega, rfl, by go_num, HZ, S⟩
              | true =>
                cases how : g.own with
                | false =>
                  have HP : Aside0 (heldB dv D g = false) := ⟨by unfold heldB; rw [hbz, hv.out, how]; simp⟩
                  have HZ : Aside0 (z = scanH (heldB dv D) (gs.drop (k + 1)) ((k + 1 : Nat) : Int)) := ⟨by rw [HV.out, HA.out, HP.out]; rfl⟩
                  clear HV HA HP
                  go_wp2_with fail
                  clear f_ge_8 f_ge_3 f_ge_1 f_ge_2 f_ge_11 f_ge_15 f_ge_18 f_gb_0 f_gb_1 f_w
                  have Sn_ := Aside0.mk (S.out.drop (rs' := [Blk gb (#[.slice (some ad0) l.length c, .slice (some ad) gs.length e]) 34]) 0 rfl)
                  clear S
                  have S := Sn_
                  clear Sn_
                  go_roundg (gs.length + 1 - (k + 1))
                  case measure => omega
                  case rel => exact ⟨k + 1, by omega, rfl, by go_num, HZ, S⟩
                | true =>
                  by_cases e2 : D = g.door
                  · have r2 : (D == g.door) = true := beq_iff_eq.mpr e2
                    have HP : Aside0 (heldB dv D g = true) := ⟨by unfold heldB; rw [hbz, hv.out, how, show decide (D = g.door) = true from decide_eq_true e2]; simp⟩
                    have HZ : Aside0 (z = ((k : Int), true)) := ⟨by rw [HV.out, HA.out, HP.out]; rfl⟩
                    clear HV HA HP
                    go_wp2_with fail
                    clear f_ge_8 f_ge_3 f_ge_1 f_ge_2 f_ge_11 f_ge_15 f_ge_18 f_gb_0 f_gb_1 f_w
                    refine bodyPost_ret (results_tmp2 rfl _ _ _) rfl ?_
                    exact ⟨by first | (rw [HZ.out]; done) | (rw [HZ.out]; rfl), S.out.base⟩
                  · have r2 : (D == g.door) = false := beq_eq_false_iff_ne.mpr e2
                    have HP : Aside0 (heldB dv D g = false) := ⟨by unfold heldB; rw [hbz, hv.out, how, show decide (D = g.door) = false from decide_eq_false e2]; simp⟩
                    have HZ : Aside0 (z = scanH (heldB dv D) (gs.drop (k + 1)) ((k + 1 : Nat) : Int)) := ⟨by rw [HV.out, HA.out, HP.out]; rfl⟩
                    clear HV HA HP
                    go_wp2_with fail
                    clear f_ge_8 f_ge_3 f_ge_1 f_ge_2 f_ge_11 f_ge_15 f_ge_18 f_gb_0 f_gb_1 f_w
                    have Sn_ := Aside0.mk (S.out.drop (rs' := [Blk gb (#[.slice (some ad0) l.length c, .slice (some ad) gs.length e]) 34]) 0 rfl)
                    clear S
                    have S := Sn_
                    clear Sn_
                    go_roundg (gs.length + 1 - (k + 1))
                    case measure => omega
                    case rel => exact ⟨k + 1, by omega, rfl, by go_num, HZ, S⟩
      · have hkl : k = gs.length := by omega
        subst hkl
        have HZ : Aside0 (z = (0, false)) := ⟨by rw [HV.out, List.drop_length]; rfl⟩
        have f_gb_1 : wr.cell? ⟨gb, 1, none⟩ = some (.slice B gs.length e) := (S.out.cell 0 rfl 1).trans rfl
        go_wp2
        refine bodyPost_ret (results_tmp2 rfl _ _ _) rfl ?_
        exact ⟨by first | (rw [HZ.out]; done) | (rw [HZ.out]; rfl), S.out.base⟩
set_option maxHeartbeats 16000000 in
set_option maxRecDepth 100000 in
theorem ihold_calls {a b d : Int} {gk : Gu → Bool} {l : List Int} {ok : Bool} {dv : Int → Int → Int → Int} (hc : Checks 29 l a b d ok) (hok : ok = true → Asks 38 a b d gk) (hlen : ok = true → 2 < l.length) (hd : Doors 58 dv) (A : Option Addr) (c : Nat) (B : Option Addr) (e : Nat) (gs : List Gu) (w : World) (hu : UC w A c l) (h : GsC w B e gs) (hl : gs.length ≤ 1048576) :
    Calls Try.prog 21 #[.agg #[.slice A l.length c, .slice B gs.length e]] w fun x w' => x = .returned (.tuple #[.int .i64 (holder ok gk dv l gs).1, .bool (holder ok gk dv l gs).2]) ∧ Below w.heap.size w w' := by
  have HR := Aside0.mk h
  have HU := Aside0.mk hu
  have HL := Aside0.mk hlen
  have HD := Aside0.mk hd
  have HS := Aside0.mk (fun w_ h0_ h1_ => iwok_calls hc hok A c B e gs w_ h0_ h1_ hl)
  clear h hu hlen
  have HT : Aside0 (wokB ok gk gs = true → ok = true) := ⟨fun h_ => by unfold wokB at h_; cases ok with | true => rfl | false => cases h_⟩
  have HV : Aside0 (holder ok gk dv l gs = if wokB ok gk gs then scanH (heldB dv (l.getD 2 0)) gs 0 else (0, false)) := ⟨rfl⟩
  obtain ⟨z, hz⟩ : ∃ z, holder ok gk dv l gs = z := ⟨_, rfl⟩
  rw [hz] at HV ⊢
  clear hz
  obtain ⟨r, hr⟩ : ∃ r, wokB ok gk gs = r := ⟨_, rfl⟩
  rw [hr] at HS HV HT
  clear hr hc hok
  have S := Aside0.mk (St.start w)
  go_enter Try.func21, Try.ntmps21
  go_wp2_with (first | ((with_reducible refine gate_dst (N := 1) rfl ?_); refine box_event rfl (N := 1) rfl (cs := #[.slice A l.length c, .slice B gs.length e]) (t := 34) (by first | (go_simp; done) | (go_simp; rfl)) ?_; intro gb hg_ w1 hbox_ hb_; have Sn_ := Aside0.mk (S.out.box hg_ hbox_ hb_); clear hbox_ hb_ hg_ S; have S := Sn_; clear Sn_) | ((with_reducible refine gate_dst (N := 8) rfl ?_); refine Kd.event_run rfl (Row.load_row_run (g := gb) (t := 34) (cells := #[.slice A l.length c, .slice B gs.length e]) rfl rfl (S.out.blk 0 rfl) Try.underlying34 rfl (by kernel_rfl)) ?_))
  refine (HS.out _ (HU.out.below S.out.base) (HR.out.below S.out.base)).mono ?_
  rintro e w2 ⟨rfl, hb⟩
  have Sn_ := Aside0.mk (S.out.call hb)
  clear S hb
  have S := Sn_
  clear Sn_
  cases r with
  | false =>
    go_wp2
    refine bodyPost_ret (results_tmp2 rfl _ _ _) rfl ?_
    exact ⟨by rw [HV.out]; rfl, S.out.base⟩
  | true =>
    have hlt2 : 2 < l.length := HL.out (HT.out rfl)
    have hi2 : (2 : Int) < (l.length : Int) := by omega
    obtain ⟨ad0, eA, hw0⟩ := at_u HU.out 2 hlt2
    subst eA
    have HW := Aside0.mk (show w.cell? ⟨ad0.block, ad0.off + 2, none⟩ = some (.int .u64 (l.getD 2 0)) by simpa [Addr.add] using hw0)
    clear hw0
    obtain ⟨D, hD⟩ : ∃ D, l.getD 2 0 = D := ⟨_, rfl⟩
    rw [hD] at HW HV
    clear hD HL HT HS
    have f_gb_0 : w2.cell? ⟨gb, 0, none⟩ = some (.slice (some ad0) l.length c) := (S.out.cell 0 rfl 0).trans rfl
    have f_gb_1 : w2.cell? ⟨gb, 1, none⟩ = some (.slice B gs.length e) := (S.out.cell 0 rfl 1).trans rfl
    have f_w : w2.cell? ⟨ad0.block, ad0.off + 2, none⟩ = some (.int .u64 D) := (S.out.base.cell (World.block_lt_of_cell? w _ HW.out)).trans HW.out
    go_wp2_with fail
    clear f_gb_0 f_gb_1 f_w
    go_loopg [18] (gs.length + 1) (fun kq v5 w' => ∃ k : Nat, k ≤ gs.length ∧ kq = gs.length + 1 - k ∧ v5 = .int .i64 k ∧ Aside0 (z = scanH (heldB dv D) (gs.drop k) (k : Int)) ∧ Aside0 (St w w' [Blk gb (#[.slice (some ad0) l.length c, .slice B gs.length e]) 34]))
    case atStart => exact ⟨0, by omega, by omega, rfl, HV, S⟩
    case round =>
      clear S HV
      obtain ⟨k, hk, rfl, rfl, HV, S⟩ := hrel
      by_cases hlt : k < gs.length
      · obtain ⟨ad, A1, c1, B1, d1, eB, hg, hc⟩ := elemG HR.out k hlt
        subst eB
        have HC := Aside0.mk hc
        have HG := Aside0.mk hg
        clear hc hg
        have HA := Aside0.mk (scan_drop (heldB dv D) gs k hlt)
        obtain ⟨g, hgd⟩ : ∃ g, gs.getD k zG = g := ⟨_, rfl⟩
        rw [hgd] at HC HG HA
        clear hgd
        have HI := Aside0.mk (show (Try.prog.info? 59).map (·.size) = some (gC g A1 c1 B1 d1).size by kernel_rfl)
        have H1 := Aside0.mk (show (gC g A1 c1 B1 d1).all (·.oneCell') = true by simp [gC, Value.oneCell'])
        have HSZ := Aside0.mk (show (26 : Nat) = (gC g A1 c1 B1 d1).size by rfl)
        have HK8 := Aside0.mk (show (gC g A1 c1 B1 d1)[8]? = some (.int .i64 g.pc) by rfl)
        have HK3 := Aside0.mk (show (gC g A1 c1 B1 d1)[3]? = some (.bool g.busy) by rfl)
        have HK1 := Aside0.mk (show (gC g A1 c1 B1 d1)[1]? = some (.int .i64 g.slot) by rfl)
        have HK2 := Aside0.mk (show (gC g A1 c1 B1 d1)[2]? = some (.int .i64 g.epoch) by rfl)
        have HK11 := Aside0.mk (show (gC g A1 c1 B1 d1)[11]? = some (.int .i64 g.seq) by rfl)
        have HK15 := Aside0.mk (show (gC g A1 c1 B1 d1)[15]? = some (.bool g.own) by rfl)
        have HK18 := Aside0.mk (show (gC g A1 c1 B1 d1)[18]? = some (.int .u64 g.door) by rfl)
        obtain ⟨cs, hcs⟩ : ∃ cs, gC g A1 c1 B1 d1 = cs := ⟨_, rfl⟩
        rw [hcs] at HC HI H1 HSZ HK8 HK3 HK1 HK2 HK11 HK15 HK18
        clear hcs
        have hi : (k : Int) < (gs.length : Int) := by omega
        have hi0 : (0 : Int) ≤ (k : Int) := by omega

        go_upto_region 7 with (first | ((with_reducible refine gate_dst (N := 22) rfl ?_); refine Kd.event_run rfl (load_elem_run (ad := ad.add (k * 26)) (cs := cs) rfl (by first | (go_simp; done) | (go_simp; rfl)) (fun j v hv => (S.out.base.cell (World.block_lt_of_cell? w _ (HC.out j v hv))).trans (HC.out j v hv)) Try.underlying59 rfl HI.out) ?_) | ((with_reducible refine gate_dst (N := 6) rfl ?_); refine box_event rfl (N := 6) rfl (cs := #[.bool false, .int .i64 0, .int .i64 0, .bool false, .int .i64 0, .int .i64 0, .int .i64 0, .int .i64 0, .int .i64 0, .int .i64 0, .int .i64 0, .int .i64 0, .int .i64 0, .int .i64 0, .int .i64 0, .bool false, .int .i64 0, .int .u64 0, .int .u64 0, .int .u64 0, .int .u64 0, .slice none 0 0, .slice none 0 0, .int .i64 0, .int .i64 0, .int .i64 0]) (t := 59) (by first | (go_simp; done) | (go_simp; rfl)) ?_; intro ge hg_ w3 hbox_ hb_; have Sn_ := Aside0.mk (S.out.box hg_ hbox_ hb_); clear hbox_ hb_ hg_ S; have S := Sn_; clear Sn_) | ((with_reducible refine gate_store (t := 59) (p := 6) rfl ?_); refine store_event (t := 59) (p := 6) (v := ?vo_2) (w1 := w3.setRow ge (cs)) ?hg ?ho ?hn ?hr ?_; (case ho => rfl); (case hg => rfl); (case hn => rfl); (case hr => exact (Row.store_row_run (g := ge) (cells := cs) (t := 59) (old := #[.bool false, .int .i64 0, .int .i64 0, .bool false, .int .i64 0, .int .i64 0, .int .i64 0, .int .i64 0, .int .i64 0, .int .i64 0, .int .i64 0, .int .i64 0, .int .i64 0, .int .i64 0, .int .i64 0, .bool false, .int .i64 0, .int .u64 0, .int .u64 0, .int .u64 0, .int .u64 0, .slice none 0 0, .slice none 0 0, .int .i64 0, .int .i64 0, .int .i64 0]) rfl (by rfl) (by rfl) (S.out.blk 0 rfl) HI.out HSZ.out H1.out)); intro w4 hw_; have Sn_ := Aside0.mk ((S.out.setRow (cs' := cs) (rs' := [Blk ge (cs) 59, Blk gb (#[.slice (some ad0) l.length c, .slice (some ad) gs.length e]) 34]) 0 rfl rfl).of hw_); clear S hw_; have S := Sn_; clear Sn_; have f_ge_8 : w4.cell? ⟨ge, 8, none⟩ = some (.int .i64 g.pc) := (S.out.cell 0 rfl 8).trans HK8.out; have f_ge_3 : w4.cell? ⟨ge, 3, none⟩ = some (.bool g.busy) := (S.out.cell 0 rfl 3).trans HK3.out; have f_ge_1 : w4.cell? ⟨ge, 1, none⟩ = some (.int .i64 g.slot) := (S.out.cell 0 rfl 1).trans HK1.out; have f_ge_2 : w4.cell? ⟨ge, 2, none⟩ = some (.int .i64 g.epoch) := (S.out.cell 0 rfl 2).trans HK2.out; have f_ge_11 : w4.cell? ⟨ge, 11, none⟩ = some (.int .i64 g.seq) := (S.out.cell 0 rfl 11).trans HK11.out; have f_ge_15 : w4.cell? ⟨ge, 15, none⟩ = some (.bool g.own) := (S.out.cell 0 rfl 15).trans HK15.out; have f_ge_18 : w4.cell? ⟨ge, 18, none⟩ = some (.int .u64 g.door) := (S.out.cell 0 rfl 18).trans HK18.out))
        skip
        by_cases y1 : 11 ≤ g.pc
        rotate_left
        · have q1 : decide (11 ≤ g.pc) = false := decide_eq_false y1
          have q3 : (g.pc == 26) = false := beq_eq_false_iff_ne.mpr (by omega)
          have q5 : decide (11 ≤ g.pc ∧ g.pc ≤ 15) = false := decide_eq_false (fun h => y1 h.1)
          have hv : Aside0 (inV g.pc = false) := ⟨by unfold inV; rw [q5]; simpa using (by omega : ¬ g.pc = 26)⟩
          have HWI := Aside0.mk (fun w_ => within_calls g.pc 11 15 w_)
          rw [q5] at HWI
          clear q5
          cases hbz : g.busy with
          | false =>
            have HP : Aside0 (heldB dv D g = false) := ⟨by unfold heldB; rw [hbz]; rfl⟩
            have HZ : Aside0 (z = scanH (heldB dv D) (gs.drop (k + 1)) ((k + 1 : Nat) : Int)) := ⟨by rw [HV.out, HA.out, HP.out]; rfl⟩
            clear HV HA HP
            go_wp2_with fail
            clear f_ge_8 f_ge_3 f_ge_1 f_ge_2 f_ge_11 f_ge_15 f_ge_18
            refine (HWI.out _).mono ?_
            rintro e w9 ⟨rfl, hb⟩
            have Sn_ := Aside0.mk (S.out.call hb)
            clear S hb
            have S := Sn_
            clear Sn_
            have f_ge_8 : w9.cell? ⟨ge, 8, none⟩ = some (.int .i64 g.pc) := (S.out.cell 0 rfl 8).trans HK8.out
            have f_ge_3 : w9.cell? ⟨ge, 3, none⟩ = some (.bool g.busy) := (S.out.cell 0 rfl 3).trans HK3.out
            have f_ge_1 : w9.cell? ⟨ge, 1, none⟩ = some (.int .i64 g.slot) := (S.out.cell 0 rfl 1).trans HK1.out
            have f_ge_2 : w9.cell? ⟨ge, 2, none⟩ = some (.int .i64 g.epoch) := (S.out.cell 0 rfl 2).trans HK2.out
            have f_ge_11 : w9.cell? ⟨ge, 11, none⟩ = some (.int .i64 g.seq) := (S.out.cell 0 rfl 11).trans HK11.out
            have f_ge_15 : w9.cell? ⟨ge, 15, none⟩ = some (.bool g.own) := (S.out.cell 0 rfl 15).trans HK15.out
            have f_ge_18 : w9.cell? ⟨ge, 18, none⟩ = some (.int .u64 g.door) := (S.out.cell 0 rfl 18).trans HK18.out
            go_wp2_with fail
            clear f_ge_8 f_ge_3 f_ge_1 f_ge_2 f_ge_11 f_ge_15 f_ge_18
            have Sn_ := Aside0.mk (S.out.drop (rs' := [Blk gb (#[.slice (some ad0) l.length c, .slice (some ad) gs.length e]) 34]) 0 rfl)
            clear S
            have S := Sn_
            clear Sn_
            go_roundg (gs.length + 1 - (k + 1))
            case measure => omega
            case rel => exact ⟨k + 1, by omega, rfl, by go_num, HZ, S⟩
          | true =>
            cases how : g.own with
            | false =>
              have HP : Aside0 (heldB dv D g = false) := ⟨by unfold heldB; rw [hbz, hv.out, how]; simp⟩
              have HZ : Aside0 (z = scanH (heldB dv D) (gs.drop (k + 1)) ((k + 1 : Nat) : Int)) := ⟨by rw [HV.out, HA.out, HP.out]; rfl⟩
              clear HV HA HP
              go_wp2_with fail
              clear f_ge_8 f_ge_3 f_ge_1 f_ge_2 f_ge_11 f_ge_15 f_ge_18
              refine (HWI.out _).mono ?_
              rintro e w9 ⟨rfl, hb⟩
              have Sn_ := Aside0.mk (S.out.call hb)
              clear S hb
              have S := Sn_
              clear Sn_
              have f_ge_8 : w9.cell? ⟨ge, 8, none⟩ = some (.int .i64 g.pc) := (S.out.cell 0 rfl 8).trans HK8.out
              have f_ge_3 : w9.cell? ⟨ge, 3, none⟩ = some (.bool g.busy) := (S.out.cell 0 rfl 3).trans HK3.out
              have f_ge_1 : w9.cell? ⟨ge, 1, none⟩ = some (.int .i64 g.slot) := (S.out.cell 0 rfl 1).trans HK1.out
              have f_ge_2 : w9.cell? ⟨ge, 2, none⟩ = some (.int .i64 g.epoch) := (S.out.cell 0 rfl 2).trans HK2.out
              have f_ge_11 : w9.cell? ⟨ge, 11, none⟩ = some (.int .i64 g.seq) := (S.out.cell 0 rfl 11).trans HK11.out
              have f_ge_15 : w9.cell? ⟨ge, 15, none⟩ = some (.bool g.own) := (S.out.cell 0 rfl 15).trans HK15.out
              have f_ge_18 : w9.cell? ⟨ge, 18, none⟩ = some (.int .u64 g.door) := (S.out.cell 0 rfl 18).trans HK18.out
              go_wp2_with fail
              clear f_ge_8 f_ge_3 f_ge_1 f_ge_2 f_ge_11 f_ge_15 f_ge_18
              have Sn_ := Aside0.mk (S.out.drop (rs' := [Blk gb (#[.slice (some ad0) l.length c, .slice (some ad) gs.length e]) 34]) 0 rfl)
              clear S
              have S := Sn_
              clear Sn_
              go_roundg (gs.length + 1 - (k + 1))
              case measure => omega
              case rel => exact ⟨k + 1, by omega, rfl, by go_num, HZ, S⟩
            | true =>
              by_cases e2 : D = g.door
              · have r2 : (D == g.door) = true := beq_iff_eq.mpr e2
                have HP : Aside0 (heldB dv D g = true) := ⟨by unfold heldB; rw [hbz, hv.out, how, show decide (D = g.door) = true from decide_eq_true e2]; simp⟩
                have HZ : Aside0 (z = ((k : Int), true)) := ⟨by rw [HV.out, HA.out, HP.out]; rfl⟩
                clear HV HA HP
                go_wp2_with fail
                clear f_ge_8 f_ge_3 f_ge_1 f_ge_2 f_ge_11 f_ge_15 f_ge_18
                refine (HWI.out _).mono ?_
                rintro e w9 ⟨rfl, hb⟩
                have Sn_ := Aside0.mk (S.out.call hb)
                clear S hb
                have S := Sn_
                clear Sn_
                have f_ge_8 : w9.cell? ⟨ge, 8, none⟩ = some (.int .i64 g.pc) := (S.out.cell 0 rfl 8).trans HK8.out
                have f_ge_3 : w9.cell? ⟨ge, 3, none⟩ = some (.bool g.busy) := (S.out.cell 0 rfl 3).trans HK3.out
                have f_ge_1 : w9.cell? ⟨ge, 1, none⟩ = some (.int .i64 g.slot) := (S.out.cell 0 rfl 1).trans HK1.out
                have f_ge_2 : w9.cell? ⟨ge, 2, none⟩ = some (.int .i64 g.epoch) := (S.out.cell 0 rfl 2).trans HK2.out
                have f_ge_11 : w9.cell? ⟨ge, 11, none⟩ = some (.int .i64 g.seq) := (S.out.cell 0 rfl 11).trans HK11.out
                have f_ge_15 : w9.cell? ⟨ge, 15, none⟩ = some (.bool g.own) := (S.out.cell 0 rfl 15).trans HK15.out
                have f_ge_18 : w9.cell? ⟨ge, 18, none⟩ = some (.int .u64 g.door) := (S.out.cell 0 rfl 18).trans HK18.out
                go_wp2_with fail
                clear f_ge_8 f_ge_3 f_ge_1 f_ge_2 f_ge_11 f_ge_15 f_ge_18
                refine bodyPost_ret (results_tmp2 rfl _ _ _) rfl ?_
                exact ⟨by first | (rw [HZ.out]; done) | (rw [HZ.out]; rfl), S.out.base⟩
              · have r2 : (D == g.door) = false := beq_eq_false_iff_ne.mpr e2
                have HP : Aside0 (heldB dv D g = false) := ⟨by unfold heldB; rw [hbz, hv.out, how, show decide (D = g.door) = false from decide_eq_false e2]; simp⟩
                have HZ : Aside0 (z = scanH (heldB dv D) (gs.drop (k + 1)) ((k + 1 : Nat) : Int)) := ⟨by rw [HV.out, HA.out, HP.out]; rfl⟩
                clear HV HA HP
                go_wp2_with fail
                clear f_ge_8 f_ge_3 f_ge_1 f_ge_2 f_ge_11 f_ge_15 f_ge_18
                refine (HWI.out _).mono ?_
                rintro e w9 ⟨rfl, hb⟩
                have Sn_ := Aside0.mk (S.out.call hb)
                clear S hb
                have S := Sn_
                clear Sn_
                have f_ge_8 : w9.cell? ⟨ge, 8, none⟩ = some (.int .i64 g.pc) := (S.out.cell 0 rfl 8).trans HK8.out
                have f_ge_3 : w9.cell? ⟨ge, 3, none⟩ = some (.bool g.busy) := (S.out.cell 0 rfl 3).trans HK3.out
                have f_ge_1 : w9.cell? ⟨ge, 1, none⟩ = some (.int .i64 g.slot) := (S.out.cell 0 rfl 1).trans HK1.out
                have f_ge_2 : w9.cell? ⟨ge, 2, none⟩ = some (.int .i64 g.epoch) := (S.out.cell 0 rfl 2).trans HK2.out
                have f_ge_11 : w9.cell? ⟨ge, 11, none⟩ = some (.int .i64 g.seq) := (S.out.cell 0 rfl 11).trans HK11.out
                have f_ge_15 : w9.cell? ⟨ge, 15, none⟩ = some (.bool g.own) := (S.out.cell 0 rfl 15).trans HK15.out
                have f_ge_18 : w9.cell? ⟨ge, 18, none⟩ = some (.int .u64 g.door) := (S.out.cell 0 rfl 18).trans HK18.out
                go_wp2_with fail
                clear f_ge_8 f_ge_3 f_ge_1 f_ge_2 f_ge_11 f_ge_15 f_ge_18
                have Sn_ := Aside0.mk (S.out.drop (rs' := [Blk gb (#[.slice (some ad0) l.length c, .slice (some ad) gs.length e]) 34]) 0 rfl)
                clear S
                have S := Sn_
                clear Sn_
                go_roundg (gs.length + 1 - (k + 1))
                case measure => omega
                case rel => exact ⟨k + 1, by omega, rfl, by go_num, HZ, S⟩
        · have q1 : decide (11 ≤ g.pc) = true := decide_eq_true y1
          by_cases y2 : g.pc ≤ 15
          · have q2 : decide (g.pc ≤ 15) = true := decide_eq_true y2
            have q5 : decide (11 ≤ g.pc ∧ g.pc ≤ 15) = true := decide_eq_true ⟨y1, y2⟩
            have hv : Aside0 (inV g.pc = true) := ⟨by unfold inV; rw [q5]; rfl⟩
            have HWI := Aside0.mk (fun w_ => within_calls g.pc 11 15 w_)
            rw [q5] at HWI
            clear q5
            cases hbz : g.busy with
            | false =>
              have HP : Aside0 (heldB dv D g = false) := ⟨by unfold heldB; rw [hbz]; rfl⟩
              have HZ : Aside0 (z = scanH (heldB dv D) (gs.drop (k + 1)) ((k + 1 : Nat) : Int)) := ⟨by rw [HV.out, HA.out, HP.out]; rfl⟩
              clear HV HA HP
              go_wp2_with fail
              clear f_ge_8 f_ge_3 f_ge_1 f_ge_2 f_ge_11 f_ge_15 f_ge_18
              refine (HWI.out _).mono ?_
              rintro e w9 ⟨rfl, hb⟩
              have Sn_ := Aside0.mk (S.out.call hb)
              clear S hb
              have S := Sn_
              clear Sn_
              have f_ge_8 : w9.cell? ⟨ge, 8, none⟩ = some (.int .i64 g.pc) := (S.out.cell 0 rfl 8).trans HK8.out
              have f_ge_3 : w9.cell? ⟨ge, 3, none⟩ = some (.bool g.busy) := (S.out.cell 0 rfl 3).trans HK3.out
              have f_ge_1 : w9.cell? ⟨ge, 1, none⟩ = some (.int .i64 g.slot) := (S.out.cell 0 rfl 1).trans HK1.out
              have f_ge_2 : w9.cell? ⟨ge, 2, none⟩ = some (.int .i64 g.epoch) := (S.out.cell 0 rfl 2).trans HK2.out
              have f_ge_11 : w9.cell? ⟨ge, 11, none⟩ = some (.int .i64 g.seq) := (S.out.cell 0 rfl 11).trans HK11.out
              have f_ge_15 : w9.cell? ⟨ge, 15, none⟩ = some (.bool g.own) := (S.out.cell 0 rfl 15).trans HK15.out
              have f_ge_18 : w9.cell? ⟨ge, 18, none⟩ = some (.int .u64 g.door) := (S.out.cell 0 rfl 18).trans HK18.out
              go_wp2_with fail
              clear f_ge_8 f_ge_3 f_ge_1 f_ge_2 f_ge_11 f_ge_15 f_ge_18
              have Sn_ := Aside0.mk (S.out.drop (rs' := [Blk gb (#[.slice (some ad0) l.length c, .slice (some ad) gs.length e]) 34]) 0 rfl)
              clear S
              have S := Sn_
              clear Sn_
              go_roundg (gs.length + 1 - (k + 1))
              case measure => omega
              case rel => exact ⟨k + 1, by omega, rfl, by go_num, HZ, S⟩
            | true =>
              by_cases e1 : D = dv g.slot g.epoch g.seq
              · have r1 : (D == dv g.slot g.epoch g.seq) = true := beq_iff_eq.mpr e1
                have HP : Aside0 (heldB dv D g = true) := ⟨by unfold heldB; rw [hbz, hv.out, show decide (D = dv g.slot g.epoch g.seq) = true from decide_eq_true e1]; simp⟩
                have HZ : Aside0 (z = ((k : Int), true)) := ⟨by rw [HV.out, HA.out, HP.out]; rfl⟩
                clear HV HA HP
                go_wp2_with fail
                clear f_ge_8 f_ge_3 f_ge_1 f_ge_2 f_ge_11 f_ge_15 f_ge_18
                refine (HWI.out _).mono ?_
                rintro e w9 ⟨rfl, hb⟩
                have Sn_ := Aside0.mk (S.out.call hb)
                clear S hb
                have S := Sn_
                clear Sn_
                have f_ge_8 : w9.cell? ⟨ge, 8, none⟩ = some (.int .i64 g.pc) := (S.out.cell 0 rfl 8).trans HK8.out
                have f_ge_3 : w9.cell? ⟨ge, 3, none⟩ = some (.bool g.busy) := (S.out.cell 0 rfl 3).trans HK3.out
                have f_ge_1 : w9.cell? ⟨ge, 1, none⟩ = some (.int .i64 g.slot) := (S.out.cell 0 rfl 1).trans HK1.out
                have f_ge_2 : w9.cell? ⟨ge, 2, none⟩ = some (.int .i64 g.epoch) := (S.out.cell 0 rfl 2).trans HK2.out
                have f_ge_11 : w9.cell? ⟨ge, 11, none⟩ = some (.int .i64 g.seq) := (S.out.cell 0 rfl 11).trans HK11.out
                have f_ge_15 : w9.cell? ⟨ge, 15, none⟩ = some (.bool g.own) := (S.out.cell 0 rfl 15).trans HK15.out
                have f_ge_18 : w9.cell? ⟨ge, 18, none⟩ = some (.int .u64 g.door) := (S.out.cell 0 rfl 18).trans HK18.out
                go_wp2_with fail
                clear f_ge_8 f_ge_3 f_ge_1 f_ge_2 f_ge_11 f_ge_15 f_ge_18
                refine (heldF_calls HD.out ge cs g.slot g.epoch g.seq _ (S.out.blk 0 rfl) HK1.out HK2.out HK11.out).mono ?_
                rintro e w10 ⟨rfl, hb⟩
                have Sn_ := Aside0.mk (S.out.call hb)
                clear S hb
                have S := Sn_
                clear Sn_
                have f_ge_8 : w10.cell? ⟨ge, 8, none⟩ = some (.int .i64 g.pc) := (S.out.cell 0 rfl 8).trans HK8.out
                have f_ge_3 : w10.cell? ⟨ge, 3, none⟩ = some (.bool g.busy) := (S.out.cell 0 rfl 3).trans HK3.out
                have f_ge_1 : w10.cell? ⟨ge, 1, none⟩ = some (.int .i64 g.slot) := (S.out.cell 0 rfl 1).trans HK1.out
                have f_ge_2 : w10.cell? ⟨ge, 2, none⟩ = some (.int .i64 g.epoch) := (S.out.cell 0 rfl 2).trans HK2.out
                have f_ge_11 : w10.cell? ⟨ge, 11, none⟩ = some (.int .i64 g.seq) := (S.out.cell 0 rfl 11).trans HK11.out
                have f_ge_15 : w10.cell? ⟨ge, 15, none⟩ = some (.bool g.own) := (S.out.cell 0 rfl 15).trans HK15.out
                have f_ge_18 : w10.cell? ⟨ge, 18, none⟩ = some (.int .u64 g.door) := (S.out.cell 0 rfl 18).trans HK18.out
                go_wp2
                clear f_ge_8 f_ge_3 f_ge_1 f_ge_2 f_ge_11 f_ge_15 f_ge_18
                refine bodyPost_ret (results_tmp2 rfl _ _ _) rfl ?_
                exact ⟨by first | (rw [HZ.out]; done) | (rw [HZ.out]; rfl), S.out.base⟩
              · have r1 : (D == dv g.slot g.epoch g.seq) = false := beq_eq_false_iff_ne.mpr e1
                cases how : g.own with
                | false =>
                  have HP : Aside0 (heldB dv D g = false) := ⟨by unfold heldB; rw [hbz, hv.out, show decide (D = dv g.slot g.epoch g.seq) = false from decide_eq_false e1, how]; simp⟩
                  have HZ : Aside0 (z = scanH (heldB dv D) (gs.drop (k + 1)) ((k + 1 : Nat) : Int)) := ⟨by rw [HV.out, HA.out, HP.out]; rfl⟩
                  clear HV HA HP
                  go_wp2_with fail
                  clear f_ge_8 f_ge_3 f_ge_1 f_ge_2 f_ge_11 f_ge_15 f_ge_18
                  refine (HWI.out _).mono ?_
                  rintro e w9 ⟨rfl, hb⟩
                  have Sn_ := Aside0.mk (S.out.call hb)
                  clear S hb
                  have S := Sn_
                  clear Sn_
                  have f_ge_8 : w9.cell? ⟨ge, 8, none⟩ = some (.int .i64 g.pc) := (S.out.cell 0 rfl 8).trans HK8.out
                  have f_ge_3 : w9.cell? ⟨ge, 3, none⟩ = some (.bool g.busy) := (S.out.cell 0 rfl 3).trans HK3.out
                  have f_ge_1 : w9.cell? ⟨ge, 1, none⟩ = some (.int .i64 g.slot) := (S.out.cell 0 rfl 1).trans HK1.out
                  have f_ge_2 : w9.cell? ⟨ge, 2, none⟩ = some (.int .i64 g.epoch) := (S.out.cell 0 rfl 2).trans HK2.out
                  have f_ge_11 : w9.cell? ⟨ge, 11, none⟩ = some (.int .i64 g.seq) := (S.out.cell 0 rfl 11).trans HK11.out
                  have f_ge_15 : w9.cell? ⟨ge, 15, none⟩ = some (.bool g.own) := (S.out.cell 0 rfl 15).trans HK15.out
                  have f_ge_18 : w9.cell? ⟨ge, 18, none⟩ = some (.int .u64 g.door) := (S.out.cell 0 rfl 18).trans HK18.out
                  go_wp2_with fail
                  clear f_ge_8 f_ge_3 f_ge_1 f_ge_2 f_ge_11 f_ge_15 f_ge_18
                  refine (heldF_calls HD.out ge cs g.slot g.epoch g.seq _ (S.out.blk 0 rfl) HK1.out HK2.out HK11.out).mono ?_
                  rintro e w10 ⟨rfl, hb⟩
                  have Sn_ := Aside0.mk (S.out.call hb)
                  clear S hb
                  have S := Sn_
                  clear Sn_
                  have f_ge_8 : w10.cell? ⟨ge, 8, none⟩ = some (.int .i64 g.pc) := (S.out.cell 0 rfl 8).trans HK8.out
                  have f_ge_3 : w10.cell? ⟨ge, 3, none⟩ = some (.bool g.busy) := (S.out.cell 0 rfl 3).trans HK3.out
                  have f_ge_1 : w10.cell? ⟨ge, 1, none⟩ = some (.int .i64 g.slot) := (S.out.cell 0 rfl 1).trans HK1.out
                  have f_ge_2 : w10.cell? ⟨ge, 2, none⟩ = some (.int .i64 g.epoch) := (S.out.cell 0 rfl 2).trans HK2.out
                  have f_ge_11 : w10.cell? ⟨ge, 11, none⟩ = some (.int .i64 g.seq) := (S.out.cell 0 rfl 11).trans HK11.out
                  have f_ge_15 : w10.cell? ⟨ge, 15, none⟩ = some (.bool g.own) := (S.out.cell 0 rfl 15).trans HK15.out
                  have f_ge_18 : w10.cell? ⟨ge, 18, none⟩ = some (.int .u64 g.door) := (S.out.cell 0 rfl 18).trans HK18.out
                  go_wp2
                  clear f_ge_8 f_ge_3 f_ge_1 f_ge_2 f_ge_11 f_ge_15 f_ge_18
                  have Sn_ := Aside0.mk (S.out.drop (rs' := [Blk gb (#[.slice (some ad0) l.length c, .slice (some ad) gs.length e]) 34]) 0 rfl)
                  clear S
                  have S := Sn_
                  clear Sn_
                  go_roundg (gs.length + 1 - (k + 1))
                  case measure => omega
                  case rel => exact ⟨k + 1, by omega, rfl, by go_num, HZ, S⟩
                | true =>
                  by_cases e2 : D = g.door
                  · have r2 : (D == g.door) = true := beq_iff_eq.mpr e2
                    have HP : Aside0 (heldB dv D g = true) := ⟨by unfold heldB; rw [hbz, hv.out, show decide (D = dv g.slot g.epoch g.seq) = false from decide_eq_false e1, how, show decide (D = g.door) = true from decide_eq_true e2]; simp⟩
                    have HZ : Aside0 (z = ((k : Int), true)) := ⟨by rw [HV.out, HA.out, HP.out]; rfl⟩
                    clear HV HA HP
                    go_wp2_with fail
                    clear f_ge_8 f_ge_3 f_ge_1 f_ge_2 f_ge_11 f_ge_15 f_ge_18
                    refine (HWI.out _).mono ?_
                    rintro e w9 ⟨rfl, hb⟩
                    have Sn_ := Aside0.mk (S.out.call hb)
                    clear S hb
                    have S := Sn_
                    clear Sn_
                    have f_ge_8 : w9.cell? ⟨ge, 8, none⟩ = some (.int .i64 g.pc) := (S.out.cell 0 rfl 8).trans HK8.out
                    have f_ge_3 : w9.cell? ⟨ge, 3, none⟩ = some (.bool g.busy) := (S.out.cell 0 rfl 3).trans HK3.out
                    have f_ge_1 : w9.cell? ⟨ge, 1, none⟩ = some (.int .i64 g.slot) := (S.out.cell 0 rfl 1).trans HK1.out
                    have f_ge_2 : w9.cell? ⟨ge, 2, none⟩ = some (.int .i64 g.epoch) := (S.out.cell 0 rfl 2).trans HK2.out
                    have f_ge_11 : w9.cell? ⟨ge, 11, none⟩ = some (.int .i64 g.seq) := (S.out.cell 0 rfl 11).trans HK11.out
                    have f_ge_15 : w9.cell? ⟨ge, 15, none⟩ = some (.bool g.own) := (S.out.cell 0 rfl 15).trans HK15.out
                    have f_ge_18 : w9.cell? ⟨ge, 18, none⟩ = some (.int .u64 g.door) := (S.out.cell 0 rfl 18).trans HK18.out
                    go_wp2_with fail
                    clear f_ge_8 f_ge_3 f_ge_1 f_ge_2 f_ge_11 f_ge_15 f_ge_18
                    refine (heldF_calls HD.out ge cs g.slot g.epoch g.seq _ (S.out.blk 0 rfl) HK1.out HK2.out HK11.out).mono ?_
                    rintro e w10 ⟨rfl, hb⟩
                    have Sn_ := Aside0.mk (S.out.call hb)
                    clear S hb
                    have S := Sn_
                    clear Sn_
                    have f_ge_8 : w10.cell? ⟨ge, 8, none⟩ = some (.int .i64 g.pc) := (S.out.cell 0 rfl 8).trans HK8.out
                    have f_ge_3 : w10.cell? ⟨ge, 3, none⟩ = some (.bool g.busy) := (S.out.cell 0 rfl 3).trans HK3.out
                    have f_ge_1 : w10.cell? ⟨ge, 1, none⟩ = some (.int .i64 g.slot) := (S.out.cell 0 rfl 1).trans HK1.out
                    have f_ge_2 : w10.cell? ⟨ge, 2, none⟩ = some (.int .i64 g.epoch) := (S.out.cell 0 rfl 2).trans HK2.out
                    have f_ge_11 : w10.cell? ⟨ge, 11, none⟩ = some (.int .i64 g.seq) := (S.out.cell 0 rfl 11).trans HK11.out
                    have f_ge_15 : w10.cell? ⟨ge, 15, none⟩ = some (.bool g.own) := (S.out.cell 0 rfl 15).trans HK15.out
                    have f_ge_18 : w10.cell? ⟨ge, 18, none⟩ = some (.int .u64 g.door) := (S.out.cell 0 rfl 18).trans HK18.out
                    go_wp2
                    clear f_ge_8 f_ge_3 f_ge_1 f_ge_2 f_ge_11 f_ge_15 f_ge_18
                    refine bodyPost_ret (results_tmp2 rfl _ _ _) rfl ?_
                    exact ⟨by first | (rw [HZ.out]; done) | (rw [HZ.out]; rfl), S.out.base⟩
                  · have r2 : (D == g.door) = false := beq_eq_false_iff_ne.mpr e2
                    have HP : Aside0 (heldB dv D g = false) := ⟨by unfold heldB; rw [hbz, hv.out, show decide (D = dv g.slot g.epoch g.seq) = false from decide_eq_false e1, how, show decide (D = g.door) = false from decide_eq_false e2]; simp⟩
                    have HZ : Aside0 (z = scanH (heldB dv D) (gs.drop (k + 1)) ((k + 1 : Nat) : Int)) := ⟨by rw [HV.out, HA.out, HP.out]; rfl⟩
                    clear HV HA HP
                    go_wp2_with fail
                    clear f_ge_8 f_ge_3 f_ge_1 f_ge_2 f_ge_11 f_ge_15 f_ge_18
                    refine (HWI.out _).mono ?_
                    rintro e w9 ⟨rfl, hb⟩
                    have Sn_ := Aside0.mk (S.out.call hb)
                    clear S hb
                    have S := Sn_
                    clear Sn_
                    have f_ge_8 : w9.cell? ⟨ge, 8, none⟩ = some (.int .i64 g.pc) := (S.out.cell 0 rfl 8).trans HK8.out
                    have f_ge_3 : w9.cell? ⟨ge, 3, none⟩ = some (.bool g.busy) := (S.out.cell 0 rfl 3).trans HK3.out
                    have f_ge_1 : w9.cell? ⟨ge, 1, none⟩ = some (.int .i64 g.slot) := (S.out.cell 0 rfl 1).trans HK1.out
                    have f_ge_2 : w9.cell? ⟨ge, 2, none⟩ = some (.int .i64 g.epoch) := (S.out.cell 0 rfl 2).trans HK2.out
                    have f_ge_11 : w9.cell? ⟨ge, 11, none⟩ = some (.int .i64 g.seq) := (S.out.cell 0 rfl 11).trans HK11.out
                    have f_ge_15 : w9.cell? ⟨ge, 15, none⟩ = some (.bool g.own) := (S.out.cell 0 rfl 15).trans HK15.out
                    have f_ge_18 : w9.cell? ⟨ge, 18, none⟩ = some (.int .u64 g.door) := (S.out.cell 0 rfl 18).trans HK18.out
                    go_wp2_with fail
                    clear f_ge_8 f_ge_3 f_ge_1 f_ge_2 f_ge_11 f_ge_15 f_ge_18
                    refine (heldF_calls HD.out ge cs g.slot g.epoch g.seq _ (S.out.blk 0 rfl) HK1.out HK2.out HK11.out).mono ?_
                    rintro e w10 ⟨rfl, hb⟩
                    have Sn_ := Aside0.mk (S.out.call hb)
                    clear S hb
                    have S := Sn_
                    clear Sn_
                    have f_ge_8 : w10.cell? ⟨ge, 8, none⟩ = some (.int .i64 g.pc) := (S.out.cell 0 rfl 8).trans HK8.out
                    have f_ge_3 : w10.cell? ⟨ge, 3, none⟩ = some (.bool g.busy) := (S.out.cell 0 rfl 3).trans HK3.out
                    have f_ge_1 : w10.cell? ⟨ge, 1, none⟩ = some (.int .i64 g.slot) := (S.out.cell 0 rfl 1).trans HK1.out
                    have f_ge_2 : w10.cell? ⟨ge, 2, none⟩ = some (.int .i64 g.epoch) := (S.out.cell 0 rfl 2).trans HK2.out
                    have f_ge_11 : w10.cell? ⟨ge, 11, none⟩ = some (.int .i64 g.seq) := (S.out.cell 0 rfl 11).trans HK11.out
                    have f_ge_15 : w10.cell? ⟨ge, 15, none⟩ = some (.bool g.own) := (S.out.cell 0 rfl 15).trans HK15.out
                    have f_ge_18 : w10.cell? ⟨ge, 18, none⟩ = some (.int .u64 g.door) := (S.out.cell 0 rfl 18).trans HK18.out
                    go_wp2
                    clear f_ge_8 f_ge_3 f_ge_1 f_ge_2 f_ge_11 f_ge_15 f_ge_18
                    have Sn_ := Aside0.mk (S.out.drop (rs' := [Blk gb (#[.slice (some ad0) l.length c, .slice (some ad) gs.length e]) 34]) 0 rfl)
                    clear S
                    have S := Sn_
                    clear Sn_
                    go_roundg (gs.length + 1 - (k + 1))
                    case measure => omega
                    case rel => exact ⟨k + 1, by omega, rfl, by go_num, HZ, S⟩
          · have q2 : decide (g.pc ≤ 15) = false := decide_eq_false y2
            have q5 : decide (11 ≤ g.pc ∧ g.pc ≤ 15) = false := decide_eq_false (fun h => y2 h.2)
            by_cases y3 : g.pc = 26
            · have q3 : (g.pc == 26) = true := beq_iff_eq.mpr y3
              have hv : Aside0 (inV g.pc = true) := ⟨by unfold inV; rw [q5]; simpa using y3⟩
              clear y3
              have HWI := Aside0.mk (fun w_ => within_calls g.pc 11 15 w_)
              rw [q5] at HWI
              clear q5
              cases hbz : g.busy with
              | false =>
                have HP : Aside0 (heldB dv D g = false) := ⟨by unfold heldB; rw [hbz]; rfl⟩
                have HZ : Aside0 (z = scanH (heldB dv D) (gs.drop (k + 1)) ((k + 1 : Nat) : Int)) := ⟨by rw [HV.out, HA.out, HP.out]; rfl⟩
                clear HV HA HP
                go_wp2_with fail
                clear f_ge_8 f_ge_3 f_ge_1 f_ge_2 f_ge_11 f_ge_15 f_ge_18
                refine (HWI.out _).mono ?_
                rintro e w9 ⟨rfl, hb⟩
                have Sn_ := Aside0.mk (S.out.call hb)
                clear S hb
                have S := Sn_
                clear Sn_
                have f_ge_8 : w9.cell? ⟨ge, 8, none⟩ = some (.int .i64 g.pc) := (S.out.cell 0 rfl 8).trans HK8.out
                have f_ge_3 : w9.cell? ⟨ge, 3, none⟩ = some (.bool g.busy) := (S.out.cell 0 rfl 3).trans HK3.out
                have f_ge_1 : w9.cell? ⟨ge, 1, none⟩ = some (.int .i64 g.slot) := (S.out.cell 0 rfl 1).trans HK1.out
                have f_ge_2 : w9.cell? ⟨ge, 2, none⟩ = some (.int .i64 g.epoch) := (S.out.cell 0 rfl 2).trans HK2.out
                have f_ge_11 : w9.cell? ⟨ge, 11, none⟩ = some (.int .i64 g.seq) := (S.out.cell 0 rfl 11).trans HK11.out
                have f_ge_15 : w9.cell? ⟨ge, 15, none⟩ = some (.bool g.own) := (S.out.cell 0 rfl 15).trans HK15.out
                have f_ge_18 : w9.cell? ⟨ge, 18, none⟩ = some (.int .u64 g.door) := (S.out.cell 0 rfl 18).trans HK18.out
                go_wp2_with fail
                clear f_ge_8 f_ge_3 f_ge_1 f_ge_2 f_ge_11 f_ge_15 f_ge_18
                have Sn_ := Aside0.mk (S.out.drop (rs' := [Blk gb (#[.slice (some ad0) l.length c, .slice (some ad) gs.length e]) 34]) 0 rfl)
                clear S
                have S := Sn_
                clear Sn_
                go_roundg (gs.length + 1 - (k + 1))
                case measure => omega
                case rel => exact ⟨k + 1, by omega, rfl, by go_num, HZ, S⟩
              | true =>
                by_cases e1 : D = dv g.slot g.epoch g.seq
                · have r1 : (D == dv g.slot g.epoch g.seq) = true := beq_iff_eq.mpr e1
                  have HP : Aside0 (heldB dv D g = true) := ⟨by unfold heldB; rw [hbz, hv.out, show decide (D = dv g.slot g.epoch g.seq) = true from decide_eq_true e1]; simp⟩
                  have HZ : Aside0 (z = ((k : Int), true)) := ⟨by rw [HV.out, HA.out, HP.out]; rfl⟩
                  clear HV HA HP
                  go_wp2_with fail
                  clear f_ge_8 f_ge_3 f_ge_1 f_ge_2 f_ge_11 f_ge_15 f_ge_18
                  refine (HWI.out _).mono ?_
                  rintro e w9 ⟨rfl, hb⟩
                  have Sn_ := Aside0.mk (S.out.call hb)
                  clear S hb
                  have S := Sn_
                  clear Sn_
                  have f_ge_8 : w9.cell? ⟨ge, 8, none⟩ = some (.int .i64 g.pc) := (S.out.cell 0 rfl 8).trans HK8.out
                  have f_ge_3 : w9.cell? ⟨ge, 3, none⟩ = some (.bool g.busy) := (S.out.cell 0 rfl 3).trans HK3.out
                  have f_ge_1 : w9.cell? ⟨ge, 1, none⟩ = some (.int .i64 g.slot) := (S.out.cell 0 rfl 1).trans HK1.out
                  have f_ge_2 : w9.cell? ⟨ge, 2, none⟩ = some (.int .i64 g.epoch) := (S.out.cell 0 rfl 2).trans HK2.out
                  have f_ge_11 : w9.cell? ⟨ge, 11, none⟩ = some (.int .i64 g.seq) := (S.out.cell 0 rfl 11).trans HK11.out
                  have f_ge_15 : w9.cell? ⟨ge, 15, none⟩ = some (.bool g.own) := (S.out.cell 0 rfl 15).trans HK15.out
                  have f_ge_18 : w9.cell? ⟨ge, 18, none⟩ = some (.int .u64 g.door) := (S.out.cell 0 rfl 18).trans HK18.out
                  go_wp2_with fail
                  clear f_ge_8 f_ge_3 f_ge_1 f_ge_2 f_ge_11 f_ge_15 f_ge_18
                  refine (heldF_calls HD.out ge cs g.slot g.epoch g.seq _ (S.out.blk 0 rfl) HK1.out HK2.out HK11.out).mono ?_
                  rintro e w10 ⟨rfl, hb⟩
                  have Sn_ := Aside0.mk (S.out.call hb)
                  clear S hb
                  have S := Sn_
                  clear Sn_
                  have f_ge_8 : w10.cell? ⟨ge, 8, none⟩ = some (.int .i64 g.pc) := (S.out.cell 0 rfl 8).trans HK8.out
                  have f_ge_3 : w10.cell? ⟨ge, 3, none⟩ = some (.bool g.busy) := (S.out.cell 0 rfl 3).trans HK3.out
                  have f_ge_1 : w10.cell? ⟨ge, 1, none⟩ = some (.int .i64 g.slot) := (S.out.cell 0 rfl 1).trans HK1.out
                  have f_ge_2 : w10.cell? ⟨ge, 2, none⟩ = some (.int .i64 g.epoch) := (S.out.cell 0 rfl 2).trans HK2.out
                  have f_ge_11 : w10.cell? ⟨ge, 11, none⟩ = some (.int .i64 g.seq) := (S.out.cell 0 rfl 11).trans HK11.out
                  have f_ge_15 : w10.cell? ⟨ge, 15, none⟩ = some (.bool g.own) := (S.out.cell 0 rfl 15).trans HK15.out
                  have f_ge_18 : w10.cell? ⟨ge, 18, none⟩ = some (.int .u64 g.door) := (S.out.cell 0 rfl 18).trans HK18.out
                  go_wp2
                  clear f_ge_8 f_ge_3 f_ge_1 f_ge_2 f_ge_11 f_ge_15 f_ge_18
                  refine bodyPost_ret (results_tmp2 rfl _ _ _) rfl ?_
                  exact ⟨by first | (rw [HZ.out]; done) | (rw [HZ.out]; rfl), S.out.base⟩
                · have r1 : (D == dv g.slot g.epoch g.seq) = false := beq_eq_false_iff_ne.mpr e1
                  cases how : g.own with
                  | false =>
                    have HP : Aside0 (heldB dv D g = false) := ⟨by unfold heldB; rw [hbz, hv.out, show decide (D = dv g.slot g.epoch g.seq) = false from decide_eq_false e1, how]; simp⟩
                    have HZ : Aside0 (z = scanH (heldB dv D) (gs.drop (k + 1)) ((k + 1 : Nat) : Int)) := ⟨by rw [HV.out, HA.out, HP.out]; rfl⟩
                    clear HV HA HP
                    go_wp2_with fail
                    clear f_ge_8 f_ge_3 f_ge_1 f_ge_2 f_ge_11 f_ge_15 f_ge_18
                    refine (HWI.out _).mono ?_
                    rintro e w9 ⟨rfl, hb⟩
                    have Sn_ := Aside0.mk (S.out.call hb)
                    clear S hb
                    have S := Sn_
                    clear Sn_
                    have f_ge_8 : w9.cell? ⟨ge, 8, none⟩ = some (.int .i64 g.pc) := (S.out.cell 0 rfl 8).trans HK8.out
                    have f_ge_3 : w9.cell? ⟨ge, 3, none⟩ = some (.bool g.busy) := (S.out.cell 0 rfl 3).trans HK3.out
                    have f_ge_1 : w9.cell? ⟨ge, 1, none⟩ = some (.int .i64 g.slot) := (S.out.cell 0 rfl 1).trans HK1.out
                    have f_ge_2 : w9.cell? ⟨ge, 2, none⟩ = some (.int .i64 g.epoch) := (S.out.cell 0 rfl 2).trans HK2.out
                    have f_ge_11 : w9.cell? ⟨ge, 11, none⟩ = some (.int .i64 g.seq) := (S.out.cell 0 rfl 11).trans HK11.out
                    have f_ge_15 : w9.cell? ⟨ge, 15, none⟩ = some (.bool g.own) := (S.out.cell 0 rfl 15).trans HK15.out
                    have f_ge_18 : w9.cell? ⟨ge, 18, none⟩ = some (.int .u64 g.door) := (S.out.cell 0 rfl 18).trans HK18.out
                    go_wp2_with fail
                    clear f_ge_8 f_ge_3 f_ge_1 f_ge_2 f_ge_11 f_ge_15 f_ge_18
                    refine (heldF_calls HD.out ge cs g.slot g.epoch g.seq _ (S.out.blk 0 rfl) HK1.out HK2.out HK11.out).mono ?_
                    rintro e w10 ⟨rfl, hb⟩
                    have Sn_ := Aside0.mk (S.out.call hb)
                    clear S hb
                    have S := Sn_
                    clear Sn_
                    have f_ge_8 : w10.cell? ⟨ge, 8, none⟩ = some (.int .i64 g.pc) := (S.out.cell 0 rfl 8).trans HK8.out
                    have f_ge_3 : w10.cell? ⟨ge, 3, none⟩ = some (.bool g.busy) := (S.out.cell 0 rfl 3).trans HK3.out
                    have f_ge_1 : w10.cell? ⟨ge, 1, none⟩ = some (.int .i64 g.slot) := (S.out.cell 0 rfl 1).trans HK1.out
                    have f_ge_2 : w10.cell? ⟨ge, 2, none⟩ = some (.int .i64 g.epoch) := (S.out.cell 0 rfl 2).trans HK2.out
                    have f_ge_11 : w10.cell? ⟨ge, 11, none⟩ = some (.int .i64 g.seq) := (S.out.cell 0 rfl 11).trans HK11.out
                    have f_ge_15 : w10.cell? ⟨ge, 15, none⟩ = some (.bool g.own) := (S.out.cell 0 rfl 15).trans HK15.out
                    have f_ge_18 : w10.cell? ⟨ge, 18, none⟩ = some (.int .u64 g.door) := (S.out.cell 0 rfl 18).trans HK18.out
                    go_wp2
                    clear f_ge_8 f_ge_3 f_ge_1 f_ge_2 f_ge_11 f_ge_15 f_ge_18
                    have Sn_ := Aside0.mk (S.out.drop (rs' := [Blk gb (#[.slice (some ad0) l.length c, .slice (some ad) gs.length e]) 34]) 0 rfl)
                    clear S
                    have S := Sn_
                    clear Sn_
                    go_roundg (gs.length + 1 - (k + 1))
                    case measure => omega
                    case rel => exact ⟨k + 1, by omega, rfl, by go_num, HZ, S⟩
                  | true =>
                    by_cases e2 : D = g.door
                    · have r2 : (D == g.door) = true := beq_iff_eq.mpr e2
                      have HP : Aside0 (heldB dv D g = true) := ⟨by unfold heldB; rw [hbz, hv.out, show decide (D = dv g.slot g.epoch g.seq) = false from decide_eq_false e1, how, show decide (D = g.door) = true from decide_eq_true e2]; simp⟩
                      have HZ : Aside0 (z = ((k : Int), true)) := ⟨by rw [HV.out, HA.out, HP.out]; rfl⟩
                      clear HV HA HP
                      go_wp2_with fail
                      clear f_ge_8 f_ge_3 f_ge_1 f_ge_2 f_ge_11 f_ge_15 f_ge_18
                      refine (HWI.out _).mono ?_
                      rintro e w9 ⟨rfl, hb⟩
                      have Sn_ := Aside0.mk (S.out.call hb)
                      clear S hb
                      have S := Sn_
                      clear Sn_
                      have f_ge_8 : w9.cell? ⟨ge, 8, none⟩ = some (.int .i64 g.pc) := (S.out.cell 0 rfl 8).trans HK8.out
                      have f_ge_3 : w9.cell? ⟨ge, 3, none⟩ = some (.bool g.busy) := (S.out.cell 0 rfl 3).trans HK3.out
                      have f_ge_1 : w9.cell? ⟨ge, 1, none⟩ = some (.int .i64 g.slot) := (S.out.cell 0 rfl 1).trans HK1.out
                      have f_ge_2 : w9.cell? ⟨ge, 2, none⟩ = some (.int .i64 g.epoch) := (S.out.cell 0 rfl 2).trans HK2.out
                      have f_ge_11 : w9.cell? ⟨ge, 11, none⟩ = some (.int .i64 g.seq) := (S.out.cell 0 rfl 11).trans HK11.out
                      have f_ge_15 : w9.cell? ⟨ge, 15, none⟩ = some (.bool g.own) := (S.out.cell 0 rfl 15).trans HK15.out
                      have f_ge_18 : w9.cell? ⟨ge, 18, none⟩ = some (.int .u64 g.door) := (S.out.cell 0 rfl 18).trans HK18.out
                      go_wp2_with fail
                      clear f_ge_8 f_ge_3 f_ge_1 f_ge_2 f_ge_11 f_ge_15 f_ge_18
                      refine (heldF_calls HD.out ge cs g.slot g.epoch g.seq _ (S.out.blk 0 rfl) HK1.out HK2.out HK11.out).mono ?_
                      rintro e w10 ⟨rfl, hb⟩
                      have Sn_ := Aside0.mk (S.out.call hb)
                      clear S hb
                      have S := Sn_
                      clear Sn_
                      have f_ge_8 : w10.cell? ⟨ge, 8, none⟩ = some (.int .i64 g.pc) := (S.out.cell 0 rfl 8).trans HK8.out
                      have f_ge_3 : w10.cell? ⟨ge, 3, none⟩ = some (.bool g.busy) := (S.out.cell 0 rfl 3).trans HK3.out
                      have f_ge_1 : w10.cell? ⟨ge, 1, none⟩ = some (.int .i64 g.slot) := (S.out.cell 0 rfl 1).trans HK1.out
                      have f_ge_2 : w10.cell? ⟨ge, 2, none⟩ = some (.int .i64 g.epoch) := (S.out.cell 0 rfl 2).trans HK2.out
                      have f_ge_11 : w10.cell? ⟨ge, 11, none⟩ = some (.int .i64 g.seq) := (S.out.cell 0 rfl 11).trans HK11.out
                      have f_ge_15 : w10.cell? ⟨ge, 15, none⟩ = some (.bool g.own) := (S.out.cell 0 rfl 15).trans HK15.out
                      have f_ge_18 : w10.cell? ⟨ge, 18, none⟩ = some (.int .u64 g.door) := (S.out.cell 0 rfl 18).trans HK18.out
                      go_wp2
                      clear f_ge_8 f_ge_3 f_ge_1 f_ge_2 f_ge_11 f_ge_15 f_ge_18
                      refine bodyPost_ret (results_tmp2 rfl _ _ _) rfl ?_
                      exact ⟨by first | (rw [HZ.out]; done) | (rw [HZ.out]; rfl), S.out.base⟩
                    · have r2 : (D == g.door) = false := beq_eq_false_iff_ne.mpr e2
                      have HP : Aside0 (heldB dv D g = false) := ⟨by unfold heldB; rw [hbz, hv.out, show decide (D = dv g.slot g.epoch g.seq) = false from decide_eq_false e1, how, show decide (D = g.door) = false from decide_eq_false e2]; simp⟩
                      have HZ : Aside0 (z = scanH (heldB dv D) (gs.drop (k + 1)) ((k + 1 : Nat) : Int)) := ⟨by rw [HV.out, HA.out, HP.out]; rfl⟩
                      clear HV HA HP
                      go_wp2_with fail
                      clear f_ge_8 f_ge_3 f_ge_1 f_ge_2 f_ge_11 f_ge_15 f_ge_18
                      refine (HWI.out _).mono ?_
                      rintro e w9 ⟨rfl, hb⟩
                      have Sn_ := Aside0.mk (S.out.call hb)
                      clear S hb
                      have S := Sn_
                      clear Sn_
                      have f_ge_8 : w9.cell? ⟨ge, 8, none⟩ = some (.int .i64 g.pc) := (S.out.cell 0 rfl 8).trans HK8.out
                      have f_ge_3 : w9.cell? ⟨ge, 3, none⟩ = some (.bool g.busy) := (S.out.cell 0 rfl 3).trans HK3.out
                      have f_ge_1 : w9.cell? ⟨ge, 1, none⟩ = some (.int .i64 g.slot) := (S.out.cell 0 rfl 1).trans HK1.out
                      have f_ge_2 : w9.cell? ⟨ge, 2, none⟩ = some (.int .i64 g.epoch) := (S.out.cell 0 rfl 2).trans HK2.out
                      have f_ge_11 : w9.cell? ⟨ge, 11, none⟩ = some (.int .i64 g.seq) := (S.out.cell 0 rfl 11).trans HK11.out
                      have f_ge_15 : w9.cell? ⟨ge, 15, none⟩ = some (.bool g.own) := (S.out.cell 0 rfl 15).trans HK15.out
                      have f_ge_18 : w9.cell? ⟨ge, 18, none⟩ = some (.int .u64 g.door) := (S.out.cell 0 rfl 18).trans HK18.out
                      go_wp2_with fail
                      clear f_ge_8 f_ge_3 f_ge_1 f_ge_2 f_ge_11 f_ge_15 f_ge_18
                      refine (heldF_calls HD.out ge cs g.slot g.epoch g.seq _ (S.out.blk 0 rfl) HK1.out HK2.out HK11.out).mono ?_
                      rintro e w10 ⟨rfl, hb⟩
                      have Sn_ := Aside0.mk (S.out.call hb)
                      clear S hb
                      have S := Sn_
                      clear Sn_
                      have f_ge_8 : w10.cell? ⟨ge, 8, none⟩ = some (.int .i64 g.pc) := (S.out.cell 0 rfl 8).trans HK8.out
                      have f_ge_3 : w10.cell? ⟨ge, 3, none⟩ = some (.bool g.busy) := (S.out.cell 0 rfl 3).trans HK3.out
                      have f_ge_1 : w10.cell? ⟨ge, 1, none⟩ = some (.int .i64 g.slot) := (S.out.cell 0 rfl 1).trans HK1.out
                      have f_ge_2 : w10.cell? ⟨ge, 2, none⟩ = some (.int .i64 g.epoch) := (S.out.cell 0 rfl 2).trans HK2.out
                      have f_ge_11 : w10.cell? ⟨ge, 11, none⟩ = some (.int .i64 g.seq) := (S.out.cell 0 rfl 11).trans HK11.out
                      have f_ge_15 : w10.cell? ⟨ge, 15, none⟩ = some (.bool g.own) := (S.out.cell 0 rfl 15).trans HK15.out
                      have f_ge_18 : w10.cell? ⟨ge, 18, none⟩ = some (.int .u64 g.door) := (S.out.cell 0 rfl 18).trans HK18.out
                      go_wp2
                      clear f_ge_8 f_ge_3 f_ge_1 f_ge_2 f_ge_11 f_ge_15 f_ge_18
                      have Sn_ := Aside0.mk (S.out.drop (rs' := [Blk gb (#[.slice (some ad0) l.length c, .slice (some ad) gs.length e]) 34]) 0 rfl)
                      clear S
                      have S := Sn_
                      clear Sn_
                      go_roundg (gs.length + 1 - (k + 1))
                      case measure => omega
                      case rel => exact ⟨k + 1, by omega, rfl, by go_num, HZ, S⟩
            · have q3 : (g.pc == 26) = false := beq_eq_false_iff_ne.mpr y3
              have hv : Aside0 (inV g.pc = false) := ⟨by unfold inV; rw [q5]; simpa using y3⟩
              have HWI := Aside0.mk (fun w_ => within_calls g.pc 11 15 w_)
              rw [q5] at HWI
              clear q5
              cases hbz : g.busy with
              | false =>
                have HP : Aside0 (heldB dv D g = false) := ⟨by unfold heldB; rw [hbz]; rfl⟩
                have HZ : Aside0 (z = scanH (heldB dv D) (gs.drop (k + 1)) ((k + 1 : Nat) : Int)) := ⟨by rw [HV.out, HA.out, HP.out]; rfl⟩
                clear HV HA HP
                go_wp2_with fail
                clear f_ge_8 f_ge_3 f_ge_1 f_ge_2 f_ge_11 f_ge_15 f_ge_18
                refine (HWI.out _).mono ?_
                rintro e w9 ⟨rfl, hb⟩
                have Sn_ := Aside0.mk (S.out.call hb)
                clear S hb
                have S := Sn_
                clear Sn_
                have f_ge_8 : w9.cell? ⟨ge, 8, none⟩ = some (.int .i64 g.pc) := (S.out.cell 0 rfl 8).trans HK8.out
                have f_ge_3 : w9.cell? ⟨ge, 3, none⟩ = some (.bool g.busy) := (S.out.cell 0 rfl 3).trans HK3.out
                have f_ge_1 : w9.cell? ⟨ge, 1, none⟩ = some (.int .i64 g.slot) := (S.out.cell 0 rfl 1).trans HK1.out
                have f_ge_2 : w9.cell? ⟨ge, 2, none⟩ = some (.int .i64 g.epoch) := (S.out.cell 0 rfl 2).trans HK2.out
                have f_ge_11 : w9.cell? ⟨ge, 11, none⟩ = some (.int .i64 g.seq) := (S.out.cell 0 rfl 11).trans HK11.out
                have f_ge_15 : w9.cell? ⟨ge, 15, none⟩ = some (.bool g.own) := (S.out.cell 0 rfl 15).trans HK15.out
                have f_ge_18 : w9.cell? ⟨ge, 18, none⟩ = some (.int .u64 g.door) := (S.out.cell 0 rfl 18).trans HK18.out
                go_wp2_with fail
                clear f_ge_8 f_ge_3 f_ge_1 f_ge_2 f_ge_11 f_ge_15 f_ge_18
                have Sn_ := Aside0.mk (S.out.drop (rs' := [Blk gb (#[.slice (some ad0) l.length c, .slice (some ad) gs.length e]) 34]) 0 rfl)
                clear S
                have S := Sn_
                clear Sn_
                go_roundg (gs.length + 1 - (k + 1))
                case measure => omega
                case rel => exact ⟨k + 1, by omega, rfl, by go_num, HZ, S⟩
              | true =>
                cases how : g.own with
                | false =>
                  have HP : Aside0 (heldB dv D g = false) := ⟨by unfold heldB; rw [hbz, hv.out, how]; simp⟩
                  have HZ : Aside0 (z = scanH (heldB dv D) (gs.drop (k + 1)) ((k + 1 : Nat) : Int)) := ⟨by rw [HV.out, HA.out, HP.out]; rfl⟩
                  clear HV HA HP
                  go_wp2_with fail
                  clear f_ge_8 f_ge_3 f_ge_1 f_ge_2 f_ge_11 f_ge_15 f_ge_18
                  refine (HWI.out _).mono ?_
                  rintro e w9 ⟨rfl, hb⟩
                  have Sn_ := Aside0.mk (S.out.call hb)
                  clear S hb
                  have S := Sn_
                  clear Sn_
                  have f_ge_8 : w9.cell? ⟨ge, 8, none⟩ = some (.int .i64 g.pc) := (S.out.cell 0 rfl 8).trans HK8.out
                  have f_ge_3 : w9.cell? ⟨ge, 3, none⟩ = some (.bool g.busy) := (S.out.cell 0 rfl 3).trans HK3.out
                  have f_ge_1 : w9.cell? ⟨ge, 1, none⟩ = some (.int .i64 g.slot) := (S.out.cell 0 rfl 1).trans HK1.out
                  have f_ge_2 : w9.cell? ⟨ge, 2, none⟩ = some (.int .i64 g.epoch) := (S.out.cell 0 rfl 2).trans HK2.out
                  have f_ge_11 : w9.cell? ⟨ge, 11, none⟩ = some (.int .i64 g.seq) := (S.out.cell 0 rfl 11).trans HK11.out
                  have f_ge_15 : w9.cell? ⟨ge, 15, none⟩ = some (.bool g.own) := (S.out.cell 0 rfl 15).trans HK15.out
                  have f_ge_18 : w9.cell? ⟨ge, 18, none⟩ = some (.int .u64 g.door) := (S.out.cell 0 rfl 18).trans HK18.out
                  go_wp2_with fail
                  clear f_ge_8 f_ge_3 f_ge_1 f_ge_2 f_ge_11 f_ge_15 f_ge_18
                  have Sn_ := Aside0.mk (S.out.drop (rs' := [Blk gb (#[.slice (some ad0) l.length c, .slice (some ad) gs.length e]) 34]) 0 rfl)
                  clear S
                  have S := Sn_
                  clear Sn_
                  go_roundg (gs.length + 1 - (k + 1))
                  case measure => omega
                  case rel => exact ⟨k + 1, by omega, rfl, by go_num, HZ, S⟩
                | true =>
                  by_cases e2 : D = g.door
                  · have r2 : (D == g.door) = true := beq_iff_eq.mpr e2
                    have HP : Aside0 (heldB dv D g = true) := ⟨by unfold heldB; rw [hbz, hv.out, how, show decide (D = g.door) = true from decide_eq_true e2]; simp⟩
                    have HZ : Aside0 (z = ((k : Int), true)) := ⟨by rw [HV.out, HA.out, HP.out]; rfl⟩
                    clear HV HA HP
                    go_wp2_with fail
                    clear f_ge_8 f_ge_3 f_ge_1 f_ge_2 f_ge_11 f_ge_15 f_ge_18
                    refine (HWI.out _).mono ?_
                    rintro e w9 ⟨rfl, hb⟩
                    have Sn_ := Aside0.mk (S.out.call hb)
                    clear S hb
                    have S := Sn_
                    clear Sn_
                    have f_ge_8 : w9.cell? ⟨ge, 8, none⟩ = some (.int .i64 g.pc) := (S.out.cell 0 rfl 8).trans HK8.out
                    have f_ge_3 : w9.cell? ⟨ge, 3, none⟩ = some (.bool g.busy) := (S.out.cell 0 rfl 3).trans HK3.out
                    have f_ge_1 : w9.cell? ⟨ge, 1, none⟩ = some (.int .i64 g.slot) := (S.out.cell 0 rfl 1).trans HK1.out
                    have f_ge_2 : w9.cell? ⟨ge, 2, none⟩ = some (.int .i64 g.epoch) := (S.out.cell 0 rfl 2).trans HK2.out
                    have f_ge_11 : w9.cell? ⟨ge, 11, none⟩ = some (.int .i64 g.seq) := (S.out.cell 0 rfl 11).trans HK11.out
                    have f_ge_15 : w9.cell? ⟨ge, 15, none⟩ = some (.bool g.own) := (S.out.cell 0 rfl 15).trans HK15.out
                    have f_ge_18 : w9.cell? ⟨ge, 18, none⟩ = some (.int .u64 g.door) := (S.out.cell 0 rfl 18).trans HK18.out
                    go_wp2_with fail
                    clear f_ge_8 f_ge_3 f_ge_1 f_ge_2 f_ge_11 f_ge_15 f_ge_18
                    refine bodyPost_ret (results_tmp2 rfl _ _ _) rfl ?_
                    exact ⟨by first | (rw [HZ.out]; done) | (rw [HZ.out]; rfl), S.out.base⟩
                  · have r2 : (D == g.door) = false := beq_eq_false_iff_ne.mpr e2
                    have HP : Aside0 (heldB dv D g = false) := ⟨by unfold heldB; rw [hbz, hv.out, how, show decide (D = g.door) = false from decide_eq_false e2]; simp⟩
                    have HZ : Aside0 (z = scanH (heldB dv D) (gs.drop (k + 1)) ((k + 1 : Nat) : Int)) := ⟨by rw [HV.out, HA.out, HP.out]; rfl⟩
                    clear HV HA HP
                    go_wp2_with fail
                    clear f_ge_8 f_ge_3 f_ge_1 f_ge_2 f_ge_11 f_ge_15 f_ge_18
                    refine (HWI.out _).mono ?_
                    rintro e w9 ⟨rfl, hb⟩
                    have Sn_ := Aside0.mk (S.out.call hb)
                    clear S hb
                    have S := Sn_
                    clear Sn_
                    have f_ge_8 : w9.cell? ⟨ge, 8, none⟩ = some (.int .i64 g.pc) := (S.out.cell 0 rfl 8).trans HK8.out
                    have f_ge_3 : w9.cell? ⟨ge, 3, none⟩ = some (.bool g.busy) := (S.out.cell 0 rfl 3).trans HK3.out
                    have f_ge_1 : w9.cell? ⟨ge, 1, none⟩ = some (.int .i64 g.slot) := (S.out.cell 0 rfl 1).trans HK1.out
                    have f_ge_2 : w9.cell? ⟨ge, 2, none⟩ = some (.int .i64 g.epoch) := (S.out.cell 0 rfl 2).trans HK2.out
                    have f_ge_11 : w9.cell? ⟨ge, 11, none⟩ = some (.int .i64 g.seq) := (S.out.cell 0 rfl 11).trans HK11.out
                    have f_ge_15 : w9.cell? ⟨ge, 15, none⟩ = some (.bool g.own) := (S.out.cell 0 rfl 15).trans HK15.out
                    have f_ge_18 : w9.cell? ⟨ge, 18, none⟩ = some (.int .u64 g.door) := (S.out.cell 0 rfl 18).trans HK18.out
                    go_wp2_with fail
                    clear f_ge_8 f_ge_3 f_ge_1 f_ge_2 f_ge_11 f_ge_15 f_ge_18
                    have Sn_ := Aside0.mk (S.out.drop (rs' := [Blk gb (#[.slice (some ad0) l.length c, .slice (some ad) gs.length e]) 34]) 0 rfl)
                    clear S
                    have S := Sn_
                    clear Sn_
                    go_roundg (gs.length + 1 - (k + 1))
                    case measure => omega
                    case rel => exact ⟨k + 1, by omega, rfl, by go_num, HZ, S⟩
      · have hkl : k = gs.length := by omega
        subst hkl
        have HZ : Aside0 (z = (0, false)) := ⟨by rw [HV.out, List.drop_length]; rfl⟩
        skip
        go_wp2
        refine bodyPost_ret (results_tmp2 rfl _ _ _) rfl ?_
        exact ⟨by first | (rw [HZ.out]; done) | (rw [HZ.out]; rfl), S.out.base⟩
end Go.Proofs.Ytfpdccaomhjpjaa.Gu
