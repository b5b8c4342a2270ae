/- The two WorldOk, over what GuestOk and PlatCheck answer. -/
import Derived.Test.YtfpdccaomhjpjaaGy
set_option linter.unusedVariables false
set_option linter.unusedSimpArgs false
namespace Go.Proofs.Ytfpdccaomhjpjaa.Gu
open Go.RowKit Go.Proofs.YtfpdccaomhjpjaaW.PrintWords Go.Proofs.YtfpdccaomhjpjaaW.PrintLast Go.Proofs.YtfpdccaomhjpjaaW.PrintMore Go.Proofs.Ytfpdccaomhjpjaa.St0

/-- Function F answers 'gk' of a guest. -/
def Asks (F : FuncId) (a b d : Int) (gk : Gu → Bool) : Prop := ∀ (g : Gu) (A : Option Addr) (cA : Nat) (B : Option Addr) (cB : Nat) (w : World), GC w g A cA B cB →
  Calls Try.prog F #[.agg #[.int .i64 a, .int .i64 b, .int .i64 d], .agg (gC g A cA B cB)] w fun e w' => e = .returned (.bool (gk g)) ∧ Below w.heap.size w w'
/-- Function F tells a house of words. -/
def Checks (F : FuncId) (l : List Int) (a b d : Int) (ok : Bool) : Prop := ∀ (A : Option Addr) (c : Nat) (w : World), UC w A c l →
  Calls Try.prog F #[.slice A l.length c] w fun e w' => e = .returned (.tuple #[.agg #[.int .i64 a, .int .i64 b, .int .i64 d], .bool ok]) ∧ Below w.heap.size w w'
def wokB (ok : Bool) (gk : Gu → Bool) (gs : List Gu) : Bool := ok && (decide (gs.length ≤ 6) && gs.all gk)
theorem all_drop (gk : Gu → Bool) (gs : List Gu) (k : Nat) (hk : k < gs.length) : (gs.drop k).all gk = (gk (gs.getD k zG) && (gs.drop (k + 1)).all gk) := by
  rw [List.drop_eq_getElem_cons hk, List.all_cons]
  have : gs.getD k zG = gs[k] := by simp [List.getD, hk]
  rw [this]
set_option maxRecDepth 100000 in
theorem clo_calls {a b d : Int} {gk : Gu → Bool} (hok : Asks 38 a b d gk) (g : Gu) (A : Option Addr) (cA : Nat) (B : Option Addr) (cB : Nat) (gc : Nat) (w : World) (h : GC w g A cA B cB) (hb : w.heap[gc]? = some (.cells #[.int .i64 a, .int .i64 b, .int .i64 d] 43 (0, 0))) :
    Calls Try.prog 37 #[.agg (gC g A cA B cB), .pointer (some ⟨gc, 0, none⟩)] w fun e w' => e = .returned (.bool (!gk g)) ∧ Below w.heap.size w w' := by
  have HR := Aside0.mk h
  have HB := Aside0.mk hb
  have hlt : gc < w.heap.size := (Array.getElem?_eq_some_iff.1 hb).1
  clear h hb
  have HZC := Aside0.mk (fun w_ => hok g A cA B cB w_)
  have H1 := Aside0.mk (show (gC g A cA B cB).all (·.oneCell') = true by simp [gC, Value.oneCell'])
  have HI := Aside0.mk (show (Try.prog.info? 59).map (·.size) = some (gC g A cA B cB).size by kernel_rfl)
  obtain ⟨cs, hcs⟩ : ∃ cs, gC g A cA B cB = cs := ⟨_, rfl⟩
  rw [hcs] at HZC H1 HI ⊢
  clear hcs
  obtain ⟨r, hr⟩ : ∃ r, gk g = r := ⟨_, rfl⟩
  rw [hr] at HZC ⊢
  clear hr hok
  have S := Aside0.mk (St.start w)
  go_enter Try.func37, Try.ntmps37
  go_wp2_with (first | ((with_reducible refine gate_dst (N := 2) rfl ?_); refine box_event rfl (N := 2) rfl (cs := cs) (t := 59) (by first | (go_simp; done) | (go_simp; rfl)) ?_; intro gb hg_ w1 hbox_ hb_; have Sn_ := Aside0.mk (S.out.box hg_ hbox_ hb_); clear hbox_ hb_ hg_ S; have S := Sn_; clear Sn_) | ((with_reducible refine gate_dst (N := 4) rfl ?_); refine Kd.event_run rfl (Row.load_row_run (g := gc) (t := 43) (cells := #[.int .i64 a, .int .i64 b, .int .i64 d]) rfl rfl ((S.out.base.block gc hlt).trans HB.out) Try.underlying43 rfl (by kernel_rfl)) ?_) | ((with_reducible refine gate_dst (N := 5) rfl ?_); refine Kd.event_run rfl (Row.load_row_run (g := gb) (t := 59) (cells := cs) rfl rfl (S.out.blk 0 rfl) Try.underlying59 rfl HI.out) ?_))
  refine (HZC.out _ (HR.out.below S.out.base)).mono ?_
  rintro e w2 ⟨rfl, hb⟩
  have Sn_ := Aside0.mk (S.out.call hb)
  clear S hb
  have S := Sn_
  clear Sn_
  go_wp2
  go_ret
  exact ⟨rfl, S.out.base⟩
set_option maxRecDepth 100000 in
theorem indexF_calls {a b d : Int} {gk : Gu → Bool} (hok : Asks 38 a b d gk) (B : Option Addr) (e : Nat) (gs : List Gu) (gc : Nat) (w : World) (h : GsC w B e gs) (hl : gs.length ≤ 1048576) (hb : w.heap[gc]? = some (.cells #[.int .i64 a, .int .i64 b, .int .i64 d] 43 (0, 0))) :
    Calls Try.prog 64 #[.slice B gs.length e, .func (.func 37) #[] #[.pointer (some ⟨gc, 0, none⟩)]] w fun e w' => ∃ r : Int, e = .returned (.int .i64 r) ∧ decide (r ≥ 0) = !gs.all gk ∧ Below w.heap.size w w' := by
  have HR := Aside0.mk h
  have HB := Aside0.mk hb
  have hlt0 : gc < w.heap.size := (Array.getElem?_eq_some_iff.1 hb).1
  clear h hb
  go_enter Try.func64, Try.ntmps64
  go_wp2
  go_loopg [5, 8] (gs.length + 1) (fun kq v5 v8 w' => ∃ k : Nat, k ≤ gs.length ∧ kq = gs.length + 1 - k ∧ v8 = .int .i64 k ∧ Aside0 (gs.all gk = (gs.drop k).all gk) ∧ Aside0 (St w w' []))
  case atStart => exact ⟨0, by omega, by omega, rfl, ⟨rfl⟩, ⟨St.start w⟩⟩
  case round =>
    obtain ⟨k, hk, rfl, rfl, HS, S⟩ := hrel
    by_cases hlt : k < gs.length
    · obtain ⟨ad, A1, c1, B1, d1, rfl, hg, hc⟩ := elemG (HR.out.below S.out.base) k hlt
      have HC := Aside0.mk hc
      have HG := Aside0.mk hg
      clear hc hg
      have HA := Aside0.mk (all_drop gk gs k hlt)
      obtain ⟨g, hgd⟩ : ∃ g, gs.getD k zG = g := ⟨_, rfl⟩
      rw [hgd] at HC HG HA
      clear hgd
      have HI := Aside0.mk (show (Try.prog.info? 59).map (·.size) = some (gC g A1 c1 B1 d1).size by kernel_rfl)
      have HZC := Aside0.mk (clo_calls hok g A1 c1 B1 d1 gc wr HG.out ((S.out.base.block gc hlt0).trans HB.out))
      obtain ⟨cs, hcs⟩ : ∃ cs, gC g A1 c1 B1 d1 = cs := ⟨_, rfl⟩
      rw [hcs] at HC HI HZC
      clear hcs
      obtain ⟨r, hr⟩ : ∃ r, gk g = r := ⟨_, rfl⟩
      rw [hr] at HZC HA
      clear hr
      have hi : (k : Int) < (gs.length : Int) := by omega
      have hi0 : (0 : Int) ≤ (k : Int) := by omega
      go_wp2_with (first | ((with_reducible refine gate_dst (N := 15) rfl ?_); refine Kd.event_run rfl (load_elem_run (ad := ad.add (k * 26)) (cs := cs) rfl (by first | (go_simp; done) | (go_simp; rfl)) HC.out Try.underlying59 rfl HI.out) ?_))
      refine HZC.out.mono ?_
      rintro e w1 ⟨rfl, hb⟩
      have S2 := Aside0.mk (S.out.call hb)
      clear hb S HZC
      cases r with
      | false =>
        have HF : Aside0 (gs.all gk = false) := ⟨by rw [HS.out, HA.out]; rfl⟩
        go_wp2
        go_ret
        exact ⟨(k : Int), rfl, by rw [HF.out]; simp, S2.out.base⟩
      | true =>
        have HF : Aside0 (gs.all gk = (gs.drop (k + 1)).all gk) := ⟨by rw [HS.out, HA.out]; rfl⟩
        go_wp2
        go_roundg (gs.length + 1 - (k + 1))
        case measure => omega
        case rel => exact ⟨k + 1, by omega, rfl, by go_num, HF, S2⟩
    · have hkl : k = gs.length := by omega
      subst hkl
      have HF : Aside0 (gs.all gk = true) := ⟨by rw [HS.out, List.drop_length]; rfl⟩
      go_wp2
      go_ret
      exact ⟨-1, rfl, by rw [HF.out]; rfl, S.out.base⟩
set_option maxRecDepth 100000 in
theorem contF_calls {a b d : Int} {gk : Gu → Bool} (hok : Asks 38 a b d gk) (B : Option Addr) (e : Nat) (gs : List Gu) (gc : Nat) (w : World) (h : GsC w B e gs) (hl : gs.length ≤ 1048576) (hb : w.heap[gc]? = some (.cells #[.int .i64 a, .int .i64 b, .int .i64 d] 43 (0, 0))) :
    Calls Try.prog 36 #[.slice B gs.length e, .func (.func 37) #[] #[.pointer (some ⟨gc, 0, none⟩)]] w fun e w' => e = .returned (.bool (!gs.all gk)) ∧ Below w.heap.size w w' := by
  have HZC := Aside0.mk (indexF_calls hok B e gs gc w h hl hb)
  clear h hb hok
  go_enter Try.func36, Try.ntmps36
  go_wp2_with fail
  refine HZC.out.mono ?_
  rintro e w1 ⟨r, rfl, hr, hb⟩
  have HR := Aside0.mk hr
  clear hr HZC
  go_wp2
  go_ret
  exact ⟨by rw [← HR.out]; rfl, hb⟩
set_option maxHeartbeats 4000000 in
set_option maxRecDepth 100000 in
theorem iwok_calls {a b d : Int} {gk : Gu → Bool} {l : List Int} {ok : Bool} (hc : Checks 29 l a b d ok) (hok : ok = true → Asks 38 a b d gk) (A : Option Addr) (c : Nat) (B : Option Addr) (e : Nat) (gs : List Gu) (w : World) (hu : UC w A c l) (h : GsC w B e gs) (hl : gs.length ≤ 1048576) :
    Calls Try.prog 16 #[.agg #[.slice A l.length c, .slice B gs.length e]] w fun e w' => e = .returned (.bool (wokB ok gk gs)) ∧ Below w.heap.size w w' := by
  have HR := Aside0.mk h
  have HU := Aside0.mk hu
  have HC := Aside0.mk (fun w_ => hc A c w_)
  have HO := Aside0.mk hok
  clear h hu hc hok
  have S := Aside0.mk (St.start w)
  go_enter Try.func16, Try.ntmps16
  go_wp2_with (first | ((with_reducible refine gate_dst (N := 1) rfl ?_); refine box_event rfl (N := 1) rfl (cs := #[.slice A l.length c, .slice B gs.length e]) (t := 34) (by first | (go_simp; done) | (go_simp; rfl)) ?_; intro gb hg_ w1 hbox_ hb_; have Sn_ := Aside0.mk (S.out.box hg_ hbox_ hb_); clear hbox_ hb_ hg_ S; have S := Sn_; clear Sn_; have f_gb_0 : w1.cell? ⟨gb, 0, none⟩ = some (.slice A l.length c) := (S.out.cell 0 rfl 0).trans rfl; have z_gb_0 := S.out.frozen 0 rfl 0))
  refine (HC.out _ (HU.out.below S.out.base)).mono ?_
  rintro e w2 ⟨rfl, hb⟩
  clear f_gb_0 z_gb_0
  have Sn_ := Aside0.mk (S.out.call hb)
  clear S hb
  have S := Sn_
  clear Sn_
  cases ok with
  | false =>
    go_wp2_with (first | ((with_reducible refine gate_dst (N := 3) rfl ?_); refine box_event rfl (N := 3) rfl (cs := #[.int .i64 0, .int .i64 0, .int .i64 0]) (t := 43) (by first | (go_simp; done) | (go_simp; rfl)) ?_; intro g3 hg_ w3 hbox_ hb_; have Sn_ := Aside0.mk (S.out.box hg_ hbox_ hb_); clear hbox_ hb_ hg_ S; have S := Sn_; clear Sn_; have f_gb_1 : w3.cell? ⟨gb, 1, none⟩ = some (.slice B gs.length e) := (S.out.cell 1 rfl 1).trans rfl; have z_gb_1 := S.out.frozen 1 rfl 1) | ((with_reducible refine gate_store (t := 43) (p := 3) rfl ?_); refine store_event (t := 43) (p := 3) (v := ?vo_1) (w1 := w3.setRow g3 (#[.int .i64 a, .int .i64 b, .int .i64 d])) ?hg ?ho ?hn ?hr ?_; (case ho => rfl); (case hg => rfl); (case hn => rfl); (case hr => exact (Row.store_row_run (g := g3) (cells := #[.int .i64 a, .int .i64 b, .int .i64 d]) (t := 43) (old := #[.int .i64 0, .int .i64 0, .int .i64 0]) rfl (by rfl) (by rfl) (S.out.blk 0 rfl) (by kernel_rfl) rfl (by simp [Value.oneCell']))); intro w4 hw_; have Sn_ := Aside0.mk ((S.out.setRow (cs' := #[.int .i64 a, .int .i64 b, .int .i64 d]) (rs' := [Blk g3 (#[.int .i64 a, .int .i64 b, .int .i64 d]) 43, Blk gb (#[.slice A l.length c, .slice B gs.length e]) 34]) 0 rfl rfl).of hw_); clear S hw_; have S := Sn_; clear Sn_; have f_gb_1 : w4.cell? ⟨gb, 1, none⟩ = some (.slice B gs.length e) := (S.out.cell 1 rfl 1).trans rfl; have z_gb_1 := S.out.frozen 1 rfl 1))
    go_ret
    exact ⟨by rfl, S.out.base⟩
  | true =>
    by_cases h6 : gs.length ≤ 6
    · have hb6 : (gs.length : Int) ≤ 6 := by omega
      go_wp2_with (first | ((with_reducible refine gate_dst (N := 3) rfl ?_); refine box_event rfl (N := 3) rfl (cs := #[.int .i64 0, .int .i64 0, .int .i64 0]) (t := 43) (by first | (go_simp; done) | (go_simp; rfl)) ?_; intro g3 hg_ w3 hbox_ hb_; have Sn_ := Aside0.mk (S.out.box hg_ hbox_ hb_); clear hbox_ hb_ hg_ S; have S := Sn_; clear Sn_; have f_gb_1 : w3.cell? ⟨gb, 1, none⟩ = some (.slice B gs.length e) := (S.out.cell 1 rfl 1).trans rfl; have z_gb_1 := S.out.frozen 1 rfl 1) | ((with_reducible refine gate_store (t := 43) (p := 3) rfl ?_); refine store_event (t := 43) (p := 3) (v := ?vo_2) (w1 := w3.setRow g3 (#[.int .i64 a, .int .i64 b, .int .i64 d])) ?hg ?ho ?hn ?hr ?_; (case ho => rfl); (case hg => rfl); (case hn => rfl); (case hr => exact (Row.store_row_run (g := g3) (cells := #[.int .i64 a, .int .i64 b, .int .i64 d]) (t := 43) (old := #[.int .i64 0, .int .i64 0, .int .i64 0]) rfl (by rfl) (by rfl) (S.out.blk 0 rfl) (by kernel_rfl) rfl (by simp [Value.oneCell']))); intro w4 hw_; have Sn_ := Aside0.mk ((S.out.setRow (cs' := #[.int .i64 a, .int .i64 b, .int .i64 d]) (rs' := [Blk g3 (#[.int .i64 a, .int .i64 b, .int .i64 d]) 43, Blk gb (#[.slice A l.length c, .slice B gs.length e]) 34]) 0 rfl rfl).of hw_); clear S hw_; have S := Sn_; clear Sn_; have f_gb_1 : w4.cell? ⟨gb, 1, none⟩ = some (.slice B gs.length e) := (S.out.cell 1 rfl 1).trans rfl; have z_gb_1 := S.out.frozen 1 rfl 1))
      refine (contF_calls (HO.out (by first | rfl | trivial)) B e gs g3 _ (HR.out.below S.out.base) hl (S.out.blk 0 rfl)).mono ?_
      rintro e w5 ⟨rfl, hb⟩
      clear f_gb_1 z_gb_1
      have Sn_ := Aside0.mk (S.out.call hb)
      clear S hb
      have S := Sn_
      clear Sn_
      obtain ⟨r, hr⟩ : ∃ r, gs.all gk = r := ⟨_, rfl⟩
      have HV : Aside0 (wokB true gk gs = r) := ⟨by rw [← hr]; unfold wokB; rw [decide_eq_true h6]; rfl⟩
      rw [hr]
      clear hr
      cases r with
      | false =>
        go_wp2
        go_ret
        exact ⟨by rw [HV.out]; rfl, S.out.base⟩
      | true =>
        go_wp2
        go_ret
        exact ⟨by rw [HV.out]; rfl, S.out.base⟩
    · have hb6 : ¬ (gs.length : Int) ≤ 6 := by omega
      go_wp2_with (first | ((with_reducible refine gate_dst (N := 3) rfl ?_); refine box_event rfl (N := 3) rfl (cs := #[.int .i64 0, .int .i64 0, .int .i64 0]) (t := 43) (by first | (go_simp; done) | (go_simp; rfl)) ?_; intro g3 hg_ w3 hbox_ hb_; have Sn_ := Aside0.mk (S.out.box hg_ hbox_ hb_); clear hbox_ hb_ hg_ S; have S := Sn_; clear Sn_; have f_gb_1 : w3.cell? ⟨gb, 1, none⟩ = some (.slice B gs.length e) := (S.out.cell 1 rfl 1).trans rfl; have z_gb_1 := S.out.frozen 1 rfl 1) | ((with_reducible refine gate_store (t := 43) (p := 3) rfl ?_); refine store_event (t := 43) (p := 3) (v := ?vo_3) (w1 := w3.setRow g3 (#[.int .i64 a, .int .i64 b, .int .i64 d])) ?hg ?ho ?hn ?hr ?_; (case ho => rfl); (case hg => rfl); (case hn => rfl); (case hr => exact (Row.store_row_run (g := g3) (cells := #[.int .i64 a, .int .i64 b, .int .i64 d]) (t := 43) (old := #[.int .i64 0, .int .i64 0, .int .i64 0]) rfl (by rfl) (by rfl) (S.out.blk 0 rfl) (by kernel_rfl) rfl (by simp [Value.oneCell']))); intro w4 hw_; have Sn_ := Aside0.mk ((S.out.setRow (cs' := #[.int .i64 a, .int .i64 b, .int .i64 d]) (rs' := [Blk g3 (#[.int .i64 a, .int .i64 b, .int .i64 d]) 43, Blk gb (#[.slice A l.length c, .slice B gs.length e]) 34]) 0 rfl rfl).of hw_); clear S hw_; have S := Sn_; clear Sn_; have f_gb_1 : w4.cell? ⟨gb, 1, none⟩ = some (.slice B gs.length e) := (S.out.cell 1 rfl 1).trans rfl; have z_gb_1 := S.out.frozen 1 rfl 1))
      go_ret
      exact ⟨by rw [show wokB true gk gs = false by unfold wokB; rw [decide_eq_false h6]; rfl]; rfl, S.out.base⟩
set_option maxHeartbeats 4000000 in
set_option maxRecDepth 100000 in
theorem swok_calls {a b d : Int} {gk : Gu → Bool} {l : List Int} {ok : Bool} (hc : Checks 22 l a b d ok) (hok : ok = true → Asks 34 a b d gk) (A : Option Addr) (c : Nat) (B : Option Addr) (e : Nat) (gs : List Gu) (w : World) (hu : UC w A c l) (h : GsC w B e gs) (hl : gs.length ≤ 1048576) :
    Calls Try.prog 14 #[.agg #[.slice A l.length c, .slice B gs.length e]] w fun e w' => e = .returned (.bool (wokB ok gk gs)) ∧ Below w.heap.size w w' := by
  have HR := Aside0.mk h
  have HU := Aside0.mk hu
  have HC := Aside0.mk (fun w_ => hc A c w_)
  have HO := Aside0.mk hok
  clear h hu hc hok
  have S := Aside0.mk (St.start w)
  go_enter Try.func14, Try.ntmps14
  go_wp2_with (first | ((with_reducible refine gate_dst (N := 1) rfl ?_); refine box_event rfl (N := 1) rfl (cs := #[.slice A l.length c, .slice B gs.length e]) (t := 34) (by first | (go_simp; done) | (go_simp; rfl)) ?_; intro gb hg_ w1 hbox_ hb_; have Sn_ := Aside0.mk (S.out.box hg_ hbox_ hb_); clear hbox_ hb_ hg_ S; have S := Sn_; clear Sn_; have f_gb_0 : w1.cell? ⟨gb, 0, none⟩ = some (.slice A l.length c) := (S.out.cell 0 rfl 0).trans rfl; have z_gb_0 := S.out.frozen 0 rfl 0))
  refine (HC.out _ (HU.out.below S.out.base)).mono ?_
  rintro e w2 ⟨rfl, hb⟩
  clear f_gb_0 z_gb_0
  have Sn_ := Aside0.mk (S.out.call hb)
  clear S hb
  have S := Sn_
  clear Sn_
  cases ok with
  | false =>
    go_wp2_with (first | ((with_reducible refine gate_dst (N := 3) rfl ?_); refine box_event rfl (N := 3) rfl (cs := #[.int .i64 0, .int .i64 0, .int .i64 0]) (t := 43) (by first | (go_simp; done) | (go_simp; rfl)) ?_; intro g3 hg_ w3 hbox_ hb_; have Sn_ := Aside0.mk (S.out.box hg_ hbox_ hb_); clear hbox_ hb_ hg_ S; have S := Sn_; clear Sn_; have f_gb_1 : w3.cell? ⟨gb, 1, none⟩ = some (.slice B gs.length e) := (S.out.cell 1 rfl 1).trans rfl; have z_gb_1 := S.out.frozen 1 rfl 1) | ((with_reducible refine gate_store (t := 43) (p := 3) rfl ?_); refine store_event (t := 43) (p := 3) (v := ?vo_4) (w1 := w3.setRow g3 (#[.int .i64 a, .int .i64 b, .int .i64 d])) ?hg ?ho ?hn ?hr ?_; (case ho => rfl); (case hg => rfl); (case hn => rfl); (case hr => exact (Row.store_row_run (g := g3) (cells := #[.int .i64 a, .int .i64 b, .int .i64 d]) (t := 43) (old := #[.int .i64 0, .int .i64 0, .int .i64 0]) rfl (by rfl) (by rfl) (S.out.blk 0 rfl) (by kernel_rfl) rfl (by simp [Value.oneCell']))); intro w4 hw_; have Sn_ := Aside0.mk ((S.out.setRow (cs' := #[.int .i64 a, .int .i64 b, .int .i64 d]) (rs' := [Blk g3 (#[.int .i64 a, .int .i64 b, .int .i64 d]) 43, Blk gb (#[.slice A l.length c, .slice B gs.length e]) 34]) 0 rfl rfl).of hw_); clear S hw_; have S := Sn_; clear Sn_; have f_gb_1 : w4.cell? ⟨gb, 1, none⟩ = some (.slice B gs.length e) := (S.out.cell 1 rfl 1).trans rfl; have z_gb_1 := S.out.frozen 1 rfl 1))
    go_ret
    exact ⟨by rfl, S.out.base⟩
  | true =>
    by_cases h6 : gs.length ≤ 6
    rotate_left
    · have hb6 : (gs.length : Int) > 6 := by omega
      go_wp2_with (first | ((with_reducible refine gate_dst (N := 3) rfl ?_); refine box_event rfl (N := 3) rfl (cs := #[.int .i64 0, .int .i64 0, .int .i64 0]) (t := 43) (by first | (go_simp; done) | (go_simp; rfl)) ?_; intro g3 hg_ w3 hbox_ hb_; have Sn_ := Aside0.mk (S.out.box hg_ hbox_ hb_); clear hbox_ hb_ hg_ S; have S := Sn_; clear Sn_; have f_gb_1 : w3.cell? ⟨gb, 1, none⟩ = some (.slice B gs.length e) := (S.out.cell 1 rfl 1).trans rfl; have z_gb_1 := S.out.frozen 1 rfl 1) | ((with_reducible refine gate_store (t := 43) (p := 3) rfl ?_); refine store_event (t := 43) (p := 3) (v := ?vo_5) (w1 := w3.setRow g3 (#[.int .i64 a, .int .i64 b, .int .i64 d])) ?hg ?ho ?hn ?hr ?_; (case ho => rfl); (case hg => rfl); (case hn => rfl); (case hr => exact (Row.store_row_run (g := g3) (cells := #[.int .i64 a, .int .i64 b, .int .i64 d]) (t := 43) (old := #[.int .i64 0, .int .i64 0, .int .i64 0]) rfl (by rfl) (by rfl) (S.out.blk 0 rfl) (by kernel_rfl) rfl (by simp [Value.oneCell']))); intro w4 hw_; have Sn_ := Aside0.mk ((S.out.setRow (cs' := #[.int .i64 a, .int .i64 b, .int .i64 d]) (rs' := [Blk g3 (#[.int .i64 a, .int .i64 b, .int .i64 d]) 43, Blk gb (#[.slice A l.length c, .slice B gs.length e]) 34]) 0 rfl rfl).of hw_); clear S hw_; have S := Sn_; clear Sn_; have f_gb_1 : w4.cell? ⟨gb, 1, none⟩ = some (.slice B gs.length e) := (S.out.cell 1 rfl 1).trans rfl; have z_gb_1 := S.out.frozen 1 rfl 1))
      go_ret
      exact ⟨by rw [show wokB true gk gs = false by unfold wokB; rw [decide_eq_false h6]; rfl]; rfl, S.out.base⟩
    · have hb6 : ¬ (gs.length : Int) > 6 := by omega
      go_wp2_with (first | ((with_reducible refine gate_dst (N := 3) rfl ?_); refine box_event rfl (N := 3) rfl (cs := #[.int .i64 0, .int .i64 0, .int .i64 0]) (t := 43) (by first | (go_simp; done) | (go_simp; rfl)) ?_; intro g3 hg_ w3 hbox_ hb_; have Sn_ := Aside0.mk (S.out.box hg_ hbox_ hb_); clear hbox_ hb_ hg_ S; have S := Sn_; clear Sn_; have f_gb_1 : w3.cell? ⟨gb, 1, none⟩ = some (.slice B gs.length e) := (S.out.cell 1 rfl 1).trans rfl; have z_gb_1 := S.out.frozen 1 rfl 1) | ((with_reducible refine gate_store (t := 43) (p := 3) rfl ?_); refine store_event (t := 43) (p := 3) (v := ?vo_6) (w1 := w3.setRow g3 (#[.int .i64 a, .int .i64 b, .int .i64 d])) ?hg ?ho ?hn ?hr ?_; (case ho => rfl); (case hg => rfl); (case hn => rfl); (case hr => exact (Row.store_row_run (g := g3) (cells := #[.int .i64 a, .int .i64 b, .int .i64 d]) (t := 43) (old := #[.int .i64 0, .int .i64 0, .int .i64 0]) rfl (by rfl) (by rfl) (S.out.blk 0 rfl) (by kernel_rfl) rfl (by simp [Value.oneCell']))); intro w4 hw_; have Sn_ := Aside0.mk ((S.out.setRow (cs' := #[.int .i64 a, .int .i64 b, .int .i64 d]) (rs' := [Blk g3 (#[.int .i64 a, .int .i64 b, .int .i64 d]) 43, Blk gb (#[.slice A l.length c, .slice B gs.length e]) 34]) 0 rfl rfl).of hw_); clear S hw_; have S := Sn_; clear Sn_; have f_gb_1 : w4.cell? ⟨gb, 1, none⟩ = some (.slice B gs.length e) := (S.out.cell 1 rfl 1).trans rfl; have z_gb_1 := S.out.frozen 1 rfl 1))
      clear f_gb_1 z_gb_1
      have HV : Aside0 (wokB true gk gs = gs.all gk) := ⟨by unfold wokB; rw [decide_eq_true h6]; rfl⟩
      go_loopg [5] (gs.length + 1) (fun kq v5 w' => ∃ k : Nat, k ≤ gs.length ∧ kq = gs.length + 1 - k ∧ v5 = .int .i64 k ∧ Aside0 (gs.all gk = (gs.drop k).all gk) ∧ Aside0 (St w w' [Blk g3 (#[.int .i64 a, .int .i64 b, .int .i64 d]) 43, Blk gb (#[.slice A l.length c, .slice B gs.length e]) 34]))
      case atStart => exact ⟨0, by omega, by omega, rfl, ⟨rfl⟩, S⟩
      case round =>
        clear S
        obtain ⟨k, hk, rfl, rfl, HS, S⟩ := hrel
        have f_ : wr.cell? ⟨gb, 1, none⟩ = some (.slice B gs.length e) := (S.out.cell 1 rfl 1).trans rfl
        by_cases hlt : k < gs.length
        · obtain ⟨ad, A1, c1, B1, d1, rfl, hg, hc⟩ := elemG HR.out k hlt
          have HC := Aside0.mk hc
          have HG := Aside0.mk hg
          clear hc hg
          have HA := Aside0.mk (all_drop gk gs k hlt)
          obtain ⟨g, hgd⟩ : ∃ g, gs.getD k zG = g := ⟨_, rfl⟩
          rw [hgd] at HC HG HA
          clear hgd
          have HI := Aside0.mk (show (Try.prog.info? 59).map (·.size) = some (gC g A1 c1 B1 d1).size by kernel_rfl)
          have HZC := Aside0.mk (fun w_ => HO.out (by first | rfl | trivial) g A1 c1 B1 d1 w_)
          obtain ⟨cs, hcs⟩ : ∃ cs, gC g A1 c1 B1 d1 = cs := ⟨_, rfl⟩
          rw [hcs] at HC HI HZC
          clear hcs
          obtain ⟨r, hr⟩ : ∃ r, gk g = r := ⟨_, rfl⟩
          rw [hr] at HZC HA
          clear hr
          have hi : (k : Int) < (gs.length : Int) := by omega
          have hi0 : (0 : Int) ≤ (k : Int) := by omega
          go_wp2_with fail
          clear f_
          clear f_gb_1 z_gb_1
          refine start_ (n := 8) (S := fun w_ => St w w_ [Blk g3 (#[.int .i64 a, .int .i64 b, .int .i64 d]) 43, Blk gb (#[.slice A l.length c, .slice (some ad) gs.length e]) 34]) (ds := []) #[false, false, false, false, false, false, false, false] (by kernel_rfl) rfl rfl (S.out.drew) (fun hH_ => ?_)
          refine take_ (i := 0) (N := some 27) (v := .agg (#[.int .i64 a, .int .i64 b, .int .i64 d])) (a' := ?_) #[true, false, false, false, false, false, false, false] rfl rfl (by kernel_rfl) (fun _ _ _ h => h) (Or.inl ⟨by rfl, fun w' s0 => Row.load_row_run (g := g3) (t := 43) (cells := #[.int .i64 a, .int .i64 b, .int .i64 d]) rfl rfl (s0.blk 0 rfl) Try.underlying43 rfl (by kernel_rfl)⟩) hH_ ?_ ?_
          rotate_left
          · simp only [Act.put, List.setIfInBounds_toArray, List.set_cons_zero, List.set_cons_succ, i64_w, i32_w]
            rfl
          refine pure_ (i := 1) (N := some 28) (v := ?_) (a' := ?_) #[true, true, false, false, false, false, false, false] rfl rfl (by kernel_rfl) (fun _ _ _ h => h) (Or.inl ⟨by rfl, ?_⟩) ?_ ?_
          rotate_left
          · intro w'
            go_simp
            with_reducible rfl
          rotate_left
          · simp only [Act.put, List.setIfInBounds_toArray, List.set_cons_zero, List.set_cons_succ, i64_w, i32_w]
            rfl
          refine take_ (i := 2) (N := some 29) (v := ?_) (a' := ?_) #[true, true, true, false, false, false, false, false] rfl rfl (by kernel_rfl) (fun _ _ _ h => h) (Or.inl ⟨by rfl, ?_⟩) hH_ ?_ ?_
          rotate_left
          · intro w' s0
            have f1_ : w'.cell? ⟨gb, 1, none⟩ = some (.slice (some ad) gs.length e) := (s0.cell 1 rfl 1).trans rfl
            clear s0
            go_simp
            with_reducible rfl
          rotate_left
          · simp only [Act.put, List.setIfInBounds_toArray, List.set_cons_zero, List.set_cons_succ, i64_w, i32_w]
            rfl
          refine pure_ (i := 3) (N := some 30) (v := ?_) (a' := ?_) #[true, true, true, true, false, false, false, false] rfl rfl (by kernel_rfl) (fun _ _ _ h => h) (Or.inl ⟨by rfl, ?_⟩) ?_ ?_
          rotate_left
          · intro w'
            go_simp
            with_reducible rfl
          rotate_left
          · simp only [Act.put, List.setIfInBounds_toArray, List.set_cons_zero, List.set_cons_succ, i64_w, i32_w]
            rfl
          refine pure_ (i := 4) (N := some 31) (v := ?_) (a' := ?_) #[true, true, true, true, true, false, false, false] rfl rfl (by kernel_rfl) (fun _ _ _ h => h) (Or.inl ⟨by rfl, ?_⟩) ?_ ?_
          rotate_left
          · intro w'
            go_simp
            with_reducible rfl
          rotate_left
          · simp only [Act.put, List.setIfInBounds_toArray, List.set_cons_zero, List.set_cons_succ, i64_w, i32_w]
            rfl
          refine take_ (i := 5) (N := some 32) (v := .agg cs) (a' := ?_) #[true, true, true, true, true, true, false, false] rfl rfl (by kernel_rfl) (fun _ _ _ h => h) (Or.inl ⟨by rfl, fun w' s0 => load_elem_run (ad := ad.add (k * 26)) (cs := cs) rfl (by first | (go_simp; done) | (go_simp; rfl)) (fun j v hv => (s0.base.cell (World.block_lt_of_cell? w _ (HC.out j v hv))).trans (HC.out j v hv)) Try.underlying59 rfl HI.out⟩) hH_ ?_ ?_
          rotate_left
          · simp only [Act.put, List.setIfInBounds_toArray, List.set_cons_zero, List.set_cons_succ, i64_w, i32_w]
            rfl
          refine one_ (i := 6) (N := some 33) #[true, true, true, true, true, true, true, false] rfl rfl (by kernel_rfl) (by decide) (fun K hK => ?_)
          refine goes_ Try.func34 (by kernel_rfl) rfl #[.agg #[.int .i64 a, .int .i64 b, .int .i64 d], .agg cs] (by rfl) rfl rfl (by (try simp only [List.map_toArray, List.map_cons, List.map_nil]); first | done | rfl) ?_
          refine (HZC.out _ (HG.out.below hH_.base)).mono ?_
          rintro e w5 ⟨rfl, hb⟩
          have hHw5_ := hH_.call hb
          refine ⟨_, rfl, hK.out _ _ hHw5_ (fun hX_ => ?_)⟩
          clear hK K hX_
          refine norm_ (a' := ?_) ?_ ?_
          rotate_left
          · show Act.put _ (some 33) _ = _
            simp only [Act.put, List.setIfInBounds_toArray, List.set_cons_zero, List.set_cons_succ, i64_w, i32_w]
            rfl
          clear hb
          refine pure_ (i := 7) (N := some 34) (v := ?_) (a' := ?_) #[true, true, true, true, true, true, true, true] rfl rfl (by kernel_rfl) (fun _ _ _ h => h) (Or.inl ⟨by rfl, ?_⟩) ?_ ?_
          rotate_left
          · intro w'
            go_simp
            with_reducible rfl
          rotate_left
          · simp only [Act.put, List.setIfInBounds_toArray, List.set_cons_zero, List.set_cons_succ, i64_w, i32_w]
            rfl
          refine done_ (by kernel_rfl) ?_
          have Sn_ := Aside0.mk (hHw5_)
          clear S
          have S := Sn_
          clear Sn_
          clear hH_ hHw5_
          cases r with
          | false =>
            have HF : Aside0 (gs.all gk = false) := ⟨by rw [HS.out, HA.out]; rfl⟩
            go_wp2
            go_ret
            exact ⟨by rw [HV.out, HF.out]; rfl, S.out.base⟩
          | true =>
            have HF : Aside0 (gs.all gk = (gs.drop (k + 1)).all gk) := ⟨by rw [HS.out, HA.out]; rfl⟩
            go_wp2
            go_roundg (gs.length + 1 - (k + 1))
            case measure => omega
            case rel => exact ⟨k + 1, by omega, rfl, by go_num, HF, S⟩
        · have hkl : k = gs.length := by omega
          subst hkl
          have HF : Aside0 (gs.all gk = true) := ⟨by rw [HS.out, List.drop_length]; rfl⟩
          go_wp2
          go_ret
          exact ⟨by rw [HV.out, HF.out]; rfl, S.out.base⟩
end Go.Proofs.Ytfpdccaomhjpjaa.Gu
