/- Rows of guests laid anew, and compared. -/
import Derived.Test.YtfpdccaomhjpjaaGw
set_option linter.unusedVariables false
set_option linter.unusedSimpArgs false
namespace Go.Proofs.Ytfpdccaomhjpjaa.Gu
open Go.RowKit Go.Proofs.YtfpdccaomhjpjaaW.PrintWords Go.Proofs.YtfpdccaomhjpjaaW.PrintLast Go.Proofs.YtfpdccaomhjpjaaW.PrintMore Go.Proofs.Ytfpdccaomhjpjaa.St0

theorem infoG : (Try.prog.info? 59).map (fun i => (i.zero, i.size, i.bytes)) = some (some (.agg (gC zG none 0 none 0)), kG.sz, 240) := by kernel_rfl
theorem zG_M (w : World) (base : Nat) (ok : Nat → Prop) : kG.M w base ok zG (Value.agg (gC zG none 0 none 0)).cells.toList := ⟨none, 0, none, 0, rfl, Kd.R_nil _ _ _ _ _, Kd.R_nil _ _ _ _ _⟩
theorem GO.m {lo hi base : Nat} {ok : Nat → Prop} {g : Gu} {A : Option Addr} {cA : Nat} {B : Option Addr} {cB : Nat} {w : World} (h : GO lo hi g A cA B cB w) (h0 : base ≤ lo) (hok : ∀ k, lo ≤ k ∧ k < hi → ok k) : kG.M w base ok g (gC g A cA B cB).toList :=
  ⟨A, cA, B, cB, rfl, Kd.R_lower (Kd.R_mono h.1 hok) h0, Kd.R_lower (Kd.R_mono h.2.1 hok) h0⟩
/-- A row of guests of one's own. -/
def GsO (lo hi : Nat) (A : Option Addr) (c : Nat) (gs : List Gu) (w : World) : Prop := Rw kG 59 lo hi (.slice A gs.length c) gs w
theorem GsO.stable (lo hi : Nat) (A : Option Addr) (c : Nat) (gs : List Gu) : Res.Stable ⟨lo, hi, GsO lo hi A c gs⟩ := Rw.stable _ _ _ _ _ _
theorem GsO.c {lo hi : Nat} {A : Option Addr} {c : Nat} {gs : List Gu} {w : World} (h : GsO lo hi A c gs w) : GsC w A c gs := ⟨(Rw.c h).1, (Rw.c h).2.2⟩
theorem GsO.wide {w : World} {lo hi lo' hi' : Nat} {A : Option Addr} {c : Nat} {gs : List Gu} (h : GsO lo hi A c gs w) (h0 : lo' ≤ lo) (h1 : hi ≤ hi') : GsO lo' hi' A c gs w := Kd.R_lower (Kd.R_mono h (fun k hk => ⟨by omega, by omega⟩)) h0
/-- A world's rows are one's own. -/
def WO (lo hi : Nat) (A : Option Addr) (c : Nat) (l : List Int) (B : Option Addr) (d : Nat) (gs : List Gu) (w : World) : Prop := UO lo hi A c l w ∧ GsO lo hi B d gs w
theorem WO.stable (lo hi : Nat) (A : Option Addr) (c : Nat) (l : List Int) (B : Option Addr) (d : Nat) (gs : List Gu) : Res.Stable ⟨lo, hi, WO lo hi A c l B d gs⟩ := fun w w' h hs hk => ⟨UO.stable lo hi A c l w w' h.1 hs hk, GsO.stable lo hi B d gs w w' h.2 hs hk⟩
theorem addr0 (g n : Nat) : (⟨g, 0, none⟩ : Addr).add n = ⟨g, n, none⟩ := by
  unfold Addr.add
  split
  · rename_i h; rw [h]
  · simp
theorem getDG_set_self (x : List Gu) (k : Nat) (v : Gu) (h : k < x.length) : (x.set k v).getD k zG = v := by simp [h]
theorem getDG_set_ne (x : List Gu) (k j : Nat) (v : Gu) (h : j ≠ k) : (x.set k v).getD j zG = x.getD j zG := by simp [List.getD, List.getElem?_set, Ne.symm h]
theorem eq_of_getDG {x l : List Gu} (hn : x.length = l.length) (h : ∀ j, j < l.length → x.getD j zG = l.getD j zG) : x = l := by
  apply List.ext_getElem hn
  intro i h1 h2
  have := h i h2
  simpa [List.getD, h1, h2] using this
set_option maxHeartbeats 4000000 in
set_option maxRecDepth 100000 in
theorem toGs_calls (A : Option Addr) (c : Nat) (gs : List Gu) (w : World) (h : GsC w A c gs) (hl : gs.length ≤ 1048576) (hls : ∀ g ∈ gs, g.snap.length ≤ 1048576 ∧ g.plan.length ≤ 1048576) :
    Calls Try.prog 35 #[.slice A gs.length c] w fun e w' => ∃ A' c', e = .returned (.slice A' gs.length c') ∧ GsO w.heap.size w'.heap.size A' c' gs w' ∧ Below w.heap.size w w' := by
  have HR := Aside0.mk h
  have HLn := Aside0.mk hl
  have HL := Aside0.mk hls
  clear h hls
  have HB := Aside0.mk (Below.refl w.heap.size w)
  obtain ⟨zc, hzc⟩ : ∃ zc, gC zG none 0 none 0 = zc := ⟨_, rfl⟩
  have HI := Aside0.mk infoG
  have HZM := Aside0.mk (zG_M w w.heap.size (fun _ => True))
  have HZS : Aside0 ((Value.agg (gC zG none 0 none 0)).cells.size = kG.sz) := ⟨rfl⟩
  rw [hzc] at HI HZM HZS
  clear hzc
  go_enter Try.func35, Try.ntmps35
  go_wp2_with (first | ((with_reducible refine gate_dst (N := 7) rfl ?_); refine Kd.R_make kG _ 59 rfl (N := 7) rfl 32 _ _ rfl (gs.length : Int) rfl rfl Try.underlying32 (.agg zc) 240 HI.out HZS.out (show 0 < 26 by omega) (by omega) zG (ok := fun _ => True) (okp := fun _ => True) HZM.out (fun _ hk => hk) trivial (by omega) (by simp only [Int.toNat_natCast]; have := HLn.out; omega) (Below.refl _ _) (Nat.le_refl _) ?_; intro v1 w1 ho hb hg_ hnew_; clear hg_ hnew_; have HO := Aside0.mk ho; have HB := Aside0.mk hb; clear ho hb))
  go_loopg [4] (gs.length + 1) (fun kq v4 w' => ∃ (k : Nat) (x : List Gu), k ≤ gs.length ∧ kq = gs.length + 1 - k ∧ v4 = .int .i64 k ∧ x.length = gs.length ∧ Aside0 (∀ j, j < k → x.getD j zG = gs.getD j zG) ∧ Aside0 (Kd.R kG 59 w' w.heap.size (fun _ => True) v1 x) ∧ Aside0 (Below w.heap.size w w'))
  case atStart => exact ⟨0, _, by omega, by omega, rfl, by simp, ⟨fun j hj => by omega⟩, HO, HB⟩
  case round =>
    clear HO HB HZM HI HZS
    obtain ⟨k, x, hk, rfl, rfl, hx, HX, HO, HB⟩ := hrel
    have hN := Aside0.mk hx
    by_cases hlt : k < gs.length
    · obtain ⟨ad, A1, c1, B1, d1, rfl, hg, hc⟩ := elemG (HR.out.below HB.out) k hlt
      have HG := Aside0.mk hg
      have HC := Aside0.mk hc
      have HM := Aside0.mk (HL.out _ (mem_getD hlt))
      clear hg hc
      obtain ⟨g, hgd⟩ : ∃ g, gs.getD k zG = g := ⟨_, rfl⟩
      rw [hgd] at HG HC HM
      have HGD := Aside0.mk hgd
      clear hgd
      have HI := Aside0.mk (show (Try.prog.info? 82).map (·.size) = some (gC g A1 c1 B1 d1).size by kernel_rfl)
      have HZC := Aside0.mk (fun w_ h_ => toG_calls g A1 c1 B1 d1 w_ h_ HM.out)
      obtain ⟨cs, hcs⟩ : ∃ cs, gC g A1 c1 B1 d1 = cs := ⟨_, rfl⟩
      rw [hcs] at HC HI HZC
      clear hcs
      have hi : (k : Int) < (gs.length : Int) := by omega
      have hi0 : (0 : Int) ≤ (k : Int) := by omega
      obtain ⟨go, co, eo, gbl, gl, cl, HF⟩ := Kd.R_form HO.out (by omega)
      subst eo
      have GB := Aside0.mk gbl
      clear gbl gl cl HF
      have p9 : (0 : Int) ≤ (k : Int) := by omega
      have q9 : (k : Int) < (x.length : Int) := by omega
      clear hx
      go_wp2_with (first | ((with_reducible refine gate_dst (N := 19) rfl ?_); refine Kd.event_run rfl (load_elem_run (ad := ad.add (k * 26)) (cs := cs) rfl (by first | (go_simp; done) | (go_simp; rfl)) HC.out Try.underlying82 rfl HI.out) ?_))
      refine (HZC.out _ HG.out).mono ?_
      rintro e w1 ⟨A2, c2, B2, d2, rfl, ho, hb⟩
      have hgo := Kd.R_lt HO.out go (by simp [Value.ownBlock])
      have HO1 := Aside0.mk (Kd.R_below HO.out hb)
      have HB1 := Aside0.mk (below_step HB.out hb)
      have HMM := Aside0.mk (GO.m (base := w.heap.size) (ok := fun k_ => k_ ≠ go) ho HB.out.size (fun k_ hk_ => by omega))
      clear ho hb HO HB hgo HZC
      have HI2 := Aside0.mk (show (Try.prog.info? 59).map (·.size) = some (gC g A2 c2 B2 d2).toList.length by kernel_rfl)
      have HON := Aside0.mk (show ∀ q ∈ (gC g A2 c2 B2 d2).toList, q.oneCell' = true by simp [gC, Value.oneCell'])
      have HJL := Aside0.mk (show (gC g A2 c2 B2 d2).toList.length = 26 by rfl)
      obtain ⟨cs2, hcs2⟩ : ∃ cs2, gC g A2 c2 B2 d2 = cs2 := ⟨_, rfl⟩
      rw [hcs2] at HMM HI2 HON HJL ⊢
      clear hcs2
      obtain ⟨ad0, c0, e0, hcl, _, hcc⟩ := Kd.C_get (Kd.R_reads' HO1.out).2.2 zG (k : Int) p9 q9
      injection e0 with e0
      subst e0
      have HCL := Aside0.mk hcl
      have HCC : Aside0 (∀ j u, c0[j]? = some u → w1.cell? ⟨go, (k : Int).toNat * kG.sz + j, none⟩ = some u) := ⟨fun j u hu => by rw [← addr0]; exact hcc j u hu⟩
      have HM2 : Aside0 (kG.M w1 w.heap.size (fun k_ => k_ ≠ go) g (c0.take 0 ++ cs2.toList ++ c0.drop (0 + cs2.toList.length))) := ⟨by
        rw [HJL.out, show c0.drop (0 + 26) = [] from List.drop_eq_nil_of_le (by rw [HCL.out]; exact Nat.le_refl _), List.take_zero, List.nil_append, List.append_nil]; exact HMM.out⟩
      have HOF : Aside0 (k * 26 = (k : Int).toNat * kG.sz + 0) := ⟨by show k * 26 = (k : Int).toNat * 26 + 0; omega⟩
      have HJ : Aside0 (0 + cs2.toList.length ≤ kG.sz) := ⟨by rw [HJL.out]; exact Nat.le_refl _⟩
      clear hcl hcc HMM
      go_wp2_with (first | ((with_reducible refine gate_store (t := 59) (p := 21) rfl ?_); refine Kd.R_store kG w.heap.size rfl rfl 59 (.tmp 21) (.tmp 20) rfl 59 (o' := k * 26) (k : Int) 0 x g (.agg cs2) cs2.toList c0 (fun _ => True) (fun k_ => k_ ≠ go) (by first | rfl | (go_simp; done) | (go_simp; rfl)) HOF.out (by first | rfl | (go_simp; done)) rfl HI2.out HON.out HO1.out p9 q9 HCL.out HCC.out HJ.out HM2.out (fun k_ h_ => ⟨trivial, h_⟩) HB1.out ?_; intro w2 ho2 hb2 hg2_; clear hg2_; have HO2 := Aside0.mk ho2; have HB2 := Aside0.mk hb2; clear ho2 hb2 HO1 HB1 HM2 HCC))
      go_roundg (gs.length + 1 - (k + 1))
      case measure => omega
      case rel =>
        refine ⟨k + 1, x.set k g, by omega, rfl, by go_num, by rw [List.length_set]; exact hN.out, ⟨fun j hj => ?_⟩, HO2, HB2⟩
        by_cases e : j = k
        · rw [e, getDG_set_self _ _ _ (by have := hN.out; omega)]; exact HGD.out.symm
        · rw [getDG_set_ne _ _ _ _ e]; exact HX.out j (by omega)
    · have hkl : k = gs.length := by omega
      subst hkl
      have hxl := eq_of_getDG hN.out (fun j hj => HX.out j hj)
      have HZ := Aside0.mk hxl
      clear hxl hx
      go_wp2
      go_ret
      obtain ⟨A', c', hv⟩ := Kd.R_slice HO.out
      rw [HZ.out] at hv
      have hr := HO.out
      rw [hv, HZ.out] at hr
      exact ⟨A', c', by rw [← hv]; rfl, Rw.of hr, HB.out⟩
end Go.Proofs.Ytfpdccaomhjpjaa.Gu
