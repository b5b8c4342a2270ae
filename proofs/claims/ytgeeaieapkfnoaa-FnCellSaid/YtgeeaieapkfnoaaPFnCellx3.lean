/- FnCell: the law's own walk. -/
import Derived.Test.YtgeeaieapkfnoaaFnCellPl
import Derived.Test.YtgeeaieapkfnoaaSt0
import Derived.Test.YtgeeaieapkfnoaaR16A
set_option linter.unusedVariables false
set_option linter.unusedSimpArgs false
namespace Go.Proofs.Ytgeeaieapkfnoaa.PFnCell
open Go.RowKit Go.Proofs.YtgeeaieapkfnoaaW.PrintWords Go.Proofs.YtgeeaieapkfnoaaW.PrintLast Go.Proofs.YtgeeaieapkfnoaaW.PrintMore Go.Proofs.Ytgeeaieapkfnoaa.Pl Go.Proofs.Ytgeeaieapkfnoaa.Cl Go.Proofs.Ytgeeaieapkfnoaa.St0
attribute [local go_sem] max2_int min2_int max_two min_two max_three min_three max_four min_four

def isB (l : List Int) : Bool := decide (l.length ≤ 9223372036854775807) && l.all fun y => (Lit.int .u8 y).wf
def laws_FnCell.f (k : Nat) (l0 : List Int) : Option Bool := if isB l0 = true then some true else none
set_option maxHeartbeats 8000000 in
set_option maxRecDepth 100000 in
theorem cell_walk (A0 : Option Addr) (c0 : Nat) (l0 : List Int) (w : World) (hr0 : Kd.C (Kd.int .u8) w A0 l0.length l0) (hc0 : l0.length ≤ c0) (hB : ∀ x ∈ l0, (Lit.int .u8 x).wf = true) (hm : l0.length ≤ 9223372036854775807) :
    Calls Try.prog 10 #[.slice A0 l0.length c0] w fun e w' => e = .returned (.bool true) ∧ Below w.heap.size w w' := by
  have HR := Aside0.mk hr0
  have HC := Aside0.mk hc0
  have HBY := Aside0.mk hB
  clear hr0 hc0 hB
  by_cases hbig : (l0.length : Int) > 1048576
  · skip
    have S := Aside0.mk (St.start w)
    go_enter Try.func10, Try.ntmps10
    go_wp2
    go_ret
    exact ⟨rfl, S.out.base⟩
  have hl : l0.length ≤ 1048576 := by omega
  obtain ⟨v, s, e1⟩ := drawpack_ok l0 hl HBY.out 15 (by omega)
  obtain ⟨st, sl, ep, no, e2⟩ := drawdoor_ok l0 hl HBY.out 15 (by omega)
  obtain ⟨a, x, z, e3⟩ := drawentry_ok l0 hl HBY.out 15 (by omega)
  obtain ⟨u, e4, u0, u1⟩ := drawval_ok l0 hl HBY.out 15 (by omega)
  have E1 := Aside0.mk e1
  have E2 := Aside0.mk e2
  have E3 := Aside0.mk e3
  have E4 := Aside0.mk e4
  have U0 := Aside0.mk (And.intro u0 u1)
  obtain ⟨wd, hwd⟩ : ∃ wd, pack v s = wd := ⟨_, rfl⟩
  obtain ⟨d, hd⟩ : ∃ d, pack (cl st 2 + 4 * cl sl 7 + 32 * cl ep 4095) no = d := ⟨_, rfl⟩
  obtain ⟨g, hg⟩ : ∃ g, pack (cl st 2 + 4 * cl ep 4095) no = g := ⟨_, rfl⟩
  obtain ⟨e, he⟩ : ∃ e, pack (cl a 4095 * 1048576 + cl x 1048575) s = e := ⟨_, rfl⟩
  have HW := Aside0.mk hwd
  have HD := Aside0.mk hd
  have HG := Aside0.mk hg
  have HE := Aside0.mk he
  have RW : Aside0 (0 ≤ wd ∧ wd ≤ 18446744073709551615) := ⟨by rw [← hwd]; exact ⟨pack_lo _ _, pack_hi _ _⟩⟩
  have RD : Aside0 (0 ≤ d ∧ d ≤ 18446744073709551615) := ⟨by rw [← hd]; exact ⟨pack_lo _ _, pack_hi _ _⟩⟩
  have RG : Aside0 (0 ≤ g ∧ g ≤ 18446744073709551615) := ⟨by rw [← hg]; exact ⟨pack_lo _ _, pack_hi _ _⟩⟩
  have RE : Aside0 (0 ≤ e ∧ e ≤ 18446744073709551615) := ⟨by rw [← he]; exact ⟨pack_lo _ _, pack_hi _ _⟩⟩
  clear hwd hd hg he e1 e2 e3 e4 u0 u1
  have c1 := cl_lo st 2 (by omega); have c2 := cl_hi st 2 (by omega); have c3 := cl_lo sl 7 (by omega); have c4 := cl_hi sl 7 (by omega); have c5 := cl_lo ep 4095 (by omega); have c6 := cl_hi ep 4095 (by omega)
  have c7 := cl_lo a 4095 (by omega); have c8 := cl_hi a 4095 (by omega); have c9 := cl_lo x 1048575 (by omega); have c10 := cl_hi x 1048575 (by omega)
  have hv : Aside0 (0 ≤ v → v ≤ 4294967295 → wval wd = v) := ⟨fun p q => by rw [← HW.out]; exact pack_val p q⟩
  have hs : Aside0 (0 ≤ s → s ≤ 4294967295 → wstamp wd = s) := ⟨fun p q => by rw [← HW.out]; exact pack_stamp p q⟩
  have hs' : Aside0 (0 ≤ s → s ≤ 4294967295 → wstamp e = s) := ⟨fun p q => by rw [← HE.out]; exact pack_stamp p q⟩
  have ha : Aside0 (0 ≤ a → a ≤ 4095 → wval e / 1048576 = a) := ⟨fun p q => by rw [← HE.out, pack_val (by omega) (by omega), cl_id p q]; omega⟩
  have hx : Aside0 (0 ≤ x → x ≤ 1048575 → wval e % 1048576 = x) := ⟨fun p q => by rw [← HE.out, pack_val (by omega) (by omega), cl_id p q]; omega⟩
  have h1 : Aside0 (0 ≤ st → st ≤ 2 → wval d % 4 = st) := ⟨fun p q => by rw [← HD.out, pack_val (by omega) (by omega), cl_id p q]; omega⟩
  have h2 : Aside0 (0 ≤ st → st ≤ 2 → wval g % 4 = st) := ⟨fun p q => by rw [← HG.out, pack_val (by omega) (by omega), cl_id p q]; omega⟩
  have h3 : Aside0 (0 ≤ sl → sl ≤ 7 → wval d / 4 % 8 = sl) := ⟨fun p q => by rw [← HD.out, pack_val (by omega) (by omega), cl_id (n := sl) p q]; omega⟩
  have h4 : Aside0 (0 ≤ ep → ep ≤ 4095 → wval d / 32 = ep) := ⟨fun p q => by rw [← HD.out, pack_val (by omega) (by omega), cl_id (n := ep) p q]; omega⟩
  have h5 : Aside0 (0 ≤ ep → ep ≤ 4095 → wval g / 4 = ep) := ⟨fun p q => by rw [← HG.out, pack_val (by omega) (by omega), cl_id (n := ep) p q]; omega⟩
  clear c1 c2 c3 c4 c5 c6 c7 c8 c9 c10
  have S := Aside0.mk (St.start w)
  go_enter Try.func10, Try.ntmps10
  go_wp2_with fail
  refine (spec_DrawCellPack.calls 15 A0 c0 l0 v s _ (Kd.C_below HR.out S.out.base) HC.out E1.out).mono ?_
  rintro e w1 ⟨rfl, hb⟩
  have Sn_ := Aside0.mk (S.out.call hb)
  clear S hb
  have S := Sn_
  clear Sn_
  go_wp2_with fail
  refine (spec_DrawCellDoor.calls 15 A0 c0 l0 st sl ep no _ (Kd.C_below HR.out S.out.base) HC.out E2.out).mono ?_
  rintro e w2 ⟨rfl, hb⟩
  have Sn_ := Aside0.mk (S.out.call hb)
  clear S hb
  have S := Sn_
  clear Sn_
  go_wp2_with fail
  refine (spec_DrawCellEntry.calls 15 A0 c0 l0 a x z _ (Kd.C_below HR.out S.out.base) HC.out E3.out).mono ?_
  rintro e w3 ⟨rfl, hb⟩
  have Sn_ := Aside0.mk (S.out.call hb)
  clear S hb
  have S := Sn_
  clear Sn_
  go_wp2_with fail
  refine (impl_CellPack.calls v s wd _ (by rw [ipack_eq, HW.out])).mono ?_
  rintro e w4 ⟨rfl, hb⟩
  have Sn_ := Aside0.mk (S.out.call hb)
  clear S hb
  have S := Sn_
  clear Sn_
  go_wp2_with fail
  refine (impl_CellDoor.calls st sl ep no d _ (by rw [idoor_eq, HD.out])).mono ?_
  rintro e w5 ⟨rfl, hb⟩
  have Sn_ := Aside0.mk (S.out.call hb)
  clear S hb
  have S := Sn_
  clear Sn_
  go_wp2_with fail
  refine (impl_CellReg.calls st ep no g _ (by rw [ireg_eq, HG.out])).mono ?_
  rintro e w6 ⟨rfl, hb⟩
  have Sn_ := Aside0.mk (S.out.call hb)
  clear S hb
  have S := Sn_
  clear Sn_
  go_wp2_with fail
  refine (impl_CellEntry.calls a x s e _ (by rw [ientry_eq, HE.out])).mono ?_
  rintro e w7 ⟨rfl, hb⟩
  have Sn_ := Aside0.mk (S.out.call hb)
  clear S hb
  have S := Sn_
  clear Sn_
  go_wp2_with fail
  refine (spec_CellPack.calls v s wd _ (by rw [spack_eq, HW.out])).mono ?_
  rintro e w8 ⟨rfl, hd_⟩
  have hb := hd_.below
  clear hd_
  have Sn_ := Aside0.mk (S.out.call hb)
  clear S hb
  have S := Sn_
  clear Sn_
  have n1 : (wd != wd) = false := bne_self_eq_false _
  have n2 : (d != d) = false := bne_self_eq_false _
  have n3 : (e != e) = false := bne_self_eq_false _
  go_wp2_with fail
  refine (spec_CellDoor.calls st sl ep no d _ (by rw [sdoor_eq, HD.out])).mono ?_
  rintro e w9 ⟨rfl, hd_⟩
  have hb := hd_.below
  clear hd_
  have Sn_ := Aside0.mk (S.out.call hb)
  clear S hb
  have S := Sn_
  clear Sn_
  go_wp2_with fail
  refine (spec_CellEntry.calls a x s e _ (by rw [sentry_eq, HE.out])).mono ?_
  rintro e w10 ⟨rfl, hd_⟩
  have hb := hd_.below
  clear hd_
  have Sn_ := Aside0.mk (S.out.call hb)
  clear S hb
  have S := Sn_
  clear Sn_
  go_upto_region 12 with fail
  go_cut [116] (fun s_ wx => s_ = .bool false ∧ Aside0 (St w wx []))
  case first =>
    as_aux_lemma =>
      by_cases pa : 0 ≤ v
      · by_cases qa : v ≤ 4294967295
        ·
          have b0 := hv.out pa qa
          have B0 := Aside0.mk b0
          clear b0
          have m0 : (v != v) = false := bne_self_eq_false _
          go_wp2_with fail
          refine (impl_CellVal.calls wd v _ (by rw [ival_eq RW.out.1 RW.out.2, B0.out])).mono ?_
          rintro e w11 ⟨rfl, hd_⟩
          have hb := hd_.below
          clear hd_
          have Sn_ := Aside0.mk (S.out.call hb)
          clear S hb
          have S := Sn_
          clear Sn_
          by_cases pb : 0 ≤ s
          · by_cases qb : s ≤ 4294967295
            ·
              have b1 := hs.out pb qb
              have b2 := hs'.out pb qb
              have B1 := Aside0.mk b1
              have B2 := Aside0.mk b2
              clear b1 b2
              have m1 : (s != s) = false := bne_self_eq_false _
              go_wp2_with fail
              refine (impl_CellStamp.calls wd s _ (by rw [istamp_eq RW.out.1 RW.out.2, B1.out])).mono ?_
              rintro e w12 ⟨rfl, hd_⟩
              have hb := hd_.below
              clear hd_
              have Sn_ := Aside0.mk (S.out.call hb)
              clear S hb
              have S := Sn_
              clear Sn_
              go_wp2_with fail
              refine (impl_CellStamp.calls e s _ (by rw [istamp_eq RE.out.1 RE.out.2, B2.out])).mono ?_
              rintro e w13 ⟨rfl, hd_⟩
              have hb := hd_.below
              clear hd_
              have Sn_ := Aside0.mk (S.out.call hb)
              clear S hb
              have S := Sn_
              clear Sn_
              go_wp2_with fail
              go_meet
              exact ⟨rfl, S⟩
            ·
              go_wp2_with fail
              go_meet
              exact ⟨rfl, S⟩
          ·
            go_wp2_with fail
            go_meet
            exact ⟨rfl, S⟩
        ·
          by_cases pb : 0 ≤ s
          · by_cases qb : s ≤ 4294967295
            ·
              have b1 := hs.out pb qb
              have b2 := hs'.out pb qb
              have B1 := Aside0.mk b1
              have B2 := Aside0.mk b2
              clear b1 b2
              have m1 : (s != s) = false := bne_self_eq_false _
              go_wp2_with fail
              refine (impl_CellStamp.calls wd s _ (by rw [istamp_eq RW.out.1 RW.out.2, B1.out])).mono ?_
              rintro e w14 ⟨rfl, hd_⟩
              have hb := hd_.below
              clear hd_
              have Sn_ := Aside0.mk (S.out.call hb)
              clear S hb
              have S := Sn_
              clear Sn_
              go_wp2_with fail
              refine (impl_CellStamp.calls e s _ (by rw [istamp_eq RE.out.1 RE.out.2, B2.out])).mono ?_
              rintro e w15 ⟨rfl, hd_⟩
              have hb := hd_.below
              clear hd_
              have Sn_ := Aside0.mk (S.out.call hb)
              clear S hb
              have S := Sn_
              clear Sn_
              go_wp2_with fail
              go_meet
              exact ⟨rfl, S⟩
            ·
              go_wp2_with fail
              go_meet
              exact ⟨rfl, S⟩
          ·
            go_wp2_with fail
            go_meet
            exact ⟨rfl, S⟩
      ·
        by_cases pb : 0 ≤ s
        · by_cases qb : s ≤ 4294967295
          ·
            have b1 := hs.out pb qb
            have b2 := hs'.out pb qb
            have B1 := Aside0.mk b1
            have B2 := Aside0.mk b2
            clear b1 b2
            have m1 : (s != s) = false := bne_self_eq_false _
            go_wp2_with fail
            refine (impl_CellStamp.calls wd s _ (by rw [istamp_eq RW.out.1 RW.out.2, B1.out])).mono ?_
            rintro e w16 ⟨rfl, hd_⟩
            have hb := hd_.below
            clear hd_
            have Sn_ := Aside0.mk (S.out.call hb)
            clear S hb
            have S := Sn_
            clear Sn_
            go_wp2_with fail
            refine (impl_CellStamp.calls e s _ (by rw [istamp_eq RE.out.1 RE.out.2, B2.out])).mono ?_
            rintro e w17 ⟨rfl, hd_⟩
            have hb := hd_.below
            clear hd_
            have Sn_ := Aside0.mk (S.out.call hb)
            clear S hb
            have S := Sn_
            clear Sn_
            go_wp2_with fail
            go_meet
            exact ⟨rfl, S⟩
          ·
            go_wp2_with fail
            go_meet
            exact ⟨rfl, S⟩
        ·
          go_wp2_with fail
          go_meet
          exact ⟨rfl, S⟩
  case rest =>
    obtain ⟨rfl, S_⟩ := hcut
    clear S
    have S := S_
    clear S_
    go_wp2_with fail
    refine (impl_CellDoorOf.calls d _ _ _ _ (idoorof_eq RD.out.1 RD.out.2)).mono ?_
    rintro e w19 ⟨rfl, hd_⟩
    have hb := hd_.below
    clear hd_
    have Sn_ := Aside0.mk (S.out.call hb)
    clear S hb
    have S := Sn_
    clear Sn_
    go_wp2_with fail
    refine (impl_CellRegOf.calls g _ _ _ (iregof_eq RG.out.1 RG.out.2)).mono ?_
    rintro e w20 ⟨rfl, hd_⟩
    have hb := hd_.below
    clear hd_
    have Sn_ := Aside0.mk (S.out.call hb)
    clear S hb
    have S := Sn_
    clear Sn_
    go_upto_region 16 with fail
    obtain ⟨o1, ho1⟩ : ∃ o1, wval d % 4 = o1 := ⟨_, rfl⟩
    obtain ⟨o2, ho2⟩ : ∃ o2, wval d / 4 % 8 = o2 := ⟨_, rfl⟩
    obtain ⟨o3, ho3⟩ : ∃ o3, wval d / 32 = o3 := ⟨_, rfl⟩
    obtain ⟨o4, ho4⟩ : ∃ o4, wval g % 4 = o4 := ⟨_, rfl⟩
    obtain ⟨o5, ho5⟩ : ∃ o5, wval g / 4 = o5 := ⟨_, rfl⟩
    rw [ho1] at h1 ⊢
    rw [ho2] at h3 ⊢
    rw [ho3] at h4 ⊢
    rw [ho4] at h2 ⊢
    rw [ho5] at h5 ⊢
    clear ho1 ho2 ho3 ho4 ho5
    go_cut [174] (fun s_ wx => s_ = .bool false ∧ Aside0 (St w wx []))
    case first =>
      as_aux_lemma =>
        refine r16 _ _ _ _ _ _ _ _ _ _ _ _ _ _ _ _ _ _ _ _ _ _ _ _ _ _ _ _ _ _ _ _ _ _ _ _ _ _ _ _ _ _ _ _ _ _ _ _ _ _ _ _ _ _ _ _ _ _ _ _ _ _ _ _ _ _ _ _ _ _ _ _ _ _ _ _ _ _ _ _ _ _ _ _ _ _ _ _ _ _ _ _ _ _ _ _ _ _ _ _ _ _ _ _ _ _ _ _ _ _ _ _ _ _ _ _ _ _ _ _ _ _ _ _ _ _ _ _ _ _ _ _ _ _ _ _ _ _ _ _ _ _ _ _ _ _ _ _ _ _ _ _ _ _ _ _ _ _ _ _ _ _ _ _ _ _ _ _ _ _ _ _ _ _ _ _ _ _ _ _ _ _ _ _ _ _ _ _ _ _ _ _ _ _ _ _ _ _ _ _ _ _ _ _ _ _ _ _ _ _ _ _ _ _ _ _ _ _ _ st sl ep o1 o2 o3 o4 o5 _ _ h1.out h2.out h3.out h4.out h5.out (fun _ _ _ _ _ _ _ _ _ _ _ _ _ _ _ _ _ _ _ _ _ _ _ _ _ _ _ _ _ _ _ _ _ _ _ _ _ _ _ _ _ _ _ _ _ _ => ?_)
        go_wp2_with fail
        go_meet
        exact ⟨rfl, S⟩
    case rest =>
      obtain ⟨rfl, S_⟩ := hcut
      clear S
      have S := S_
      clear S_
      go_wp2_with fail
      refine (impl_CellEntryOf.calls e _ _ _ (ientryof_eq RE.out.1 RE.out.2)).mono ?_
      rintro e w22 ⟨rfl, hd_⟩
      have hb := hd_.below
      clear hd_
      have Sn_ := Aside0.mk (S.out.call hb)
      clear S hb
      have S := Sn_
      clear Sn_
      go_upto_region 19 with fail
      obtain ⟨o1, ho1⟩ : ∃ o1, wval e / 1048576 = o1 := ⟨_, rfl⟩
      obtain ⟨o2, ho2⟩ : ∃ o2, wval e % 1048576 = o2 := ⟨_, rfl⟩
      rw [ho1] at ha ⊢
      rw [ho2] at hx ⊢
      clear ho1 ho2
      go_cut [203] (fun s_ wx => s_ = .bool false ∧ Aside0 (St w wx []))
      case first =>
        as_aux_lemma =>
          by_cases pa : 0 ≤ a
          · by_cases qa : a ≤ 4095
            ·
              have b1 : (o1 != a) = false := by rw [ha.out pa qa]; exact bne_self_eq_false _
              by_cases pb : 0 ≤ x
              · by_cases qb : x ≤ 1048575
                ·
                  have b3 : (o2 != x) = false := by rw [hx.out pb qb]; exact bne_self_eq_false _
                  go_wp2_with fail
                  go_meet
                  exact ⟨rfl, S⟩
                ·
                  go_wp2_with fail
                  go_meet
                  exact ⟨rfl, S⟩
              ·
                go_wp2_with fail
                go_meet
                exact ⟨rfl, S⟩
            ·
              by_cases pb : 0 ≤ x
              · by_cases qb : x ≤ 1048575
                ·
                  have b3 : (o2 != x) = false := by rw [hx.out pb qb]; exact bne_self_eq_false _
                  go_wp2_with fail
                  go_meet
                  exact ⟨rfl, S⟩
                ·
                  go_wp2_with fail
                  go_meet
                  exact ⟨rfl, S⟩
              ·
                go_wp2_with fail
                go_meet
                exact ⟨rfl, S⟩
          ·
            by_cases pb : 0 ≤ x
            · by_cases qb : x ≤ 1048575
              ·
                have b3 : (o2 != x) = false := by rw [hx.out pb qb]; exact bne_self_eq_false _
                go_wp2_with fail
                go_meet
                exact ⟨rfl, S⟩
              ·
                go_wp2_with fail
                go_meet
                exact ⟨rfl, S⟩
            ·
              go_wp2_with fail
              go_meet
              exact ⟨rfl, S⟩
      case rest =>
        obtain ⟨rfl, S_⟩ := hcut
        clear S
        have S := S_
        clear S_
        go_wp2_with fail
        refine (spec_DrawCellVal.calls 15 A0 c0 l0 u _ (Kd.C_below HR.out S.out.base) HC.out E4.out).mono ?_
        rintro e w24 ⟨rfl, hb⟩
        have Sn_ := Aside0.mk (S.out.call hb)
        clear S hb
        have S := Sn_
        clear Sn_
        go_wp2_with fail
        refine (impl_CellEntryOf.calls u _ _ _ (ientryof_eq U0.out.1 U0.out.2)).mono ?_
        rintro e w25 ⟨rfl, hd_⟩
        have hb := hd_.below
        clear hd_
        have Sn_ := Aside0.mk (S.out.call hb)
        clear S hb
        have S := Sn_
        clear Sn_
        have y0 := wval_lo u
        have y1 := wval_hi u
        have HY : Aside0 (pack (cl (wval u / 1048576) 4095 * 1048576 + cl (wval u % 1048576) 1048575) (wstamp u) = u) := ⟨by rw [cl_id (n := wval u / 1048576) (by omega) (by omega), cl_id (n := wval u % 1048576) (by omega) (by omega), show wval u / 1048576 * 1048576 + wval u % 1048576 = wval u from by omega, pack_own U0.out.1 U0.out.2]⟩
        clear y0 y1
        have HZ : Aside0 (pack (wval u) (wstamp u) = u) := ⟨pack_own U0.out.1 U0.out.2⟩
        obtain ⟨o1, ho1⟩ : ∃ o1, wval u / 1048576 = o1 := ⟨_, rfl⟩
        obtain ⟨o2, ho2⟩ : ∃ o2, wval u % 1048576 = o2 := ⟨_, rfl⟩
        rw [ho1, ho2] at HY ⊢
        clear ho1 ho2
        obtain ⟨o3, ho3⟩ : ∃ o3, wval u = o3 := ⟨_, rfl⟩
        obtain ⟨o4, ho4⟩ : ∃ o4, wstamp u = o4 := ⟨_, rfl⟩
        rw [ho3] at HZ
        rw [ho4] at HY HZ
        have H3 := Aside0.mk ho3
        have H4 := Aside0.mk ho4
        clear ho3 ho4
        have b8 : (u == u) = true := beq_self_eq_true u
        go_wp2_with fail
        refine (impl_CellVal.calls u o3 _ (by rw [ival_eq U0.out.1 U0.out.2, H3.out])).mono ?_
        rintro e w26 ⟨rfl, hd_⟩
        have hb := hd_.below
        clear hd_
        have Sn_ := Aside0.mk (S.out.call hb)
        clear S hb
        have S := Sn_
        clear Sn_
        go_wp2_with fail
        refine (impl_CellStamp.calls u o4 _ (by rw [istamp_eq U0.out.1 U0.out.2, H4.out])).mono ?_
        rintro e w27 ⟨rfl, hd_⟩
        have hb := hd_.below
        clear hd_
        have Sn_ := Aside0.mk (S.out.call hb)
        clear S hb
        have S := Sn_
        clear Sn_
        go_wp2_with fail
        refine (impl_CellPack.calls o3 o4 u _ (by rw [ipack_eq, HZ.out])).mono ?_
        rintro e w28 ⟨rfl, hb⟩
        have Sn_ := Aside0.mk (S.out.call hb)
        clear S hb
        have S := Sn_
        clear Sn_
        go_wp2_with fail
        refine (impl_CellStamp.calls u o4 _ (by rw [istamp_eq U0.out.1 U0.out.2, H4.out])).mono ?_
        rintro e w29 ⟨rfl, hd_⟩
        have hb := hd_.below
        clear hd_
        have Sn_ := Aside0.mk (S.out.call hb)
        clear S hb
        have S := Sn_
        clear Sn_
        go_wp2_with fail
        refine (impl_CellEntry.calls o1 o2 o4 u _ (by rw [ientry_eq, HY.out])).mono ?_
        rintro e w30 ⟨rfl, hb⟩
        have Sn_ := Aside0.mk (S.out.call hb)
        clear S hb
        have S := Sn_
        clear Sn_
        go_wp2
        go_ret
        exact ⟨rfl, S.out.base⟩
theorem laws_FnCell.calls (k : Nat) (A0 : Option Addr) (c0 : Nat) (l0 : List Int) (r : Bool) (w : World) (hr0 : Kd.C (Kd.int .u8) w A0 l0.length l0) (hc0 : l0.length ≤ c0) (h : laws_FnCell.f k l0 = some r) :
    Calls Try.prog 10 #[.slice A0 l0.length c0] w fun e w' => e = .returned (.bool r) ∧ Below w.heap.size w w' := by
  unfold laws_FnCell.f at h
  by_cases q : isB l0 = true
  · rw [if_pos q] at h
    obtain rfl := Option.some.inj h
    unfold isB at q
    rw [Bool.and_eq_true] at q
    exact cell_walk A0 c0 l0 w hr0 hc0 (fun x hx => List.all_eq_true.mp q.2 x hx) (of_decide_eq_true q.1)
  · rw [if_neg q] at h
    cases h
end Go.Proofs.Ytgeeaieapkfnoaa.PFnCell
