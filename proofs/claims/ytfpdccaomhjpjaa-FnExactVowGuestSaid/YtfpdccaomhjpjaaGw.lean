/- Rows of guests: what the law's small functions do with them. -/
import Derived.Test.YtfpdccaomhjpjaaGur5
import Derived.Laws.Cells
import Derived.DataElems
set_option linter.unusedVariables false
set_option linter.unusedSimpArgs false
namespace Go.Proofs.Ytfpdccaomhjpjaa.Gu
open Go.RowKit Go.Proofs.YtfpdccaomhjpjaaW.PrintWords Go.Proofs.YtfpdccaomhjpjaaW.PrintLast Go.Proofs.YtfpdccaomhjpjaaW.PrintMore Go.Proofs.Ytfpdccaomhjpjaa.St0

/-- A guest among others in a row. -/
def kG : Kd Gu where
  sz := 26
  E := [46]
  K := fun w g cs => ∃ A cA B cB, cs = (gC g A cA B cB).toList ∧ GC w g A cA B cB
  M := fun w base ok g cs => ∃ A cA B cB, cs = (gC g A cA B cB).toList ∧ (Kd.int .u64).R 46 w base ok (.slice A g.snap.length cA) g.snap ∧ (Kd.int .u64).R 46 w base ok (.slice B g.plan.length cB) g.plan
  K_len := by rintro w g cs ⟨A, cA, B, cB, rfl, _⟩; rfl
  K_one := by rintro w g cs ⟨A, cA, B, cB, rfl, _⟩; simp [gC, Value.oneCell']
  K_below := by rintro w w1 g cs hb ⟨A, cA, B, cB, rfl, h⟩; exact ⟨A, cA, B, cB, rfl, h.below hb⟩
  K_of_M := by rintro w base ok g cs ⟨A, cA, B, cB, rfl, h1, h2⟩; exact ⟨A, cA, B, cB, rfl, ⟨(Kd.R_reads' h1).2.2, (Kd.R_reads' h1).2.1⟩, ⟨(Kd.R_reads' h2).2.2, (Kd.R_reads' h2).2.1⟩⟩
  M_mono := by rintro w base ok ok' g cs hok ⟨A, cA, B, cB, rfl, h1, h2⟩; exact ⟨A, cA, B, cB, rfl, Kd.R_mono h1 hok, Kd.R_mono h2 hok⟩
  M_bound := by rintro w base ok g cs ⟨A, cA, B, cB, rfl, h1, h2⟩; exact ⟨A, cA, B, cB, rfl, Kd.R_bound h1, Kd.R_bound h2⟩
  M_move := by rintro w w1 base ok g cs hm ⟨A, cA, B, cB, rfl, h1, h2⟩; exact ⟨A, cA, B, cB, rfl, Kd.R_move h1 hm, Kd.R_move h2 hm⟩
  M_lower := by rintro w base base' ok g cs hb ⟨A, cA, B, cB, rfl, h1, h2⟩; exact ⟨A, cA, B, cB, rfl, Kd.R_lower h1 hb, Kd.R_lower h2 hb⟩
def zG : Gu := ⟨false, 0, 0, false, 0, 0, 0, 0, 0, 0, 0, 0, 0, 0, 0, false, 0, 0, 0, 0, 0, [], [], 0, 0, 0⟩
/-- A row of guests that can be read. -/
def GsC (w : World) (A : Option Addr) (c : Nat) (gs : List Gu) : Prop := Kd.C kG w A gs.length gs ∧ gs.length ≤ c
theorem GsC.below {w w1 : World} {A : Option Addr} {c : Nat} {gs : List Gu} (h : GsC w A c gs) (hb : Below w.heap.size w w1) : GsC w1 A c gs := ⟨Kd.C_below h.1 hb, h.2⟩
theorem elemG {w : World} {A : Option Addr} {c : Nat} {gs : List Gu} (h : GsC w A c gs) (k : Nat) (hk : k < gs.length) :
    ∃ ad A1 c1 B1 d1, A = some ad ∧ GC w (gs.getD k zG) A1 c1 B1 d1 ∧ ∀ j v, (gC (gs.getD k zG) A1 c1 B1 d1).toList[j]? = some v → w.cell? ((ad.add (k * 26)).add j) = some v := by
  obtain ⟨ad, c, e, _, ⟨A1, c1, B1, d1, rfl, hg⟩, hc⟩ := Kd.C_get h.1 zG (k : Int) (by omega) (by omega)
  rw [Int.toNat_natCast] at hg hc
  exact ⟨ad, A1, c1, B1, d1, e, hg, fun j v hv => by rw [Addr.add_add]; exact hc j v hv⟩
theorem load_elem_run {P : Program} {o : Oper} {a : Act} {W : World} {ty : TypeId} {x : Operand} (ho : o.op = .load ty x) {ad : Addr} {cs : Array Value} (hx : a.eval x = .pointer (some ad)) (hc : ∀ j v, cs.toList[j]? = some v → W.cell? (ad.add j) = some v)
    {d : TypeDesc} (hu : P.underlying ty = some d) (hd : (match d with | .struct _ | .array _ _ => true | _ => false) = true) (hi : (P.info? ty).map (·.size) = some cs.size) :
    (execOp a.eval o).run P W = .ok (.value (.agg cs)) W := by
  have hl : (loadCells ad cs.size).run P W = .ok cs W := by
    have := run_loadCells_list (P := P) (w := W) ad cs.toList hc
    rwa [Array.length_toList, Array.toArray_toList] at this
  have hv : (loadVar ty ad).run P W = .ok (.agg cs) W := by
    cases hq : P.info? ty with
    | none => simp [hq] at hi
    | some i =>
      have hs : i.size = cs.size := by simpa [hq] using hi
      have hagg : (isAgg ty).run P W = .ok true W := by
        unfold isAgg
        rw [Sem.run_bind, run_underlying hu W]
        cases d <;> simp_all
      simp [loadVar, Sem.run_bind, hagg, sizeOf, typeInfo, hq, hs, hl]
  unfold execOp
  simp only [ho, hx, Instr.loadAt, Instr.sureAddr, Sem.run_bind, Sem.run_pure, Result.andThen_ok, hv]
/-- What is left of the room for a row of guests. -/
def szGsL : List Gu → Int → Int
  | [], left => left
  | g :: gs, left => if szG g left < 0 then -1 else szGsL gs (szG g left)
def szGs (gs : List Gu) (left : Int) : Int := if left - gs.length < 0 then -1 else szGsL gs (left - gs.length)
theorem szGsL_le : ∀ (gs : List Gu) (left : Int), -1 ≤ left → left ≤ 1048576 → -1 ≤ szGsL gs left ∧ szGsL gs left ≤ 1048576
  | [], left, h0, h1 => ⟨h0, h1⟩
  | g :: gs, left, h0, h1 => by
    unfold szGsL
    have := szG_le g left h0 h1
    split
    · omega
    · exact szGsL_le gs _ this.1 this.2
theorem szGs_le (gs : List Gu) (left : Int) (h0 : -1 ≤ left) (h1 : left ≤ 1048576) : -1 ≤ szGs gs left ∧ szGs gs left ≤ 1048576 := by
  unfold szGs
  split
  · omega
  · exact szGsL_le gs _ (by omega) (by omega)
theorem szGsL_nn : ∀ (gs : List Gu) (left : Int), -1 ≤ left → left ≤ 1048576 → 0 ≤ szGsL gs left → ∀ g ∈ gs, g.snap.length ≤ 1048576 ∧ g.plan.length ≤ 1048576
  | [], _, _, _, _ => fun g hg => by cases hg
  | g :: gs, left, h0, h1, h => by
    unfold szGsL at h
    have hl := szG_le g left h0 h1
    split at h
    · omega
    · intro x hx
      rcases List.mem_cons.1 hx with rfl | hx
      · exact szG_nn h1 h0 (by omega)
      · exact szGsL_nn gs _ hl.1 hl.2 h x hx
theorem szGs_nn {gs : List Gu} {left : Int} (h0 : -1 ≤ left) (h1 : left ≤ 1048576) (h : 0 ≤ szGs gs left) : gs.length ≤ 1048576 ∧ ∀ g ∈ gs, g.snap.length ≤ 1048576 ∧ g.plan.length ≤ 1048576 := by
  unfold szGs at h
  split at h
  · omega
  · exact ⟨by omega, szGsL_nn gs _ (by omega) (by omega) h⟩
theorem szGsL_take (gs : List Gu) (k : Nat) (hk : k < gs.length) (left : Int) : szGsL (gs.drop k) left = if szG (gs.getD k zG) left < 0 then -1 else szGsL (gs.drop (k + 1)) (szG (gs.getD k zG) left) := by
  rw [List.drop_eq_getElem_cons hk]
  show (if szG gs[k] left < 0 then -1 else szGsL (gs.drop (k + 1)) (szG gs[k] left)) = _
  have : gs.getD k zG = gs[k] := by simp [List.getD, hk]
  rw [this]
theorem mem_getD {gs : List Gu} {k : Nat} (hk : k < gs.length) : gs.getD k zG ∈ gs := by
  have : gs.getD k zG = gs[k] := by simp [List.getD, hk]
  rw [this]; exact List.getElem_mem hk
set_option maxHeartbeats 4000000 in
set_option maxRecDepth 100000 in
theorem szGs_calls (A : Option Addr) (c : Nat) (gs : List Gu) (left : Int) (w : World) (h : GsC w A c gs) (h0 : -1 ≤ left) (h1 : left ≤ 1048576) (hl : gs.length ≤ 9223372036854775807) (hls : ∀ g ∈ gs, g.snap.length ≤ 9223372036854775807 ∧ g.plan.length ≤ 9223372036854775807) :
    Calls Try.prog 33 #[.slice A gs.length c, .int .i64 left] w fun e w' => e = .returned (.int .i64 (szGs gs left)) ∧ Below w.heap.size w w' := by
  have HR := Aside0.mk h
  have HL := Aside0.mk hls
  clear h hls
  by_cases hn : left - (gs.length : Int) < 0
  · have HF : Aside0 (szGs gs left = -1) := ⟨if_pos hn⟩
    go_enter Try.func33, Try.ntmps33
    go_wp2
    go_ret
    exact ⟨by rw [HF.out]; rfl, Below.refl _ _⟩
  · have HF : Aside0 (szGs gs left = szGsL gs (left - gs.length)) := ⟨if_neg hn⟩
    have h2 : left - (gs.length : Int) ≤ 1048576 := by omega
    go_enter Try.func33, Try.ntmps33
    go_wp2
    go_loopg [1, 5] (gs.length + 1) (fun kq v1 v5 w' => ∃ (k : Nat) (z : Int), k ≤ gs.length ∧ kq = gs.length + 1 - k ∧ v1 = .int .i64 z ∧ v5 = .int .i64 k ∧ -1 ≤ z ∧ z ≤ 1048576 ∧ Aside0 (szGs gs left = szGsL (gs.drop k) z) ∧ Aside0 (Below w.heap.size w w'))
    case atStart => exact ⟨0, left - gs.length, by omega, by omega, by go_num, rfl, by omega, by omega, HF, ⟨Below.refl _ _⟩⟩
    case round =>
      obtain ⟨k, z, hk, rfl, rfl, rfl, hz0, hz1, HS, HB⟩ := hrel
      by_cases hlt : k < gs.length
      · obtain ⟨ad, A1, c1, B1, d1, rfl, hg, hc⟩ := elemG (HR.out.below HB.out) k hlt
        have HG := Aside0.mk hg
        have HC := Aside0.mk hc
        have HM := Aside0.mk (HL.out _ (mem_getD hlt))
        have HT := Aside0.mk (szGsL_take gs k hlt z)
        have HZ := Aside0.mk (szG_le (gs.getD k zG) z hz0 hz1)
        clear hg hc
        obtain ⟨g, hgd⟩ : ∃ g, gs.getD k zG = g := ⟨_, rfl⟩
        rw [hgd] at HG HC HM HT HZ
        clear hgd
        have HI := Aside0.mk (show (Try.prog.info? 82).map (·.size) = some (gC g A1 c1 B1 d1).size by kernel_rfl)
        have HZC := Aside0.mk (szG_calls g A1 c1 B1 d1 z · hz0 hz1 HM.out.1 HM.out.2)
        obtain ⟨cs, hcs⟩ : ∃ cs, gC g A1 c1 B1 d1 = cs := ⟨_, rfl⟩
        rw [hcs] at HC HI HZC
        clear hcs
        have hi : (k : Int) < (gs.length : Int) := by omega
        have hi0 : (0 : Int) ≤ (k : Int) := by omega
        go_wp2_with (first | ((with_reducible refine gate_dst (N := 21) rfl ?_); refine Kd.event_run rfl (load_elem_run (ad := ad.add (k * 26)) (cs := cs) rfl (by first | (go_simp; done) | (go_simp; rfl)) HC.out Try.underlying82 rfl HI.out) ?_))
        refine (HZC.out _).mono ?_
        rintro e w1 ⟨rfl, hb⟩
        have HB1 := Aside0.mk (below_step HB.out hb)
        clear hb
        by_cases hneg : szG g z < 0
        · have HV : Aside0 (szGs gs left = -1) := ⟨by rw [HS.out, HT.out]; exact if_pos hneg⟩
          go_wp2
          go_ret
          exact ⟨by rw [HV.out]; rfl, HB1.out⟩
        · have HV : Aside0 (szGs gs left = szGsL (gs.drop (k + 1)) (szG g z)) := ⟨by rw [HS.out, HT.out]; exact if_neg hneg⟩
          go_wp2
          go_roundg (gs.length + 1 - (k + 1))
          case measure => omega
          case rel => exact ⟨k + 1, _, by omega, rfl, rfl, by go_num, HZ.out.1, HZ.out.2, HV, HB1⟩
      · have hkl : k = gs.length := by omega
        subst hkl
        have HV : Aside0 (szGs gs left = z) := ⟨by rw [HS.out, List.drop_length]; rfl⟩
        go_wp2
        go_ret
        exact ⟨by rw [HV.out]; rfl, HB.out⟩
end Go.Proofs.Ytfpdccaomhjpjaa.Gu
