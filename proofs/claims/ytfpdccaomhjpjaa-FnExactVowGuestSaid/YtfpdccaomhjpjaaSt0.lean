/- What a walk holds in memory: resources, each in blocks of its own. -/
import Derived.Test.YtfpdccaomhjpjaaRow
import Derived.KernelRfl
import Derived.RowKit3
import Derived.Deep.LoopGhost
import Derived.Deep.QuietTactic
import Derived.BigQuiet
import Derived.Deep.DeepCutAuto
import Derived.Deep.CutBlock
import Derived.Deep.RegionHeld3
import Derived.Test.YtfpdccaomhjpjaaWLast
import Derived.Test.YtfpdccaomhjpjaaWGuard
import Derived.Test.YtfpdccaomhjpjaaWWords
import Derived.Test.YtfpdccaomhjpjaaWMore
set_option linter.unusedVariables false
set_option linter.unusedSimpArgs false
namespace Go.Proofs.Ytfpdccaomhjpjaa.St0
open Go.RowKit Go.Proofs.YtfpdccaomhjpjaaW.PrintWords Go.Proofs.YtfpdccaomhjpjaaW.PrintLast Go.Proofs.YtfpdccaomhjpjaaW.PrintMore

/-- But for the blocks from lo on and below hi everything in memory is as it was. -/
structure Keep (lo hi : Nat) (w w' : World) : Prop where
  os : w'.os = w.os
  tape : w'.tape = w.tape
  output : w'.output = w.output
  size : w.heap.size ≤ w'.heap.size
  block : ∀ k, k < w.heap.size → ¬ (lo ≤ k ∧ k < hi) → w'.heap[k]? = w.heap[k]?
theorem Keep.refl (lo hi : Nat) (w : World) : Keep lo hi w w := ⟨rfl, rfl, rfl, Nat.le_refl _, fun _ _ _ => rfl⟩
theorem Keep.of_below {lo hi : Nat} {w w' : World} (h : Below w.heap.size w w') : Keep lo hi w w' := ⟨h.os, h.tape, h.output, h.size, fun k hk _ => h.block k hk⟩
theorem Keep.trans {lo hi : Nat} {w w1 w2 : World} (h : Keep lo hi w w1) (k : Keep lo hi w1 w2) : Keep lo hi w w2 := ⟨k.os.trans h.os, k.tape.trans h.tape, k.output.trans h.output, Nat.le_trans h.size k.size, fun i hi' hn => (k.block i (Nat.lt_of_lt_of_le hi' h.size) hn).trans (h.block i hi' hn)⟩
theorem Keep.below {lo hi : Nat} {w0 w w' : World} (hb : Below w0.heap.size w0 w) (h : Keep lo hi w w') (hlo : w0.heap.size ≤ lo) : Below w0.heap.size w0 w' := ⟨h.os.trans hb.os, h.tape.trans hb.tape, h.output.trans hb.output, Nat.le_trans hb.size h.size, fun k hk => (h.block k (Nat.lt_of_lt_of_le hk hb.size) (by omega)).trans (hb.block k hk)⟩
theorem Keep.wide {lo hi lo' hi' : Nat} {w w' : World} (h : Keep lo hi w w') (h0 : lo' ≤ lo) (h1 : hi ≤ hi') : Keep lo' hi' w w' := ⟨h.os, h.tape, h.output, h.size, fun k hk hn => h.block k hk (by omega)⟩
theorem Keep.set {lo hi g : Nat} {w w1 : World} (h : Keep lo hi w w1) (h0 : lo ≤ g) (h1 : g < hi) (j : Nat) (u : Value) : Keep lo hi w (w1.setCell ⟨g, j, none⟩ u) := by
  have hb : Below g w1 (w1.setCell ⟨g, j, none⟩ u) := (Below.refl g w1).setCell (Nat.le_refl g) _
  refine ⟨hb.os.trans h.os, hb.tape.trans h.tape, hb.output.trans h.output, Nat.le_trans h.size hb.size, fun k hk hn => ?_⟩
  have hne : k ≠ g := fun e => hn (by omega)
  exact (Below.heap_setCell w1 ⟨g, j, none⟩ u k hne).trans (h.block k hk hn)

/-- What is known of the blocks from lo on and below hi. -/
structure Res where
  lo : Nat
  hi : Nat
  P : World → Prop
def Res.Stable (r : Res) : Prop := ∀ w w' : World, r.P w → w.heap.size ≤ w'.heap.size → (∀ k, r.lo ≤ k → k < r.hi → w'.heap[k]? = w.heap[k]?) → r.P w'
def blkP (g : Nat) (cs : Array Value) (t : TypeId) (w : World) : Prop := w.heap[g]? = some (.cells cs t (0, 0))
abbrev Blk (g : Nat) (cs : Array Value) (t : TypeId) : Res := ⟨g, g + 1, blkP g cs t⟩
theorem Blk.stable (g : Nat) (cs : Array Value) (t : TypeId) : (Blk g cs t).Stable := fun w w' h _ hk => (hk g (Nat.le_refl g) (Nat.lt_succ_self g)).trans h
/-- A walk's memory: what was there is as it was; what is known of what was made. -/
structure St (w0 w : World) (rs : List Res) : Prop where
  base : Below w0.heap.size w0 w
  has : ∀ r ∈ rs, r.P w ∧ r.Stable ∧ w0.heap.size ≤ r.lo ∧ r.lo ≤ r.hi ∧ r.hi ≤ w.heap.size
  apart : rs.Pairwise fun r q => r.hi ≤ q.lo ∨ q.hi ≤ r.lo
namespace St
variable {w0 w w' : World} {rs : List Res}
theorem start (w : World) : St w w [] := ⟨Below.refl _ _, fun r h => (by cases h), List.Pairwise.nil⟩
theorem call (h : St w0 w rs) (hb : Below w.heap.size w w') : St w0 w' rs :=
  ⟨below_step h.base hb, fun r hr => by
    obtain ⟨h1, h2, h3, h4, h5⟩ := h.has r hr
    exact ⟨h2 w w' h1 hb.size (fun k hk hk' => hb.block k (by omega)), h2, h3, h4, Nat.le_trans h5 hb.size⟩, h.apart⟩
theorem drew (h : St w0 w rs) : St w0 w.drew rs := ⟨below_drew h.base, fun r hr => by
    obtain ⟨h1, h2, h3, h4, h5⟩ := h.has r hr
    exact ⟨h2 w _ h1 (Nat.le_refl _) (fun k hk hk' => rfl), h2, h3, h4, h5⟩, h.apart⟩
theorem drewN (h : St w0 w rs) (n : Nat) : St w0 (w.drewN n) rs := ⟨pw_below_drewN h.base n, fun r hr => by
    obtain ⟨h1, h2, h3, h4, h5⟩ := h.has r hr
    exact ⟨h2 w _ h1 (Nat.le_refl _) (fun k hk hk' => rfl), h2, h3, h4, h5⟩, h.apart⟩
theorem size (h : St w0 w rs) : w0.heap.size ≤ w.heap.size := h.base.size
theorem mem {r : Res} (h : St w0 w rs) (i : Nat) (hi : rs[i]? = some r) : r.P w ∧ r.Stable ∧ w0.heap.size ≤ r.lo ∧ r.lo ≤ r.hi ∧ r.hi ≤ w.heap.size := h.has r (List.mem_of_getElem? hi)
theorem get {r : Res} (h : St w0 w rs) (i : Nat) (hi : rs[i]? = some r) : r.P w := (h.mem i hi).1
theorem le {r : Res} (h : St w0 w rs) (i : Nat) (hi : rs[i]? = some r) : r.hi ≤ w.heap.size := (h.mem i hi).2.2.2.2
theorem ge {r : Res} (h : St w0 w rs) (i : Nat) (hi : rs[i]? = some r) : w0.heap.size ≤ r.lo := (h.mem i hi).2.2.1
theorem blk {g : Nat} {cs : Array Value} {t : TypeId} (h : St w0 w rs) (i : Nat) (hi : rs[i]? = some (Blk g cs t)) : w.heap[g]? = some (.cells cs t (0, 0)) := (h.mem i hi).1
theorem cell {g : Nat} {cs : Array Value} {t : TypeId} (h : St w0 w rs) (i : Nat) (hi : rs[i]? = some (Blk g cs t)) (j : Nat) : w.cell? ⟨g, j, none⟩ = cs[j]? := blk_cell (h.blk i hi) j
theorem frozen {g : Nat} {cs : Array Value} {t : TypeId} (h : St w0 w rs) (i : Nat) (hi : rs[i]? = some (Blk g cs t)) (j : Nat) : w.frozen? ⟨g, j, none⟩ = false := blk_frozen (h.blk i hi) j
/-- What is new lies behind all that was. -/
theorem new (h : St w0 w rs) (hb : Below w.heap.size w w') {P : World → Prop} (hP : P w') (hs : Res.Stable ⟨w.heap.size, w'.heap.size, P⟩) : St w0 w' (⟨w.heap.size, w'.heap.size, P⟩ :: rs) := by
  have h1 := h.call hb
  refine ⟨h1.base, fun r hr => ?_, List.pairwise_cons.2 ⟨fun r hr => Or.inr (h.has r hr).2.2.2.2, h.apart⟩⟩
  rcases List.mem_cons.1 hr with rfl | hr
  · exact ⟨hP, hs, h.base.size, hb.size, Nat.le_refl _⟩
  · exact h1.has r hr
theorem box (h : St w0 w rs) {g : Nat} {cs : Array Value} {t : TypeId} (hg : g = w.heap.size) (hbox : w'.heap[g]? = some (.cells cs t (0, 0))) (hb : Below w.heap.size w w') : St w0 w' (Blk g cs t :: rs) := by
  have h1 := h.call hb
  refine ⟨h1.base, fun r hr => ?_, List.pairwise_cons.2 ⟨fun r hr => Or.inr (by rw [hg]; exact (h.has r hr).2.2.2.2), h.apart⟩⟩
  rcases List.mem_cons.1 hr with rfl | hr
  · exact ⟨hbox, Blk.stable g cs t, by rw [hg]; exact h.base.size, Nat.le_succ g, blk_lt hbox⟩
  · exact h1.has r hr
/-- Something that was made in between. -/
theorem add (h : St w0 w rs) {lo hi : Nat} {P : World → Prop} (hP : P w) (hs : Res.Stable ⟨lo, hi, P⟩) (h0 : w0.heap.size ≤ lo) (h1 : lo ≤ hi) (h2 : hi ≤ w.heap.size) (hd : ∀ r ∈ rs, r.hi ≤ lo ∨ hi ≤ r.lo) : St w0 w (⟨lo, hi, P⟩ :: rs) :=
  ⟨h.base, fun r hr => by
    rcases List.mem_cons.1 hr with rfl | hr
    · exact ⟨hP, hs, h0, h1, h2⟩
    · exact h.has r hr, List.pairwise_cons.2 ⟨fun r hr => (hd r hr).symm, h.apart⟩⟩
theorem swap {r q : Res} (h : St w0 w (r :: q :: rs)) : St w0 w (q :: r :: rs) :=
  ⟨h.base, fun x hx => h.has x (by
    simp only [List.mem_cons] at hx ⊢
    rcases hx with e | e | e
    · exact Or.inr (Or.inl e)
    · exact Or.inl e
    · exact Or.inr (Or.inr e)), by
    obtain ⟨h1, h2⟩ := List.pairwise_cons.1 h.apart
    obtain ⟨h3, h4⟩ := List.pairwise_cons.1 h2
    refine List.pairwise_cons.2 ⟨fun x hx => ?_, List.pairwise_cons.2 ⟨fun x hx => h1 x (List.mem_cons_of_mem _ hx), h4⟩⟩
    rcases List.mem_cons.1 hx with rfl | hx
    · exact (h1 q List.mem_cons_self).symm
    · exact h3 x hx⟩
theorem drop1 {r : Res} (h : St w0 w (r :: rs)) : St w0 w rs := ⟨h.base, fun q hq => h.has q (List.mem_cons_of_mem _ hq), (List.pairwise_cons.1 h.apart).2⟩
theorem drop (h : St w0 w rs) (i : Nat) {rs' : List Res} (e : rs.eraseIdx i = rs') : St w0 w rs' := by
  subst e
  exact ⟨h.base, fun q hq => h.has q (List.mem_of_mem_eraseIdx hq), h.apart.sublist (List.eraseIdx_sublist ..)⟩
theorem nil (h : St w0 w rs) : St w0 w [] := ⟨h.base, fun r h => (by cases h), List.Pairwise.nil⟩
theorem pair_set {R : Res → Res → Prop} : ∀ {rs : List Res} {i : Nat} {r q : Res}, rs.Pairwise R → rs[i]? = some r → (∀ x, R r x → R q x) → (∀ x, R x r → R x q) → (rs.set i q).Pairwise R
  | [], _, _, _, h, hi, _, _ => by cases hi
  | x :: rs, 0, r, q, h, hi, h1, h2 => by
    simp only [List.getElem?_cons_zero, Option.some.injEq] at hi
    subst hi
    exact List.pairwise_cons.2 ⟨fun y hy => h1 y ((List.pairwise_cons.1 h).1 y hy), (List.pairwise_cons.1 h).2⟩
  | x :: rs, i + 1, r, q, h, hi, h1, h2 => by
    simp only [List.getElem?_cons_succ] at hi
    refine List.pairwise_cons.2 ⟨fun y hy => ?_, pair_set (List.pairwise_cons.1 h).2 hi h1 h2⟩
    rcases List.mem_or_eq_of_mem_set hy with hy | rfl
    · exact (List.pairwise_cons.1 h).1 y hy
    · exact h2 x ((List.pairwise_cons.1 h).1 r (List.mem_of_getElem? hi))
theorem apart_of : ∀ {rs : List Res} {i j : Nat} {r q : Res}, rs.Pairwise (fun r q => r.hi ≤ q.lo ∨ q.hi ≤ r.lo) → rs[i]? = some r → rs[j]? = some q → i ≠ j → r.hi ≤ q.lo ∨ q.hi ≤ r.lo
  | [], _, _, _, _, _, hi, _, _ => by cases hi
  | x :: rs, 0, 0, _, _, _, _, _, hn => absurd rfl hn
  | x :: rs, 0, j + 1, r, q, h, hi, hj, _ => by
    simp only [List.getElem?_cons_zero, Option.some.injEq] at hi
    subst hi
    simp only [List.getElem?_cons_succ] at hj
    exact (List.pairwise_cons.1 h).1 q (List.mem_of_getElem? hj)
  | x :: rs, i + 1, 0, r, q, h, hi, hj, _ => by
    simp only [List.getElem?_cons_zero, Option.some.injEq] at hj
    subst hj
    simp only [List.getElem?_cons_succ] at hi
    exact ((List.pairwise_cons.1 h).1 r (List.mem_of_getElem? hi)).symm
  | x :: rs, i + 1, j + 1, r, q, h, hi, hj, hn => by
    simp only [List.getElem?_cons_succ] at hi hj
    exact apart_of (List.pairwise_cons.1 h).2 hi hj (fun e => hn (by rw [e]))
theorem ne {r q : Res} (h : St w0 w rs) (i j : Nat) (hi : rs[i]? = some r) (hj : rs[j]? = some q) (hn : i ≠ j) : r.hi ≤ q.lo ∨ q.hi ≤ r.lo := apart_of h.apart hi hj hn
/-- Written: only blocks of the i-th resource have changed. -/
theorem put {r : Res} (h : St w0 w rs) (i : Nat) (hi : rs[i]? = some r) (hk : Keep r.lo r.hi w w') {P : World → Prop} (hP : P w') (hs : Res.Stable ⟨r.lo, r.hi, P⟩) {rs' : List Res} (e : rs.set i ⟨r.lo, r.hi, P⟩ = rs') : St w0 w' rs' := by
  subst e
  have hm := h.mem i hi
  refine ⟨Keep.below h.base hk hm.2.2.1, fun q hq => ?_, pair_set h.apart hi (fun _ hx => hx) (fun _ hx => hx)⟩
  obtain ⟨j, hj⟩ := List.mem_iff_getElem?.1 hq
  by_cases hij : i = j
  · subst hij
    have hlt : i < rs.length := (List.getElem?_eq_some_iff.1 hi).1
    rw [List.getElem?_set_self hlt] at hj
    obtain rfl := Option.some.inj hj
    exact ⟨hP, hs, hm.2.2.1, hm.2.2.2.1, Nat.le_trans hm.2.2.2.2 hk.size⟩
  · rw [List.getElem?_set_ne hij] at hj
    obtain ⟨h1, h2, h3, h4, h5⟩ := h.mem j hj
    have hd := h.ne i j hi hj hij
    exact ⟨h2 w w' h1 hk.size (fun k hk1 hk2 => hk.block k (by omega) (by omega)), h2, h3, h4, Nat.le_trans h5 hk.size⟩
/-- Written in the i-th resource, and something new. -/
theorem setCell {g : Nat} {cs cs' : Array Value} {t : TypeId} (h : St w0 w rs) (i : Nat) (hi : rs[i]? = some (Blk g cs t)) (j : Nat) (u : Value) (e : cs.setIfInBounds j u = cs') {rs' : List Res} (e2 : rs.set i (Blk g cs' t) = rs') : St w0 (w.setCell ⟨g, j, none⟩ u) rs' := by
  subst e
  exact h.put i hi ((Keep.refl g (g + 1) w).set (Nat.le_refl g) (Nat.lt_succ_self g) j u) (blk_set (h.blk i hi) j u) (Blk.stable g _ t) e2
theorem keep_row (w : World) (g : Nat) (cs : Array Value) : Keep g (g + 1) w (w.setRow g cs) := ⟨rfl, rfl, rfl, by simp, fun k hk hn => setRow_other w g k cs (by omega)⟩
theorem setRow {g : Nat} {cs cs' : Array Value} {t : TypeId} (h : St w0 w rs) (i : Nat) (hi : rs[i]? = some (Blk g cs t)) {rs' : List Res} (e2 : rs.set i (Blk g cs' t) = rs') : St w0 (w.setRow g cs') rs' :=
  h.put i hi (keep_row w g cs') (setRow_heap w g cs cs' t (0, 0) (h.blk i hi)) (Blk.stable g _ t) e2
/-- A resource of one's own, of another's: the blocks are others. -/
theorem ne_blk {g g' : Nat} {cs cs' : Array Value} {t t' : TypeId} (h : St w0 w rs) (i j : Nat) (hi : rs[i]? = some (Blk g cs t)) (hj : rs[j]? = some (Blk g' cs' t')) (hn : i ≠ j) : g ≠ g' := by
  have := h.ne i j hi hj hn
  simp only at this
  omega
theorem of {w1 : World} (h : St w0 w rs) (e : w1 = w) : St w0 w1 rs := e ▸ h
end St
theorem seg_store_run {P : Program} {o : Oper} {a : Act} {W : World} {ty : TypeId} {x y : Operand} {seg : List Value} (ho : o.op = .store ty x y) {g off : Nat} {u : Value} (hx : a.eval x = .pointer (some ⟨g, off, none⟩)) (hy : a.eval y = u)
    {t : TypeId} {cur : Array Value} (hg : W.heap[g]? = some (.cells cur t (0, 0))) (hu : u.cells.toList = seg) (hi : (P.info? ty).map (·.size) = some seg.length) (hfit : off + seg.length ≤ cur.size) (h1 : ∀ q ∈ seg, q.oneCell' = true) :
    (execOp a.eval o).run P W = .ok .skip (W.setCells g off seg) := by
  have := run_store_run (P := P) ty u seg hg hu hi hfit h1
  unfold execOp
  simp only [ho, hx, hy, Sem.run_bind, Sem.run_pure, Result.andThen_ok, this]
theorem St.setSeg {w0 w : World} {rs : List Res} {g : Nat} {cs cs' : Array Value} {t : TypeId} (h : St w0 w rs) (i : Nat) (hi : rs[i]? = some (Blk g cs t)) (off : Nat) (seg : List Value) (hfit : off + seg.length ≤ cs.size) (e : (cs.toList.take off ++ seg ++ cs.toList.drop (off + seg.length)).toArray = cs') {rs' : List Res} (e2 : rs.set i (Blk g cs' t) = rs') : St w0 (w.setCells g off seg) rs' := by
  obtain ⟨cur', h3, h4, h5⟩ := setCells_row seg off w cs (h.blk i hi) hfit
  obtain ⟨s1, s2, s3, s4⟩ := setCells_same g seg off w
  have hc : cur' = cs' := by rw [← e, ← h5, Array.toArray_toList]
  subst hc
  exact h.put i hi ⟨s1, s2, s3, by rw [s4]; exact Nat.le_refl _, fun k _ hn => setCells_far seg off k (by have hn_ : ¬ (g ≤ k ∧ k < g + 1) := hn; omega)⟩ h3 (Blk.stable g _ t) e2
/-! ### Rows of one's own -/
/-- A row of one's own, its blocks from lo on and below hi. -/
def Rw {α : Type} (d : Kd α) (e : Nat) (lo hi : Nat) (v : Value) (l : List α) (w : World) : Prop := d.R e w lo (fun k => lo ≤ k ∧ k < hi) v l
theorem Rw.stable {α : Type} (d : Kd α) (e lo hi : Nat) (v : Value) (l : List α) : Res.Stable ⟨lo, hi, Rw d e lo hi v l⟩ := fun w w' h _ hk => Kd.R_step h (fun k hk1 _ => hk k hk1.1 hk1.2)
theorem Rw.of {α : Type} {d : Kd α} {e : Nat} {w w' : World} {v : Value} {l : List α} (h : d.R e w' w.heap.size (fun _ => True) v l) : Rw d e w.heap.size w'.heap.size v l w' := Kd.R_mono (Kd.R_bound h) (fun k hk => ⟨hk.2.1, hk.2.2.1⟩)
theorem Rw.c {α : Type} {d : Kd α} {e lo hi : Nat} {A : Option Addr} {n c : Nat} {l : List α} {w : World} (h : Rw d e lo hi (.slice A n c) l w) : d.C w A l.length l ∧ n = l.length ∧ n ≤ c := ⟨(Kd.R_reads' h).2.2, (Kd.R_reads' h).1, (Kd.R_reads' h).2.1⟩
theorem Rw.slice {α : Type} {d : Kd α} {e lo hi : Nat} {v : Value} {l : List α} {w : World} (h : Rw d e lo hi v l w) : ∃ A c, v = .slice A l.length c := Kd.R_slice h
namespace St
variable {w0 w w' : World} {rs : List Res}
section
variable {α : Type} {enc : α → Value} {h1 : ∀ x, (enc x).oneCell' = true} {e lo hi go N co : Nat} {l l' : List α}
theorem rwcell (d : α) (h : St w0 w rs) (i : Nat) (hi' : rs[i]? = some ⟨lo, hi, Rw (Kd.scalar enc h1) e lo hi (.slice (some ⟨go, 0, none⟩) N co) l⟩) (k : Nat) (hk : k < N) : w.cell? ⟨go, k, none⟩ = some (enc (l.getD k d)) := by
  have hR : Rw (Kd.scalar enc h1) e lo hi (.slice (some ⟨go, 0, none⟩) N co) l w := h.get i hi'
  have := (Kd.R_celln d hR (k : Int) (by omega) (by omega)).1
  rw [Int.toNat_natCast] at this
  rw [this]
  simp [rdOf]
theorem rwfrozen (h : St w0 w rs) (i : Nat) (hi' : rs[i]? = some ⟨lo, hi, Rw (Kd.scalar enc h1) e lo hi (.slice (some ⟨go, 0, none⟩) N co) l⟩) (d : α) (k : Nat) (hk : k < N) : w.frozen? ⟨go, k, none⟩ = false := by
  have hR : Rw (Kd.scalar enc h1) e lo hi (.slice (some ⟨go, 0, none⟩) N co) l w := h.get i hi'
  have := (Kd.R_celln d hR (k : Int) (by omega) (by omega)).2
  rw [Int.toNat_natCast] at this
  exact this
theorem setRw (h : St w0 w rs) (i : Nat) (hi' : rs[i]? = some ⟨lo, hi, Rw (Kd.scalar enc h1) e lo hi (.slice (some ⟨go, 0, none⟩) N co) l⟩) (k : Nat) (u : α) (el : l.set k u = l') {rs' : List Res} (er : rs.set i ⟨lo, hi, Rw (Kd.scalar enc h1) e lo hi (.slice (some ⟨go, 0, none⟩) N co) l'⟩ = rs') : St w0 (w.setCell ⟨go, k, none⟩ (enc u)) rs' := by
  have hR : Rw (Kd.scalar enc h1) e lo hi (.slice (some ⟨go, 0, none⟩) N co) l w := h.get i hi'
  have hk := hR.1 go (by simp [Value.ownBlock])
  have hp := (Kd.R_putg hR (k : Int) u).1
  rw [Int.toNat_natCast, el] at hp
  exact h.put i hi' ((Keep.refl lo hi w).set hk.1 hk.2 k _) hp (Rw.stable _ _ _ _ _ _) er
end
end St
end Go.Proofs.Ytfpdccaomhjpjaa.St0
