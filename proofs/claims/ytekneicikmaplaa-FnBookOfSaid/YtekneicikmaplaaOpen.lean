/- Opening an argument of whatever type of numbers, bools, slices, structs and arrays: what reads as data of a type is of the print's kind for it; no program in sight. -/
import Derived.ChangeArms
import Derived.OpenShut
import Derived.DataReads
import Derived.Deep.Slices
import Derived.Test.YtekneicikmaplaaWWords
set_option linter.unusedVariables false
set_option linter.unusedSimpArgs false
namespace Go.Proofs.Ytekneicikmaplaa.Open
open Go.RowKit Go.Proofs.YtekneicikmaplaaW.PrintWords

/-- What reads as data of type t is of kind d, and its value fits. -/
structure Opens (P : Program) (t : TypeId) {α : Type} (d : Kd α) (ok : α → Prop) : Prop where
  op : ∀ {H : Type} (enc : TypeId × Value → H) (w : World) (base : Nat) (spare : Nat → Bool) (held : Bool) (fuel : Nat) (cs : List Value) (x : DataW H × List MemPlace),
    DataW.trod enc P w base spare held fuel t cs = some x → ∃ a : α, d.K w a cs ∧ ok a

theorem Opens.int {P : Program} {t : TypeId} {k : IntKind} (ht : P.underlying t = some (.int k)) : Opens P t (Kd.int k) (fun n => (Lit.int k n).wf = true) := ⟨by
  intro H enc w base spare held fuel cs x h
  obtain ⟨n, rfl, _, hw⟩ := DataW.trod_int ht h
  exact ⟨n, rfl, hw⟩⟩
theorem Opens.bool {P : Program} {t : TypeId} (ht : P.underlying t = some .bool) : Opens P t Kd.bool (fun _ => True) := ⟨by
  intro H enc w base spare held fuel cs x h
  obtain ⟨n, rfl, _⟩ := DataW.trod_bool ht h
  exact ⟨n, rfl, trivial⟩⟩
theorem Opens.slice {P : Program} {t e : TypeId} {α : Type} {d : Kd α} {ok : α → Prop} (ht : P.underlying t = some (.slice e)) (hs : P.cellsOf e = d.sz) (hd : Opens P e d ok) :
    Opens P t (Kd.slice e d) (fun l => l.length ≤ 9223372036854775807 ∧ ∀ x ∈ l, ok x) := ⟨by
  intro H enc w base spare held fuel cs x h
  rcases Deep.open_slice ht h with ⟨rfl, _⟩ | ⟨a, len, cap, m, n, D, Pl, rfl, hb, hl, hm, hmm, rfl, hall⟩
  · exact ⟨[], ⟨none, 0, rfl, Nat.le_refl _, Kd.C_nil d w⟩, by simp⟩
  · have hlen : len ≤ m := by rw [hmm]; split <;> omega
    have build : ∀ q, q ≤ len → ∃ l : List α, l.length = q ∧ (∀ x ∈ l, ok x) ∧ ∀ j p, l[j]? = some p → ∃ c, c.length = d.sz ∧ d.K w p c ∧ ∀ i u, c[i]? = some u → w.cell? (a.add (j * d.sz + i)) = some u := by
      intro q
      induction q with
      | zero => exact fun _ => ⟨[], rfl, by simp, by simp⟩
      | succ q ih =>
        intro hq
        obtain ⟨l, h1, h2, h3⟩ := ih (by omega)
        obtain ⟨c, hc, ht'⟩ := hall q (by omega)
        obtain ⟨p, hp, hok⟩ := hd.op enc w base spare held n c _ ht'
        obtain ⟨_, hcl, hcc⟩ := World.cells?_some hc
        refine ⟨l ++ [p], by simp [h1], ?_, ?_⟩
        · intro x hx
          rcases List.mem_append.1 hx with hx | hx
          · exact h2 x hx
          · rw [List.mem_singleton.1 hx]; exact hok
        · intro j p' hj
          by_cases hjl : j < l.length
          · rw [List.getElem?_append_left hjl] at hj; exact h3 j p' hj
          · rw [List.getElem?_append_right (by omega)] at hj
            have hj0 : j - l.length = 0 := by
              by_cases e : j - l.length = 0
              · exact e
              · obtain ⟨k, hk⟩ : ∃ k, j - l.length = k + 1 := ⟨j - l.length - 1, by omega⟩
                rw [hk] at hj; simp at hj
            rw [hj0] at hj
            simp at hj
            subst hj
            have hjq : j = q := by omega
            subst hjq
            refine ⟨c, d.K_len hp, hp, fun i u hu => ?_⟩
            have := hcc i (by have := (List.getElem?_eq_some_iff.1 hu).1; omega)
            rw [hs, hu] at this
            have e : (a.add (j * d.sz)).add i = a.add (j * d.sz + i) := Addr.add_add _ _ _
            rw [e] at this
            exact this
    obtain ⟨l, h1, h2, h3⟩ := build len (Nat.le_refl _)
    have hmax : cap ≤ 9223372036854775807 := by unfold maxLen at hm; omega
    subst h1
    exact ⟨l, ⟨some a, cap, rfl, hl, rfl, by omega, fun _ => ⟨a, rfl, h3⟩⟩, by omega, h2⟩⟩
theorem Opens.iso {P : Program} {t : TypeId} {α β : Type} {d : Kd α} {ok : α → Prop} (f : β → α) (g : α → β) (hg : ∀ a, f (g a) = a) (h : Opens P t d ok) : Opens P t (Kd.iso d f) (fun b => ok (f b)) := ⟨by
  intro H enc w base spare held fuel cs x hx
  obtain ⟨a, ha, hok⟩ := h.op enc w base spare held fuel cs x hx
  exact ⟨g a, by show d.K w (f (g a)) cs; rw [hg]; exact ha, by rw [hg]; exact hok⟩⟩
/-- The same of some fields in line: their types and where they begin. -/
structure OpensF (P : Program) (fs : List (TypeId × Nat)) (o : Nat) {α : Type} (d : Kd α) (ok : α → Prop) : Prop where
  op : ∀ {H : Type} (enc : TypeId × Value → H) (w : World) (base : Nat) (spare : Nat → Bool) (held : Bool) (fuel : Nat) (cs : List Value),
    (∀ f ∈ fs, ∃ x, DataW.trod enc P w base spare held fuel f.1 ((cs.drop f.2).take (P.cellsOf f.1)) = some x) → ∃ a : α, d.K w a ((cs.drop o).take d.sz) ∧ ok a
theorem OpensF.one {P : Program} {t : TypeId} {o : Nat} {α : Type} {d : Kd α} {ok : α → Prop} (hs : P.cellsOf t = d.sz) (h : Opens P t d ok) : OpensF P [(t, o)] o d ok := ⟨by
  intro H enc w base spare held fuel cs hx
  obtain ⟨x, hx⟩ := hx (t, o) (by simp)
  rw [hs] at hx
  exact h.op enc w base spare held fuel _ x hx⟩
theorem OpensF.cons {P : Program} {t : TypeId} {fs : List (TypeId × Nat)} {o o' : Nat} {α β : Type} {d : Kd α} {d' : Kd β} {ok : α → Prop} {ok' : β → Prop} (hs : P.cellsOf t = d.sz) (ho : o + d.sz = o') (h : Opens P t d ok) (hr : OpensF P fs o' d' ok') :
    OpensF P ((t, o) :: fs) o (Kd.pair d d') (fun x => ok x.1 ∧ ok' x.2) := ⟨by
  intro H enc w base spare held fuel cs hx
  obtain ⟨x, hx0⟩ := hx (t, o) (by simp)
  rw [hs] at hx0
  obtain ⟨a, ha, oka⟩ := h.op enc w base spare held fuel _ x hx0
  obtain ⟨b, hb, okb⟩ := hr.op enc w base spare held fuel cs (fun f hf => hx f (List.mem_cons_of_mem _ hf))
  refine ⟨(a, b), ⟨_, _, ?_, ha, hb⟩, oka, okb⟩
  show (cs.drop o).take (d.sz + d'.sz) = _
  rw [List.take_add, List.drop_drop, ho]⟩
theorem Opens.struct {P : Program} {t : TypeId} {fs : Array Field} {α : Type} {d : Kd α} {ok : α → Prop} (ht : P.underlying t = some (.struct fs)) (hs : P.cellsOf t = d.sz) (h : OpensF P (fs.toList.map fun f => (f.type, f.offset)) 0 d ok) : Opens P t d ok := ⟨by
  intro H enc w base spare held fuel cs x hx
  obtain ⟨xs, n, _, _, hl, hlen, hf⟩ := DataW.trod_struct ht hx
  obtain ⟨a, ha, hok⟩ := h.op enc w base spare held n cs (fun f hf' => by
    obtain ⟨g, hg, rfl⟩ := List.mem_map.1 hf'
    obtain ⟨i, hi, rfl⟩ := List.mem_iff_getElem.1 hg
    have hi' : i < fs.size := by simpa using hi
    refine ⟨xs[i]'(by omega), ?_⟩
    have := hf i fs[i] (by simp [hi'])
    simp only [Array.getElem_toList]
    rw [this]
    exact List.getElem?_eq_getElem (by omega))
  refine ⟨a, ?_, hok⟩
  have e : (cs.drop 0).take d.sz = cs := by rw [List.drop_zero, ← hs, ← hl, List.take_length]
  rw [e] at ha
  exact ha⟩
theorem Opens.array {P : Program} {t e : TypeId} {n : Nat} {α : Type} {d : Kd α} {ok : α → Prop} (ht : P.underlying t = some (.array n e)) (hs : P.cellsOf t = d.sz) (h : OpensF P ((List.range n).map fun i => (e, i * P.cellsOf e)) 0 d ok) : Opens P t d ok := ⟨by
  intro H enc w base spare held fuel cs x hx
  obtain ⟨xs, m, _, _, hl, hlen, hf⟩ := DataW.trod_array ht hx
  obtain ⟨a, ha, hok⟩ := h.op enc w base spare held m cs (fun f hf' => by
    obtain ⟨i, hi, rfl⟩ := List.mem_map.1 hf'
    have hi' : i < n := by simpa using hi
    refine ⟨xs[i]'(by omega), ?_⟩
    have := hf i hi'
    show DataW.trod enc P w base spare held m e ((cs.drop (i * P.cellsOf e)).take (P.cellsOf e)) = _
    rw [this]
    exact List.getElem?_eq_getElem (by omega))
  refine ⟨a, ?_, hok⟩
  have e : (cs.drop 0).take d.sz = cs := by rw [List.drop_zero, ← hs, ← hl, List.take_length]
  rw [e] at ha
  exact ha⟩
end Go.Proofs.Ytekneicikmaplaa.Open
