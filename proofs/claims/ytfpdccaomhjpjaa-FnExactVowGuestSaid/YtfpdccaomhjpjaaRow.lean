/- A variable of many cells that is written whole: one step, one row. -/
import Derived.Test.YtfpdccaomhjpjaaWMore
import Derived.Test.YtfpdccaomhjpjaaWWords
import Derived.Laws.CopyOwn
import Derived.Laws.Tables
set_option linter.unusedVariables false
namespace Go.Proofs.Ytfpdccaomhjpjaa.Row
open Go Go.RowKit Go.Proofs.YtfpdccaomhjpjaaW.PrintWords Go.Proofs.YtfpdccaomhjpjaaW.PrintMore
theorem store_row_run {P : Program} {o : Oper} {a : Act} {W : World} {ty : TypeId} {x y : Operand} (ho : o.op = .store ty x y) {g : Nat} {cells : Array Value} (hx : a.eval x = .pointer (some ⟨g, 0, none⟩)) (hy : a.eval y = .agg cells)
    {t : TypeId} {old : Array Value} (hg : W.heap[g]? = some (.cells old t (0, 0))) (hi : (P.info? ty).map (·.size) = some cells.size) (hold : old.size = cells.size) (h1 : cells.all (·.oneCell') = true) :
    (execOp a.eval o).run P W = .ok .skip (W.setRow g cells) := by
  unfold execOp
  simp only [ho, hx, hy, Instr.storeAt, Instr.sureAddr, Sem.run_bind, Sem.run_pure, Result.andThen_ok, run_storeVar_row W g t ty old cells hg hi hold h1]
theorem load_row_run {P : Program} {o : Oper} {a : Act} {W : World} {ty : TypeId} {x : Operand} (ho : o.op = .load ty x) {g : Nat} {cells : Array Value} (hx : a.eval x = .pointer (some ⟨g, 0, none⟩))
    {t : TypeId} (hg : W.heap[g]? = some (.cells cells t (0, 0))) {d : TypeDesc} (hu : P.underlying ty = some d) (hd : (match d with | .struct _ | .array _ _ => true | _ => false) = true) (hi : (P.info? ty).map (·.size) = some cells.size) :
    (execOp a.eval o).run P W = .ok (.value (.agg cells)) W := by
  unfold execOp
  simp only [ho, hx, Instr.loadAt, Instr.sureAddr, Sem.run_bind, Sem.run_pure, Result.andThen_ok, run_loadVar_row W g t ty cells (0, 0) d hg hu hd hi]
theorem row_R {α : Type} {d : Kd α} {e base : Nat} {ok : Nat → Prop} {v : Value} {xs : List α} {W w1 : World} {g t : Nat} {old cs : Array Value} (hw : w1 = W.setRow g cs) (h : d.R e W base ok v xs) (hb : W.heap[g]? = some (.cells old t (0, 0))) (ht : ∀ q, q ∈ e :: d.E → q ≠ t) : d.R e w1 base ok v xs := by
  rw [hw]; exact Kd.R_mono (Kd.R_keep (Kd.R_types h hb ht) ⟨by simp, fun i _ h _ => setRow_other W g i cs h⟩ (fun _ hk => hk.2)) (fun _ h => h.1)
theorem keep_row (W : World) (g : Nat) (cs : Array Value) : KeepBut W (W.setRow g cs) g none := ⟨by simp, fun i _ h _ => setRow_other W g i cs h⟩
theorem row_here {W w1 : World} {g : Nat} {old cs : Array Value} {t : TypeId} (hw : w1 = W.setRow g cs) (h : W.heap[g]? = some (.cells old t (0, 0))) : w1.heap[g]? = some (.cells cs t (0, 0)) := by rw [hw]; exact setRow_heap W g old cs t (0, 0) h
theorem row_there {W w1 : World} {g k : Nat} {cs : Array Value} {x : Option Obj} (hw : w1 = W.setRow g cs) (h : W.heap[k]? = x) (hn : k ≠ g) : w1.heap[k]? = x := by rw [hw]; exact (setRow_other W g k cs hn).trans h
theorem row_below {W w0 w1 : World} {B g : Nat} {cs : Array Value} (hw : w1 = W.setRow g cs) (h : Below B w0 W) (hg : B ≤ g) : Below B w0 w1 := by rw [hw]; exact below_setRow h hg cs
end Go.Proofs.Ytfpdccaomhjpjaa.Row
