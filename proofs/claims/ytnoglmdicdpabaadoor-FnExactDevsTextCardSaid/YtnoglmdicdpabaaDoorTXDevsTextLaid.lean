/- Trimmed by a program of this session (trim.py). Not trusted: Lean checks it. -/
import Derived.Lib.LaidTab
import Derived.Lib.AppendIntMem
import Derived.Test.YtnoglmdicdpabaaDoorTXDevsTextSteps
import Derived.Test.YtnoglmdicdpabaaDoorProg
namespace Go.Proofs.YtnoglmdicdpabaaDoor.St
open Go.RowKit Go.Proofs.YtnoglmdicdpabaaDoorW.PrintWords Go.Proofs.YtnoglmdicdpabaaDoorW.PrintLast Go.Proofs.YtnoglmdicdpabaaDoorW.PrintMore
def Laid (w : World) : Prop := Lib.TabIs Tryd.prog w "internal/strconv.uint64pow10" .u64 Lib.pow10Tab
theorem var_keep {P : Program} {w W : World} {n : String} {cs : Array Value} (h : w.var? P n = some cs) (b : Below w.heap.size w W) : W.var? P n = some cs := by
 unfold World.var? at h ⊢
 cases e : P.globalNamed n with
 | none => rw [e] at h; cases h
 | some g =>
  simp only [e, Option.bind_some] at h ⊢
  have hg : g < w.heap.size := by
   apply Classical.byContradiction
   intro hc
   rw [Array.getElem?_eq_none (by omega)] at h
   cases h
  rw [b.block g hg]
  exact h
theorem lb {w W : World} (h : Aside0 (Laid w)) (b : Below w.heap.size w W := by exact be) : Aside0 (Laid W) := ⟨var_keep h.out b⟩
end Go.Proofs.YtnoglmdicdpabaaDoor.St
