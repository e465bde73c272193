/- Trimmed by a program of this session (trim.py). Not trusted: Lean checks it. -/
import Derived.Lib.LaidTab
import Derived.Lib.AppendIntMem
import Derived.Test.YtnoglmdicdpabaaDoorTLDevsSteps
import Derived.Test.YtnoglmdicdpabaaDoorProg
namespace Go.Proofs.YtnoglmdicdpabaaDoor.St
open Go.RowKit Go.Proofs.YtnoglmdicdpabaaDoorW.PrintWords Go.Proofs.YtnoglmdicdpabaaDoorW.PrintLast Go.Proofs.YtnoglmdicdpabaaDoorW.PrintMore
structure LaidAll (w : World) : Prop where
 out : Lib.TabIs Tryd.prog w "internal/strconv.uint64pow10" .u64 Lib.pow10Tab
 syn : ∃ tp p, w.var? Tryd.prog "strconv.ErrSyntax" = some #[.iface tp p]
 rng : ∃ tp p, w.var? Tryd.prog "strconv.ErrRange" = some #[.iface tp p]
 max : ∃ m, w.cell? ⟨1, 0, none⟩ = some (.int .i64 m)
abbrev Laid (w : World) : Prop := LaidAll w
theorem tab_at {w : World} (h : Aside0 (Laid w)) : Lib.TabIs Tryd.prog w "internal/strconv.uint64pow10" .u64 Lib.pow10Tab := h.out.out
theorem var_keep {P : Program} {w W : World} {n : String} {cs : Array Value} (h : w.var? P n = some cs) (b : Below w.heap.size w W) : W.var? P n = some cs := by
 unfold World.var? at h ⊢
 cases e : P.globalNamed n with
 | none => rw [e] at h; cases h
 | some g =>
  simp only [e, Option.bind_some] at h ⊢
  have hg : g < w.heap.size := by
   apply Classical.byContradiction
   intro hc
   rw [Array.getElem?_eq_none (by omega)] at h
   cases h
  rw [b.block g hg]
  exact h
theorem lb {w W : World} (h : Aside0 (Laid w)) (b : Below w.heap.size w W := by exact be) : Aside0 (Laid W) := by
 obtain ⟨h1, ⟨t1, p1, h2⟩, ⟨t2, p2, h3⟩, m, h4⟩ := h.out
 exact ⟨var_keep h1 b, ⟨t1, p1, var_keep h2 b⟩, ⟨t2, p2, var_keep h3 b⟩, m, (b.cell (World.block_lt_of_cell? w _ h4)).trans h4⟩
end Go.Proofs.YtnoglmdicdpabaaDoor.St
