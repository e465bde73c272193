/- Trimmed by a program of this session (trim.py). Not trusted: Lean checks it. -/
import Derived.Test.YtpbjbfimnfghkaaTLRebalancedWWords
import Derived.Test.YtpbjbfimnfghkaaTLRebalancedWApart
import Derived.Lib.AppendStr
namespace Go.Proofs.Ytpbjbfimnfghkaa.Aid
open Go.RowKit Go.Proofs.YtpbjbfimnfghkaaW.PrintWords
variable {P : Program}
theorem calls_len {f : Nat} {A : Option Addr} {n m c : Nat} {v : Value} {w : World} {Q : Ending → World → Prop} (h : n = m) (hc : Calls P f #[.slice A n c, v] w Q) : Calls P f #[.slice A m c, v] w Q := h ▸ hc
theorem cell_drew {W : World} {a : Addr} {v : Value} (h : W.cell? a = some v) : W.drew.cell? a = some v := h
theorem cell_keep {W w1 : World} {row : Option Nat} (hg : W.grownBy w1 row) {a : Addr} {v : Value} (h : W.cell? a = some v) (hne : some a.block ≠ row) : w1.cell? a = some v := hg.cell h hne
theorem typed_ne {w : World} {u v : Value} {e e' : TypeId} (h : ∀ k, u.ownBlock = some k → ∃ cells, w.heap[k]? = some (.cells cells e (0, 0))) (h' : ∀ k, v.ownBlock = some k → ∃ cells, w.heap[k]? = some (.cells cells e' (0, 0))) (hne : e ≠ e') {k : Nat} (hu : u.ownBlock = some k) (hv : v.ownBlock = some k) : False := by
 obtain ⟨c, hc⟩ := h k hu
 obtain ⟨c', hc'⟩ := h' k hv
 rw [hc] at hc'
 injection hc' with hc'
 injection hc' with _ e2
 exact hne e2
end Go.Proofs.Ytpbjbfimnfghkaa.Aid
