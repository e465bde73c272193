/- Trimmed by a program of this session (trim.py). Not trusted: Lean checks it. -/
import Derived.Test.YtbhllgifciaepaaTXBestWWords
import Derived.Lib.AppendStr
namespace Go.Proofs.Ytbhllgifciaepaa.Aid
open Go.RowKit Go.Proofs.YtbhllgifciaepaaW.PrintWords
variable {P : Program}
theorem store_row {v : Value} {n : Nat} (h : ∃ A c, v = .slice A n c) (w : World) (a : Addr) (m : Mode) : (store a v m).run P w = stored P w a v m := by
 obtain ⟨A, c, rfl⟩ := h
 exact run_store_slice P w a m A n c
end Go.Proofs.Ytbhllgifciaepaa.Aid
