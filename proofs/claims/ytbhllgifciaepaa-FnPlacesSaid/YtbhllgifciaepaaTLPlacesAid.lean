/- Trimmed by a program of this session (trim.py). Not trusted: Lean checks it. -/
import Derived.Test.YtbhllgifciaepaaTLPlacesWWords
import Derived.Lib.AppendStr
namespace Go.Proofs.Ytbhllgifciaepaa.Aid
open Go.RowKit Go.Proofs.YtbhllgifciaepaaW.PrintWords
variable {P : Program}
theorem calls_len {f : Nat} {A : Option Addr} {n m c : Nat} {v : Value} {w : World} {Q : Ending → World → Prop} (h : n = m) (hc : Calls P f #[.slice A n c, v] w Q) : Calls P f #[.slice A m c, v] w Q := h ▸ hc
end Go.Proofs.Ytbhllgifciaepaa.Aid
