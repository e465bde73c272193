/- Trimmed by a program of this session (trim.py). Not trusted: Lean checks it. -/
import Derived.Test.YtpbjbfimnfghkaaTLLoadsWWords
import Derived.Test.YtpbjbfimnfghkaaTLLoadsWApart
import Derived.Lib.AppendStr
namespace Go.Proofs.Ytpbjbfimnfghkaa.Aid
open Go.RowKit Go.Proofs.YtpbjbfimnfghkaaW.PrintWords
variable {P : Program}
theorem calls_len {f : Nat} {A : Option Addr} {n m c : Nat} {v : Value} {w : World} {Q : Ending → World → Prop} (h : n = m) (hc : Calls P f #[.slice A n c, v] w Q) : Calls P f #[.slice A m c, v] w Q := h ▸ hc
end Go.Proofs.Ytpbjbfimnfghkaa.Aid
