/- Trimmed by a program of this session (trim.py). Not trusted: Lean checks it. -/
import Derived.Test.YtljfjifdidgceaaTXNextStampWLast
import Derived.Test.YtljfjifdidgceaaTXNextStampWMore
import Derived.Laws.BitsLemmas
namespace Go.Proofs.Ytljfjifdidgceaa.Base
open Go.RowKit Go.Proofs.YtljfjifdidgceaaW.PrintWords Go.Proofs.YtljfjifdidgceaaW.PrintLast
abbrev I64 (x : Int) : Prop := (Lit.int .i64 x).wf = true
end Go.Proofs.Ytljfjifdidgceaa.Base
