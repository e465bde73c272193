/- The pure statement of the law FnExactUnder: what the printed functions compute answers as the law says. -/
import Derived.Test.YtljfjifdidgceaaPFnExactUnderx1
import Derived.Test.YtljfjifdidgceaaBase
namespace Go.Proofs.Ytljfjifdidgceaa.PureFnExactUnder
open Go.RowKit Go.Proofs.Ytljfjifdidgceaa.PFnExactUnder Go.Proofs.YtljfjifdidgceaaW.PrintWords Go.Proofs.YtljfjifdidgceaaW.PrintLast Go.Proofs.YtljfjifdidgceaaW.PrintMore Go.Proofs.Ytljfjifdidgceaa.Base
end Go.Proofs.Ytljfjifdidgceaa.PureFnExactUnder
namespace Go.Proofs.Ytljfjifdidgceaa.Pure
open Go.RowKit Go.Proofs.Ytljfjifdidgceaa.PFnExactUnder Go.Proofs.YtljfjifdidgceaaW.PrintWords Go.Proofs.YtljfjifdidgceaaW.PrintLast Go.Proofs.YtljfjifdidgceaaW.PrintMore Go.Proofs.Ytljfjifdidgceaa.Base Go.Proofs.Ytljfjifdidgceaa.PureFnExactUnder
theorem FnExactUnder : laws_FnExactUnder.Pure := by
  intro a b ha hb
  unfold laws_FnExactUnder.f impl_Under.f strings_HasPrefix.f stringslite_HasPrefix.f spec_Under.f
  by_cases h1 : (a.size : Int) > 1048576
  · rw [if_pos h1]
  rw [if_neg h1]
  by_cases h2 : (b.size : Int) > 1048576
  · rw [if_pos h2]
  rw [if_neg h2]
  by_cases h3 : (a.size : Int) ≥ (b.size : Int)
  · rw [if_pos h3, if_pos (by omega), if_pos (by omega)]
    simp
  · rw [if_neg h3]
    simp
end Go.Proofs.Ytljfjifdidgceaa.Pure
