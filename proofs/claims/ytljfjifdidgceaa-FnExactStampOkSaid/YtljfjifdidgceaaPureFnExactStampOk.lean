/- The pure statement of the law FnExactStampOk: what the printed functions compute answers as the law says. -/
import Derived.Test.YtljfjifdidgceaaPFnExactStampOkx1
import Derived.Test.YtljfjifdidgceaaBase
namespace Go.Proofs.Ytljfjifdidgceaa.PureFnExactStampOk
open Go.RowKit Go.Proofs.Ytljfjifdidgceaa.PFnExactStampOk Go.Proofs.YtljfjifdidgceaaW.PrintWords Go.Proofs.YtljfjifdidgceaaW.PrintLast Go.Proofs.YtljfjifdidgceaaW.PrintMore Go.Proofs.Ytljfjifdidgceaa.Base
attribute [local irreducible] Go.bits IntKind.wrap shl shr
theorem l1In_eq (x a b : Int) : spec_l1In.f x a b = some (decide (a ≤ x ∧ x ≤ b)) := by
  unfold spec_l1In.f
  by_cases h : x ≥ a
  · rw [if_pos h]; simp [show a ≤ x from h]
  · rw [if_neg h]; simp [show ¬ a ≤ x from h]
theorem in_eq (x a b : Int) : impl_in.f x a b = some (decide (a ≤ x ∧ x ≤ b)) := by
  unfold impl_in.f
  by_cases h : x ≥ a
  · rw [if_pos h]; simp [show a ≤ x from h]
  · rw [if_neg h]; simp [show ¬ a ≤ x from h]
end Go.Proofs.Ytljfjifdidgceaa.PureFnExactStampOk
namespace Go.Proofs.Ytljfjifdidgceaa.Pure
open Go.RowKit Go.Proofs.Ytljfjifdidgceaa.PFnExactStampOk Go.Proofs.YtljfjifdidgceaaW.PrintWords Go.Proofs.YtljfjifdidgceaaW.PrintLast Go.Proofs.YtljfjifdidgceaaW.PrintMore Go.Proofs.Ytljfjifdidgceaa.Base Go.Proofs.Ytljfjifdidgceaa.PureFnExactStampOk
attribute [local irreducible] Go.bits IntKind.wrap shl shr
theorem FnExactStampOk (a b c : Int) (_ : I64 a ∧ I64 b ∧ I64 c) : laws_FnExactStampOk.f a b c = some true := by
  unfold laws_FnExactStampOk.f laws_toStamp.f spec_StampOk.f impl_StampOk.f
  simp only [l1In_eq, in_eq, Option.bind_some]
  repeat' split
  all_goals simp_all
end Go.Proofs.Ytljfjifdidgceaa.Pure
