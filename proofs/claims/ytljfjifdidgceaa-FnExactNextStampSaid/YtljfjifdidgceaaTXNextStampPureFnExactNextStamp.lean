/- Trimmed by a program of this session (trim.py). Not trusted: Lean checks it. -/
import Derived.Test.YtljfjifdidgceaaTXNextStampPFnExactNextStampx1
import Derived.Test.YtljfjifdidgceaaTXNextStampBase
namespace Go.Proofs.Ytljfjifdidgceaa.PureFnExactNextStamp
open Go.RowKit Go.Proofs.Ytljfjifdidgceaa.PFnExactNextStamp Go.Proofs.YtljfjifdidgceaaW.PrintWords Go.Proofs.YtljfjifdidgceaaW.PrintLast Go.Proofs.YtljfjifdidgceaaW.PrintMore Go.Proofs.Ytljfjifdidgceaa.Base
set_option linter.unusedVariables false
attribute [local irreducible] Go.bits IntKind.wrap shl shr
theorem l1In_eq (x a b : Int) : spec_l1In.f x a b = some (decide (a ≤ x ∧ x ≤ b)) := by
 unfold spec_l1In.f
 by_cases h : x ≥ a
 ·rw [if_pos h]; simp [show a ≤ x from h]
 ·rw [if_neg h]; simp [show ¬ a ≤ x from h]
theorem in_eq (x a b : Int) : impl_in.f x a b = some (decide (a ≤ x ∧ x ≤ b)) := by
 unfold impl_in.f
 by_cases h : x ≥ a
 ·rw [if_pos h]; simp [show a ≤ x from h]
 ·rw [if_neg h]; simp [show ¬ a ≤ x from h]
end Go.Proofs.Ytljfjifdidgceaa.PureFnExactNextStamp
namespace Go.Proofs.Ytljfjifdidgceaa.Pure
open Go.RowKit Go.Proofs.Ytljfjifdidgceaa.PFnExactNextStamp Go.Proofs.YtljfjifdidgceaaW.PrintWords Go.Proofs.YtljfjifdidgceaaW.PrintLast Go.Proofs.YtljfjifdidgceaaW.PrintMore Go.Proofs.Ytljfjifdidgceaa.Base Go.Proofs.Ytljfjifdidgceaa.PureFnExactNextStamp
set_option linter.unusedVariables false
attribute [local irreducible] Go.bits IntKind.wrap shl shr
theorem FnExactNextStamp (a b c d e : Int) (_ : I64 a ∧ I64 b ∧ I64 c) (_ : I64 d) (_ : I64 e) : laws_FnExactNextStamp.f a b c d e = some true := by
 have hs : ∀ x y z, spec_StampOk.f x y z = impl_StampOk.f x y z ∧ ∃ t, impl_StampOk.f x y z = some t := by
  intro x y z
  unfold spec_StampOk.f impl_StampOk.f
  simp only [l1In_eq, in_eq, Option.bind_some]
  (repeat' split) <;> exact ⟨by trivial, _, rfl⟩
 obtain ⟨r, e1, e2⟩ : ∃ r : Int × Int × Int, spec_NextStamp.f a b c d e = some r ∧ impl_NextStamp.f a b c d e = some r := by
  unfold spec_NextStamp.f impl_NextStamp.f
  split
  ·obtain ⟨h1, t, h2⟩ := hs a (wrap64 (b + 1)) e
   rw [h1, h2]
   simp only [Option.bind_some]
   split <;> exact ⟨_, rfl, rfl⟩
  ·obtain ⟨h1, t, h2⟩ := hs d 0 e
   rw [h1, h2]
   simp only [Option.bind_some]
   split <;> exact ⟨_, rfl, rfl⟩
 unfold laws_FnExactNextStamp.f laws_toStamp.f
 simp only [Option.bind_some, e1, e2, laws_eqStamp.f, if_true]
end Go.Proofs.Ytljfjifdidgceaa.Pure
