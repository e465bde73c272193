/- The pure statement of the law FnExactLessStamp: what the printed functions compute answers as the law says. -/
import Derived.Test.YtljfjifdidgceaaPFnExactLessStampx1
import Derived.Test.YtljfjifdidgceaaBase
namespace Go.Proofs.Ytljfjifdidgceaa.PureFnExactLessStamp
open Go.RowKit Go.Proofs.Ytljfjifdidgceaa.PFnExactLessStamp Go.Proofs.YtljfjifdidgceaaW.PrintWords Go.Proofs.YtljfjifdidgceaaW.PrintLast Go.Proofs.YtljfjifdidgceaaW.PrintMore Go.Proofs.Ytljfjifdidgceaa.Base
attribute [local irreducible] Go.bits IntKind.wrap shl shr
end Go.Proofs.Ytljfjifdidgceaa.PureFnExactLessStamp
namespace Go.Proofs.Ytljfjifdidgceaa.Pure
open Go.RowKit Go.Proofs.Ytljfjifdidgceaa.PFnExactLessStamp Go.Proofs.YtljfjifdidgceaaW.PrintWords Go.Proofs.YtljfjifdidgceaaW.PrintLast Go.Proofs.YtljfjifdidgceaaW.PrintMore Go.Proofs.Ytljfjifdidgceaa.Base Go.Proofs.Ytljfjifdidgceaa.PureFnExactLessStamp
attribute [local irreducible] Go.bits IntKind.wrap shl shr
theorem FnExactLessStamp (a b c d e f : Int) (_ : I64 a ∧ I64 b ∧ I64 c) (_ : I64 d ∧ I64 e ∧ I64 f) : laws_FnExactLessStamp.f a b c d e f = some true := by
  unfold laws_FnExactLessStamp.f laws_toStamp.f spec_LessStamp.f impl_LessStamp.f
  simp only [Option.bind_some]
  repeat' split
  all_goals simp
end Go.Proofs.Ytljfjifdidgceaa.Pure
