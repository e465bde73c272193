/-
  No cell of these rows narrows 'for every input' (looked for: loops, veiled, ifaces, maps, wideKeys, modest, calm, conditions, laid).
  DERIVED. THE GIVEN ROWS OF THIS SEAT. 12 by the template 'for every input the law returns true; each argument reads behind the call as it read before'; 0 by the template 'total and deterministic' (their statements: YtljfjifdidgceaaTotals.lean).
  GIVEN WITH THE SEED: the statements are not yours to turn. If you find one false, say at which input.
  Laid BY PROGRAM, IN A SANDBOX (cutbox-rows.mjs): the forced cells as the released guide's own fill.sh prints them over the translation 2cbf8dd754106fbc… (all of the seat's roots in one cut). By AI agents, Wed Nov 11 2026. No macro, syntax, notation, axiom, sorry.
-/
import Derived.Test.YtljfjifdidgceaaChecked
import GoSem.Claim
import GoSem.ClaimJoined
import GoSem.ClaimMapViews
import Derived.JoinedTies
import Derived.KernelRfl
namespace Go.Proofs.Ytljfjifdidgceaa
/- THE CELL 'sum', in the pinned program and in every row, IS THE sha256 OF THE DUMP (.gsa) THAT YtljfjifdidgceaaProg.lean LOADS. Nothing in Lean hashes anything: it is a label: what it is worth is what the hold of that sum in a sandbox is worth. -/
noncomputable def Try.pinned : Pinned := { name := "ytljfjifdidgceaa", sum := "2cbf8dd754106fbce43a6b378eed5a92cbb02d973e03a6771cc3f05668e82efa", checked := Try.checked }
namespace Rows
def none {H : Type} : Left H := { results := [], args := [] }

/-- 'laws.FnExactConstants': WHATEVER THE INPUT: true; the input reads as it did. -/
def fnExactConstantsSpec : ChangeSpec := { name := "fnExactConstants", fn := fun _ => fun
  | [] => { results := [.lit (.bool true)], args := [] }
  | _ => none }
def fnExactConstantsRow : OpenClaim := { program := "ytljfjifdidgceaa", sum := "2cbf8dd754106fbce43a6b378eed5a92cbb02d973e03a6771cc3f05668e82efa", func := "loop.example/g00241/laws.FnExactConstants", spec := "fnExactConstants", apart := false }
def FnExactConstantsSaid : Prop := fnExactConstantsRow.holds Try.pinned (OpenSpec.ofChange fnExactConstantsSpec)

/-- ITS FALSE NEIGHBOUR: 'it returns false'. Refute it at one input. -/
def fnExactConstantsWrong : ChangeSpec := { name := "fnExactConstants", fn := fun _ => fun
  | [] => { results := [.lit (.bool false)], args := [] }
  | _ => none }
def FnExactConstantsWrongFalsely : Prop := fnExactConstantsRow.holds Try.pinned (OpenSpec.ofChange fnExactConstantsWrong)

/-- 'laws.FnExactUnder': WHATEVER THE INPUT: true; the input reads as it did. -/
def fnExactUnderSpec : ChangeSpec := { name := "fnExactUnder", fn := fun _ => fun
  | [d1, d2] => { results := [.lit (.bool true)], args := [d1, d2] }
  | _ => none }
def fnExactUnderRow : OpenClaim := { program := "ytljfjifdidgceaa", sum := "2cbf8dd754106fbce43a6b378eed5a92cbb02d973e03a6771cc3f05668e82efa", func := "loop.example/g00241/laws.FnExactUnder", spec := "fnExactUnder", apart := false }
def FnExactUnderSaid : Prop := fnExactUnderRow.holds Try.pinned (OpenSpec.ofChange fnExactUnderSpec)

/-- ITS FALSE NEIGHBOUR: 'it returns false'. Refute it at one input. -/
def fnExactUnderWrong : ChangeSpec := { name := "fnExactUnder", fn := fun _ => fun
  | [d1, d2] => { results := [.lit (.bool false)], args := [d1, d2] }
  | _ => none }
def FnExactUnderWrongFalsely : Prop := fnExactUnderRow.holds Try.pinned (OpenSpec.ofChange fnExactUnderWrong)

/-- 'laws.FnExactHash': WHATEVER THE INPUT: true; the input reads as it did. -/
def fnExactHashSpec : ChangeSpec := { name := "fnExactHash", fn := fun _ => fun
  | [d] => { results := [.lit (.bool true)], args := [d] }
  | _ => none }
def fnExactHashRow : OpenClaim := { program := "ytljfjifdidgceaa", sum := "2cbf8dd754106fbce43a6b378eed5a92cbb02d973e03a6771cc3f05668e82efa", func := "loop.example/g00241/laws.FnExactHash", spec := "fnExactHash", apart := false }
def FnExactHashSaid : Prop := fnExactHashRow.holds Try.pinned (OpenSpec.ofChange fnExactHashSpec)

/-- ITS FALSE NEIGHBOUR: 'it returns false'. Refute it at one input. -/
def fnExactHashWrong : ChangeSpec := { name := "fnExactHash", fn := fun _ => fun
  | [d] => { results := [.lit (.bool false)], args := [d] }
  | _ => none }
def FnExactHashWrongFalsely : Prop := fnExactHashRow.holds Try.pinned (OpenSpec.ofChange fnExactHashWrong)

/-- 'laws.FnExactStampOk': WHATEVER THE INPUT: true; the input reads as it did. -/
def fnExactStampOkSpec : ChangeSpec := { name := "fnExactStampOk", fn := fun _ => fun
  | [d] => { results := [.lit (.bool true)], args := [d] }
  | _ => none }
def fnExactStampOkRow : OpenClaim := { program := "ytljfjifdidgceaa", sum := "2cbf8dd754106fbce43a6b378eed5a92cbb02d973e03a6771cc3f05668e82efa", func := "loop.example/g00241/laws.FnExactStampOk", spec := "fnExactStampOk", apart := false }
def FnExactStampOkSaid : Prop := fnExactStampOkRow.holds Try.pinned (OpenSpec.ofChange fnExactStampOkSpec)

/-- ITS FALSE NEIGHBOUR: 'it returns false'. Refute it at one input. -/
def fnExactStampOkWrong : ChangeSpec := { name := "fnExactStampOk", fn := fun _ => fun
  | [d] => { results := [.lit (.bool false)], args := [d] }
  | _ => none }
def FnExactStampOkWrongFalsely : Prop := fnExactStampOkRow.holds Try.pinned (OpenSpec.ofChange fnExactStampOkWrong)

/-- 'laws.FnExactNameOk': WHATEVER THE INPUT: true; the input reads as it did. -/
def fnExactNameOkSpec : ChangeSpec := { name := "fnExactNameOk", fn := fun _ => fun
  | [d] => { results := [.lit (.bool true)], args := [d] }
  | _ => none }
def fnExactNameOkRow : OpenClaim := { program := "ytljfjifdidgceaa", sum := "2cbf8dd754106fbce43a6b378eed5a92cbb02d973e03a6771cc3f05668e82efa", func := "loop.example/g00241/laws.FnExactNameOk", spec := "fnExactNameOk", apart := false }
def FnExactNameOkSaid : Prop := fnExactNameOkRow.holds Try.pinned (OpenSpec.ofChange fnExactNameOkSpec)

/-- ITS FALSE NEIGHBOUR: 'it returns false'. Refute it at one input. -/
def fnExactNameOkWrong : ChangeSpec := { name := "fnExactNameOk", fn := fun _ => fun
  | [d] => { results := [.lit (.bool false)], args := [d] }
  | _ => none }
def FnExactNameOkWrongFalsely : Prop := fnExactNameOkRow.holds Try.pinned (OpenSpec.ofChange fnExactNameOkWrong)

/-- 'laws.FnExactLessStamp': WHATEVER THE INPUT: true; the input reads as it did. -/
def fnExactLessStampSpec : ChangeSpec := { name := "fnExactLessStamp", fn := fun _ => fun
  | [d1, d2] => { results := [.lit (.bool true)], args := [d1, d2] }
  | _ => none }
def fnExactLessStampRow : OpenClaim := { program := "ytljfjifdidgceaa", sum := "2cbf8dd754106fbce43a6b378eed5a92cbb02d973e03a6771cc3f05668e82efa", func := "loop.example/g00241/laws.FnExactLessStamp", spec := "fnExactLessStamp", apart := false }
def FnExactLessStampSaid : Prop := fnExactLessStampRow.holds Try.pinned (OpenSpec.ofChange fnExactLessStampSpec)

/-- ITS FALSE NEIGHBOUR: 'it returns false'. Refute it at one input. -/
def fnExactLessStampWrong : ChangeSpec := { name := "fnExactLessStamp", fn := fun _ => fun
  | [d1, d2] => { results := [.lit (.bool false)], args := [d1, d2] }
  | _ => none }
def FnExactLessStampWrongFalsely : Prop := fnExactLessStampRow.holds Try.pinned (OpenSpec.ofChange fnExactLessStampWrong)

/-- 'laws.FnExactPartOf': WHATEVER THE INPUT: true; the input reads as it did. -/
def fnExactPartOfSpec : ChangeSpec := { name := "fnExactPartOf", fn := fun _ => fun
  | [d1, d2] => { results := [.lit (.bool true)], args := [d1, d2] }
  | _ => none }
def fnExactPartOfRow : OpenClaim := { program := "ytljfjifdidgceaa", sum := "2cbf8dd754106fbce43a6b378eed5a92cbb02d973e03a6771cc3f05668e82efa", func := "loop.example/g00241/laws.FnExactPartOf", spec := "fnExactPartOf", apart := false }
def FnExactPartOfSaid : Prop := fnExactPartOfRow.holds Try.pinned (OpenSpec.ofChange fnExactPartOfSpec)

/-- ITS FALSE NEIGHBOUR: 'it returns false'. Refute it at one input. -/
def fnExactPartOfWrong : ChangeSpec := { name := "fnExactPartOf", fn := fun _ => fun
  | [d1, d2] => { results := [.lit (.bool false)], args := [d1, d2] }
  | _ => none }
def FnExactPartOfWrongFalsely : Prop := fnExactPartOfRow.holds Try.pinned (OpenSpec.ofChange fnExactPartOfWrong)

/-- 'laws.FnExactCrc': WHATEVER THE INPUT: true; the input reads as it did. -/
def fnExactCrcSpec : ChangeSpec := { name := "fnExactCrc", fn := fun _ => fun
  | [d] => { results := [.lit (.bool true)], args := [d] }
  | _ => none }
def fnExactCrcRow : OpenClaim := { program := "ytljfjifdidgceaa", sum := "2cbf8dd754106fbce43a6b378eed5a92cbb02d973e03a6771cc3f05668e82efa", func := "loop.example/g00241/laws.FnExactCrc", spec := "fnExactCrc", apart := false }
def FnExactCrcSaid : Prop := fnExactCrcRow.holds Try.pinned (OpenSpec.ofChange fnExactCrcSpec)

/-- ITS FALSE NEIGHBOUR: 'it returns false'. Refute it at one input. -/
def fnExactCrcWrong : ChangeSpec := { name := "fnExactCrc", fn := fun _ => fun
  | [d] => { results := [.lit (.bool false)], args := [d] }
  | _ => none }
def FnExactCrcWrongFalsely : Prop := fnExactCrcRow.holds Try.pinned (OpenSpec.ofChange fnExactCrcWrong)

/-- 'laws.FnExactNextStamp': WHATEVER THE INPUT: true; the input reads as it did. -/
def fnExactNextStampSpec : ChangeSpec := { name := "fnExactNextStamp", fn := fun _ => fun
  | [d1, d2, d3] => { results := [.lit (.bool true)], args := [d1, d2, d3] }
  | _ => none }
def fnExactNextStampRow : OpenClaim := { program := "ytljfjifdidgceaa", sum := "2cbf8dd754106fbce43a6b378eed5a92cbb02d973e03a6771cc3f05668e82efa", func := "loop.example/g00241/laws.FnExactNextStamp", spec := "fnExactNextStamp", apart := false }
def FnExactNextStampSaid : Prop := fnExactNextStampRow.holds Try.pinned (OpenSpec.ofChange fnExactNextStampSpec)

/-- ITS FALSE NEIGHBOUR: 'it returns false'. Refute it at one input. -/
def fnExactNextStampWrong : ChangeSpec := { name := "fnExactNextStamp", fn := fun _ => fun
  | [d1, d2, d3] => { results := [.lit (.bool false)], args := [d1, d2, d3] }
  | _ => none }
def FnExactNextStampWrongFalsely : Prop := fnExactNextStampRow.holds Try.pinned (OpenSpec.ofChange fnExactNextStampWrong)

/-- 'laws.FnExactGetNum': WHATEVER THE INPUT: true; the input reads as it did. -/
def fnExactGetNumSpec : ChangeSpec := { name := "fnExactGetNum", fn := fun _ => fun
  | [d1, d2] => { results := [.lit (.bool true)], args := [d1, d2] }
  | _ => none }
def fnExactGetNumRow : OpenClaim := { program := "ytljfjifdidgceaa", sum := "2cbf8dd754106fbce43a6b378eed5a92cbb02d973e03a6771cc3f05668e82efa", func := "loop.example/g00241/laws.FnExactGetNum", spec := "fnExactGetNum", apart := false }
def FnExactGetNumSaid : Prop := fnExactGetNumRow.holds Try.pinned (OpenSpec.ofChange fnExactGetNumSpec)

/-- ITS FALSE NEIGHBOUR: 'it returns false'. Refute it at one input. -/
def fnExactGetNumWrong : ChangeSpec := { name := "fnExactGetNum", fn := fun _ => fun
  | [d1, d2] => { results := [.lit (.bool false)], args := [d1, d2] }
  | _ => none }
def FnExactGetNumWrongFalsely : Prop := fnExactGetNumRow.holds Try.pinned (OpenSpec.ofChange fnExactGetNumWrong)

/-- 'laws.FnExactPutNum': WHATEVER THE INPUT: true; the input reads as it did. -/
def fnExactPutNumSpec : ChangeSpec := { name := "fnExactPutNum", fn := fun _ => fun
  | [d1, d2] => { results := [.lit (.bool true)], args := [d1, d2] }
  | _ => none }
def fnExactPutNumRow : OpenClaim := { program := "ytljfjifdidgceaa", sum := "2cbf8dd754106fbce43a6b378eed5a92cbb02d973e03a6771cc3f05668e82efa", func := "loop.example/g00241/laws.FnExactPutNum", spec := "fnExactPutNum", apart := false }
def FnExactPutNumSaid : Prop := fnExactPutNumRow.holds Try.pinned (OpenSpec.ofChange fnExactPutNumSpec)

/-- ITS FALSE NEIGHBOUR: 'it returns false'. Refute it at one input. -/
def fnExactPutNumWrong : ChangeSpec := { name := "fnExactPutNum", fn := fun _ => fun
  | [d1, d2] => { results := [.lit (.bool false)], args := [d1, d2] }
  | _ => none }
def FnExactPutNumWrongFalsely : Prop := fnExactPutNumRow.holds Try.pinned (OpenSpec.ofChange fnExactPutNumWrong)

/-- 'laws.FnExactDevAt': WHATEVER THE INPUT: true; the input reads as it did. -/
def fnExactDevAtSpec : ChangeSpec := { name := "fnExactDevAt", fn := fun _ => fun
  | [d1, d2] => { results := [.lit (.bool true)], args := [d1, d2] }
  | _ => none }
def fnExactDevAtRow : OpenClaim := { program := "ytljfjifdidgceaa", sum := "2cbf8dd754106fbce43a6b378eed5a92cbb02d973e03a6771cc3f05668e82efa", func := "loop.example/g00241/laws.FnExactDevAt", spec := "fnExactDevAt", apart := false }
def FnExactDevAtSaid : Prop := fnExactDevAtRow.holds Try.pinned (OpenSpec.ofChange fnExactDevAtSpec)

/-- ITS FALSE NEIGHBOUR: 'it returns false'. Refute it at one input. -/
def fnExactDevAtWrong : ChangeSpec := { name := "fnExactDevAt", fn := fun _ => fun
  | [d1, d2] => { results := [.lit (.bool false)], args := [d1, d2] }
  | _ => none }
def FnExactDevAtWrongFalsely : Prop := fnExactDevAtRow.holds Try.pinned (OpenSpec.ofChange fnExactDevAtWrong)

/- THE SECOND FORM. 'bulk': how many values and letters a reading holds, each counted each time it is reached (what is shared counts as often as it is met; a slice's spare places count too). A statement '..UptoSaid' is the law's where the arguments, and the package variables that the reading takes, are together of bulk at most 1048576: NARROWER than '..Said'. Prove '..Said' where nothing that the law and all that it calls make is longer than what came in: it says more and counts as full. Else prove '..UptoSaid'. A law counts once. -/
mutual
def uptoBulk {H : Type} : DataW H → Nat
  | .lit (.string bytes) => bytes.length + 1
  | .lit _ => 1
  | .nil => 1
  | .ptr d => uptoBulk d + 1
  | .slice elems spare => uptoBulkAll elems + uptoBulkAll spare + 1
  | .agg parts => uptoBulkAll parts + 1
  | .iface _ d => uptoBulk d + 1
  | .map entries => uptoBulkEntries entries + 1
  | .held _ => 1
def uptoBulkAll {H : Type} : List (DataW H) → Nat
  | [] => 0
  | d :: r => uptoBulk d + uptoBulkAll r
def uptoBulkEntries {H : Type} : List (Lit × DataW H) → Nat
  | [] => 0
  | x :: r => uptoBulkEntry x + uptoBulkEntries r
def uptoBulkEntry {H : Type} : Lit × DataW H → Nat
  | (.string bytes, d) => bytes.length + uptoBulk d + 1
  | (_, d) => uptoBulk d + 1
 end
def uptoSmall : (H : Type) → List (DataW H) → Bool := fun _ ds => decide (uptoBulkAll ds ≤ 1048576)
def OpenSpec.upto (s : _root_.Go.ChangeSpec) : _root_.Go.OpenSpec := { _root_.Go.OpenSpec.ofChange s with cond := some uptoSmall }

/-- 'laws.FnExactConstants', WHERE WHAT IT READS IS OF BULK AT MOST 1048576: true; the input reads as it did. -/
def fnExactConstantsUptoRow : OpenClaim := { program := "ytljfjifdidgceaa", sum := "2cbf8dd754106fbce43a6b378eed5a92cbb02d973e03a6771cc3f05668e82efa", func := "loop.example/g00241/laws.FnExactConstants", spec := "fnExactConstants", apart := false, narrowed := true }
def FnExactConstantsUptoSaid : Prop := fnExactConstantsUptoRow.holds Try.pinned (OpenSpec.upto fnExactConstantsSpec)

/-- 'laws.FnExactUnder', WHERE WHAT IT READS IS OF BULK AT MOST 1048576: true; the input reads as it did. -/
def fnExactUnderUptoRow : OpenClaim := { program := "ytljfjifdidgceaa", sum := "2cbf8dd754106fbce43a6b378eed5a92cbb02d973e03a6771cc3f05668e82efa", func := "loop.example/g00241/laws.FnExactUnder", spec := "fnExactUnder", apart := false, narrowed := true }
def FnExactUnderUptoSaid : Prop := fnExactUnderUptoRow.holds Try.pinned (OpenSpec.upto fnExactUnderSpec)

/-- 'laws.FnExactHash', WHERE WHAT IT READS IS OF BULK AT MOST 1048576: true; the input reads as it did. -/
def fnExactHashUptoRow : OpenClaim := { program := "ytljfjifdidgceaa", sum := "2cbf8dd754106fbce43a6b378eed5a92cbb02d973e03a6771cc3f05668e82efa", func := "loop.example/g00241/laws.FnExactHash", spec := "fnExactHash", apart := false, narrowed := true }
def FnExactHashUptoSaid : Prop := fnExactHashUptoRow.holds Try.pinned (OpenSpec.upto fnExactHashSpec)

/-- 'laws.FnExactStampOk', WHERE WHAT IT READS IS OF BULK AT MOST 1048576: true; the input reads as it did. -/
def fnExactStampOkUptoRow : OpenClaim := { program := "ytljfjifdidgceaa", sum := "2cbf8dd754106fbce43a6b378eed5a92cbb02d973e03a6771cc3f05668e82efa", func := "loop.example/g00241/laws.FnExactStampOk", spec := "fnExactStampOk", apart := false, narrowed := true }
def FnExactStampOkUptoSaid : Prop := fnExactStampOkUptoRow.holds Try.pinned (OpenSpec.upto fnExactStampOkSpec)

/-- 'laws.FnExactNameOk', WHERE WHAT IT READS IS OF BULK AT MOST 1048576: true; the input reads as it did. -/
def fnExactNameOkUptoRow : OpenClaim := { program := "ytljfjifdidgceaa", sum := "2cbf8dd754106fbce43a6b378eed5a92cbb02d973e03a6771cc3f05668e82efa", func := "loop.example/g00241/laws.FnExactNameOk", spec := "fnExactNameOk", apart := false, narrowed := true }
def FnExactNameOkUptoSaid : Prop := fnExactNameOkUptoRow.holds Try.pinned (OpenSpec.upto fnExactNameOkSpec)

/-- 'laws.FnExactLessStamp', WHERE WHAT IT READS IS OF BULK AT MOST 1048576: true; the input reads as it did. -/
def fnExactLessStampUptoRow : OpenClaim := { program := "ytljfjifdidgceaa", sum := "2cbf8dd754106fbce43a6b378eed5a92cbb02d973e03a6771cc3f05668e82efa", func := "loop.example/g00241/laws.FnExactLessStamp", spec := "fnExactLessStamp", apart := false, narrowed := true }
def FnExactLessStampUptoSaid : Prop := fnExactLessStampUptoRow.holds Try.pinned (OpenSpec.upto fnExactLessStampSpec)

/-- 'laws.FnExactPartOf', WHERE WHAT IT READS IS OF BULK AT MOST 1048576: true; the input reads as it did. -/
def fnExactPartOfUptoRow : OpenClaim := { program := "ytljfjifdidgceaa", sum := "2cbf8dd754106fbce43a6b378eed5a92cbb02d973e03a6771cc3f05668e82efa", func := "loop.example/g00241/laws.FnExactPartOf", spec := "fnExactPartOf", apart := false, narrowed := true }
def FnExactPartOfUptoSaid : Prop := fnExactPartOfUptoRow.holds Try.pinned (OpenSpec.upto fnExactPartOfSpec)

/-- 'laws.FnExactCrc', WHERE WHAT IT READS IS OF BULK AT MOST 1048576: true; the input reads as it did. -/
def fnExactCrcUptoRow : OpenClaim := { program := "ytljfjifdidgceaa", sum := "2cbf8dd754106fbce43a6b378eed5a92cbb02d973e03a6771cc3f05668e82efa", func := "loop.example/g00241/laws.FnExactCrc", spec := "fnExactCrc", apart := false, narrowed := true }
def FnExactCrcUptoSaid : Prop := fnExactCrcUptoRow.holds Try.pinned (OpenSpec.upto fnExactCrcSpec)

/-- 'laws.FnExactNextStamp', WHERE WHAT IT READS IS OF BULK AT MOST 1048576: true; the input reads as it did. -/
def fnExactNextStampUptoRow : OpenClaim := { program := "ytljfjifdidgceaa", sum := "2cbf8dd754106fbce43a6b378eed5a92cbb02d973e03a6771cc3f05668e82efa", func := "loop.example/g00241/laws.FnExactNextStamp", spec := "fnExactNextStamp", apart := false, narrowed := true }
def FnExactNextStampUptoSaid : Prop := fnExactNextStampUptoRow.holds Try.pinned (OpenSpec.upto fnExactNextStampSpec)

/-- 'laws.FnExactGetNum', WHERE WHAT IT READS IS OF BULK AT MOST 1048576: true; the input reads as it did. -/
def fnExactGetNumUptoRow : OpenClaim := { program := "ytljfjifdidgceaa", sum := "2cbf8dd754106fbce43a6b378eed5a92cbb02d973e03a6771cc3f05668e82efa", func := "loop.example/g00241/laws.FnExactGetNum", spec := "fnExactGetNum", apart := false, narrowed := true }
def FnExactGetNumUptoSaid : Prop := fnExactGetNumUptoRow.holds Try.pinned (OpenSpec.upto fnExactGetNumSpec)

/-- 'laws.FnExactPutNum', WHERE WHAT IT READS IS OF BULK AT MOST 1048576: true; the input reads as it did. -/
def fnExactPutNumUptoRow : OpenClaim := { program := "ytljfjifdidgceaa", sum := "2cbf8dd754106fbce43a6b378eed5a92cbb02d973e03a6771cc3f05668e82efa", func := "loop.example/g00241/laws.FnExactPutNum", spec := "fnExactPutNum", apart := false, narrowed := true }
def FnExactPutNumUptoSaid : Prop := fnExactPutNumUptoRow.holds Try.pinned (OpenSpec.upto fnExactPutNumSpec)

/-- 'laws.FnExactDevAt', WHERE WHAT IT READS IS OF BULK AT MOST 1048576: true; the input reads as it did. -/
def fnExactDevAtUptoRow : OpenClaim := { program := "ytljfjifdidgceaa", sum := "2cbf8dd754106fbce43a6b378eed5a92cbb02d973e03a6771cc3f05668e82efa", func := "loop.example/g00241/laws.FnExactDevAt", spec := "fnExactDevAt", apart := false, narrowed := true }
def FnExactDevAtUptoSaid : Prop := fnExactDevAtUptoRow.holds Try.pinned (OpenSpec.upto fnExactDevAtSpec)

end Rows
end Go.Proofs.Ytljfjifdidgceaa
