/-
  No cell of these rows narrows 'for every input' (looked for: loops, veiled, ifaces, maps, wideKeys, modest, calm, conditions, laid).
  DERIVED. THE GIVEN ROWS OF THIS SEAT. 12 by the template 'for every input the law returns true; each argument reads behind the call as it read before'; 0 by the template 'total and deterministic' (their statements: YtafmhffapmejpaaTotals.lean).
  GIVEN WITH THE SEED: the statements are not yours to turn. If you find one false, say at which input.
  Laid BY PROGRAM, IN A SANDBOX (cutbox-rows.mjs): the forced cells as the released guide's own fill.sh prints them over the translation 7c2f9f7885740da2… (all of the seat's roots in one cut). By AI agents, Wed Nov 11 2026. No macro, syntax, notation, axiom, sorry.
-/
import Derived.Test.YtafmhffapmejpaaChecked
import GoSem.Claim
import GoSem.ClaimJoined
import GoSem.ClaimMapViews
import Derived.JoinedTies
import Derived.KernelRfl
namespace Go.Proofs.Ytafmhffapmejpaa
/- THE CELL 'sum', in the pinned program and in every row, IS THE sha256 OF THE DUMP (.gsa) THAT YtafmhffapmejpaaProg.lean LOADS. Nothing in Lean hashes anything: it is a label: what it is worth is what the hold of that sum in a sandbox is worth. -/
noncomputable def Try.pinned : Pinned := { name := "ytafmhffapmejpaa", sum := "7c2f9f7885740da2441bee1e3da268cdb92410ebd1b169c7a131898c1499f134", checked := Try.checked }
namespace Rows
def none {H : Type} : Left H := { results := [], args := [] }

/-- 'laws.FnExactPutText': WHATEVER THE INPUT: true; the input reads as it did. -/
def fnExactPutTextSpec : ChangeSpec := { name := "fnExactPutText", fn := fun _ => fun
  | [d1, d2] => { results := [.lit (.bool true)], args := [d1, d2] }
  | _ => none }
def fnExactPutTextRow : OpenClaim := { program := "ytafmhffapmejpaa", sum := "7c2f9f7885740da2441bee1e3da268cdb92410ebd1b169c7a131898c1499f134", func := "loop.example/g00241/laws.FnExactPutText", spec := "fnExactPutText", apart := false }
def FnExactPutTextSaid : Prop := fnExactPutTextRow.holds Try.pinned (OpenSpec.ofChange fnExactPutTextSpec)

/-- ITS FALSE NEIGHBOUR: 'it returns false'. Refute it at one input. -/
def fnExactPutTextWrong : ChangeSpec := { name := "fnExactPutText", fn := fun _ => fun
  | [d1, d2] => { results := [.lit (.bool false)], args := [d1, d2] }
  | _ => none }
def FnExactPutTextWrongFalsely : Prop := fnExactPutTextRow.holds Try.pinned (OpenSpec.ofChange fnExactPutTextWrong)

/-- 'laws.FnExactGetText': WHATEVER THE INPUT: true; the input reads as it did. -/
def fnExactGetTextSpec : ChangeSpec := { name := "fnExactGetText", fn := fun _ => fun
  | [d1, d2] => { results := [.lit (.bool true)], args := [d1, d2] }
  | _ => none }
def fnExactGetTextRow : OpenClaim := { program := "ytafmhffapmejpaa", sum := "7c2f9f7885740da2441bee1e3da268cdb92410ebd1b169c7a131898c1499f134", func := "loop.example/g00241/laws.FnExactGetText", spec := "fnExactGetText", apart := false }
def FnExactGetTextSaid : Prop := fnExactGetTextRow.holds Try.pinned (OpenSpec.ofChange fnExactGetTextSpec)

/-- ITS FALSE NEIGHBOUR: 'it returns false'. Refute it at one input. -/
def fnExactGetTextWrong : ChangeSpec := { name := "fnExactGetText", fn := fun _ => fun
  | [d1, d2] => { results := [.lit (.bool false)], args := [d1, d2] }
  | _ => none }
def FnExactGetTextWrongFalsely : Prop := fnExactGetTextRow.holds Try.pinned (OpenSpec.ofChange fnExactGetTextWrong)

/-- 'laws.FnBeginnings': WHATEVER THE INPUT: true; the input reads as it did. -/
def fnBeginningsSpec : ChangeSpec := { name := "fnBeginnings", fn := fun _ => fun
  | [d] => { results := [.lit (.bool true)], args := [d] }
  | _ => none }
def fnBeginningsRow : OpenClaim := { program := "ytafmhffapmejpaa", sum := "7c2f9f7885740da2441bee1e3da268cdb92410ebd1b169c7a131898c1499f134", func := "loop.example/g00241/laws.FnBeginnings", spec := "fnBeginnings", apart := false }
def FnBeginningsSaid : Prop := fnBeginningsRow.holds Try.pinned (OpenSpec.ofChange fnBeginningsSpec)

/-- ITS FALSE NEIGHBOUR: 'it returns false'. Refute it at one input. -/
def fnBeginningsWrong : ChangeSpec := { name := "fnBeginnings", fn := fun _ => fun
  | [d] => { results := [.lit (.bool false)], args := [d] }
  | _ => none }
def FnBeginningsWrongFalsely : Prop := fnBeginningsRow.holds Try.pinned (OpenSpec.ofChange fnBeginningsWrong)

/-- 'laws.FnExactDevsOk': WHATEVER THE INPUT: true; the input reads as it did. -/
def fnExactDevsOkSpec : ChangeSpec := { name := "fnExactDevsOk", fn := fun _ => fun
  | [d] => { results := [.lit (.bool true)], args := [d] }
  | _ => none }
def fnExactDevsOkRow : OpenClaim := { program := "ytafmhffapmejpaa", sum := "7c2f9f7885740da2441bee1e3da268cdb92410ebd1b169c7a131898c1499f134", func := "loop.example/g00241/laws.FnExactDevsOk", spec := "fnExactDevsOk", apart := false }
def FnExactDevsOkSaid : Prop := fnExactDevsOkRow.holds Try.pinned (OpenSpec.ofChange fnExactDevsOkSpec)

/-- ITS FALSE NEIGHBOUR: 'it returns false'. Refute it at one input. -/
def fnExactDevsOkWrong : ChangeSpec := { name := "fnExactDevsOk", fn := fun _ => fun
  | [d] => { results := [.lit (.bool false)], args := [d] }
  | _ => none }
def FnExactDevsOkWrongFalsely : Prop := fnExactDevsOkRow.holds Try.pinned (OpenSpec.ofChange fnExactDevsOkWrong)

/-- 'laws.FnNums': WHATEVER THE INPUT: true; the input reads as it did. -/
def fnNumsSpec : ChangeSpec := { name := "fnNums", fn := fun _ => fun
  | [d] => { results := [.lit (.bool true)], args := [d] }
  | _ => none }
def fnNumsRow : OpenClaim := { program := "ytafmhffapmejpaa", sum := "7c2f9f7885740da2441bee1e3da268cdb92410ebd1b169c7a131898c1499f134", func := "loop.example/g00241/laws.FnNums", spec := "fnNums", apart := false }
def FnNumsSaid : Prop := fnNumsRow.holds Try.pinned (OpenSpec.ofChange fnNumsSpec)

/-- ITS FALSE NEIGHBOUR: 'it returns false'. Refute it at one input. -/
def fnNumsWrong : ChangeSpec := { name := "fnNums", fn := fun _ => fun
  | [d] => { results := [.lit (.bool false)], args := [d] }
  | _ => none }
def FnNumsWrongFalsely : Prop := fnNumsRow.holds Try.pinned (OpenSpec.ofChange fnNumsWrong)

/-- 'laws.FnExactLatestStamp': WHATEVER THE INPUT: true; the input reads as it did. -/
def fnExactLatestStampSpec : ChangeSpec := { name := "fnExactLatestStamp", fn := fun _ => fun
  | [d] => { results := [.lit (.bool true)], args := [d] }
  | _ => none }
def fnExactLatestStampRow : OpenClaim := { program := "ytafmhffapmejpaa", sum := "7c2f9f7885740da2441bee1e3da268cdb92410ebd1b169c7a131898c1499f134", func := "loop.example/g00241/laws.FnExactLatestStamp", spec := "fnExactLatestStamp", apart := false }
def FnExactLatestStampSaid : Prop := fnExactLatestStampRow.holds Try.pinned (OpenSpec.ofChange fnExactLatestStampSpec)

/-- ITS FALSE NEIGHBOUR: 'it returns false'. Refute it at one input. -/
def fnExactLatestStampWrong : ChangeSpec := { name := "fnExactLatestStamp", fn := fun _ => fun
  | [d] => { results := [.lit (.bool false)], args := [d] }
  | _ => none }
def FnExactLatestStampWrongFalsely : Prop := fnExactLatestStampRow.holds Try.pinned (OpenSpec.ofChange fnExactLatestStampWrong)

/-- 'laws.FnExactFileOk': WHATEVER THE INPUT: true; the input reads as it did. -/
def fnExactFileOkSpec : ChangeSpec := { name := "fnExactFileOk", fn := fun _ => fun
  | [d] => { results := [.lit (.bool true)], args := [d] }
  | _ => none }
def fnExactFileOkRow : OpenClaim := { program := "ytafmhffapmejpaa", sum := "7c2f9f7885740da2441bee1e3da268cdb92410ebd1b169c7a131898c1499f134", func := "loop.example/g00241/laws.FnExactFileOk", spec := "fnExactFileOk", apart := false }
def FnExactFileOkSaid : Prop := fnExactFileOkRow.holds Try.pinned (OpenSpec.ofChange fnExactFileOkSpec)

/-- ITS FALSE NEIGHBOUR: 'it returns false'. Refute it at one input. -/
def fnExactFileOkWrong : ChangeSpec := { name := "fnExactFileOk", fn := fun _ => fun
  | [d] => { results := [.lit (.bool false)], args := [d] }
  | _ => none }
def FnExactFileOkWrongFalsely : Prop := fnExactFileOkRow.holds Try.pinned (OpenSpec.ofChange fnExactFileOkWrong)

/-- 'laws.FnExactNewer': WHATEVER THE INPUT: true; the input reads as it did. -/
def fnExactNewerSpec : ChangeSpec := { name := "fnExactNewer", fn := fun _ => fun
  | [d1, d2] => { results := [.lit (.bool true)], args := [d1, d2] }
  | _ => none }
def fnExactNewerRow : OpenClaim := { program := "ytafmhffapmejpaa", sum := "7c2f9f7885740da2441bee1e3da268cdb92410ebd1b169c7a131898c1499f134", func := "loop.example/g00241/laws.FnExactNewer", spec := "fnExactNewer", apart := false }
def FnExactNewerSaid : Prop := fnExactNewerRow.holds Try.pinned (OpenSpec.ofChange fnExactNewerSpec)

/-- ITS FALSE NEIGHBOUR: 'it returns false'. Refute it at one input. -/
def fnExactNewerWrong : ChangeSpec := { name := "fnExactNewer", fn := fun _ => fun
  | [d1, d2] => { results := [.lit (.bool false)], args := [d1, d2] }
  | _ => none }
def FnExactNewerWrongFalsely : Prop := fnExactNewerRow.holds Try.pinned (OpenSpec.ofChange fnExactNewerWrong)

/-- 'laws.FnExactSumOf': WHATEVER THE INPUT: true; the input reads as it did. -/
def fnExactSumOfSpec : ChangeSpec := { name := "fnExactSumOf", fn := fun _ => fun
  | [d] => { results := [.lit (.bool true)], args := [d] }
  | _ => none }
def fnExactSumOfRow : OpenClaim := { program := "ytafmhffapmejpaa", sum := "7c2f9f7885740da2441bee1e3da268cdb92410ebd1b169c7a131898c1499f134", func := "loop.example/g00241/laws.FnExactSumOf", spec := "fnExactSumOf", apart := false }
def FnExactSumOfSaid : Prop := fnExactSumOfRow.holds Try.pinned (OpenSpec.ofChange fnExactSumOfSpec)

/-- ITS FALSE NEIGHBOUR: 'it returns false'. Refute it at one input. -/
def fnExactSumOfWrong : ChangeSpec := { name := "fnExactSumOf", fn := fun _ => fun
  | [d] => { results := [.lit (.bool false)], args := [d] }
  | _ => none }
def FnExactSumOfWrongFalsely : Prop := fnExactSumOfRow.holds Try.pinned (OpenSpec.ofChange fnExactSumOfWrong)

/-- 'laws.FnStamps': WHATEVER THE INPUT: true; the input reads as it did. -/
def fnStampsSpec : ChangeSpec := { name := "fnStamps", fn := fun _ => fun
  | [d] => { results := [.lit (.bool true)], args := [d] }
  | _ => none }
def fnStampsRow : OpenClaim := { program := "ytafmhffapmejpaa", sum := "7c2f9f7885740da2441bee1e3da268cdb92410ebd1b169c7a131898c1499f134", func := "loop.example/g00241/laws.FnStamps", spec := "fnStamps", apart := false }
def FnStampsSaid : Prop := fnStampsRow.holds Try.pinned (OpenSpec.ofChange fnStampsSpec)

/-- ITS FALSE NEIGHBOUR: 'it returns false'. Refute it at one input. -/
def fnStampsWrong : ChangeSpec := { name := "fnStamps", fn := fun _ => fun
  | [d] => { results := [.lit (.bool false)], args := [d] }
  | _ => none }
def FnStampsWrongFalsely : Prop := fnStampsRow.holds Try.pinned (OpenSpec.ofChange fnStampsWrong)

/-- 'laws.FnExactLoadOf': WHATEVER THE INPUT: true; the input reads as it did. -/
def fnExactLoadOfSpec : ChangeSpec := { name := "fnExactLoadOf", fn := fun _ => fun
  | [d1, d2] => { results := [.lit (.bool true)], args := [d1, d2] }
  | _ => none }
def fnExactLoadOfRow : OpenClaim := { program := "ytafmhffapmejpaa", sum := "7c2f9f7885740da2441bee1e3da268cdb92410ebd1b169c7a131898c1499f134", func := "loop.example/g00241/laws.FnExactLoadOf", spec := "fnExactLoadOf", apart := false }
def FnExactLoadOfSaid : Prop := fnExactLoadOfRow.holds Try.pinned (OpenSpec.ofChange fnExactLoadOfSpec)

/-- ITS FALSE NEIGHBOUR: 'it returns false'. Refute it at one input. -/
def fnExactLoadOfWrong : ChangeSpec := { name := "fnExactLoadOf", fn := fun _ => fun
  | [d1, d2] => { results := [.lit (.bool false)], args := [d1, d2] }
  | _ => none }
def FnExactLoadOfWrongFalsely : Prop := fnExactLoadOfRow.holds Try.pinned (OpenSpec.ofChange fnExactLoadOfWrong)

/-- 'laws.FnExactMoved': WHATEVER THE INPUT: true; the input reads as it did. -/
def fnExactMovedSpec : ChangeSpec := { name := "fnExactMoved", fn := fun _ => fun
  | [d1, d2] => { results := [.lit (.bool true)], args := [d1, d2] }
  | _ => none }
def fnExactMovedRow : OpenClaim := { program := "ytafmhffapmejpaa", sum := "7c2f9f7885740da2441bee1e3da268cdb92410ebd1b169c7a131898c1499f134", func := "loop.example/g00241/laws.FnExactMoved", spec := "fnExactMoved", apart := false }
def FnExactMovedSaid : Prop := fnExactMovedRow.holds Try.pinned (OpenSpec.ofChange fnExactMovedSpec)

/-- ITS FALSE NEIGHBOUR: 'it returns false'. Refute it at one input. -/
def fnExactMovedWrong : ChangeSpec := { name := "fnExactMoved", fn := fun _ => fun
  | [d1, d2] => { results := [.lit (.bool false)], args := [d1, d2] }
  | _ => none }
def FnExactMovedWrongFalsely : Prop := fnExactMovedRow.holds Try.pinned (OpenSpec.ofChange fnExactMovedWrong)

/- THE SECOND FORM. 'bulk': how many values and letters a reading holds, each counted each time it is reached (what is shared counts as often as it is met; a slice's spare places count too). A statement '..UptoSaid' is the law's where the arguments, and the package variables that the reading takes, are together of bulk at most 1048576: NARROWER than '..Said'. Prove '..Said' where nothing that the law and all that it calls make is longer than what came in: it says more and counts as full. Else prove '..UptoSaid'. A law counts once. -/
mutual
def uptoBulk {H : Type} : DataW H → Nat
  | .lit (.string bytes) => bytes.length + 1
  | .lit _ => 1
  | .nil => 1
  | .ptr d => uptoBulk d + 1
  | .slice elems spare => uptoBulkAll elems + uptoBulkAll spare + 1
  | .agg parts => uptoBulkAll parts + 1
  | .iface _ d => uptoBulk d + 1
  | .map entries => uptoBulkEntries entries + 1
  | .held _ => 1
def uptoBulkAll {H : Type} : List (DataW H) → Nat
  | [] => 0
  | d :: r => uptoBulk d + uptoBulkAll r
def uptoBulkEntries {H : Type} : List (Lit × DataW H) → Nat
  | [] => 0
  | x :: r => uptoBulkEntry x + uptoBulkEntries r
def uptoBulkEntry {H : Type} : Lit × DataW H → Nat
  | (.string bytes, d) => bytes.length + uptoBulk d + 1
  | (_, d) => uptoBulk d + 1
 end
def uptoSmall : (H : Type) → List (DataW H) → Bool := fun _ ds => decide (uptoBulkAll ds ≤ 1048576)
def OpenSpec.upto (s : _root_.Go.ChangeSpec) : _root_.Go.OpenSpec := { _root_.Go.OpenSpec.ofChange s with cond := some uptoSmall }

/-- 'laws.FnExactPutText', WHERE WHAT IT READS IS OF BULK AT MOST 1048576: true; the input reads as it did. -/
def fnExactPutTextUptoRow : OpenClaim := { program := "ytafmhffapmejpaa", sum := "7c2f9f7885740da2441bee1e3da268cdb92410ebd1b169c7a131898c1499f134", func := "loop.example/g00241/laws.FnExactPutText", spec := "fnExactPutText", apart := false, narrowed := true }
def FnExactPutTextUptoSaid : Prop := fnExactPutTextUptoRow.holds Try.pinned (OpenSpec.upto fnExactPutTextSpec)

/-- 'laws.FnExactGetText', WHERE WHAT IT READS IS OF BULK AT MOST 1048576: true; the input reads as it did. -/
def fnExactGetTextUptoRow : OpenClaim := { program := "ytafmhffapmejpaa", sum := "7c2f9f7885740da2441bee1e3da268cdb92410ebd1b169c7a131898c1499f134", func := "loop.example/g00241/laws.FnExactGetText", spec := "fnExactGetText", apart := false, narrowed := true }
def FnExactGetTextUptoSaid : Prop := fnExactGetTextUptoRow.holds Try.pinned (OpenSpec.upto fnExactGetTextSpec)

/-- 'laws.FnBeginnings', WHERE WHAT IT READS IS OF BULK AT MOST 1048576: true; the input reads as it did. -/
def fnBeginningsUptoRow : OpenClaim := { program := "ytafmhffapmejpaa", sum := "7c2f9f7885740da2441bee1e3da268cdb92410ebd1b169c7a131898c1499f134", func := "loop.example/g00241/laws.FnBeginnings", spec := "fnBeginnings", apart := false, narrowed := true }
def FnBeginningsUptoSaid : Prop := fnBeginningsUptoRow.holds Try.pinned (OpenSpec.upto fnBeginningsSpec)

/-- 'laws.FnExactDevsOk', WHERE WHAT IT READS IS OF BULK AT MOST 1048576: true; the input reads as it did. -/
def fnExactDevsOkUptoRow : OpenClaim := { program := "ytafmhffapmejpaa", sum := "7c2f9f7885740da2441bee1e3da268cdb92410ebd1b169c7a131898c1499f134", func := "loop.example/g00241/laws.FnExactDevsOk", spec := "fnExactDevsOk", apart := false, narrowed := true }
def FnExactDevsOkUptoSaid : Prop := fnExactDevsOkUptoRow.holds Try.pinned (OpenSpec.upto fnExactDevsOkSpec)

/-- 'laws.FnNums', WHERE WHAT IT READS IS OF BULK AT MOST 1048576: true; the input reads as it did. -/
def fnNumsUptoRow : OpenClaim := { program := "ytafmhffapmejpaa", sum := "7c2f9f7885740da2441bee1e3da268cdb92410ebd1b169c7a131898c1499f134", func := "loop.example/g00241/laws.FnNums", spec := "fnNums", apart := false, narrowed := true }
def FnNumsUptoSaid : Prop := fnNumsUptoRow.holds Try.pinned (OpenSpec.upto fnNumsSpec)

/-- 'laws.FnExactLatestStamp', WHERE WHAT IT READS IS OF BULK AT MOST 1048576: true; the input reads as it did. -/
def fnExactLatestStampUptoRow : OpenClaim := { program := "ytafmhffapmejpaa", sum := "7c2f9f7885740da2441bee1e3da268cdb92410ebd1b169c7a131898c1499f134", func := "loop.example/g00241/laws.FnExactLatestStamp", spec := "fnExactLatestStamp", apart := false, narrowed := true }
def FnExactLatestStampUptoSaid : Prop := fnExactLatestStampUptoRow.holds Try.pinned (OpenSpec.upto fnExactLatestStampSpec)

/-- 'laws.FnExactFileOk', WHERE WHAT IT READS IS OF BULK AT MOST 1048576: true; the input reads as it did. -/
def fnExactFileOkUptoRow : OpenClaim := { program := "ytafmhffapmejpaa", sum := "7c2f9f7885740da2441bee1e3da268cdb92410ebd1b169c7a131898c1499f134", func := "loop.example/g00241/laws.FnExactFileOk", spec := "fnExactFileOk", apart := false, narrowed := true }
def FnExactFileOkUptoSaid : Prop := fnExactFileOkUptoRow.holds Try.pinned (OpenSpec.upto fnExactFileOkSpec)

/-- 'laws.FnExactNewer', WHERE WHAT IT READS IS OF BULK AT MOST 1048576: true; the input reads as it did. -/
def fnExactNewerUptoRow : OpenClaim := { program := "ytafmhffapmejpaa", sum := "7c2f9f7885740da2441bee1e3da268cdb92410ebd1b169c7a131898c1499f134", func := "loop.example/g00241/laws.FnExactNewer", spec := "fnExactNewer", apart := false, narrowed := true }
def FnExactNewerUptoSaid : Prop := fnExactNewerUptoRow.holds Try.pinned (OpenSpec.upto fnExactNewerSpec)

/-- 'laws.FnExactSumOf', WHERE WHAT IT READS IS OF BULK AT MOST 1048576: true; the input reads as it did. -/
def fnExactSumOfUptoRow : OpenClaim := { program := "ytafmhffapmejpaa", sum := "7c2f9f7885740da2441bee1e3da268cdb92410ebd1b169c7a131898c1499f134", func := "loop.example/g00241/laws.FnExactSumOf", spec := "fnExactSumOf", apart := false, narrowed := true }
def FnExactSumOfUptoSaid : Prop := fnExactSumOfUptoRow.holds Try.pinned (OpenSpec.upto fnExactSumOfSpec)

/-- 'laws.FnStamps', WHERE WHAT IT READS IS OF BULK AT MOST 1048576: true; the input reads as it did. -/
def fnStampsUptoRow : OpenClaim := { program := "ytafmhffapmejpaa", sum := "7c2f9f7885740da2441bee1e3da268cdb92410ebd1b169c7a131898c1499f134", func := "loop.example/g00241/laws.FnStamps", spec := "fnStamps", apart := false, narrowed := true }
def FnStampsUptoSaid : Prop := fnStampsUptoRow.holds Try.pinned (OpenSpec.upto fnStampsSpec)

/-- 'laws.FnExactLoadOf', WHERE WHAT IT READS IS OF BULK AT MOST 1048576: true; the input reads as it did. -/
def fnExactLoadOfUptoRow : OpenClaim := { program := "ytafmhffapmejpaa", sum := "7c2f9f7885740da2441bee1e3da268cdb92410ebd1b169c7a131898c1499f134", func := "loop.example/g00241/laws.FnExactLoadOf", spec := "fnExactLoadOf", apart := false, narrowed := true }
def FnExactLoadOfUptoSaid : Prop := fnExactLoadOfUptoRow.holds Try.pinned (OpenSpec.upto fnExactLoadOfSpec)

/-- 'laws.FnExactMoved', WHERE WHAT IT READS IS OF BULK AT MOST 1048576: true; the input reads as it did. -/
def fnExactMovedUptoRow : OpenClaim := { program := "ytafmhffapmejpaa", sum := "7c2f9f7885740da2441bee1e3da268cdb92410ebd1b169c7a131898c1499f134", func := "loop.example/g00241/laws.FnExactMoved", spec := "fnExactMoved", apart := false, narrowed := true }
def FnExactMovedUptoSaid : Prop := fnExactMovedUptoRow.holds Try.pinned (OpenSpec.upto fnExactMovedSpec)

end Rows
end Go.Proofs.Ytafmhffapmejpaa
