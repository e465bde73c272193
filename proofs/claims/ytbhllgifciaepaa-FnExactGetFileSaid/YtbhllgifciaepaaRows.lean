/-
  No cell of these rows narrows 'for every input' (looked for: loops, veiled, ifaces, maps, wideKeys, modest, calm, conditions, laid).
  DERIVED. THE GIVEN ROWS OF THIS SEAT. 12 by the template 'for every input the law returns true; each argument reads behind the call as it read before'; 0 by the template 'total and deterministic' (their statements: YtbhllgifciaepaaTotals.lean).
  GIVEN WITH THE SEED: the statements are not yours to turn. If you find one false, say at which input.
  Laid BY PROGRAM, IN A SANDBOX (cutbox-rows.mjs): the forced cells as the released guide's own fill.sh prints them over the translation 505c7786c36f7e77… (all of the seat's roots in one cut). By AI agents, Wed Nov 11 2026. No macro, syntax, notation, axiom, sorry.
-/
import Derived.Test.YtbhllgifciaepaaChecked
import GoSem.Claim
import GoSem.ClaimJoined
import GoSem.ClaimMapViews
import Derived.JoinedTies
import Derived.KernelRfl
namespace Go.Proofs.Ytbhllgifciaepaa
/- THE CELL 'sum', in the pinned program and in every row, IS THE sha256 OF THE DUMP (.gsa) THAT YtbhllgifciaepaaProg.lean LOADS. Nothing in Lean hashes anything: it is a label: what it is worth is what the hold of that sum in a sandbox is worth. -/
noncomputable def Try.pinned : Pinned := { name := "ytbhllgifciaepaa", sum := "505c7786c36f7e779829e761803b78d415031b6599b48bc9f2bb3effd5acf23f", checked := Try.checked }
namespace Rows
def none {H : Type} : Left H := { results := [], args := [] }

/-- 'laws.FnExactSpreadOf': WHATEVER THE INPUT: true; the input reads as it did. -/
def fnExactSpreadOfSpec : ChangeSpec := { name := "fnExactSpreadOf", fn := fun _ => fun
  | [d1, d2] => { results := [.lit (.bool true)], args := [d1, d2] }
  | _ => none }
def fnExactSpreadOfRow : OpenClaim := { program := "ytbhllgifciaepaa", sum := "505c7786c36f7e779829e761803b78d415031b6599b48bc9f2bb3effd5acf23f", func := "loop.example/g00241/laws.FnExactSpreadOf", spec := "fnExactSpreadOf", apart := false }
def FnExactSpreadOfSaid : Prop := fnExactSpreadOfRow.holds Try.pinned (OpenSpec.ofChange fnExactSpreadOfSpec)

/-- ITS FALSE NEIGHBOUR: 'it returns false'. Refute it at one input. -/
def fnExactSpreadOfWrong : ChangeSpec := { name := "fnExactSpreadOf", fn := fun _ => fun
  | [d1, d2] => { results := [.lit (.bool false)], args := [d1, d2] }
  | _ => none }
def FnExactSpreadOfWrongFalsely : Prop := fnExactSpreadOfRow.holds Try.pinned (OpenSpec.ofChange fnExactSpreadOfWrong)

/-- 'laws.FnExactIsPrimary': WHATEVER THE INPUT: true; the input reads as it did. -/
def fnExactIsPrimarySpec : ChangeSpec := { name := "fnExactIsPrimary", fn := fun _ => fun
  | [d1, d2, d3] => { results := [.lit (.bool true)], args := [d1, d2, d3] }
  | _ => none }
def fnExactIsPrimaryRow : OpenClaim := { program := "ytbhllgifciaepaa", sum := "505c7786c36f7e779829e761803b78d415031b6599b48bc9f2bb3effd5acf23f", func := "loop.example/g00241/laws.FnExactIsPrimary", spec := "fnExactIsPrimary", apart := false }
def FnExactIsPrimarySaid : Prop := fnExactIsPrimaryRow.holds Try.pinned (OpenSpec.ofChange fnExactIsPrimarySpec)

/-- ITS FALSE NEIGHBOUR: 'it returns false'. Refute it at one input. -/
def fnExactIsPrimaryWrong : ChangeSpec := { name := "fnExactIsPrimary", fn := fun _ => fun
  | [d1, d2, d3] => { results := [.lit (.bool false)], args := [d1, d2, d3] }
  | _ => none }
def FnExactIsPrimaryWrongFalsely : Prop := fnExactIsPrimaryRow.holds Try.pinned (OpenSpec.ofChange fnExactIsPrimaryWrong)

/-- 'laws.FnExactPrimaries': WHATEVER THE INPUT: true; the input reads as it did. -/
def fnExactPrimariesSpec : ChangeSpec := { name := "fnExactPrimaries", fn := fun _ => fun
  | [d1, d2] => { results := [.lit (.bool true)], args := [d1, d2] }
  | _ => none }
def fnExactPrimariesRow : OpenClaim := { program := "ytbhllgifciaepaa", sum := "505c7786c36f7e779829e761803b78d415031b6599b48bc9f2bb3effd5acf23f", func := "loop.example/g00241/laws.FnExactPrimaries", spec := "fnExactPrimaries", apart := false }
def FnExactPrimariesSaid : Prop := fnExactPrimariesRow.holds Try.pinned (OpenSpec.ofChange fnExactPrimariesSpec)

/-- ITS FALSE NEIGHBOUR: 'it returns false'. Refute it at one input. -/
def fnExactPrimariesWrong : ChangeSpec := { name := "fnExactPrimaries", fn := fun _ => fun
  | [d1, d2] => { results := [.lit (.bool false)], args := [d1, d2] }
  | _ => none }
def FnExactPrimariesWrongFalsely : Prop := fnExactPrimariesRow.holds Try.pinned (OpenSpec.ofChange fnExactPrimariesWrong)

/-- 'laws.FnExactPutFile': WHATEVER THE INPUT: true; the input reads as it did. -/
def fnExactPutFileSpec : ChangeSpec := { name := "fnExactPutFile", fn := fun _ => fun
  | [d] => { results := [.lit (.bool true)], args := [d] }
  | _ => none }
def fnExactPutFileRow : OpenClaim := { program := "ytbhllgifciaepaa", sum := "505c7786c36f7e779829e761803b78d415031b6599b48bc9f2bb3effd5acf23f", func := "loop.example/g00241/laws.FnExactPutFile", spec := "fnExactPutFile", apart := false }
def FnExactPutFileSaid : Prop := fnExactPutFileRow.holds Try.pinned (OpenSpec.ofChange fnExactPutFileSpec)

/-- ITS FALSE NEIGHBOUR: 'it returns false'. Refute it at one input. -/
def fnExactPutFileWrong : ChangeSpec := { name := "fnExactPutFile", fn := fun _ => fun
  | [d] => { results := [.lit (.bool false)], args := [d] }
  | _ => none }
def FnExactPutFileWrongFalsely : Prop := fnExactPutFileRow.holds Try.pinned (OpenSpec.ofChange fnExactPutFileWrong)

/-- 'laws.FnExactRingOk': WHATEVER THE INPUT: true; the input reads as it did. -/
def fnExactRingOkSpec : ChangeSpec := { name := "fnExactRingOk", fn := fun _ => fun
  | [d1, d2] => { results := [.lit (.bool true)], args := [d1, d2] }
  | _ => none }
def fnExactRingOkRow : OpenClaim := { program := "ytbhllgifciaepaa", sum := "505c7786c36f7e779829e761803b78d415031b6599b48bc9f2bb3effd5acf23f", func := "loop.example/g00241/laws.FnExactRingOk", spec := "fnExactRingOk", apart := false }
def FnExactRingOkSaid : Prop := fnExactRingOkRow.holds Try.pinned (OpenSpec.ofChange fnExactRingOkSpec)

/-- ITS FALSE NEIGHBOUR: 'it returns false'. Refute it at one input. -/
def fnExactRingOkWrong : ChangeSpec := { name := "fnExactRingOk", fn := fun _ => fun
  | [d1, d2] => { results := [.lit (.bool false)], args := [d1, d2] }
  | _ => none }
def FnExactRingOkWrongFalsely : Prop := fnExactRingOkRow.holds Try.pinned (OpenSpec.ofChange fnExactRingOkWrong)

/-- 'laws.FnBest': WHATEVER THE INPUT: true; the input reads as it did. -/
def fnBestSpec : ChangeSpec := { name := "fnBest", fn := fun _ => fun
  | [d] => { results := [.lit (.bool true)], args := [d] }
  | _ => none }
def fnBestRow : OpenClaim := { program := "ytbhllgifciaepaa", sum := "505c7786c36f7e779829e761803b78d415031b6599b48bc9f2bb3effd5acf23f", func := "loop.example/g00241/laws.FnBest", spec := "fnBest", apart := false }
def FnBestSaid : Prop := fnBestRow.holds Try.pinned (OpenSpec.ofChange fnBestSpec)

/-- ITS FALSE NEIGHBOUR: 'it returns false'. Refute it at one input. -/
def fnBestWrong : ChangeSpec := { name := "fnBest", fn := fun _ => fun
  | [d] => { results := [.lit (.bool false)], args := [d] }
  | _ => none }
def FnBestWrongFalsely : Prop := fnBestRow.holds Try.pinned (OpenSpec.ofChange fnBestWrong)

/-- 'laws.FnExactGetFile': WHATEVER THE INPUT: true; the input reads as it did. -/
def fnExactGetFileSpec : ChangeSpec := { name := "fnExactGetFile", fn := fun _ => fun
  | [d] => { results := [.lit (.bool true)], args := [d] }
  | _ => none }
def fnExactGetFileRow : OpenClaim := { program := "ytbhllgifciaepaa", sum := "505c7786c36f7e779829e761803b78d415031b6599b48bc9f2bb3effd5acf23f", func := "loop.example/g00241/laws.FnExactGetFile", spec := "fnExactGetFile", apart := false }
def FnExactGetFileSaid : Prop := fnExactGetFileRow.holds Try.pinned (OpenSpec.ofChange fnExactGetFileSpec)

/-- ITS FALSE NEIGHBOUR: 'it returns false'. Refute it at one input. -/
def fnExactGetFileWrong : ChangeSpec := { name := "fnExactGetFile", fn := fun _ => fun
  | [d] => { results := [.lit (.bool false)], args := [d] }
  | _ => none }
def FnExactGetFileWrongFalsely : Prop := fnExactGetFileRow.holds Try.pinned (OpenSpec.ofChange fnExactGetFileWrong)

/-- 'laws.FnExactBest': WHATEVER THE INPUT: true; the input reads as it did. -/
def fnExactBestSpec : ChangeSpec := { name := "fnExactBest", fn := fun _ => fun
  | [d1, d2, d3] => { results := [.lit (.bool true)], args := [d1, d2, d3] }
  | _ => none }
def fnExactBestRow : OpenClaim := { program := "ytbhllgifciaepaa", sum := "505c7786c36f7e779829e761803b78d415031b6599b48bc9f2bb3effd5acf23f", func := "loop.example/g00241/laws.FnExactBest", spec := "fnExactBest", apart := false }
def FnExactBestSaid : Prop := fnExactBestRow.holds Try.pinned (OpenSpec.ofChange fnExactBestSpec)

/-- ITS FALSE NEIGHBOUR: 'it returns false'. Refute it at one input. -/
def fnExactBestWrong : ChangeSpec := { name := "fnExactBest", fn := fun _ => fun
  | [d1, d2, d3] => { results := [.lit (.bool false)], args := [d1, d2, d3] }
  | _ => none }
def FnExactBestWrongFalsely : Prop := fnExactBestRow.holds Try.pinned (OpenSpec.ofChange fnExactBestWrong)

/-- 'laws.FnExactHandoffs': WHATEVER THE INPUT: true; the input reads as it did. -/
def fnExactHandoffsSpec : ChangeSpec := { name := "fnExactHandoffs", fn := fun _ => fun
  | [d1, d2, d3] => { results := [.lit (.bool true)], args := [d1, d2, d3] }
  | _ => none }
def fnExactHandoffsRow : OpenClaim := { program := "ytbhllgifciaepaa", sum := "505c7786c36f7e779829e761803b78d415031b6599b48bc9f2bb3effd5acf23f", func := "loop.example/g00241/laws.FnExactHandoffs", spec := "fnExactHandoffs", apart := false }
def FnExactHandoffsSaid : Prop := fnExactHandoffsRow.holds Try.pinned (OpenSpec.ofChange fnExactHandoffsSpec)

/-- ITS FALSE NEIGHBOUR: 'it returns false'. Refute it at one input. -/
def fnExactHandoffsWrong : ChangeSpec := { name := "fnExactHandoffs", fn := fun _ => fun
  | [d1, d2, d3] => { results := [.lit (.bool false)], args := [d1, d2, d3] }
  | _ => none }
def FnExactHandoffsWrongFalsely : Prop := fnExactHandoffsRow.holds Try.pinned (OpenSpec.ofChange fnExactHandoffsWrong)

/-- 'laws.FnExactBuild': WHATEVER THE INPUT: true; the input reads as it did. -/
def fnExactBuildSpec : ChangeSpec := { name := "fnExactBuild", fn := fun _ => fun
  | [d1, d2, d3] => { results := [.lit (.bool true)], args := [d1, d2, d3] }
  | _ => none }
def fnExactBuildRow : OpenClaim := { program := "ytbhllgifciaepaa", sum := "505c7786c36f7e779829e761803b78d415031b6599b48bc9f2bb3effd5acf23f", func := "loop.example/g00241/laws.FnExactBuild", spec := "fnExactBuild", apart := false }
def FnExactBuildSaid : Prop := fnExactBuildRow.holds Try.pinned (OpenSpec.ofChange fnExactBuildSpec)

/-- ITS FALSE NEIGHBOUR: 'it returns false'. Refute it at one input. -/
def fnExactBuildWrong : ChangeSpec := { name := "fnExactBuild", fn := fun _ => fun
  | [d1, d2, d3] => { results := [.lit (.bool false)], args := [d1, d2, d3] }
  | _ => none }
def FnExactBuildWrongFalsely : Prop := fnExactBuildRow.holds Try.pinned (OpenSpec.ofChange fnExactBuildWrong)

/-- 'laws.FnPlaces': WHATEVER THE INPUT: true; the input reads as it did. -/
def fnPlacesSpec : ChangeSpec := { name := "fnPlaces", fn := fun _ => fun
  | [d] => { results := [.lit (.bool true)], args := [d] }
  | _ => none }
def fnPlacesRow : OpenClaim := { program := "ytbhllgifciaepaa", sum := "505c7786c36f7e779829e761803b78d415031b6599b48bc9f2bb3effd5acf23f", func := "loop.example/g00241/laws.FnPlaces", spec := "fnPlaces", apart := false }
def FnPlacesSaid : Prop := fnPlacesRow.holds Try.pinned (OpenSpec.ofChange fnPlacesSpec)

/-- ITS FALSE NEIGHBOUR: 'it returns false'. Refute it at one input. -/
def fnPlacesWrong : ChangeSpec := { name := "fnPlaces", fn := fun _ => fun
  | [d] => { results := [.lit (.bool false)], args := [d] }
  | _ => none }
def FnPlacesWrongFalsely : Prop := fnPlacesRow.holds Try.pinned (OpenSpec.ofChange fnPlacesWrong)

/-- 'laws.FnFilesRead': WHATEVER THE INPUT: true; the input reads as it did. -/
def fnFilesReadSpec : ChangeSpec := { name := "fnFilesRead", fn := fun _ => fun
  | [d] => { results := [.lit (.bool true)], args := [d] }
  | _ => none }
def fnFilesReadRow : OpenClaim := { program := "ytbhllgifciaepaa", sum := "505c7786c36f7e779829e761803b78d415031b6599b48bc9f2bb3effd5acf23f", func := "loop.example/g00241/laws.FnFilesRead", spec := "fnFilesRead", apart := false }
def FnFilesReadSaid : Prop := fnFilesReadRow.holds Try.pinned (OpenSpec.ofChange fnFilesReadSpec)

/-- ITS FALSE NEIGHBOUR: 'it returns false'. Refute it at one input. -/
def fnFilesReadWrong : ChangeSpec := { name := "fnFilesRead", fn := fun _ => fun
  | [d] => { results := [.lit (.bool false)], args := [d] }
  | _ => none }
def FnFilesReadWrongFalsely : Prop := fnFilesReadRow.holds Try.pinned (OpenSpec.ofChange fnFilesReadWrong)

/- THE SECOND FORM. 'bulk': how many values and letters a reading holds, each counted each time it is reached (what is shared counts as often as it is met; a slice's spare places count too). A statement '..UptoSaid' is the law's where the arguments, and the package variables that the reading takes, are together of bulk at most 1048576: NARROWER than '..Said'. Prove '..Said' where nothing that the law and all that it calls make is longer than what came in: it says more and counts as full. Else prove '..UptoSaid'. A law counts once. -/
mutual
def uptoBulk {H : Type} : DataW H → Nat
  | .lit (.string bytes) => bytes.length + 1
  | .lit _ => 1
  | .nil => 1
  | .ptr d => uptoBulk d + 1
  | .slice elems spare => uptoBulkAll elems + uptoBulkAll spare + 1
  | .agg parts => uptoBulkAll parts + 1
  | .iface _ d => uptoBulk d + 1
  | .map entries => uptoBulkEntries entries + 1
  | .held _ => 1
def uptoBulkAll {H : Type} : List (DataW H) → Nat
  | [] => 0
  | d :: r => uptoBulk d + uptoBulkAll r
def uptoBulkEntries {H : Type} : List (Lit × DataW H) → Nat
  | [] => 0
  | x :: r => uptoBulkEntry x + uptoBulkEntries r
def uptoBulkEntry {H : Type} : Lit × DataW H → Nat
  | (.string bytes, d) => bytes.length + uptoBulk d + 1
  | (_, d) => uptoBulk d + 1
 end
def uptoSmall : (H : Type) → List (DataW H) → Bool := fun _ ds => decide (uptoBulkAll ds ≤ 1048576)
def OpenSpec.upto (s : _root_.Go.ChangeSpec) : _root_.Go.OpenSpec := { _root_.Go.OpenSpec.ofChange s with cond := some uptoSmall }

/-- 'laws.FnExactSpreadOf', WHERE WHAT IT READS IS OF BULK AT MOST 1048576: true; the input reads as it did. -/
def fnExactSpreadOfUptoRow : OpenClaim := { program := "ytbhllgifciaepaa", sum := "505c7786c36f7e779829e761803b78d415031b6599b48bc9f2bb3effd5acf23f", func := "loop.example/g00241/laws.FnExactSpreadOf", spec := "fnExactSpreadOf", apart := false, narrowed := true }
def FnExactSpreadOfUptoSaid : Prop := fnExactSpreadOfUptoRow.holds Try.pinned (OpenSpec.upto fnExactSpreadOfSpec)

/-- 'laws.FnExactIsPrimary', WHERE WHAT IT READS IS OF BULK AT MOST 1048576: true; the input reads as it did. -/
def fnExactIsPrimaryUptoRow : OpenClaim := { program := "ytbhllgifciaepaa", sum := "505c7786c36f7e779829e761803b78d415031b6599b48bc9f2bb3effd5acf23f", func := "loop.example/g00241/laws.FnExactIsPrimary", spec := "fnExactIsPrimary", apart := false, narrowed := true }
def FnExactIsPrimaryUptoSaid : Prop := fnExactIsPrimaryUptoRow.holds Try.pinned (OpenSpec.upto fnExactIsPrimarySpec)

/-- 'laws.FnExactPrimaries', WHERE WHAT IT READS IS OF BULK AT MOST 1048576: true; the input reads as it did. -/
def fnExactPrimariesUptoRow : OpenClaim := { program := "ytbhllgifciaepaa", sum := "505c7786c36f7e779829e761803b78d415031b6599b48bc9f2bb3effd5acf23f", func := "loop.example/g00241/laws.FnExactPrimaries", spec := "fnExactPrimaries", apart := false, narrowed := true }
def FnExactPrimariesUptoSaid : Prop := fnExactPrimariesUptoRow.holds Try.pinned (OpenSpec.upto fnExactPrimariesSpec)

/-- 'laws.FnExactPutFile', WHERE WHAT IT READS IS OF BULK AT MOST 1048576: true; the input reads as it did. -/
def fnExactPutFileUptoRow : OpenClaim := { program := "ytbhllgifciaepaa", sum := "505c7786c36f7e779829e761803b78d415031b6599b48bc9f2bb3effd5acf23f", func := "loop.example/g00241/laws.FnExactPutFile", spec := "fnExactPutFile", apart := false, narrowed := true }
def FnExactPutFileUptoSaid : Prop := fnExactPutFileUptoRow.holds Try.pinned (OpenSpec.upto fnExactPutFileSpec)

/-- 'laws.FnExactRingOk', WHERE WHAT IT READS IS OF BULK AT MOST 1048576: true; the input reads as it did. -/
def fnExactRingOkUptoRow : OpenClaim := { program := "ytbhllgifciaepaa", sum := "505c7786c36f7e779829e761803b78d415031b6599b48bc9f2bb3effd5acf23f", func := "loop.example/g00241/laws.FnExactRingOk", spec := "fnExactRingOk", apart := false, narrowed := true }
def FnExactRingOkUptoSaid : Prop := fnExactRingOkUptoRow.holds Try.pinned (OpenSpec.upto fnExactRingOkSpec)

/-- 'laws.FnBest', WHERE WHAT IT READS IS OF BULK AT MOST 1048576: true; the input reads as it did. -/
def fnBestUptoRow : OpenClaim := { program := "ytbhllgifciaepaa", sum := "505c7786c36f7e779829e761803b78d415031b6599b48bc9f2bb3effd5acf23f", func := "loop.example/g00241/laws.FnBest", spec := "fnBest", apart := false, narrowed := true }
def FnBestUptoSaid : Prop := fnBestUptoRow.holds Try.pinned (OpenSpec.upto fnBestSpec)

/-- 'laws.FnExactGetFile', WHERE WHAT IT READS IS OF BULK AT MOST 1048576: true; the input reads as it did. -/
def fnExactGetFileUptoRow : OpenClaim := { program := "ytbhllgifciaepaa", sum := "505c7786c36f7e779829e761803b78d415031b6599b48bc9f2bb3effd5acf23f", func := "loop.example/g00241/laws.FnExactGetFile", spec := "fnExactGetFile", apart := false, narrowed := true }
def FnExactGetFileUptoSaid : Prop := fnExactGetFileUptoRow.holds Try.pinned (OpenSpec.upto fnExactGetFileSpec)

/-- 'laws.FnExactBest', WHERE WHAT IT READS IS OF BULK AT MOST 1048576: true; the input reads as it did. -/
def fnExactBestUptoRow : OpenClaim := { program := "ytbhllgifciaepaa", sum := "505c7786c36f7e779829e761803b78d415031b6599b48bc9f2bb3effd5acf23f", func := "loop.example/g00241/laws.FnExactBest", spec := "fnExactBest", apart := false, narrowed := true }
def FnExactBestUptoSaid : Prop := fnExactBestUptoRow.holds Try.pinned (OpenSpec.upto fnExactBestSpec)

/-- 'laws.FnExactHandoffs', WHERE WHAT IT READS IS OF BULK AT MOST 1048576: true; the input reads as it did. -/
def fnExactHandoffsUptoRow : OpenClaim := { program := "ytbhllgifciaepaa", sum := "505c7786c36f7e779829e761803b78d415031b6599b48bc9f2bb3effd5acf23f", func := "loop.example/g00241/laws.FnExactHandoffs", spec := "fnExactHandoffs", apart := false, narrowed := true }
def FnExactHandoffsUptoSaid : Prop := fnExactHandoffsUptoRow.holds Try.pinned (OpenSpec.upto fnExactHandoffsSpec)

/-- 'laws.FnExactBuild', WHERE WHAT IT READS IS OF BULK AT MOST 1048576: true; the input reads as it did. -/
def fnExactBuildUptoRow : OpenClaim := { program := "ytbhllgifciaepaa", sum := "505c7786c36f7e779829e761803b78d415031b6599b48bc9f2bb3effd5acf23f", func := "loop.example/g00241/laws.FnExactBuild", spec := "fnExactBuild", apart := false, narrowed := true }
def FnExactBuildUptoSaid : Prop := fnExactBuildUptoRow.holds Try.pinned (OpenSpec.upto fnExactBuildSpec)

/-- 'laws.FnPlaces', WHERE WHAT IT READS IS OF BULK AT MOST 1048576: true; the input reads as it did. -/
def fnPlacesUptoRow : OpenClaim := { program := "ytbhllgifciaepaa", sum := "505c7786c36f7e779829e761803b78d415031b6599b48bc9f2bb3effd5acf23f", func := "loop.example/g00241/laws.FnPlaces", spec := "fnPlaces", apart := false, narrowed := true }
def FnPlacesUptoSaid : Prop := fnPlacesUptoRow.holds Try.pinned (OpenSpec.upto fnPlacesSpec)

/-- 'laws.FnFilesRead', WHERE WHAT IT READS IS OF BULK AT MOST 1048576: true; the input reads as it did. -/
def fnFilesReadUptoRow : OpenClaim := { program := "ytbhllgifciaepaa", sum := "505c7786c36f7e779829e761803b78d415031b6599b48bc9f2bb3effd5acf23f", func := "loop.example/g00241/laws.FnFilesRead", spec := "fnFilesRead", apart := false, narrowed := true }
def FnFilesReadUptoSaid : Prop := fnFilesReadUptoRow.holds Try.pinned (OpenSpec.upto fnFilesReadSpec)

end Rows
end Go.Proofs.Ytbhllgifciaepaa
