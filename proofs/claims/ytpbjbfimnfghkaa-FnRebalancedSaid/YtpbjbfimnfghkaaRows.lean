/-
  No cell of these rows narrows 'for every input' (looked for: loops, veiled, ifaces, maps, wideKeys, modest, calm, conditions, laid).
  DERIVED. THE GIVEN ROWS OF THIS SEAT. 5 by the template 'for every input the law returns true; each argument reads behind the call as it read before'; 0 by the template 'total and deterministic' (their statements: YtpbjbfimnfghkaaTotals.lean).
  GIVEN WITH THE SEED: the statements are not yours to turn. If you find one false, say at which input.
  Laid BY PROGRAM, IN A SANDBOX (cutbox-rows.mjs): the forced cells as the released guide's own fill.sh prints them over the translation 9fba6fb9a90759fd… (all of the seat's roots in one cut). By AI agents, Wed Nov 11 2026. No macro, syntax, notation, axiom, sorry.
-/
import Derived.Test.YtpbjbfimnfghkaaChecked
import GoSem.Claim
import GoSem.ClaimJoined
import GoSem.ClaimMapViews
import Derived.JoinedTies
import Derived.KernelRfl
namespace Go.Proofs.Ytpbjbfimnfghkaa
/- THE CELL 'sum', in the pinned program and in every row, IS THE sha256 OF THE DUMP (.gsa) THAT YtpbjbfimnfghkaaProg.lean LOADS. Nothing in Lean hashes anything: it is a label: what it is worth is what the hold of that sum in a sandbox is worth. -/
noncomputable def Try.pinned : Pinned := { name := "ytpbjbfimnfghkaa", sum := "9fba6fb9a90759fdc0f21db35f5c867205bac9e34389fb7fd3870dc0d6cd737b", checked := Try.checked }
namespace Rows
def none {H : Type} : Left H := { results := [], args := [] }

/-- 'laws.FnRebalanced': WHATEVER THE INPUT: true; the input reads as it did. -/
def fnRebalancedSpec : ChangeSpec := { name := "fnRebalanced", fn := fun _ => fun
  | [d] => { results := [.lit (.bool true)], args := [d] }
  | _ => none }
def fnRebalancedRow : OpenClaim := { program := "ytpbjbfimnfghkaa", sum := "9fba6fb9a90759fdc0f21db35f5c867205bac9e34389fb7fd3870dc0d6cd737b", func := "loop.example/g00241/laws.FnRebalanced", spec := "fnRebalanced", apart := false }
def FnRebalancedSaid : Prop := fnRebalancedRow.holds Try.pinned (OpenSpec.ofChange fnRebalancedSpec)

/-- ITS FALSE NEIGHBOUR: 'it returns false'. Refute it at one input. -/
def fnRebalancedWrong : ChangeSpec := { name := "fnRebalanced", fn := fun _ => fun
  | [d] => { results := [.lit (.bool false)], args := [d] }
  | _ => none }
def FnRebalancedWrongFalsely : Prop := fnRebalancedRow.holds Try.pinned (OpenSpec.ofChange fnRebalancedWrong)

/-- 'laws.FnExactRebalance': WHATEVER THE INPUT: true; the input reads as it did. -/
def fnExactRebalanceSpec : ChangeSpec := { name := "fnExactRebalance", fn := fun _ => fun
  | [d1, d2] => { results := [.lit (.bool true)], args := [d1, d2] }
  | _ => none }
def fnExactRebalanceRow : OpenClaim := { program := "ytpbjbfimnfghkaa", sum := "9fba6fb9a90759fdc0f21db35f5c867205bac9e34389fb7fd3870dc0d6cd737b", func := "loop.example/g00241/laws.FnExactRebalance", spec := "fnExactRebalance", apart := false }
def FnExactRebalanceSaid : Prop := fnExactRebalanceRow.holds Try.pinned (OpenSpec.ofChange fnExactRebalanceSpec)

/-- ITS FALSE NEIGHBOUR: 'it returns false'. Refute it at one input. -/
def fnExactRebalanceWrong : ChangeSpec := { name := "fnExactRebalance", fn := fun _ => fun
  | [d1, d2] => { results := [.lit (.bool false)], args := [d1, d2] }
  | _ => none }
def FnExactRebalanceWrongFalsely : Prop := fnExactRebalanceRow.holds Try.pinned (OpenSpec.ofChange fnExactRebalanceWrong)

/-- 'laws.FnExactZonesOf': WHATEVER THE INPUT: true; the input reads as it did. -/
def fnExactZonesOfSpec : ChangeSpec := { name := "fnExactZonesOf", fn := fun _ => fun
  | [d] => { results := [.lit (.bool true)], args := [d] }
  | _ => none }
def fnExactZonesOfRow : OpenClaim := { program := "ytpbjbfimnfghkaa", sum := "9fba6fb9a90759fdc0f21db35f5c867205bac9e34389fb7fd3870dc0d6cd737b", func := "loop.example/g00241/laws.FnExactZonesOf", spec := "fnExactZonesOf", recurses := true, apart := false }
def FnExactZonesOfSaid : Prop := fnExactZonesOfRow.holds Try.pinned (OpenSpec.ofChange fnExactZonesOfSpec)

/-- ITS FALSE NEIGHBOUR: 'it returns false'. Refute it at one input. -/
def fnExactZonesOfWrong : ChangeSpec := { name := "fnExactZonesOf", fn := fun _ => fun
  | [d] => { results := [.lit (.bool false)], args := [d] }
  | _ => none }
def FnExactZonesOfWrongFalsely : Prop := fnExactZonesOfRow.holds Try.pinned (OpenSpec.ofChange fnExactZonesOfWrong)

/-- 'laws.FnRings': WHATEVER THE INPUT: true; the input reads as it did. -/
def fnRingsSpec : ChangeSpec := { name := "fnRings", fn := fun _ => fun
  | [d] => { results := [.lit (.bool true)], args := [d] }
  | _ => none }
def fnRingsRow : OpenClaim := { program := "ytpbjbfimnfghkaa", sum := "9fba6fb9a90759fdc0f21db35f5c867205bac9e34389fb7fd3870dc0d6cd737b", func := "loop.example/g00241/laws.FnRings", spec := "fnRings", recurses := true, apart := false }
def FnRingsSaid : Prop := fnRingsRow.holds Try.pinned (OpenSpec.ofChange fnRingsSpec)

/-- ITS FALSE NEIGHBOUR: 'it returns false'. Refute it at one input. -/
def fnRingsWrong : ChangeSpec := { name := "fnRings", fn := fun _ => fun
  | [d] => { results := [.lit (.bool false)], args := [d] }
  | _ => none }
def FnRingsWrongFalsely : Prop := fnRingsRow.holds Try.pinned (OpenSpec.ofChange fnRingsWrong)

/-- 'laws.FnLoads': WHATEVER THE INPUT: true; the input reads as it did. -/
def fnLoadsSpec : ChangeSpec := { name := "fnLoads", fn := fun _ => fun
  | [d] => { results := [.lit (.bool true)], args := [d] }
  | _ => none }
def fnLoadsRow : OpenClaim := { program := "ytpbjbfimnfghkaa", sum := "9fba6fb9a90759fdc0f21db35f5c867205bac9e34389fb7fd3870dc0d6cd737b", func := "loop.example/g00241/laws.FnLoads", spec := "fnLoads", recurses := true, apart := false }
def FnLoadsSaid : Prop := fnLoadsRow.holds Try.pinned (OpenSpec.ofChange fnLoadsSpec)

/-- ITS FALSE NEIGHBOUR: 'it returns false'. Refute it at one input. -/
def fnLoadsWrong : ChangeSpec := { name := "fnLoads", fn := fun _ => fun
  | [d] => { results := [.lit (.bool false)], args := [d] }
  | _ => none }
def FnLoadsWrongFalsely : Prop := fnLoadsRow.holds Try.pinned (OpenSpec.ofChange fnLoadsWrong)

/- THE SECOND FORM. 'bulk': how many values and letters a reading holds, each counted each time it is reached (what is shared counts as often as it is met; a slice's spare places count too). A statement '..UptoSaid' is the law's where the arguments, and the package variables that the reading takes, are together of bulk at most 1048576: NARROWER than '..Said'. Prove '..Said' where nothing that the law and all that it calls make is longer than what came in: it says more and counts as full. Else prove '..UptoSaid'. A law counts once. -/
mutual
def uptoBulk {H : Type} : DataW H → Nat
  | .lit (.string bytes) => bytes.length + 1
  | .lit _ => 1
  | .nil => 1
  | .ptr d => uptoBulk d + 1
  | .slice elems spare => uptoBulkAll elems + uptoBulkAll spare + 1
  | .agg parts => uptoBulkAll parts + 1
  | .iface _ d => uptoBulk d + 1
  | .map entries => uptoBulkEntries entries + 1
  | .held _ => 1
def uptoBulkAll {H : Type} : List (DataW H) → Nat
  | [] => 0
  | d :: r => uptoBulk d + uptoBulkAll r
def uptoBulkEntries {H : Type} : List (Lit × DataW H) → Nat
  | [] => 0
  | x :: r => uptoBulkEntry x + uptoBulkEntries r
def uptoBulkEntry {H : Type} : Lit × DataW H → Nat
  | (.string bytes, d) => bytes.length + uptoBulk d + 1
  | (_, d) => uptoBulk d + 1
 end
def uptoSmall : (H : Type) → List (DataW H) → Bool := fun _ ds => decide (uptoBulkAll ds ≤ 1048576)
def OpenSpec.upto (s : _root_.Go.ChangeSpec) : _root_.Go.OpenSpec := { _root_.Go.OpenSpec.ofChange s with cond := some uptoSmall }

/-- 'laws.FnRebalanced', WHERE WHAT IT READS IS OF BULK AT MOST 1048576: true; the input reads as it did. -/
def fnRebalancedUptoRow : OpenClaim := { program := "ytpbjbfimnfghkaa", sum := "9fba6fb9a90759fdc0f21db35f5c867205bac9e34389fb7fd3870dc0d6cd737b", func := "loop.example/g00241/laws.FnRebalanced", spec := "fnRebalanced", apart := false, narrowed := true }
def FnRebalancedUptoSaid : Prop := fnRebalancedUptoRow.holds Try.pinned (OpenSpec.upto fnRebalancedSpec)

/-- 'laws.FnExactRebalance', WHERE WHAT IT READS IS OF BULK AT MOST 1048576: true; the input reads as it did. -/
def fnExactRebalanceUptoRow : OpenClaim := { program := "ytpbjbfimnfghkaa", sum := "9fba6fb9a90759fdc0f21db35f5c867205bac9e34389fb7fd3870dc0d6cd737b", func := "loop.example/g00241/laws.FnExactRebalance", spec := "fnExactRebalance", apart := false, narrowed := true }
def FnExactRebalanceUptoSaid : Prop := fnExactRebalanceUptoRow.holds Try.pinned (OpenSpec.upto fnExactRebalanceSpec)

/-- 'laws.FnExactZonesOf', WHERE WHAT IT READS IS OF BULK AT MOST 1048576: true; the input reads as it did. -/
def fnExactZonesOfUptoRow : OpenClaim := { program := "ytpbjbfimnfghkaa", sum := "9fba6fb9a90759fdc0f21db35f5c867205bac9e34389fb7fd3870dc0d6cd737b", func := "loop.example/g00241/laws.FnExactZonesOf", spec := "fnExactZonesOf", recurses := true, apart := false, narrowed := true }
def FnExactZonesOfUptoSaid : Prop := fnExactZonesOfUptoRow.holds Try.pinned (OpenSpec.upto fnExactZonesOfSpec)

/-- 'laws.FnRings', WHERE WHAT IT READS IS OF BULK AT MOST 1048576: true; the input reads as it did. -/
def fnRingsUptoRow : OpenClaim := { program := "ytpbjbfimnfghkaa", sum := "9fba6fb9a90759fdc0f21db35f5c867205bac9e34389fb7fd3870dc0d6cd737b", func := "loop.example/g00241/laws.FnRings", spec := "fnRings", recurses := true, apart := false, narrowed := true }
def FnRingsUptoSaid : Prop := fnRingsUptoRow.holds Try.pinned (OpenSpec.upto fnRingsSpec)

/-- 'laws.FnLoads', WHERE WHAT IT READS IS OF BULK AT MOST 1048576: true; the input reads as it did. -/
def fnLoadsUptoRow : OpenClaim := { program := "ytpbjbfimnfghkaa", sum := "9fba6fb9a90759fdc0f21db35f5c867205bac9e34389fb7fd3870dc0d6cd737b", func := "loop.example/g00241/laws.FnLoads", spec := "fnLoads", recurses := true, apart := false, narrowed := true }
def FnLoadsUptoSaid : Prop := fnLoadsUptoRow.holds Try.pinned (OpenSpec.upto fnLoadsSpec)

end Rows
end Go.Proofs.Ytpbjbfimnfghkaa
