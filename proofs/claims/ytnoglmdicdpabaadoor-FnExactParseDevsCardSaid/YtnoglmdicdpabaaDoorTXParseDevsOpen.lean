/- Trimmed by a program of this session (trim.py). Not trusted: Lean checks it. -/
import Derived.Test.YtnoglmdicdpabaaDoorTXParseDevsWWords
import Derived.Deep.Slices
import Derived.ChangeArms
import Derived.DataReads
import Derived.Deep.Fields
namespace Go.Proofs.YtnoglmdicdpabaaDoor.Open
open Go.ChangeShapes Go.WideShapes Go.Deep Go.Proofs.YtnoglmdicdpabaaDoorW.PrintWords
def Opens {α : Type} (P : Program) (t : TypeId) (kd : Kd α) (Q : α → Prop) : Prop :=
 ∀ (H : Type) (enc : TypeId × Value → H) (w : World) (base : Nat) (spare : Nat → Bool) (held : Bool) (fuel : Nat) (cs : List Value) (x : DataW H × List MemPlace),
  DataW.trod enc P w base spare held fuel t cs = some x → ∃ y, kd.K w y cs ∧ Q y
theorem Opens.trod {α : Type} {P : Program} {t : TypeId} {kd : Kd α} {Q : α → Prop} (h : Opens P t kd Q) {H : Type} {enc : TypeId × Value → H} {w : World} {base : Nat} {spare : Nat → Bool} {held : Bool} {v : Value} {d : DataW H} {ps : List MemPlace}
  (hx : DataW.Trod enc P w base spare held t v d ps) : ∃ y, kd.K w y v.cells.toList ∧ Q y := by
 obtain ⟨fuel, hf⟩ := hx
 exact h H enc w base spare held fuel _ _ hf
end Go.Proofs.YtnoglmdicdpabaaDoor.Open
