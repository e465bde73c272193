/- Trimmed by a program of this session (trim.py). Not trusted: Lean checks it. -/
import Derived.Test.YtpbjbfimnfghkaaTLRebalancedWWords
import Derived.Deep.Slices
import Derived.ChangeArms
import Derived.DataReads
import Derived.Deep.Fields
namespace Go.Proofs.Ytpbjbfimnfghkaa.Open
open Go.ChangeShapes Go.WideShapes Go.Deep Go.Proofs.YtpbjbfimnfghkaaW.PrintWords
def Opens {α : Type} (P : Program) (t : TypeId) (kd : Kd α) (Q : α → Prop) : Prop :=
 ∀ (H : Type) (enc : TypeId × Value → H) (w : World) (base : Nat) (spare : Nat → Bool) (held : Bool) (fuel : Nat) (cs : List Value) (x : DataW H × List MemPlace),
  DataW.trod enc P w base spare held fuel t cs = some x → ∃ y, kd.K w y cs ∧ Q y
theorem opens_int {P : Program} {t : TypeId} {k : IntKind} (ht : P.underlying t = some (.int k)) : Opens P t (Kd.int k) (fun n => (Lit.int k n).wf = true) := by
 intro H enc w base spare held fuel cs x h
 obtain ⟨n, rfl, _, hw⟩ := DataW.trod_int ht h
 exact ⟨n, rfl, hw⟩
theorem list_of {α : Type} {n : Nat} {p : Nat → α → Prop} (hA : ∀ i, i < n → ∃ y, p i y) : ∃ xs : List α, xs.length = n ∧ ∀ i y, xs[i]? = some y → p i y := by
 induction n with
 | zero => exact ⟨[], rfl, by simp⟩
 | succ l ih =>
  obtain ⟨xs, hx, hp⟩ := ih (fun i hil => hA i (by omega))
  obtain ⟨y, hy⟩ := hA l (by omega)
  refine ⟨xs ++ [y], by simp [hx], fun i z hz => ?_⟩
  by_cases hil : i < l
  ·rw [List.getElem?_append_left (by omega)] at hz
   exact hp i z hz
  ·have hil2 : i < (xs ++ [y]).length := (List.getElem?_eq_some_iff.1 hz).1
   have : i = l := by simp [hx] at hil2; omega
   subst this
   rw [List.getElem?_append_right (by omega), hx, Nat.sub_self] at hz
   simp at hz
   subst hz
   exact hy
theorem opens_slice {α : Type} {P : Program} {t e : TypeId} {kd : Kd α} {Q : α → Prop} (e' : Nat) (ht : P.underlying t = some (.slice e)) (hc : P.cellsOf e = kd.sz) (ho : Opens P e kd Q) :
  Opens P t (Kd.slice e' kd) (fun xs => xs.length ≤ 9223372036854775807 ∧ ∀ x ∈ xs, Q x) := by
 intro H enc w base spare held fuel cs x h
 rcases open_slice ht h with ⟨rfl, _⟩ | ⟨a, len, cap, m, n, D, Pl, rfl, _, hl, hm, hmm, _, hi⟩
 ·exact ⟨[], ⟨none, 0, rfl, Nat.le_refl _, rfl, by simp, fun h => absurd h (Nat.lt_irrefl 0)⟩, by simp, by simp⟩
 ·have hlm : len ≤ m := by rw [hmm]; split <;> omega
  have hm2 : cap ≤ 9223372036854775807 := hm
  have hA : ∀ i, i < len → ∃ y, Q y ∧ ∃ c, c.length = kd.sz ∧ kd.K w y c ∧ ∀ j u, c[j]? = some u → w.cell? (a.add (i * kd.sz + j)) = some u := by
   intro i hil
   obtain ⟨cs', h1, h2⟩ := hi i (by omega)
   obtain ⟨y, hy, hq⟩ := ho H enc w base spare held n cs' _ h2
   obtain ⟨_, hlen, hcell⟩ := World.cells?_some h1
   refine ⟨y, hq, cs', by rw [hlen, hc], hy, fun j u hj => ?_⟩
   have hjl : j < cs'.length := (List.getElem?_eq_some_iff.1 hj).1
   rw [← hc, ← Go.Deep.add_add, hcell j (by omega), hj]
  have hL := list_of hA
  obtain ⟨xs, hx, hp⟩ := hL
  subst hx
  refine ⟨xs, ⟨some a, cap, rfl, hl, rfl, by omega, fun _ => ⟨a, rfl, fun j p hj => (hp j p hj).2⟩⟩, by omega, fun z hz => ?_⟩
  obtain ⟨i, hi2⟩ := List.getElem?_of_mem hz
  exact (hp i z hi2).1
theorem Opens.imp {α : Type} {P : Program} {t : TypeId} {kd : Kd α} {Q Q' : α → Prop} (h : Opens P t kd Q) (hq : ∀ x, Q x → Q' x) : Opens P t kd Q' := by
 intro H enc w base spare held fuel cs x hx
 obtain ⟨y, hy, hQ⟩ := h H enc w base spare held fuel cs x hx
 exact ⟨y, hy, hq y hQ⟩
theorem Opens.trod {α : Type} {P : Program} {t : TypeId} {kd : Kd α} {Q : α → Prop} (h : Opens P t kd Q) {H : Type} {enc : TypeId × Value → H} {w : World} {base : Nat} {spare : Nat → Bool} {held : Bool} {v : Value} {d : DataW H} {ps : List MemPlace}
  (hx : DataW.Trod enc P w base spare held t v d ps) : ∃ y, kd.K w y v.cells.toList ∧ Q y := by
 obtain ⟨fuel, hf⟩ := hx
 exact h H enc w base spare held fuel _ _ hf
end Go.Proofs.Ytpbjbfimnfghkaa.Open
