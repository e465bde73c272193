/- The law FnExactLoadOf: the row, out of its pure statement and the printed walk: for every input the call returns true, and each argument reads as before. -/
import Derived.Test.YtafmhffapmejpaaRows
import Derived.Test.YtafmhffapmejpaaPFnExactLoadOfx3
import Derived.Test.YtafmhffapmejpaaPureFnExactLoadOf
import Derived.Test.YtafmhffapmejpaaOpen
import Derived.WalkKit
import Derived.ProofKit
import Derived.OpenShut
import Derived.ShutString
import Derived.ChangeOld
import Derived.Below
import Derived.SizedLaws
import Derived.Carry
namespace Go.Proofs.Ytafmhffapmejpaa.fnExactLoadOf
open Go.ChangeShapes Go.WideShapes Go.ChangeAt Go.RowKit Go.Proofs.Ytafmhffapmejpaa.Open Go.Proofs.Ytafmhffapmejpaa.PFnExactLoadOf Go.Proofs.YtafmhffapmejpaaW.PrintWords
open Go.ChangeMaps (open_string shut_string)
set_option linter.unusedVariables false
theorem own : ownKnob Try.prog.godebug = none := by kernel_rfl
theorem laidOut : laidOutB Try.prog = true := by kernel_rfl
structure S77 where
  f0 : Int
  f1 : (List S120)
def k77 : Kd S77 := Kd.iso (Kd.pair (Kd.int .i64) (Kd.slice 120 k120)) (fun x : S77 => (x.f0, x.f1))

def q120 (x : S120) : Prop := ((x.f0.length ≤ 9223372036854775807 ∧ ∀ zxf0 ∈ x.f0, (Lit.int .i64 zxf0).wf = true))
theorem opens120 : Opens Try.prog 120 k120 q120 :=
  opens_struct (fun x : S120 => x.f0) (fun p => ⟨p⟩) (fun _ => rfl) Try.underlying120 (by kernel_rfl) (opensF_one rfl (by kernel_rfl) (opens_slice 3 Try.underlying100 (by kernel_rfl) (opens_int Try.underlying3)))

def q77 (x : S77) : Prop := ((Lit.int .i64 x.f0).wf = true) ∧ ((x.f1.length ≤ 9223372036854775807 ∧ ∀ zxf1 ∈ x.f1, q120 zxf1))
theorem opens77 : Opens Try.prog 77 k77 q77 :=
  opens_struct (fun x : S77 => (x.f0, x.f1)) (fun p => ⟨p.1, p.2⟩) (fun _ => rfl) Try.underlying77 (by kernel_rfl) (opensF_cons rfl (by kernel_rfl) (opens_int Try.underlying3) (opensF_one rfl (by kernel_rfl) (opens_slice 120 Try.underlying75 (by kernel_rfl) opens120)))

set_option maxRecDepth 100000 in
theorem lifted (os : Os) (started : os.Started) (H : Type) (enc : TypeId × Value → H) :
    ReturnsInHanded {} Try.checked os 13 .any (Rows.fnExactLoadOfSpec.pre6 enc Try.prog Try.f13 Rows.fnExactLoadOfRow.domain false) (Rows.fnExactLoadOfSpec.post enc Try.prog Try.f13 false true false false) := by
  refine returnsInHanded_of_change_sized (C := Try.checked) own started (by kernel_rfl) Try.func13
    (ChangeSpec.witness6 (enc := enc) (C := Try.checked) false ⟨#[], #[.agg #[.int .i64 0, .slice none 0 0], .int .i64 0], []⟩ 8 (by kernel_rfl) (by kernel_rfl) (by kernel_rfl) (by kernel_rfl)) ?_
  intro W base args ds gs before hval0 hW hcnd hsz0 _
  have hval : ∀ (j : Nat) t v, Try.f13.params[j]? = some t → args[j]? = some v → Value.okWide Try.prog W .any base t v := hval0
  have hW' := hW
  obtain ⟨p, q, hA0, hV, rfl, hfz, hnd⟩ := hW
  have hA : DataW.TrodAll enc Try.prog W 0 (fun _ => true) true Try.f13.params.toList args.toList ds p := hA0
  rw [Try.params13] at hA hval
  obtain ⟨v0, vs0, d0, ds0, p0, q0, hargs, rfl, rfl, h0, r0⟩ := trodAll_cons hA
  obtain ⟨v1, vs1, d1, ds1, p1, q1, rfl, rfl, rfl, h1, r1⟩ := trodAll_cons r0
  obtain ⟨rfl, rfl, rfl⟩ := trodAll_nil r1
  obtain rfl : args = #[v0, v1] := by cases args; simp_all
  obtain ⟨rfl, rfl⟩ := trodVars_none hV
  have k0_ := h0
  have lt0 : ∀ x ∈ p0, x.block < W.heap.size := by obtain ⟨m, hm⟩ := k0_; exact DataW.trod_lt m _ _ _ hm
  obtain ⟨cs0, rfl, sz0⟩ := okWide_struct Try.underlying77 (hval 0 77 v0 rfl rfl)
  obtain ⟨y0, K0, Q0⟩ := Opens.trod opens77 h0
  obtain ⟨cs0⟩ := cs0
  generalize hcs0 : (Value.agg ⟨cs0⟩).cells.toList = L0 at K0
  obtain ⟨_, _, rfl, rfl, ⟨B0_1, e0_1, rfl, hc0_1, hr0_1⟩⟩ := K0
  simp [Value.cells] at hcs0
  subst hcs0
  have k1_ := h1
  have lt1 : ∀ x ∈ p1, x.block < W.heap.size := by obtain ⟨m, hm⟩ := k1_; exact DataW.trod_lt m _ _ _ hm
  obtain ⟨a1, rfl, rfl, rfl, Q1⟩ := open_int Try.underlying3 (hval 1 3 v1 rfl rfl) h1
  obtain ⟨k, h_⟩ := Pure.FnExactLoadOf y0.f0 y0.f1 a1 Q0 Q1
  clear hA0 hval0 hsz0
  refine (laws_FnExactLoadOf.calls k y0.f0 B0_1 e0_1 y0.f1 a1 true W hr0_1 hc0_1 h_).mono fun e W' ⟨he, bel⟩ => ?_
  subst he
  exact ⟨_, rfl, _, _, _, [], _, [], hW', trodAll_mk1 (shut_bool Try.underlying4 _), (trodAll_cons_mk (Below.trod laidOut (by kernel_rfl) (of_decide_eq_true (by kernel_rfl)) k0_ bel lt0) (trodAll_cons_mk (Below.trod laidOut (by kernel_rfl) (of_decide_eq_true (by kernel_rfl)) k1_ bel lt1) trodAll_mk0)), rfl, bel.frame _, fun h => by cases h⟩
theorem over : Rows.fnExactLoadOfRow.holds Try.pinned (OpenSpec.ofChange Rows.fnExactLoadOfSpec) :=
  OpenClaim.holds_of_wide 13 Try.f13 rfl rfl rfl rfl rfl rfl rfl ⟨rfl, rfl, rfl, rfl, rfl⟩ rfl rfl rfl rfl rfl (by kernel_rfl) Try.func13 (by kernel_rfl)
    (of_decide_eq_true (by kernel_rfl)) (by unfold Func.isWrapper; first | (rw [if_pos (by decide +kernel)]; kernel_rfl) | (rw [if_neg (by decide +kernel)]; exact ⟨rfl, rfl⟩))
    (fun os started H enc _ => lifted os started H enc)
theorem proved : Rows.FnExactLoadOfSaid := over
#print axioms proved
end Go.Proofs.Ytafmhffapmejpaa.fnExactLoadOf
namespace Go.Proofs.Ytafmhffapmejpaa
/-- The row, under a short name, for the claim. -/
theorem fnExactLoadOf_holds : Rows.FnExactLoadOfSaid := fnExactLoadOf.proved
end Go.Proofs.Ytafmhffapmejpaa
