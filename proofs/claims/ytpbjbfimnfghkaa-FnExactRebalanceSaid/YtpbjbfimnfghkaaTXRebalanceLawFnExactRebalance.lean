/- The law FnExactRebalance: the row, out of its pure statement and the printed walk: for every input the call returns true, and each argument reads as before. -/
import Derived.Test.YtpbjbfimnfghkaaRows
import Derived.Test.YtpbjbfimnfghkaaTXRebalancePFnExactRebalancex15
import Derived.Test.YtpbjbfimnfghkaaTXRebalancePureFnExactRebalance
import Derived.Test.YtpbjbfimnfghkaaTXRebalanceOpen
import Derived.WalkKit
import Derived.ProofKit
import Derived.OpenShut
import Derived.ShutString
import Derived.ChangeOld
import Derived.Below
import Derived.SizedLaws
import Derived.Carry
namespace Go.Proofs.Ytpbjbfimnfghkaa.fnExactRebalance
open Go.ChangeShapes Go.WideShapes Go.ChangeAt Go.RowKit Go.Proofs.Ytpbjbfimnfghkaa.Open Go.Proofs.Ytpbjbfimnfghkaa.PFnExactRebalance Go.Proofs.YtpbjbfimnfghkaaW.PrintWords
open Go.ChangeMaps (open_string shut_string)
set_option linter.unusedVariables false
theorem own : ownKnob Try.prog.godebug = none := by kernel_rfl
theorem laidOut : laidOutB Try.prog = true := by kernel_rfl
structure S40 where
 f0 : Int
 f1 : (List S96)
def k40 : Kd S40 := Kd.iso (Kd.pair (Kd.int .i64) (Kd.slice 96 k96)) (fun x : S40 => (x.f0, x.f1))
def q96 (x : S96) : Prop := ((x.f0.length ≤ 9223372036854775807 ∧ ∀ zxf0 ∈ x.f0, (Lit.int .i64 zxf0).wf = true))
theorem opens96 : Opens Try.prog 96 k96 q96 :=
 opens_struct (fun x : S96 => x.f0) (fun p => ⟨p⟩) (fun _ => rfl) Try.underlying96 (by kernel_rfl) (opensF_one rfl (by kernel_rfl) (opens_slice 3 Try.underlying33 (by kernel_rfl) (opens_int Try.underlying3)))
def q40 (x : S40) : Prop := ((Lit.int .i64 x.f0).wf = true) ∧ ((x.f1.length ≤ 9223372036854775807 ∧ ∀ zxf1 ∈ x.f1, q96 zxf1))
theorem opens40 : Opens Try.prog 40 k40 q40 :=
 opens_struct (fun x : S40 => (x.f0, x.f1)) (fun p => ⟨p.1, p.2⟩) (fun _ => rfl) Try.underlying40 (by kernel_rfl) (opensF_cons rfl (by kernel_rfl) (opens_int Try.underlying3) (opensF_one rfl (by kernel_rfl) (opens_slice 96 Try.underlying38 (by kernel_rfl) opens96)))
def q83 (x : S83) : Prop := ((Lit.int .i64 x.f0).wf = true) ∧ ((Lit.int .i64 x.f1).wf = true) ∧ ((Lit.int .i64 x.f2).wf = true)
theorem opens83 : Opens Try.prog 83 k83 q83 :=
 opens_struct (fun x : S83 => (x.f0, (x.f1, x.f2))) (fun p => ⟨p.1, p.2.1, p.2.2⟩) (fun _ => rfl) Try.underlying83 (by kernel_rfl) (opensF_cons rfl (by kernel_rfl) (opens_int Try.underlying3) (opensF_cons rfl (by kernel_rfl) (opens_int Try.underlying3) (opensF_one rfl (by kernel_rfl) (opens_int Try.underlying3))))
set_option maxRecDepth 100000 in
theorem lifted (os : Os) (started : os.Started) (H : Type) (enc : TypeId × Value → H) :
  ReturnsInHanded {} Try.checked os 4 .any (Rows.fnExactRebalanceSpec.pre6 enc Try.prog Try.f4 Rows.fnExactRebalanceRow.domain false) (Rows.fnExactRebalanceSpec.post enc Try.prog Try.f4 false true false false) := by
 refine returnsInHanded_of_change_sized (C := Try.checked) own started (by kernel_rfl) Try.func4
  (ChangeSpec.witness6 (enc := enc) (C := Try.checked) false ⟨#[], #[.agg #[.int .i64 0, .slice none 0 0], .slice none 0 0], []⟩ 8 (by kernel_rfl) (by kernel_rfl) (by kernel_rfl) (by kernel_rfl)) ?_
 intro W base args ds gs before hval0 hW hcnd hsz0 _
 have hval : ∀ (j : Nat) t v, Try.f4.params[j]? = some t → args[j]? = some v → Value.okWide Try.prog W .any base t v := hval0
 have hW' := hW
 obtain ⟨p, q, hA0, hV, rfl, hfz, hnd⟩ := hW
 have hA : DataW.TrodAll enc Try.prog W 0 (fun _ => true) true Try.f4.params.toList args.toList ds p := hA0
 rw [Try.params4] at hA hval
 obtain ⟨v0, vs0, d0, ds0, p0, q0, hargs, rfl, rfl, h0, r0⟩ := trodAll_cons hA
 obtain ⟨v1, vs1, d1, ds1, p1, q1, rfl, rfl, rfl, h1, r1⟩ := trodAll_cons r0
 obtain ⟨rfl, rfl, rfl⟩ := trodAll_nil r1
 obtain rfl : args = #[v0, v1] := by cases args; simp_all
 obtain ⟨rfl, rfl⟩ := trodVars_none hV
 have k0_ := h0
 have lt0 : ∀ x ∈ p0, x.block < W.heap.size := by obtain ⟨m, hm⟩ := k0_; exact DataW.trod_lt m _ _ _ hm
 obtain ⟨cs0, rfl, sz0⟩ := okWide_struct Try.underlying40 (hval 0 40 v0 rfl rfl)
 obtain ⟨y0, K0, Q0⟩ := Opens.trod opens40 h0
 obtain ⟨cs0⟩ := cs0
 generalize hcs0 : (Value.agg ⟨cs0⟩).cells.toList = L0 at K0
 obtain ⟨_, _, rfl, rfl, ⟨B0_1, e0_1, rfl, hc0_1, hr0_1⟩⟩ := K0
 simp [Value.cells] at hcs0
 subst hcs0
 have k1_ := h1
 have lt1 : ∀ x ∈ p1, x.block < W.heap.size := by obtain ⟨m, hm⟩ := k1_; exact DataW.trod_lt m _ _ _ hm
 obtain ⟨A1, n1, c1, rfl⟩ := okWide_slice Try.underlying41 (hval 1 41 v1 rfl rfl)
 obtain ⟨l1, ⟨B1, e1, hcs1, hc1, hr1⟩, Q1⟩ := Opens.trod (opens_slice 83 Try.underlying41 (by kernel_rfl) opens83) h1
 simp [Value.cells] at hcs1
 obtain ⟨rfl, rfl, rfl⟩ := hcs1
 obtain ⟨k, h_⟩ := Pure.FnExactRebalance y0.f0 y0.f1 l1 Q0 Q1
 clear hA0 hval0 hsz0
 refine (laws_FnExactRebalance.calls k y0.f0 B0_1 e0_1 y0.f1 _ _ l1 true W hr0_1 hc0_1 hr1 hc1 h_ ⟨rfl⟩).mono fun e W' ⟨he, bel⟩ => ?_
 subst he
 exact ⟨_, rfl, _, _, _, [], _, [], hW', trodAll_mk1 (shut_bool Try.underlying4 _), (trodAll_cons_mk (Below.trod laidOut (by kernel_rfl) (of_decide_eq_true (by kernel_rfl)) k0_ bel lt0) (trodAll_cons_mk (Below.trod laidOut (by kernel_rfl) (of_decide_eq_true (by kernel_rfl)) k1_ bel lt1) trodAll_mk0)), rfl, bel.frame _, fun h => by cases h⟩
theorem over : Rows.fnExactRebalanceRow.holds Try.pinned (OpenSpec.ofChange Rows.fnExactRebalanceSpec) :=
 OpenClaim.holds_of_wide 4 Try.f4 rfl rfl rfl rfl rfl rfl rfl ⟨rfl, rfl, rfl, rfl, rfl⟩ rfl rfl rfl rfl rfl (by kernel_rfl) Try.func4 (by kernel_rfl)
  (of_decide_eq_true (by kernel_rfl)) (by unfold Func.isWrapper; first | (rw [if_pos (by decide +kernel)]; kernel_rfl) | (rw [if_neg (by decide +kernel)]; exact ⟨rfl, rfl⟩))
  (fun os started H enc _ => lifted os started H enc)
theorem proved : Rows.FnExactRebalanceSaid := over
#print axioms proved
end Go.Proofs.Ytpbjbfimnfghkaa.fnExactRebalance
namespace Go.Proofs.Ytpbjbfimnfghkaa
theorem fnExactRebalance_holds : Rows.FnExactRebalanceSaid := fnExactRebalance.proved
end Go.Proofs.Ytpbjbfimnfghkaa
