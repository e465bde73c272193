/- The law FnExactNewer: the row, out of its pure statement and the printed walk: for every input the call returns true, and each argument reads as before. -/
import Derived.Test.YtafmhffapmejpaaRows
import Derived.Test.YtafmhffapmejpaaTXNewerPFnExactNewerx2
import Derived.Test.YtafmhffapmejpaaTXNewerPureFnExactNewer
import Derived.Test.YtafmhffapmejpaaTXNewerOpen
import Derived.WalkKit
import Derived.ProofKit
import Derived.OpenShut
import Derived.ShutString
import Derived.ChangeOld
import Derived.Below
import Derived.SizedLaws
import Derived.Carry
namespace Go.Proofs.Ytafmhffapmejpaa.fnExactNewer
open Go.ChangeShapes Go.WideShapes Go.ChangeAt Go.RowKit Go.Proofs.Ytafmhffapmejpaa.Open Go.Proofs.Ytafmhffapmejpaa.PFnExactNewer Go.Proofs.YtafmhffapmejpaaW.PrintWords
open Go.ChangeMaps (open_string shut_string)
set_option linter.unusedVariables false
theorem own : ownKnob Try.prog.godebug = none := by kernel_rfl
theorem laidOut : laidOutB Try.prog = true := by kernel_rfl
structure S58 where
 f0 : Int
 f1 : Int
 f2 : Int
def k58 : Kd S58 := Kd.iso (Kd.pair (Kd.int .i64) (Kd.pair (Kd.int .i64) (Kd.int .i64))) (fun x : S58 => (x.f0, (x.f1, x.f2)))
structure S60 where
 f0 : S58
 f1 : Bool
 f2 : (List Int)
def k60 : Kd S60 := Kd.iso (Kd.pair k58 (Kd.pair Kd.bool (Kd.slice 5 (Kd.int .u8)))) (fun x : S60 => (x.f0, (x.f1, x.f2)))
def q58 (x : S58) : Prop := ((Lit.int .i64 x.f0).wf = true) ∧ ((Lit.int .i64 x.f1).wf = true) ∧ ((Lit.int .i64 x.f2).wf = true)
theorem opens58 : Opens Try.prog 58 k58 q58 :=
 opens_struct (fun x : S58 => (x.f0, (x.f1, x.f2))) (fun p => ⟨p.1, p.2.1, p.2.2⟩) (fun _ => rfl) Try.underlying58 (by kernel_rfl) (opensF_cons rfl (by kernel_rfl) (opens_int Try.underlying3) (opensF_cons rfl (by kernel_rfl) (opens_int Try.underlying3) (opensF_one rfl (by kernel_rfl) (opens_int Try.underlying3))))
def q60 (x : S60) : Prop := (q58 x.f0) ∧ (True) ∧ ((x.f2.length ≤ 9223372036854775807 ∧ ∀ zxf2 ∈ x.f2, (Lit.int .u8 zxf2).wf = true))
theorem opens60 : Opens Try.prog 60 k60 q60 :=
 opens_struct (fun x : S60 => (x.f0, (x.f1, x.f2))) (fun p => ⟨p.1, p.2.1, p.2.2⟩) (fun _ => rfl) Try.underlying60 (by kernel_rfl) (opensF_cons rfl (by kernel_rfl) opens58 (opensF_cons rfl (by kernel_rfl) (opens_bool Try.underlying4) (opensF_one rfl (by kernel_rfl) (opens_slice 5 Try.underlying22 (by kernel_rfl) (opens_int Try.underlying5)))))
set_option maxRecDepth 100000 in
theorem lifted (os : Os) (started : os.Started) (H : Type) (enc : TypeId × Value → H) :
  ReturnsInHanded {} Try.checked os 10 .any (Rows.fnExactNewerSpec.pre6 enc Try.prog Try.f10 Rows.fnExactNewerRow.domain false) (Rows.fnExactNewerSpec.post enc Try.prog Try.f10 false true false false) := by
 refine returnsInHanded_of_change_sized (C := Try.checked) own started (by kernel_rfl) Try.func10
  (ChangeSpec.witness6 (enc := enc) (C := Try.checked) false ⟨#[], #[.agg #[.int .i64 0, .int .i64 0, .int .i64 0, .bool false, .slice none 0 0], .agg #[.int .i64 0, .int .i64 0, .int .i64 0, .bool false, .slice none 0 0]], []⟩ 8 (by kernel_rfl) (by kernel_rfl) (by kernel_rfl) (by kernel_rfl)) ?_
 intro W base args ds gs before hval0 hW hcnd hsz0 _
 have hval : ∀ (j : Nat) t v, Try.f10.params[j]? = some t → args[j]? = some v → Value.okWide Try.prog W .any base t v := hval0
 have hW' := hW
 obtain ⟨p, q, hA0, hV, rfl, hfz, hnd⟩ := hW
 have hA : DataW.TrodAll enc Try.prog W 0 (fun _ => true) true Try.f10.params.toList args.toList ds p := hA0
 rw [Try.params10] at hA hval
 obtain ⟨v0, vs0, d0, ds0, p0, q0, hargs, rfl, rfl, h0, r0⟩ := trodAll_cons hA
 obtain ⟨v1, vs1, d1, ds1, p1, q1, rfl, rfl, rfl, h1, r1⟩ := trodAll_cons r0
 obtain ⟨rfl, rfl, rfl⟩ := trodAll_nil r1
 obtain rfl : args = #[v0, v1] := by cases args; simp_all
 obtain ⟨rfl, rfl⟩ := trodVars_none hV
 have k0_ := h0
 have lt0 : ∀ x ∈ p0, x.block < W.heap.size := by obtain ⟨m, hm⟩ := k0_; exact DataW.trod_lt m _ _ _ hm
 obtain ⟨cs0, rfl, sz0⟩ := okWide_struct Try.underlying60 (hval 0 60 v0 rfl rfl)
 obtain ⟨y0, K0, Q0⟩ := Opens.trod opens60 h0
 obtain ⟨cs0⟩ := cs0
 generalize hcs0 : (Value.agg ⟨cs0⟩).cells.toList = L0 at K0
 obtain ⟨_, _, rfl, ⟨_, _, rfl, rfl, ⟨_, _, rfl, rfl, rfl⟩⟩, ⟨_, _, rfl, rfl, ⟨B0_4, e0_4, rfl, hc0_4, hr0_4⟩⟩⟩ := K0
 simp [Value.cells] at hcs0
 subst hcs0
 have k1_ := h1
 have lt1 : ∀ x ∈ p1, x.block < W.heap.size := by obtain ⟨m, hm⟩ := k1_; exact DataW.trod_lt m _ _ _ hm
 obtain ⟨cs1, rfl, sz1⟩ := okWide_struct Try.underlying60 (hval 1 60 v1 rfl rfl)
 obtain ⟨y1, K1, Q1⟩ := Opens.trod opens60 h1
 obtain ⟨cs1⟩ := cs1
 generalize hcs1 : (Value.agg ⟨cs1⟩).cells.toList = L1 at K1
 obtain ⟨_, _, rfl, ⟨_, _, rfl, rfl, ⟨_, _, rfl, rfl, rfl⟩⟩, ⟨_, _, rfl, rfl, ⟨B1_4, e1_4, rfl, hc1_4, hr1_4⟩⟩⟩ := K1
 simp [Value.cells] at hcs1
 subst hcs1
 obtain ⟨k, h_⟩ := Pure.FnExactNewer y0.f0.f0 y0.f0.f1 y0.f0.f2 y0.f1 y0.f2 y1.f0.f0 y1.f0.f1 y1.f0.f2 y1.f1 y1.f2 Q0 Q1
 clear hA0 hval0 hsz0
 refine (laws_FnExactNewer.calls k y0.f0.f0 y0.f0.f1 y0.f0.f2 y0.f1 B0_4 e0_4 y0.f2 y1.f0.f0 y1.f0.f1 y1.f0.f2 y1.f1 B1_4 e1_4 y1.f2 true W hr0_4 hc0_4 hr1_4 hc1_4 h_ ⟨rfl⟩).mono fun e W' ⟨he, bel⟩ => ?_
 subst he
 exact ⟨_, rfl, _, _, _, [], _, [], hW', trodAll_mk1 (shut_bool Try.underlying4 _), (trodAll_cons_mk (Below.trod laidOut (by kernel_rfl) (of_decide_eq_true (by kernel_rfl)) k0_ bel lt0) (trodAll_cons_mk (Below.trod laidOut (by kernel_rfl) (of_decide_eq_true (by kernel_rfl)) k1_ bel lt1) trodAll_mk0)), rfl, bel.frame _, fun h => by cases h⟩
theorem over : Rows.fnExactNewerRow.holds Try.pinned (OpenSpec.ofChange Rows.fnExactNewerSpec) :=
 OpenClaim.holds_of_wide 10 Try.f10 rfl rfl rfl rfl rfl rfl rfl ⟨rfl, rfl, rfl, rfl, rfl⟩ rfl rfl rfl rfl rfl (by kernel_rfl) Try.func10 (by kernel_rfl)
  (of_decide_eq_true (by kernel_rfl)) (by unfold Func.isWrapper; first | (rw [if_pos (by decide +kernel)]; kernel_rfl) | (rw [if_neg (by decide +kernel)]; exact ⟨rfl, rfl⟩))
  (fun os started H enc _ => lifted os started H enc)
theorem proved : Rows.FnExactNewerSaid := over
#print axioms proved
end Go.Proofs.Ytafmhffapmejpaa.fnExactNewer
namespace Go.Proofs.Ytafmhffapmejpaa
theorem fnExactNewer_holds : Rows.FnExactNewerSaid := fnExactNewer.proved
end Go.Proofs.Ytafmhffapmejpaa
