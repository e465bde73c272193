/- The law FnExactPutFile: the row, out of its pure statement and the printed walk: for every input the call returns true, and each argument reads as before. -/
import Derived.Test.YtbhllgifciaepaaRows
import Derived.Test.YtbhllgifciaepaaTXPutFilePFnExactPutFilex4
import Derived.Test.YtbhllgifciaepaaTXPutFilePureFnExactPutFile
import Derived.Test.YtbhllgifciaepaaTXPutFileOpen
import Derived.WalkKit
import Derived.ProofKit
import Derived.OpenShut
import Derived.ShutString
import Derived.ChangeOld
import Derived.Below
import Derived.SizedLaws
import Derived.Carry
namespace Go.Proofs.Ytbhllgifciaepaa.fnExactPutFile
open Go.ChangeShapes Go.WideShapes Go.ChangeAt Go.RowKit Go.Proofs.Ytbhllgifciaepaa.Open Go.Proofs.Ytbhllgifciaepaa.PFnExactPutFile Go.Proofs.YtbhllgifciaepaaW.PrintWords
open Go.ChangeMaps (open_string shut_string)
set_option linter.unusedVariables false
theorem own : ownKnob Try.prog.godebug = none := by kernel_rfl
theorem laidOut : laidOutB Try.prog = true := by kernel_rfl
structure S53 where
 f0 : Int
 f1 : Int
 f2 : Int
def k53 : Kd S53 := Kd.iso (Kd.pair (Kd.int .i64) (Kd.pair (Kd.int .i64) (Kd.int .i64))) (fun x : S53 => (x.f0, (x.f1, x.f2)))
structure S56 where
 f0 : S53
 f1 : Bool
 f2 : (List Int)
def k56 : Kd S56 := Kd.iso (Kd.pair k53 (Kd.pair Kd.bool (Kd.slice 5 (Kd.int .u8)))) (fun x : S56 => (x.f0, (x.f1, x.f2)))
def q53 (x : S53) : Prop := ((Lit.int .i64 x.f0).wf = true) ∧ ((Lit.int .i64 x.f1).wf = true) ∧ ((Lit.int .i64 x.f2).wf = true)
theorem opens53 : Opens Try.prog 53 k53 q53 :=
 opens_struct (fun x : S53 => (x.f0, (x.f1, x.f2))) (fun p => ⟨p.1, p.2.1, p.2.2⟩) (fun _ => rfl) Try.underlying53 (by kernel_rfl) (opensF_cons rfl (by kernel_rfl) (opens_int Try.underlying3) (opensF_cons rfl (by kernel_rfl) (opens_int Try.underlying3) (opensF_one rfl (by kernel_rfl) (opens_int Try.underlying3))))
def q56 (x : S56) : Prop := (q53 x.f0) ∧ (True) ∧ ((x.f2.length ≤ 9223372036854775807 ∧ ∀ zxf2 ∈ x.f2, (Lit.int .u8 zxf2).wf = true))
theorem opens56 : Opens Try.prog 56 k56 q56 :=
 opens_struct (fun x : S56 => (x.f0, (x.f1, x.f2))) (fun p => ⟨p.1, p.2.1, p.2.2⟩) (fun _ => rfl) Try.underlying56 (by kernel_rfl) (opensF_cons rfl (by kernel_rfl) opens53 (opensF_cons rfl (by kernel_rfl) (opens_bool Try.underlying4) (opensF_one rfl (by kernel_rfl) (opens_slice 5 Try.underlying54 (by kernel_rfl) (opens_int Try.underlying5)))))
set_option maxRecDepth 100000 in
theorem lifted (os : Os) (started : os.Started) (H : Type) (enc : TypeId × Value → H) :
  ReturnsInHanded {} Try.checked os 6 .any (Rows.fnExactPutFileSpec.pre6 enc Try.prog Try.f6 Rows.fnExactPutFileRow.domain false) (Rows.fnExactPutFileSpec.post enc Try.prog Try.f6 false true false false) := by
 refine returnsInHanded_of_change_sized (C := Try.checked) own started (by kernel_rfl) Try.func6
  (ChangeSpec.witness6 (enc := enc) (C := Try.checked) false ⟨#[], #[.agg #[.int .i64 0, .int .i64 0, .int .i64 0, .bool false, .slice none 0 0]], []⟩ 8 (by kernel_rfl) (by kernel_rfl) (by kernel_rfl) (by kernel_rfl)) ?_
 intro W base args ds gs before hval0 hW hcnd hsz0 _
 have hval : ∀ (j : Nat) t v, Try.f6.params[j]? = some t → args[j]? = some v → Value.okWide Try.prog W .any base t v := hval0
 have hW' := hW
 obtain ⟨p, q, hA0, hV, rfl, hfz, hnd⟩ := hW
 have hA : DataW.TrodAll enc Try.prog W 0 (fun _ => true) true Try.f6.params.toList args.toList ds p := hA0
 rw [Try.params6] at hA hval
 obtain ⟨v0, vs0, d0, ds0, p0, q0, hargs, rfl, rfl, h0, r0⟩ := trodAll_cons hA
 obtain ⟨rfl, rfl, rfl⟩ := trodAll_nil r0
 obtain rfl : args = #[v0] := by cases args; simp_all
 obtain ⟨rfl, rfl⟩ := trodVars_none hV
 have k0_ := h0
 have lt0 : ∀ x ∈ p0, x.block < W.heap.size := by obtain ⟨m, hm⟩ := k0_; exact DataW.trod_lt m _ _ _ hm
 obtain ⟨cs0, rfl, sz0⟩ := okWide_struct Try.underlying56 (hval 0 56 v0 rfl rfl)
 obtain ⟨y0, K0, Q0⟩ := Opens.trod opens56 h0
 obtain ⟨cs0⟩ := cs0
 generalize hcs0 : (Value.agg ⟨cs0⟩).cells.toList = L0 at K0
 obtain ⟨_, _, rfl, ⟨_, _, rfl, rfl, ⟨_, _, rfl, rfl, rfl⟩⟩, ⟨_, _, rfl, rfl, ⟨B0_4, e0_4, rfl, hc0_4, hr0_4⟩⟩⟩ := K0
 simp [Value.cells] at hcs0
 subst hcs0
 obtain ⟨k, h_⟩ := Pure.FnExactPutFile y0.f0.f0 y0.f0.f1 y0.f0.f2 y0.f1 y0.f2 Q0
 clear hA0 hval0 hsz0
 refine (laws_FnExactPutFile.calls k y0.f0.f0 y0.f0.f1 y0.f0.f2 y0.f1 B0_4 e0_4 y0.f2 true W hr0_4 hc0_4 h_ ⟨rfl⟩).mono fun e W' ⟨he, bel⟩ => ?_
 subst he
 exact ⟨_, rfl, _, _, _, [], _, [], hW', trodAll_mk1 (shut_bool Try.underlying4 _), (trodAll_cons_mk (Below.trod laidOut (by kernel_rfl) (of_decide_eq_true (by kernel_rfl)) k0_ bel lt0) trodAll_mk0), rfl, bel.frame _, fun h => by cases h⟩
theorem over : Rows.fnExactPutFileRow.holds Try.pinned (OpenSpec.ofChange Rows.fnExactPutFileSpec) :=
 OpenClaim.holds_of_wide 6 Try.f6 rfl rfl rfl rfl rfl rfl rfl ⟨rfl, rfl, rfl, rfl, rfl⟩ rfl rfl rfl rfl rfl (by kernel_rfl) Try.func6 (by kernel_rfl)
  (of_decide_eq_true (by kernel_rfl)) (by unfold Func.isWrapper; first | (rw [if_pos (by decide +kernel)]; kernel_rfl) | (rw [if_neg (by decide +kernel)]; exact ⟨rfl, rfl⟩))
  (fun os started H enc _ => lifted os started H enc)
theorem proved : Rows.FnExactPutFileSaid := over
#print axioms proved
end Go.Proofs.Ytbhllgifciaepaa.fnExactPutFile
namespace Go.Proofs.Ytbhllgifciaepaa
theorem fnExactPutFile_holds : Rows.FnExactPutFileSaid := fnExactPutFile.proved
end Go.Proofs.Ytbhllgifciaepaa
