/- The law FnExactStampText: the row, out of its pure statement and the printed walk: for every input the call returns true, and each argument reads as before. -/
import Derived.Test.YtnoglmdicdpabaaDoorCards
import Derived.Test.YtnoglmdicdpabaaDoorTie
import Derived.SevenTiedAt
import Derived.LaidMore
import Derived.Lay
import Derived.LaidOnce
import Derived.LaidSub
import Derived.LaidLaws
import Derived.Handed
import Derived.Lib.LaidTab
import Derived.Stop.LaidErr
import Derived.Test.YtnoglmdicdpabaaDoorRows
import Derived.Test.YtnoglmdicdpabaaDoorTXStampTextPFnExactStampTextx1
import Derived.Test.YtnoglmdicdpabaaDoorTXStampTextPureFnExactStampText
import Derived.Test.YtnoglmdicdpabaaDoorTXStampTextOpen
import Derived.WalkKit
import Derived.ProofKit
import Derived.OpenShut
import Derived.ShutString
import Derived.ChangeOld
import Derived.Below
import Derived.SizedLaws
import Derived.Carry
namespace Go.Proofs.YtnoglmdicdpabaaDoor.fnExactStampText
open Go.ChangeShapes Go.WideShapes Go.ChangeAt Go.RowKit Go.Proofs.YtnoglmdicdpabaaDoor.Open Go.Proofs.YtnoglmdicdpabaaDoor.PFnExactStampText Go.Proofs.YtnoglmdicdpabaaDoorW.PrintWords
open Go.ChangeMaps (open_string shut_string)
set_option linter.unusedVariables false
theorem own : ownKnob Tryd.prog.godebug = none := by kernel_rfl
theorem laidOut : laidOutB Tryd.prog = true := by kernel_rfl
structure S23 where
 f0 : Int
 f1 : Int
 f2 : Int
def k23 : Kd S23 := Kd.iso (Kd.pair (Kd.int .i64) (Kd.pair (Kd.int .i64) (Kd.int .i64))) (fun x : S23 => (x.f0, (x.f1, x.f2)))
def q23 (x : S23) : Prop := ((Lit.int .i64 x.f0).wf = true) ∧ ((Lit.int .i64 x.f1).wf = true) ∧ ((Lit.int .i64 x.f2).wf = true)
theorem opens23 : Opens Tryd.prog 23 k23 q23 :=
 opens_struct (fun x : S23 => (x.f0, (x.f1, x.f2))) (fun p => ⟨p.1, p.2.1, p.2.2⟩) (fun _ => rfl) Tryd.underlying23 (by kernel_rfl) (opensF_cons rfl (by kernel_rfl) (opens_int Tryd.underlying3) (opensF_cons rfl (by kernel_rfl) (opens_int Tryd.underlying3) (opensF_one rfl (by kernel_rfl) (opens_int Tryd.underlying3))))
theorem laid_of {W : World} (h : laidMetH Tryd.prog Rows.fnExactStampTextRow.laid W) : laidMet Tryd.prog Rows.fnExactStampTextRow.laid W := by rw [MakeChecks.laidMetH_plain _ _ _ (by kernel_rfl)] at h; exact h
theorem tab_of {W : World} (h : laidMetH Tryd.prog Rows.fnExactStampTextRow.laid W) : Lib.TabIs Tryd.prog W "internal/strconv.uint64pow10" .u64 Lib.pow10Tab :=
 Lib.tabIs_of_head (g := 0) (t := 130) (e := 100) (n := 20) (by kernel_rfl) (by kernel_rfl) Tryd.underlying130 Tryd.underlying100 (by kernel_rfl) (by kernel_rfl)
  (rest := Rows.fnExactStampTextRow.laid.drop 3) (show laidMet Tryd.prog (Rows.fnExactStampTextRow.laid.drop 2) W from (laid_of h).tail.tail)
set_option maxRecDepth 100000 in
theorem lifted (os : Os) (started : os.Started) (H : Type) (enc : TypeId × Value → H) :
  ReturnsInHanded {} Tryd.checked os 3 .any (fun w args => (Rows.fnExactStampTextSpec.pre enc Tryd.prog Tryd.f3 Rows.fnExactStampTextRow.domain false w args ∧ laidMetH Tryd.prog Rows.fnExactStampTextRow.laid w) ∧ sizedMet enc Tryd.prog Tryd.f3 (OpenSpec.ofChange Rows.fnExactStampTextSpec) false w args) (Rows.fnExactStampTextSpec.post enc Tryd.prog Tryd.f3 false true false false) := by
 refine returnsInHanded_of_change_and (C := Tryd.checked) (X := fun w _ => laidMetH Tryd.prog Rows.fnExactStampTextRow.laid w) (fun _ _ _ hh h => h.of_heap hh) own started (by kernel_rfl) Tryd.func3
  (ChangeSpec.witness_at (enc := enc) (C := Tryd.checked) (os := os) (X := fun w _ => laidMetH Tryd.prog Rows.fnExactStampTextRow.laid w) false (World.laidAll Tryd.prog os Rows.fnExactStampTextRow.laid) #[.agg #[.int .i64 0, .int .i64 0, .int .i64 0]] 8 (World.laidAll_os _ _ _) (by kernel_rfl) (by kernel_rfl) (by kernel_rfl) (by kernel_rfl) (by kernel_rfl)
   (by rw [MakeChecks.laidMetH_plain _ _ _ (by kernel_rfl)]; exact laidMet_laidAll _ (by kernel_rfl) (by kernel_rfl))) ?_
 intro W base args ds gs before hval0 hW hcnd hsz0 hLaid _
 have hval : ∀ (j : Nat) t v, Tryd.f3.params[j]? = some t → args[j]? = some v → Value.okWide Tryd.prog W .any base t v := hval0
 have hW' := hW
 obtain ⟨p, q, hA0, hV, rfl, hfz, hnd⟩ := hW
 have hA : DataW.TrodAll enc Tryd.prog W 0 (fun _ => true) true Tryd.f3.params.toList args.toList ds p := hA0
 rw [Tryd.params3] at hA hval
 obtain ⟨v0, vs0, d0, ds0, p0, q0, hargs, rfl, rfl, h0, r0⟩ := trodAll_cons hA
 obtain ⟨rfl, rfl, rfl⟩ := trodAll_nil r0
 obtain rfl : args = #[v0] := by cases args; simp_all
 obtain ⟨rfl, rfl⟩ := trodVars_none hV
 have k0_ := h0
 have lt0 : ∀ x ∈ p0, x.block < W.heap.size := by obtain ⟨m, hm⟩ := k0_; exact DataW.trod_lt m _ _ _ hm
 obtain ⟨cs0, rfl, sz0⟩ := okWide_struct Tryd.underlying23 (hval 0 23 v0 rfl rfl)
 obtain ⟨y0, K0, Q0⟩ := Opens.trod opens23 h0
 obtain ⟨cs0⟩ := cs0
 generalize hcs0 : (Value.agg ⟨cs0⟩).cells.toList = L0 at K0
 obtain ⟨_, _, rfl, rfl, ⟨_, _, rfl, rfl, rfl⟩⟩ := K0
 simp [Value.cells] at hcs0
 subst hcs0
 obtain ⟨k, h_⟩ := Pure.FnExactStampText y0.f0 y0.f1 y0.f2 Q0
 clear hA0 hval0 hsz0
 refine (laws_FnExactStampText.calls k y0.f0 y0.f1 y0.f2 true W ⟨tab_of hLaid⟩ h_ ⟨rfl⟩).mono fun e W' ⟨he, bel⟩ => ?_
 subst he
 exact ⟨_, rfl, _, _, _, [], _, [], hW', trodAll_mk1 (shut_bool Tryd.underlying4 _), (trodAll_cons_mk (Below.trod laidOut (by kernel_rfl) (of_decide_eq_true (by kernel_rfl)) k0_ bel lt0) trodAll_mk0), rfl, bel.frame _, fun h => by cases h⟩
theorem over : Rows.fnExactStampTextRow.holds Tryd.pinned (OpenSpec.ofChange Rows.fnExactStampTextSpec) :=
 OpenClaim.holds_of_wide 3 Tryd.f3 rfl rfl rfl rfl rfl rfl rfl ⟨rfl, rfl, rfl, rfl, rfl⟩ rfl rfl rfl rfl rfl (by kernel_rfl) Tryd.func3 (by kernel_rfl)
  (of_decide_eq_true (by kernel_rfl)) (by unfold Func.isWrapper; first | (rw [if_pos (by decide +kernel)]; kernel_rfl) | (rw [if_neg (by decide +kernel)]; exact ⟨rfl, rfl⟩))
  (fun os started H enc _ => lifted os started H enc)
theorem proved : Rows.FnExactStampTextSaid := over
#print axioms proved
end Go.Proofs.YtnoglmdicdpabaaDoor.fnExactStampText
namespace Go.Proofs.YtnoglmdicdpabaaDoor
theorem fnExactStampText_holds : Rows.FnExactStampTextCardSaid :=
 Claim7.holds_tied_plain_at .later [] [.data, .data, .data] true (true, "b8e3e6e3f9510477c5b0088a6380c581a9766d1aef3fa798f3823c9b8e517e24") true
  fnExactStampText.proved (fun _ h => by cases h) (by kernel_rfl) (fun _ h => by cases h) fnExactStampText_row_tie rfl ⟨rfl, rfl⟩ (by kernel_rfl) rfl
  (fun f fn hf hfn => by
   obtain rfl : f = 3 := Option.some.inj ((show Tryd.prog.funcNamed "loop.example/g00241/laws.FnExactStampText" = some 3 by kernel_rfl).symm.trans hf) |>.symm
   obtain rfl : fn = Tryd.f3 := (Option.some.inj (Tryd.func3.symm.trans hfn)).symm
   exact ⟨by kernel_rfl, fun j t ht => by
    rw [Tryd.params3] at ht
    have h3 : t = 23 := by
     rcases j with _ | j
     ·simpa using ht.symm
     ·simp at ht
    subst h3
    exact (show Tryd.prog.wantsStandIn 23 = false by kernel_rfl)⟩)
  (by kernel_rfl)
#print axioms fnExactStampText_holds
end Go.Proofs.YtnoglmdicdpabaaDoor
