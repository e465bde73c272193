/- The law FnDevs: the row, out of its pure statement and the printed walk: for every input the call returns true, and each argument reads as before. -/
import Derived.Test.YtnoglmdicdpabaaDoorTLDevsShaped
import Derived.Test.YtnoglmdicdpabaaDoorCards
import Derived.Test.YtnoglmdicdpabaaDoorTie
import Derived.SevenTiedAt
import Derived.LaidMore
import Derived.Lay
import Derived.LaidOnce
import Derived.LaidSub
import Derived.LaidLaws
import Derived.Handed
import Derived.Lib.LaidTab
import Derived.Stop.LaidErr
import Derived.Test.YtnoglmdicdpabaaDoorRows
import Derived.Test.YtnoglmdicdpabaaDoorTLDevsPFnDevsx7
import Derived.Test.YtnoglmdicdpabaaDoorTLDevsPureFnDevs
import Derived.Test.YtnoglmdicdpabaaDoorTLDevsOpen
import Derived.WalkKit
import Derived.ProofKit
import Derived.OpenShut
import Derived.ShutString
import Derived.ChangeOld
import Derived.Below
import Derived.SizedLaws
import Derived.Carry
namespace Go.Proofs.YtnoglmdicdpabaaDoor.fnDevs
open Go.ChangeShapes Go.WideShapes Go.ChangeAt Go.RowKit Go.Proofs.YtnoglmdicdpabaaDoor.Open Go.Proofs.YtnoglmdicdpabaaDoor.PFnDevs Go.Proofs.YtnoglmdicdpabaaDoorW.PrintWords
open Go.ChangeMaps (open_string shut_string)
set_option linter.unusedVariables false
theorem own : ownKnob Tryd.prog.godebug = none := by kernel_rfl
theorem laidOut : laidOutB Tryd.prog = true := by kernel_rfl
theorem laid_of {W : World} (h : laidMetH Tryd.prog Rows.fnDevsRow.laid W) : laidMet Tryd.prog Rows.fnDevsRow.laid W := by rw [MakeChecks.laidMetH_plain _ _ _ (by kernel_rfl)] at h; exact h
theorem tab_of {W : World} (h : laidMetH Tryd.prog Rows.fnDevsRow.laid W) : Lib.TabIs Tryd.prog W "internal/strconv.uint64pow10" .u64 Lib.pow10Tab :=
 Lib.tabIs_of_head (g := 0) (t := 130) (e := 100) (n := 20) (by kernel_rfl) (by kernel_rfl) Tryd.underlying130 Tryd.underlying100 (by kernel_rfl) (by kernel_rfl)
  (rest := Rows.fnDevsRow.laid.drop 3) (show laidMet Tryd.prog (Rows.fnDevsRow.laid.drop 2) W from (laid_of h).tail.tail)
theorem star : "*" ++ "errors.errorString" = "*errors.errorString" := by decide
theorem row_is (u : TypeId) (h : Tryd.prog.typeName? 3 u = some "*errors.errorString") : u = 146 :=
 typeName_ptr_named (nm := "errors.errorString") (by rw [star]; kernel_rfl) (by kernel_rfl) (by decide) u (by rw [star]; exact h)
theorem syn_of {W : World} (h : laidMetH Tryd.prog Rows.fnDevsRow.laid W) : ∃ tp p, W.var? Tryd.prog "strconv.ErrSyntax" = some #[.iface tp p] := by
 obtain ⟨a0, s0, hv0, -, -, -⟩ := laid_sentinel (r := Rows.fnDevsRow.laid.drop 6) (show laidMet Tryd.prog (Rows.fnDevsRow.laid.drop 5) W from (laid_of h).tail.tail.tail.tail.tail) (g := 2) (ti := 82) (tp := 146) (te := 148) (ts := 9) (by kernel_rfl) (by kernel_rfl) Tryd.underlying82 row_is Tryd.underlying146 Tryd.underlying148 rfl rfl Tryd.underlying9 (by kernel_rfl) (by kernel_rfl)
 exact ⟨_, _, hv0⟩
theorem rng_of {W : World} (h : laidMetH Tryd.prog Rows.fnDevsRow.laid W) : ∃ tp p, W.var? Tryd.prog "strconv.ErrRange" = some #[.iface tp p] := by
 obtain ⟨a0, s0, hv0, -, -, -⟩ := laid_sentinel (r := Rows.fnDevsRow.laid.drop 5) (show laidMet Tryd.prog (Rows.fnDevsRow.laid.drop 4) W from (laid_of h).tail.tail.tail.tail) (g := 3) (ti := 82) (tp := 146) (te := 148) (ts := 9) (by kernel_rfl) (by kernel_rfl) Tryd.underlying82 row_is Tryd.underlying146 Tryd.underlying148 rfl rfl Tryd.underlying9 (by kernel_rfl) (by kernel_rfl)
 exact ⟨_, _, hv0⟩
theorem max_of {W : World} (h : W.ShapedOpen Tryd.prog) : ∃ m, W.cell? ⟨1, 0, none⟩ = some (.int .i64 m) :=
 cell_of_shapedOpen_int (P := Tryd.prog) (g := 1) (t := 3) (zero := #[.int .i64 0]) h (of_decide_eq_true (by kernel_rfl)) (by kernel_rfl) rfl (by kernel_rfl) (by kernel_rfl) Tryd.underlying3
set_option maxRecDepth 100000 in
theorem lifted (os : Os) (started : os.Started) (H : Type) (enc : TypeId × Value → H) :
  ReturnsInHanded {} Tryd.checked os 10 .any (fun w args => (Rows.fnDevsSpec.pre enc Tryd.prog Tryd.f10 Rows.fnDevsRow.domain false w args ∧ laidMetH Tryd.prog Rows.fnDevsRow.laid w) ∧ sizedMet enc Tryd.prog Tryd.f10 (OpenSpec.ofChange Rows.fnDevsSpec) false w args) (Rows.fnDevsSpec.post enc Tryd.prog Tryd.f10 false true false false) := by
 refine St.returns_shaped_and (C := Tryd.checked) (X := fun w _ => laidMetH Tryd.prog Rows.fnDevsRow.laid w) (fun _ _ _ hh h => h.of_heap hh) own started (by kernel_rfl) Tryd.func10
  (ChangeSpec.witness_at (enc := enc) (C := Tryd.checked) (os := os) (X := fun w _ => laidMetH Tryd.prog Rows.fnDevsRow.laid w) false (World.laidAll Tryd.prog os Rows.fnDevsRow.laid) #[.slice none 0 0] 8 (World.laidAll_os _ _ _) (by kernel_rfl) (by kernel_rfl) (by kernel_rfl) (by kernel_rfl) (by kernel_rfl)
   (by rw [MakeChecks.laidMetH_plain _ _ _ (by kernel_rfl)]; exact laidMet_laidAll _ (by kernel_rfl) (by kernel_rfl))) ?_
 intro W base args ds gs before hval0 hW hcnd hsz0 hLaid hShape _
 have hval : ∀ (j : Nat) t v, Tryd.f10.params[j]? = some t → args[j]? = some v → Value.okWide Tryd.prog W .any base t v := hval0
 have hW' := hW
 obtain ⟨p, q, hA0, hV, rfl, hfz, hnd⟩ := hW
 have hA : DataW.TrodAll enc Tryd.prog W 0 (fun _ => true) true Tryd.f10.params.toList args.toList ds p := hA0
 rw [Tryd.params10] at hA hval
 obtain ⟨v0, vs0, d0, ds0, p0, q0, hargs, rfl, rfl, h0, r0⟩ := trodAll_cons hA
 obtain ⟨rfl, rfl, rfl⟩ := trodAll_nil r0
 obtain rfl : args = #[v0] := by cases args; simp_all
 obtain ⟨rfl, rfl⟩ := trodVars_none hV
 have k0_ := h0
 have lt0 : ∀ x ∈ p0, x.block < W.heap.size := by obtain ⟨m, hm⟩ := k0_; exact DataW.trod_lt m _ _ _ hm
 obtain ⟨A0, n0, c0, rfl⟩ := okWide_slice Tryd.underlying39 (hval 0 39 v0 rfl rfl)
 obtain ⟨l0, ⟨B0, e0, hcs0, hc0, hr0⟩, Q0⟩ := Opens.trod (opens_slice 5 Tryd.underlying39 (by kernel_rfl) (opens_int Tryd.underlying5)) h0
 simp [Value.cells] at hcs0
 obtain ⟨rfl, rfl, rfl⟩ := hcs0
 obtain ⟨k, h_⟩ := Pure.FnDevs l0 Q0
 clear hA0 hval0 hsz0
 refine (laws_FnDevs.calls k _ _ l0 true W ⟨⟨tab_of hLaid, syn_of hLaid, rng_of hLaid, max_of hShape⟩⟩ hr0 hc0 h_ ⟨rfl⟩).mono fun e W' ⟨he, bel⟩ => ?_
 subst he
 exact ⟨_, rfl, _, _, _, [], _, [], hW', trodAll_mk1 (shut_bool Tryd.underlying4 _), (trodAll_cons_mk (Below.trod laidOut (by kernel_rfl) (of_decide_eq_true (by kernel_rfl)) k0_ bel lt0) trodAll_mk0), rfl, bel.frame _, fun h => by cases h⟩
theorem over : Rows.fnDevsRow.holds Tryd.pinned (OpenSpec.ofChange Rows.fnDevsSpec) :=
 OpenClaim.holds_of_wide 10 Tryd.f10 rfl rfl rfl rfl rfl rfl rfl ⟨rfl, rfl, rfl, rfl, rfl⟩ rfl rfl rfl rfl rfl (by kernel_rfl) Tryd.func10 (by kernel_rfl)
  (of_decide_eq_true (by kernel_rfl)) (by unfold Func.isWrapper; first | (rw [if_pos (by decide +kernel)]; kernel_rfl) | (rw [if_neg (by decide +kernel)]; exact ⟨rfl, rfl⟩))
  (fun os started H enc _ => lifted os started H enc)
theorem proved : Rows.FnDevsSaid := over
#print axioms proved
end Go.Proofs.YtnoglmdicdpabaaDoor.fnDevs
namespace Go.Proofs.YtnoglmdicdpabaaDoor
theorem fnDevs_holds : Rows.FnDevsCardSaid :=
 Claim7.holds_tied_plain_at .later [] [.data, .data, .data, .data, .sentinel, .sentinel, .pinned] true (true, "b8e3e6e3f9510477c5b0088a6380c581a9766d1aef3fa798f3823c9b8e517e24") true
  fnDevs.proved (fun _ h => by cases h) (by kernel_rfl) (fun _ h => by cases h) fnDevs_row_tie rfl ⟨rfl, rfl⟩ (by kernel_rfl) rfl
  (fun f fn hf hfn => by
   obtain rfl : f = 10 := Option.some.inj ((show Tryd.prog.funcNamed "loop.example/g00241/laws.FnDevs" = some 10 by kernel_rfl).symm.trans hf) |>.symm
   obtain rfl : fn = Tryd.f10 := (Option.some.inj (Tryd.func10.symm.trans hfn)).symm
   exact ⟨by kernel_rfl, fun j t ht => by
    rw [Tryd.params10] at ht
    have h3 : t = 39 := by
     rcases j with _ | j
     ·simpa using ht.symm
     ·simp at ht
    subst h3
    exact (show Tryd.prog.wantsStandIn 39 = false by kernel_rfl)⟩)
  (by kernel_rfl)
#print axioms fnDevs_holds
end Go.Proofs.YtnoglmdicdpabaaDoor
