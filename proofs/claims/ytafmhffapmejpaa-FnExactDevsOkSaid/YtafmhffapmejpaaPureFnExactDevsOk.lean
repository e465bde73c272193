/- The pure statement of the law FnExactDevsOk: what the printed functions compute answers as the law says. -/
import Derived.Test.YtafmhffapmejpaaPFnExactDevsOkx5
import Derived.Test.YtafmhffapmejpaaBase
namespace Go.Proofs.Ytafmhffapmejpaa.PureFnExactDevsOk
open Go.RowKit Go.Proofs.Ytafmhffapmejpaa.PFnExactDevsOk Go.Proofs.YtafmhffapmejpaaW.PrintWords Go.Proofs.YtafmhffapmejpaaW.PrintLast Go.Proofs.YtafmhffapmejpaaW.PrintMore Go.Proofs.Ytafmhffapmejpaa.Base
set_option linter.unusedVariables false
attribute [local irreducible] Go.bits IntKind.wrap shl shr
theorem l1In_eq (x a b : Int) : spec_l1In.f x a b = some (decide (a ≤ x ∧ x ≤ b)) := by
  unfold spec_l1In.f
  by_cases h : x ≥ a
  · rw [if_pos h]; simp [show a ≤ x from h]
  · rw [if_neg h]; simp [show ¬ a ≤ x from h]
theorem in_eq (x a b : Int) : impl_in.f x a b = some (decide (a ≤ x ∧ x ≤ b)) := by
  unfold impl_in.f
  by_cases h : x ≥ a
  · rw [if_pos h]; simp [show a ≤ x from h]
  · rw [if_neg h]; simp [show ¬ a ≤ x from h]
theorem rdT_at93 {xs : List S93} {i : Nat} {a : S93} {t : List S93} (h : xs.drop i = a :: t) : rd_T93 xs (i : Int) = a := by
  unfold rd_T93; rw [Int.toNat_natCast]; exact (drop_cons' h _).2.1
def devsFrom (len : Nat) : Option S93 → List S93 → Bool
  | _, [] => decide (1 ≤ (len : Int) ∧ (len : Int) ≤ 12)
  | pr, d :: t => if (0 ≤ d.f0 ∧ d.f0 ≤ 20) ∧ (0 ≤ d.f1 ∧ d.f1 ≤ 20) ∧ (1 ≤ d.f2 ∧ d.f2 ≤ 1000) ∧ (∀ q, pr = some q → q.f0 < d.f0) then devsFrom len (some d) t else false
def devsOk (l : List S93) : Bool := devsFrom l.length none l
theorem devsOk_l0 (xs : List S93) (hN : xs.length ≤ 4611686018427387904) : ∀ (l : List S93) (i : Nat) (pr : Option S93), xs.drop i = l → (∀ q, pr = some q ↔ ∃ j, i = j + 1 ∧ xs[j]? = some q) →
    Ev (fun k => spec_DevsOk.l0 k xs (i : Int)) (devsFrom xs.length pr l) ∧ Ev (fun k => impl_DevsOk.l0 k xs xs (xs.length : Int) (i : Int)) (devsFrom xs.length pr l)
  | [], i, pr, h, hp => by
    have h1 := drop_nil' h
    refine ⟨Ev.step (f := fun _ => some (devsFrom xs.length pr [])) (fun k => ?_) (Ev.now _), Ev.step (f := fun _ => some (devsFrom xs.length pr [])) (fun k => ?_) (Ev.now _)⟩
    · rw [spec_DevsOk.l0, if_neg (by omega), l1In_eq]; rfl
    · rw [impl_DevsOk.l0, if_neg (by omega), in_eq]; rfl
  | d :: t, i, pr, h, hp => by
    obtain ⟨h1, hd, h3⟩ := drop_cons' h z93
    have hdi : xs[i]? = some d := by
      rw [List.getElem?_eq_getElem h1]; rw [List.getD_eq_getElem?_getD, List.getElem?_eq_getElem h1] at hd; exact congrArg some hd
    have hr : Hd (rd_T93 xs (i : Int) = d) := ⟨rdT_at93 h⟩
    have w : Hd (wrap64 ((i : Int) + 1) = ((i + 1 : Nat) : Int)) := ⟨w64s h1 hN⟩
    obtain ⟨i1, i2⟩ := devsOk_l0 xs hN t (i + 1) (some d) h3 (fun q => ⟨fun e => ⟨i, rfl, by rw [← e]; exact hdi⟩, fun ⟨j, e1, e2⟩ => by
      have : j = i := by omega
      subst this
      rw [hdi] at e2; exact e2⟩)
    rw [devsFrom]
    by_cases c0 : 0 ≤ d.f0 ∧ d.f0 ≤ 20
    · by_cases c1 : 0 ≤ d.f1 ∧ d.f1 ≤ 20
      · by_cases c2 : 1 ≤ d.f2 ∧ d.f2 ≤ 1000
        · rcases Nat.eq_zero_or_pos i with hi | hi
          · have hn : pr = none := by
              cases pr with
              | none => rfl
              | some q => obtain ⟨j, e1, _⟩ := (hp q).1 rfl; omega
            rw [if_pos ⟨c0, c1, c2, fun q e => by rw [hn] at e; cases e⟩]
            refine ⟨Ev.step (fun k => ?_) i1, Ev.step (fun k => ?_) i2⟩
            · rw [spec_DevsOk.l0, if_pos (by omega), if_pos (by omega), hr.out, l1In_eq, Option.bind_some, decide_eq_true c0, if_pos rfl, l1In_eq, Option.bind_some, decide_eq_true c1, if_pos rfl, l1In_eq, Option.bind_some, decide_eq_true c2, if_pos rfl, if_neg (by omega), w.out]
            · rw [impl_DevsOk.l0, if_pos (by omega), if_pos (by omega), if_pos (by omega), hr.out, in_eq, Option.bind_some, decide_eq_true c0, if_pos rfl, in_eq, Option.bind_some, decide_eq_true c1, if_pos rfl, in_eq, Option.bind_some, decide_eq_true c2, if_pos rfl, if_neg (by omega), w.out]
          · obtain ⟨j, rfl⟩ : ∃ j, i = j + 1 := ⟨i - 1, by omega⟩
            have hj : j < xs.length := by omega
            have hq : pr = some xs[j] := (hp xs[j]).2 ⟨j, rfl, List.getElem?_eq_getElem hj⟩
            have wm : Hd (wrap64 (((j + 1 : Nat) : Int) - 1) = (j : Int)) := ⟨by rw [w64 (by omega) (by omega)]; omega⟩
            have hrj : Hd (rd_T93 xs (j : Int) = xs[j]) := ⟨by
              unfold rd_T93; rw [Int.toNat_natCast, List.getD_eq_getElem?_getD, List.getElem?_eq_getElem hj]; rfl⟩
            by_cases c3 : xs[j].f0 < d.f0
            · rw [if_pos ⟨c0, c1, c2, fun q e => by rw [hq] at e; injection e with e; rw [← e]; exact c3⟩]
              refine ⟨Ev.step (fun k => ?_) i1, Ev.step (fun k => ?_) i2⟩
              · rw [spec_DevsOk.l0, if_pos (by omega), if_pos (by omega), hr.out, l1In_eq, Option.bind_some, decide_eq_true c0, if_pos rfl, l1In_eq, Option.bind_some, decide_eq_true c1, if_pos rfl, l1In_eq, Option.bind_some, decide_eq_true c2, if_pos rfl, if_pos (by omega), wm.out, if_pos (by omega), if_pos (by omega), hrj.out, if_neg (by omega), w.out]
              · rw [impl_DevsOk.l0, if_pos (by omega), if_pos (by omega), if_pos (by omega), hr.out, in_eq, Option.bind_some, decide_eq_true c0, if_pos rfl, in_eq, Option.bind_some, decide_eq_true c1, if_pos rfl, in_eq, Option.bind_some, decide_eq_true c2, if_pos rfl, if_pos (by omega), wm.out, if_pos (by omega), if_pos (by omega), hrj.out, if_neg (by omega), w.out]
            · rw [if_neg (fun hc => c3 (hc.2.2.2 _ hq))]
              refine ⟨Ev.step (f := fun _ => some false) (fun k => ?_) (Ev.now _), Ev.step (f := fun _ => some false) (fun k => ?_) (Ev.now _)⟩
              · rw [spec_DevsOk.l0, if_pos (by omega), if_pos (by omega), hr.out, l1In_eq, Option.bind_some, decide_eq_true c0, if_pos rfl, l1In_eq, Option.bind_some, decide_eq_true c1, if_pos rfl, l1In_eq, Option.bind_some, decide_eq_true c2, if_pos rfl, if_pos (by omega), wm.out, if_pos (by omega), if_pos (by omega), hrj.out, if_pos (by omega)]
              · rw [impl_DevsOk.l0, if_pos (by omega), if_pos (by omega), if_pos (by omega), hr.out, in_eq, Option.bind_some, decide_eq_true c0, if_pos rfl, in_eq, Option.bind_some, decide_eq_true c1, if_pos rfl, in_eq, Option.bind_some, decide_eq_true c2, if_pos rfl, if_pos (by omega), wm.out, if_pos (by omega), if_pos (by omega), hrj.out, if_pos (by omega)]
        · rw [if_neg (fun hc => c2 hc.2.2.1)]
          refine ⟨Ev.step (f := fun _ => some false) (fun k => ?_) (Ev.now _), Ev.step (f := fun _ => some false) (fun k => ?_) (Ev.now _)⟩
          · rw [spec_DevsOk.l0, if_pos (by omega), if_pos (by omega), hr.out, l1In_eq, Option.bind_some, decide_eq_true c0, if_pos rfl, l1In_eq, Option.bind_some, decide_eq_true c1, if_pos rfl, l1In_eq, Option.bind_some, decide_eq_false c2, if_neg (by decide)]
          · rw [impl_DevsOk.l0, if_pos (by omega), if_pos (by omega), if_pos (by omega), hr.out, in_eq, Option.bind_some, decide_eq_true c0, if_pos rfl, in_eq, Option.bind_some, decide_eq_true c1, if_pos rfl, in_eq, Option.bind_some, decide_eq_false c2, if_neg (by decide)]
      · rw [if_neg (fun hc => c1 hc.2.1)]
        refine ⟨Ev.step (f := fun _ => some false) (fun k => ?_) (Ev.now _), Ev.step (f := fun _ => some false) (fun k => ?_) (Ev.now _)⟩
        · rw [spec_DevsOk.l0, if_pos (by omega), if_pos (by omega), hr.out, l1In_eq, Option.bind_some, decide_eq_true c0, if_pos rfl, l1In_eq, Option.bind_some, decide_eq_false c1, if_neg (by decide)]
        · rw [impl_DevsOk.l0, if_pos (by omega), if_pos (by omega), if_pos (by omega), hr.out, in_eq, Option.bind_some, decide_eq_true c0, if_pos rfl, in_eq, Option.bind_some, decide_eq_false c1, if_neg (by decide)]
    · rw [if_neg (fun hc => c0 hc.1)]
      refine ⟨Ev.step (f := fun _ => some false) (fun k => ?_) (Ev.now _), Ev.step (f := fun _ => some false) (fun k => ?_) (Ev.now _)⟩
      · rw [spec_DevsOk.l0, if_pos (by omega), if_pos (by omega), hr.out, l1In_eq, Option.bind_some, decide_eq_false c0, if_neg (by decide)]
      · rw [impl_DevsOk.l0, if_pos (by omega), if_pos (by omega), if_pos (by omega), hr.out, in_eq, Option.bind_some, decide_eq_false c0, if_neg (by decide)]
theorem devsOk_ev (xs : List S93) (hN : xs.length ≤ 4611686018427387904) : Ev (fun k => spec_DevsOk.f k xs) (devsOk xs) ∧ Ev (fun k => impl_DevsOk.f k xs) (devsOk xs) :=
  devsOk_l0 xs hN xs 0 none rfl (fun q => ⟨fun e => (by cases e), fun ⟨j, e, _⟩ => (by omega)⟩)
def toDev (x : S95) : S93 := ⟨x.f0, x.f1, x.f2⟩
theorem rdT_at95 {xs : List S95} {i : Nat} {a : S95} {t : List S95} (h : xs.drop i = a :: t) : rd_T95 xs (i : Int) = a := by
  unfold rd_T95; rw [Int.toNat_natCast]; exact (drop_cons' h _).2.1
theorem toDevS_l0 (xs : List S95) (hN : xs.length ≤ 4611686018427387904) : ∀ (l : List S95) (i : Nat) (A acc : List S93), xs.drop i = l → A.length = i → acc = A ++ List.replicate l.length z93 → Ev (fun k => laws_toDevS.l0 k xs acc (i : Int)) (A ++ l.map toDev)
  | [], i, A, acc, h, hA, ha => by
    have h1 := drop_nil' h
    subst ha
    refine Ev.step (f := fun _ => some (A ++ [])) (fun k => ?_) (Ev.now _)
    rw [laws_toDevS.l0, if_neg (by omega)]
    rfl
  | a :: t, i, A, acc, h, hA, ha => by
    obtain ⟨h1, _, h3⟩ := drop_cons' h z95
    have ih := toDevS_l0 xs hN t (i + 1) (A ++ [toDev a]) _ h3 (by simp [hA]) rfl
    subst ha
    have e : (A ++ List.replicate (a :: t).length z93).set ((i : Int)).toNat (toDev a) = (A ++ [toDev a]) ++ List.replicate t.length z93 := by
      rw [Int.toNat_natCast, ← hA]; exact set_copy A _ (toDev a) t.length
    refine Ev.step (f := fun k => laws_toDevS.l0 k xs ((A ++ [toDev a]) ++ List.replicate t.length z93) ((i + 1 : Nat) : Int)) (fun k => ?_) (Ev.eq ih (by simp))
    rw [laws_toDevS.l0, if_pos (by omega), if_pos (by omega), rdT_at95 h, laws_toDev.f, Option.bind_some, if_pos (by simp only [List.length_append, List.length_replicate, List.length_cons]; omega), w64s h1 hN, ← e]
    rfl
theorem toDevS_ev (xs : List S95) (hN : xs.length ≤ 1048576) : Ev (fun k => laws_toDevS.f k xs) (xs.map toDev) := by
  refine Ev.congr (f := fun k => laws_toDevS.l0 k xs (List.replicate xs.length z93) ((0 : Nat) : Int)) (fun k => ?_) (toDevS_l0 xs (by omega) xs 0 [] _ rfl rfl rfl)
  rw [laws_toDevS.f, if_pos (by omega), if_pos (by omega), Int.toNat_natCast]; rfl
theorem szDevS_eq (l : List S95) (n : Int) (hl : l.length ≤ 9223372036854775807) (h0 : 0 ≤ n) (h1 : n ≤ 1048576) : laws_szDevS.f l n = some (if n < l.length then -1 else n - l.length) := by
  unfold laws_szDevS.f
  rw [w64 (by omega) (by omega)]
  by_cases h : n < l.length
  · rw [if_pos (by omega), if_pos h]
  · rw [if_neg (by omega), if_neg h]
theorem eqDevS_l0 (xs : List S93) (hN : xs.length ≤ 4611686018427387904) : ∀ (l : List S93) (i : Nat), xs.drop i = l → Ev (fun k => laws_eqDevS.l0 k xs xs (i : Int)) true
  | [], i, h => by
    have h1 := drop_nil' h
    refine Ev.step (f := fun _ => some true) (fun k => ?_) (Ev.now _)
    rw [laws_eqDevS.l0, if_neg (by omega)]
  | a :: t, i, h => by
    obtain ⟨h1, _, h3⟩ := drop_cons' h z93
    refine Ev.step (f := fun k => laws_eqDevS.l0 k xs xs ((i + 1 : Nat) : Int)) (fun k => ?_) (eqDevS_l0 xs hN t (i + 1) h3)
    rw [laws_eqDevS.l0, if_pos (by omega), if_pos (by omega), if_pos (by omega), laws_eqDev.f, if_pos rfl, if_pos rfl, if_pos rfl, Option.bind_some, if_pos rfl, w64s h1 hN]
theorem eqDevS_ev (xs : List S93) (hN : xs.length ≤ 4611686018427387904) : Ev (fun k => laws_eqDevS.f k xs xs) true := by
  refine Ev.congr (f := fun k => laws_eqDevS.l0 k xs xs ((0 : Nat) : Int)) (fun k => ?_) (eqDevS_l0 xs hN xs 0 rfl)
  rw [laws_eqDevS.f, if_pos rfl]; rfl
end Go.Proofs.Ytafmhffapmejpaa.PureFnExactDevsOk
namespace Go.Proofs.Ytafmhffapmejpaa.Pure
open Go.RowKit Go.Proofs.Ytafmhffapmejpaa.PFnExactDevsOk Go.Proofs.YtafmhffapmejpaaW.PrintWords Go.Proofs.YtafmhffapmejpaaW.PrintLast Go.Proofs.YtafmhffapmejpaaW.PrintMore Go.Proofs.Ytafmhffapmejpaa.Base Go.Proofs.Ytafmhffapmejpaa.PureFnExactDevsOk
set_option linter.unusedVariables false
attribute [local irreducible] Go.bits IntKind.wrap shl shr
theorem FnExactDevsOk (l : List S95) (hl0 : l.length ≤ 9223372036854775807 ∧ ∀ x ∈ l, I64 x.f0 ∧ I64 x.f1 ∧ I64 x.f2) : ∃ k, laws_FnExactDevsOk.f k l = some true := by
  have hl := hl0.1
  apply Ev.rounds (g := fun k => laws_FnExactDevsOk.f k l)
  simp only [laws_FnExactDevsOk.f]
  refine Ev.got (szDevS_eq l 1048576 hl (by omega) (by omega)) ?_
  by_cases h : (1048576 : Int) < l.length
  · exact Ev.pos (by rw [if_pos h]; omega) (Ev.now _)
  · refine Ev.neg (by rw [if_neg h]; omega) ?_
    obtain ⟨r1, r2⟩ := devsOk_ev (l.map toDev) (by simp; omega)
    refine Ev.bind (toDevS_ev l (by omega)) ?_
    refine Ev.bind r1 ?_
    refine Ev.bind (toDevS_ev l (by omega)) ?_
    refine Ev.bind r2 ?_
    refine Ev.neg (by simp) ?_
    refine Ev.bind (toDevS_ev l (by omega)) ?_
    refine Ev.bind (eqDevS_ev _ (by simp; omega)) ?_
    exact Ev.pos rfl (Ev.now _)
end Go.Proofs.Ytafmhffapmejpaa.Pure
