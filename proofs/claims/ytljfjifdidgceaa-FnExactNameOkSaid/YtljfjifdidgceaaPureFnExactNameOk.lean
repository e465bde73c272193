/- The pure statement of the law FnExactNameOk: what the printed functions compute answers as the law says. -/
import Derived.Test.YtljfjifdidgceaaPFnExactNameOkx1
import Derived.Test.YtljfjifdidgceaaBase
namespace Go.Proofs.Ytljfjifdidgceaa.PureFnExactNameOk
open Go.RowKit Go.Proofs.Ytljfjifdidgceaa.PFnExactNameOk Go.Proofs.YtljfjifdidgceaaW.PrintWords Go.Proofs.YtljfjifdidgceaaW.PrintLast Go.Proofs.YtljfjifdidgceaaW.PrintMore Go.Proofs.Ytljfjifdidgceaa.Base
theorem l1In_eq (x a b : Int) : spec_l1In.f x a b = some (decide (a ≤ x ∧ x ≤ b)) := by
  unfold spec_l1In.f
  by_cases h : x ≥ a
  · rw [if_pos h]; simp [show a ≤ x from h]
  · rw [if_neg h]; simp [show ¬ a ≤ x from h]
theorem in_eq (x a b : Int) : impl_in.f x a b = some (decide (a ≤ x ∧ x ≤ b)) := by
  unfold impl_in.f
  by_cases h : x ≥ a
  · rw [if_pos h]; simp [show a ≤ x from h]
  · rw [if_neg h]; simp [show ¬ a ≤ x from h]
def okc (c : Int) : Bool := decide (97 ≤ c ∧ c ≤ 122) || decide (48 ≤ c ∧ c ≤ 57) || decide (c = 45) || decide (c = 95) || decide (c = 47)
def nameFrom (s : ByteArray) : Nat → Nat → Bool
  | 0, _ => true
  | d + 1, i => okc (bt s i) && nameFrom s d (i + 1)
def nameOk (s : ByteArray) : Bool := nameFrom s s.size 0 && decide (1 ≤ (s.size : Int) ∧ (s.size : Int) ≤ 20)
theorem nameOk_l0 (s : ByteArray) (hN : s.size ≤ 4611686018427387904) (d : Nat) : ∀ (i : Nat), i + d = s.size → Ev (fun k => spec_NameOk.l0 k s (i : Int)) (nameFrom s d i && decide (1 ≤ (s.size : Int) ∧ (s.size : Int) ≤ 20)) ∧ Ev (fun k => impl_NameOk.l0 k s (i : Int)) (nameFrom s d i && decide (1 ≤ (s.size : Int) ∧ (s.size : Int) ≤ 20)) := by
  induction d with
  | zero =>
    intro i hd
    refine ⟨Ev.step (f := fun _ => some _) (fun k => ?_) (Ev.now _), Ev.step (f := fun _ => some _) (fun k => ?_) (Ev.now _)⟩
    · rw [spec_NameOk.l0, if_neg (by omega), l1In_eq]; simp [nameFrom]
    · rw [impl_NameOk.l0, if_neg (by omega), in_eq]; simp [nameFrom]
  | succ d ih =>
    intro i hd
    have hb := bt_range s i
    obtain ⟨i1, i2⟩ := ih (i + 1) (by omega)
    have hw := w64s (i := i) (n := i + 1) (by omega) (by omega)
    by_cases h : okc (bt s i) = true
    · simp only [nameFrom, h, Bool.true_and]
      refine ⟨Ev.step (fun k => ?_) i1, Ev.step (fun k => ?_) i2⟩
      · rw [spec_NameOk.l0, if_pos (by omega), if_pos (by omega), w64 (x := bt s i) (by omega) (by omega), hw]
        simp only [l1In_eq, Option.bind_some, decide_eq_true_eq]
        simp only [okc, Bool.or_eq_true, decide_eq_true_eq] at h
        repeat' split
        all_goals first | rfl | (exfalso; omega)
      · rw [impl_NameOk.l0, if_pos (by omega), if_pos (by omega), hw]
        simp only [okc, Bool.or_eq_true, decide_eq_true_eq] at h
        repeat' split
        all_goals first | rfl | (exfalso; omega)
    · have h' : okc (bt s i) = false := by simpa using h
      simp only [nameFrom, h', Bool.false_and]
      refine ⟨Ev.step (f := fun _ => some false) (fun k => ?_) (Ev.now _), Ev.step (f := fun _ => some false) (fun k => ?_) (Ev.now _)⟩
      · rw [spec_NameOk.l0, if_pos (by omega), if_pos (by omega), w64 (x := bt s i) (by omega) (by omega)]
        simp only [l1In_eq, Option.bind_some, decide_eq_true_eq]
        simp only [okc, Bool.or_eq_true, decide_eq_true_eq] at h
        repeat' split
        all_goals first | rfl | (exfalso; omega)
      · rw [impl_NameOk.l0, if_pos (by omega), if_pos (by omega)]
        simp only [okc, Bool.or_eq_true, decide_eq_true_eq] at h
        repeat' split
        all_goals first | rfl | (exfalso; omega)
theorem nameOk_ev (s : ByteArray) (hN : s.size ≤ 4611686018427387904) : Ev (fun k => spec_NameOk.f k s) (nameOk s) ∧ Ev (fun k => impl_NameOk.f k s) (nameOk s) :=
  nameOk_l0 s hN s.size 0 (by omega)
end Go.Proofs.Ytljfjifdidgceaa.PureFnExactNameOk
namespace Go.Proofs.Ytljfjifdidgceaa.Pure
open Go.RowKit Go.Proofs.Ytljfjifdidgceaa.PFnExactNameOk Go.Proofs.YtljfjifdidgceaaW.PrintWords Go.Proofs.YtljfjifdidgceaaW.PrintLast Go.Proofs.YtljfjifdidgceaaW.PrintMore Go.Proofs.Ytljfjifdidgceaa.Base Go.Proofs.Ytljfjifdidgceaa.PureFnExactNameOk
theorem FnExactNameOk : laws_FnExactNameOk.Pure := by
  intro s hn
  obtain ⟨r1, r2⟩ := nameOk_ev s (by omega)
  apply Ev.rounds (g := fun k => laws_FnExactNameOk.f k s)
  simp only [laws_FnExactNameOk.f]
  by_cases h : (s.size : Int) > 1048576
  · exact Ev.pos h (Ev.now _)
  · refine Ev.neg h ?_
    refine Ev.bind r1 ?_
    refine Ev.bind r2 ?_
    exact Ev.neg (by simp) (Ev.now _)
end Go.Proofs.Ytljfjifdidgceaa.Pure
