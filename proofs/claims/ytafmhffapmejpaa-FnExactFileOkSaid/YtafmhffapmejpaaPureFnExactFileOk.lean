/- The pure statement of the law FnExactFileOk: what the printed functions compute answers as the law says. -/
import Derived.Test.YtafmhffapmejpaaPFnExactFileOkx2
import Derived.Test.YtafmhffapmejpaaBase
namespace Go.Proofs.Ytafmhffapmejpaa.PureFnExactFileOk
open Go.RowKit Go.Proofs.Ytafmhffapmejpaa.PFnExactFileOk Go.Proofs.YtafmhffapmejpaaW.PrintWords Go.Proofs.YtafmhffapmejpaaW.PrintLast Go.Proofs.YtafmhffapmejpaaW.PrintMore Go.Proofs.Ytafmhffapmejpaa.Base
set_option linter.unusedVariables false
attribute [local irreducible] Go.bits IntKind.wrap shl shr
theorem l1In_eq (x a b : Int) : spec_l1In.f x a b = some (decide (a ≤ x ∧ x ≤ b)) := by
  unfold spec_l1In.f
  by_cases h : x ≥ a
  · rw [if_pos h]; simp [show a ≤ x from h]
  · rw [if_neg h]; simp [show ¬ a ≤ x from h]
theorem in_eq (x a b : Int) : impl_in.f x a b = some (decide (a ≤ x ∧ x ≤ b)) := by
  unfold impl_in.f
  by_cases h : x ≥ a
  · rw [if_pos h]; simp [show a ≤ x from h]
  · rw [if_neg h]; simp [show ¬ a ≤ x from h]
def stOk (a b c : Int) : Bool := decide (0 ≤ a ∧ a ≤ 1000000000) && (decide (0 ≤ b ∧ b ≤ 1000000) && decide (0 ≤ c ∧ c ≤ 20))
theorem stampOk_eq (a b c : Int) : spec_StampOk.f a b c = some (stOk a b c) ∧ impl_StampOk.f a b c = some (stOk a b c) := by
  unfold spec_StampOk.f impl_StampOk.f stOk
  simp only [l1In_eq, in_eq, Option.bind_some]
  cases decide (0 ≤ a ∧ a ≤ 1000000000) <;> cases decide (0 ≤ b ∧ b ≤ 1000000) <;> simp
def fileOk (a b c : Int) (d : Bool) (l : List Int) : Bool := stOk a b c && (decide ((l.length : Int) ≤ 200) && (!d || ((l.length : Int) == 0)))
theorem fileOk_eq (a b c : Int) (d : Bool) (l : List Int) : spec_FileOk.f a b c d l = some (fileOk a b c d l) ∧ impl_FileOk.f a b c d l = some (fileOk a b c d l) := by
  unfold spec_FileOk.f impl_FileOk.f fileOk
  rw [(stampOk_eq a b c).1, (stampOk_eq a b c).2]
  simp only [Option.bind_some]
  cases stOk a b c <;> cases d <;> by_cases h : (l.length : Int) ≤ 200 <;> simp [h]
theorem szFile_eq (a b c : Int) (d : Bool) (l : List Int) (n : Int) (hl : l.length ≤ 9223372036854775807) (h0 : 0 ≤ n) (h1 : n ≤ 1048576) : laws_szFile.f a b c d l n = some (if n < l.length then -1 else n - l.length) := by
  unfold laws_szFile.f laws_szByteS.f
  rw [w64 (by omega) (by omega)]
  by_cases h : n < l.length
  · rw [if_pos (by omega), Option.bind_some, if_pos (by omega), if_pos h]
  · rw [if_neg (by omega), Option.bind_some, if_neg (by omega), if_neg h]
theorem toByteS_l0 (xs : List Int) (hN : xs.length ≤ 4611686018427387904) : ∀ (l : List Int) (i : Nat) (A acc : List Int), xs.drop i = l → A.length = i → acc = A ++ List.replicate l.length 0 → Ev (fun k => laws_toByteS.l0 k xs acc (i : Int)) (A ++ l)
  | [], i, A, acc, h, hA, ha => by
    have h1 := drop_nil' h
    subst ha
    refine Ev.step (f := fun _ => some (A ++ [])) (fun k => ?_) (Ev.now _)
    rw [laws_toByteS.l0, if_neg (by omega)]
    rfl
  | a :: t, i, A, acc, h, hA, ha => by
    obtain ⟨h1, _, h3⟩ := drop_cons' h 0
    have ih := toByteS_l0 xs hN t (i + 1) (A ++ [a]) _ h3 (by simp [hA]) rfl
    subst ha
    have e : (A ++ List.replicate (a :: t).length 0).set ((i : Int)).toNat (rd xs i) = (A ++ [a]) ++ List.replicate t.length 0 := by
      rw [rd_at h, Int.toNat_natCast, ← hA]; exact set_copy A 0 a t.length
    refine Ev.step (f := fun k => laws_toByteS.l0 k xs ((A ++ [a]) ++ List.replicate t.length 0) ((i + 1 : Nat) : Int)) (fun k => ?_) (Ev.eq ih (by simp))
    rw [laws_toByteS.l0, if_pos (by omega), if_pos (by omega), if_pos (by simp only [List.length_append, List.length_replicate, List.length_cons]; omega), e, w64s h1 hN]
theorem toByteS_ev (xs : List Int) (hN : xs.length ≤ 281474976710656) : Ev (fun k => laws_toByteS.f k xs) xs := by
  refine Ev.congr (f := fun k => laws_toByteS.l0 k xs (List.replicate xs.length 0) ((0 : Nat) : Int)) (fun k => ?_) (toByteS_l0 xs (by omega) xs 0 [] _ rfl rfl rfl)
  rw [laws_toByteS.f, if_pos (by omega), if_pos (by omega), Int.toNat_natCast]; rfl
theorem toFile_ev (a b c : Int) (d : Bool) (l : List Int) (hl : l.length ≤ 281474976710656) : Ev (fun k => laws_toFile.f k a b c d l) (a, b, c, d, l) := by
  simp only [laws_toFile.f, laws_toStamp.f, Option.bind_some]
  refine Ev.bind (toByteS_ev l hl) ?_
  exact Ev.now _
theorem eqByteS_l0 (xs : List Int) (hN : xs.length ≤ 4611686018427387904) : ∀ (l : List Int) (i : Nat), xs.drop i = l → Ev (fun k => laws_eqByteS.l0 k xs xs (i : Int)) true
  | [], i, h => by
    have h1 := drop_nil' h
    refine Ev.step (f := fun _ => some true) (fun k => ?_) (Ev.now _)
    rw [laws_eqByteS.l0, if_neg (by omega)]
  | a :: t, i, h => by
    obtain ⟨h1, _, h3⟩ := drop_cons' h 0
    refine Ev.step (f := fun k => laws_eqByteS.l0 k xs xs ((i + 1 : Nat) : Int)) (fun k => ?_) (eqByteS_l0 xs hN t (i + 1) h3)
    rw [laws_eqByteS.l0, if_pos (by omega), if_pos (by omega), if_pos (by omega), if_pos rfl, w64s h1 hN]
theorem eqByteS_ev (xs : List Int) (hN : xs.length ≤ 4611686018427387904) : Ev (fun k => laws_eqByteS.f k xs xs) true := by
  refine Ev.congr (f := fun k => laws_eqByteS.l0 k xs xs ((0 : Nat) : Int)) (fun k => ?_) (eqByteS_l0 xs hN xs 0 rfl)
  rw [laws_eqByteS.f, if_pos rfl]; rfl
theorem eqFile_ev (a b c : Int) (d : Bool) (l : List Int) (hl : l.length ≤ 281474976710656) : Ev (fun k => laws_eqFile.f k a b c d l a b c d l) true := by
  simp only [laws_eqFile.f, laws_eqStamp.f, if_true, Option.bind_some]
  refine Ev.neg (by simp) ?_
  refine Ev.bind (eqByteS_ev l (by omega)) ?_
  exact Ev.pos rfl (Ev.now _)
end Go.Proofs.Ytafmhffapmejpaa.PureFnExactFileOk
namespace Go.Proofs.Ytafmhffapmejpaa.Pure
open Go.RowKit Go.Proofs.Ytafmhffapmejpaa.PFnExactFileOk Go.Proofs.YtafmhffapmejpaaW.PrintWords Go.Proofs.YtafmhffapmejpaaW.PrintLast Go.Proofs.YtafmhffapmejpaaW.PrintMore Go.Proofs.Ytafmhffapmejpaa.Base Go.Proofs.Ytafmhffapmejpaa.PureFnExactFileOk
set_option linter.unusedVariables false
attribute [local irreducible] Go.bits IntKind.wrap shl shr
theorem FnExactFileOk (a b c : Int) (d : Bool) (l : List Int) (h0 : (I64 a ∧ I64 b ∧ I64 c) ∧ True ∧ Bytes l) : ∃ k, laws_FnExactFileOk.f k a b c d l = some true := by
  apply Ev.rounds (g := fun k => laws_FnExactFileOk.f k a b c d l)
  simp only [laws_FnExactFileOk.f]
  refine Ev.got (szFile_eq a b c d l 1048576 h0.2.2.1 (by omega) (by omega)) ?_
  by_cases h : (1048576 : Int) < l.length
  · exact Ev.pos (by rw [if_pos h]; omega) (Ev.now _)
  · refine Ev.neg (by rw [if_neg h]; omega) ?_
    refine Ev.bind (toFile_ev a b c d l (by omega)) ?_
    refine Ev.got (fileOk_eq a b c d l).1 ?_
    refine Ev.bind (toFile_ev a b c d l (by omega)) ?_
    refine Ev.got (fileOk_eq a b c d l).2 ?_
    refine Ev.neg (by simp) ?_
    refine Ev.bind (toFile_ev a b c d l (by omega)) ?_
    refine Ev.bind (eqFile_ev a b c d l (by omega)) ?_
    exact Ev.pos rfl (Ev.now _)
end Go.Proofs.Ytafmhffapmejpaa.Pure
