/- Trimmed by a program of this session (trim.py). Not trusted: Lean checks it. -/
import Derived.Test.YtafmhffapmejpaaTXNewerPFnExactNewerx2
import Derived.Test.YtafmhffapmejpaaTXNewerBase
namespace Go.Proofs.Ytafmhffapmejpaa.PureFnExactNewer
open Go.RowKit Go.Proofs.Ytafmhffapmejpaa.PFnExactNewer Go.Proofs.YtafmhffapmejpaaW.PrintWords Go.Proofs.YtafmhffapmejpaaW.PrintLast Go.Proofs.YtafmhffapmejpaaW.PrintMore Go.Proofs.Ytafmhffapmejpaa.Base
set_option linter.unusedVariables false
attribute [local irreducible] Go.bits IntKind.wrap shl shr
theorem szFile_eq (a b c : Int) (d : Bool) (l : List Int) (n : Int) (hl : l.length ≤ 9223372036854775807) (h0 : 0 ≤ n) (h1 : n ≤ 1048576) : laws_szFile.f a b c d l n = some (if n < l.length then -1 else n - l.length) := by
 unfold laws_szFile.f laws_szByteS.f
 rw [w64 (by omega) (by omega)]
 by_cases h : n < l.length
 ·rw [if_pos (by omega), Option.bind_some, if_pos (by omega), if_pos h]
 ·rw [if_neg (by omega), Option.bind_some, if_neg (by omega), if_neg h]
theorem toByteS_l0 (xs : List Int) (hN : xs.length ≤ 4611686018427387904) : ∀ (l : List Int) (i : Nat) (A acc : List Int), xs.drop i = l → A.length = i → acc = A ++ List.replicate l.length 0 → Ev (fun k => laws_toByteS.l0 k xs acc (i : Int)) (A ++ l)
 | [], i, A, acc, h, hA, ha => by
  have h1 := drop_nil' h
  subst ha
  refine Ev.step (f := fun _ => some (A ++ [])) (fun k => ?_) (Ev.now _)
  rw [laws_toByteS.l0, if_neg (by omega)]
  rfl
 | a :: t, i, A, acc, h, hA, ha => by
  obtain ⟨h1, _, h3⟩ := drop_cons' h 0
  have ih := toByteS_l0 xs hN t (i + 1) (A ++ [a]) _ h3 (by simp [hA]) rfl
  subst ha
  have e : (A ++ List.replicate (a :: t).length 0).set ((i : Int)).toNat (rd xs i) = (A ++ [a]) ++ List.replicate t.length 0 := by
   rw [rd_at h, Int.toNat_natCast, ← hA]; exact set_copy A 0 a t.length
  refine Ev.step (f := fun k => laws_toByteS.l0 k xs ((A ++ [a]) ++ List.replicate t.length 0) ((i + 1 : Nat) : Int)) (fun k => ?_) (Ev.eq ih (by simp))
  rw [laws_toByteS.l0, if_pos (by omega), if_pos (by omega), if_pos (by simp only [List.length_append, List.length_replicate, List.length_cons]; omega), e, w64s h1 hN]
theorem toByteS_ev (xs : List Int) (hN : xs.length ≤ 281474976710656) : Ev (fun k => laws_toByteS.f k xs) xs := by
 refine Ev.congr (f := fun k => laws_toByteS.l0 k xs (List.replicate xs.length 0) ((0 : Nat) : Int)) (fun k => ?_) (toByteS_l0 xs (by omega) xs 0 [] _ rfl rfl rfl)
 rw [laws_toByteS.f, if_pos (by omega), if_pos (by omega), Int.toNat_natCast]; rfl
theorem toFile_ev (a b c : Int) (d : Bool) (l : List Int) (hl : l.length ≤ 281474976710656) : Ev (fun k => laws_toFile.f k a b c d l) (a, b, c, d, l) := by
 simp only [laws_toFile.f, laws_toStamp.f, Option.bind_some]
 refine Ev.bind (toByteS_ev l hl) ?_
 exact Ev.now _
theorem eqByteS_l0 (xs : List Int) (hN : xs.length ≤ 4611686018427387904) : ∀ (l : List Int) (i : Nat), xs.drop i = l → Ev (fun k => laws_eqByteS.l0 k xs xs (i : Int)) true
 | [], i, h => by
  have h1 := drop_nil' h
  refine Ev.step (f := fun _ => some true) (fun k => ?_) (Ev.now _)
  rw [laws_eqByteS.l0, if_neg (by omega)]
 | a :: t, i, h => by
  obtain ⟨h1, _, h3⟩ := drop_cons' h 0
  refine Ev.step (f := fun k => laws_eqByteS.l0 k xs xs ((i + 1 : Nat) : Int)) (fun k => ?_) (eqByteS_l0 xs hN t (i + 1) h3)
  rw [laws_eqByteS.l0, if_pos (by omega), if_pos (by omega), if_pos (by omega), if_pos rfl, w64s h1 hN]
theorem eqByteS_ev (xs : List Int) (hN : xs.length ≤ 4611686018427387904) : Ev (fun k => laws_eqByteS.f k xs xs) true := by
 refine Ev.congr (f := fun k => laws_eqByteS.l0 k xs xs ((0 : Nat) : Int)) (fun k => ?_) (eqByteS_l0 xs hN xs 0 rfl)
 rw [laws_eqByteS.f, if_pos rfl]; rfl
theorem eqFile_ev (a b c : Int) (d : Bool) (l : List Int) (hl : l.length ≤ 281474976710656) : Ev (fun k => laws_eqFile.f k a b c d l a b c d l) true := by
 simp only [laws_eqFile.f, laws_eqStamp.f, if_true, Option.bind_some]
 refine Ev.neg (by simp) ?_
 refine Ev.bind (eqByteS_ev l (by omega)) ?_
 exact Ev.pos rfl (Ev.now _)
end Go.Proofs.Ytafmhffapmejpaa.PureFnExactNewer
namespace Go.Proofs.Ytafmhffapmejpaa.Pure
open Go.RowKit Go.Proofs.Ytafmhffapmejpaa.PFnExactNewer Go.Proofs.YtafmhffapmejpaaW.PrintWords Go.Proofs.YtafmhffapmejpaaW.PrintLast Go.Proofs.YtafmhffapmejpaaW.PrintMore Go.Proofs.Ytafmhffapmejpaa.Base Go.Proofs.Ytafmhffapmejpaa.PureFnExactNewer
set_option linter.unusedVariables false
attribute [local irreducible] Go.bits IntKind.wrap shl shr
theorem FnExactNewer (a b c : Int) (d : Bool) (l : List Int) (a' b' c' : Int) (d' : Bool) (l' : List Int) (h0 : (I64 a ∧ I64 b ∧ I64 c) ∧ True ∧ Bytes l) (h1 : (I64 a' ∧ I64 b' ∧ I64 c') ∧ True ∧ Bytes l') : ∃ k, laws_FnExactNewer.f k a b c d l a' b' c' d' l' = some true := by
 apply Ev.rounds (g := fun k => laws_FnExactNewer.f k a b c d l a' b' c' d' l')
 simp only [laws_FnExactNewer.f]
 refine Ev.got (szFile_eq a b c d l 1048576 h0.2.2.1 (by omega) (by omega)) ?_
 by_cases h : (1048576 : Int) < l.length
 ·exact Ev.pos (by rw [if_pos h]; omega) (Ev.now _)
 refine Ev.neg (by rw [if_neg h]; omega) ?_
 rw [if_neg h]
 refine Ev.got (szFile_eq a' b' c' d' l' (1048576 - (l.length : Int)) h1.2.2.1 (by omega) (by omega)) ?_
 by_cases h2 : (1048576 : Int) - (l.length : Int) < l'.length
 ·exact Ev.pos (by rw [if_pos h2]; omega) (Ev.now _)
 refine Ev.neg (by rw [if_neg h2]; omega) ?_
 obtain ⟨z, e1, e2⟩ : ∃ z, spec_LessStamp.f a' b' c' a b c = some z ∧ impl_LessStamp.f a' b' c' a b c = some z := by
  unfold spec_LessStamp.f impl_LessStamp.f
  (repeat' split) <;> exact ⟨_, rfl, rfl⟩
 refine Ev.bind (toFile_ev a b c d l (by omega)) ?_
 refine Ev.bind (toFile_ev a' b' c' d' l' (by omega)) ?_
 refine Ev.got (a := z) (by simp only [spec_Newer.f]; rw [e1]; rfl) ?_
 refine Ev.bind (toFile_ev a b c d l (by omega)) ?_
 refine Ev.bind (toFile_ev a' b' c' d' l' (by omega)) ?_
 refine Ev.got (a := z) (by simp only [impl_Newer.f]; rw [e2]; rfl) ?_
 refine Ev.neg (by simp) ?_
 refine Ev.bind (toFile_ev a b c d l (by omega)) ?_
 refine Ev.bind (eqFile_ev a b c d l (by omega)) ?_
 refine Ev.pos rfl ?_
 refine Ev.bind (toFile_ev a' b' c' d' l' (by omega)) ?_
 refine Ev.bind (eqFile_ev a' b' c' d' l' (by omega)) ?_
 exact Ev.pos rfl (Ev.now _)
end Go.Proofs.Ytafmhffapmejpaa.Pure
