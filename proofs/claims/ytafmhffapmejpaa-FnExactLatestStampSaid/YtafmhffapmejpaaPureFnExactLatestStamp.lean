/- The pure statement of the law FnExactLatestStamp: what the printed functions compute answers as the law says. -/
import Derived.Test.YtafmhffapmejpaaPFnExactLatestStampx2
import Derived.Test.YtafmhffapmejpaaBase
namespace Go.Proofs.Ytafmhffapmejpaa.PureFnExactLatestStamp
open Go.RowKit Go.Proofs.Ytafmhffapmejpaa.PFnExactLatestStamp Go.Proofs.YtafmhffapmejpaaW.PrintWords Go.Proofs.YtafmhffapmejpaaW.PrintLast Go.Proofs.YtafmhffapmejpaaW.PrintMore Go.Proofs.Ytafmhffapmejpaa.Base
set_option linter.unusedVariables false
attribute [local irreducible] Go.bits IntKind.wrap shl shr
def lessSt (a b : S51) : Bool := if a.f0 = b.f0 then if a.f1 = b.f1 then decide (a.f2 < b.f2) else decide (a.f1 < b.f1) else decide (a.f0 < b.f0)
theorem less_eq (a b : S51) : spec_LessStamp.f a.f0 a.f1 a.f2 b.f0 b.f1 b.f2 = some (lessSt a b) ∧ impl_LessStamp.f a.f0 a.f1 a.f2 b.f0 b.f1 b.f2 = some (lessSt a b) := by
  unfold spec_LessStamp.f impl_LessStamp.f lessSt
  constructor <;> (repeat' split) <;> rfl
theorem rdT_at51 {xs : List S51} {i : Nat} {a : S51} {t : List S51} (h : xs.drop i = a :: t) : rd_T51 xs (i : Int) = a := by
  unfold rd_T51; rw [Int.toNat_natCast]; exact (drop_cons' h _).2.1
def lateFrom (s : S51) : List S51 → S51
  | [] => s
  | x :: t => lateFrom (if lessSt s x then x else s) t
def lateOf : List S51 → S51
  | [] => z51
  | x :: t => lateFrom x t
def tri (s : S51) : Int × Int × Int := (s.f0, s.f1, s.f2)
theorem late_l0 (xs : List S51) (hN : xs.length ≤ 4611686018427387904) : ∀ (l : List S51) (i : Nat) (s : S51), 0 < i → xs.drop i = l →
    Ev (fun k => spec_LatestStamp.l0 k xs (i : Int) s.f0 s.f1 s.f2) (tri (lateFrom s l)) ∧ Ev (fun k => impl_LatestStamp.l0 k xs (xs.length : Int) (i : Int) s.f0 s.f1 s.f2) (tri (lateFrom s l))
  | [], i, s, hi, h => by
    have h1 := drop_nil' h
    refine ⟨Ev.step (f := fun _ => some (tri s)) (fun k => ?_) (Ev.now _), Ev.step (f := fun _ => some (tri s)) (fun k => ?_) (Ev.now _)⟩
    · rw [spec_LatestStamp.l0, if_neg (by omega)]; rfl
    · rw [impl_LatestStamp.l0, if_neg (by omega)]; rfl
  | a :: t, i, s, hi, h => by
    obtain ⟨h1, _, h3⟩ := drop_cons' h z51
    have hr : Hd (rd_T51 xs (i : Int) = a) := ⟨rdT_at51 h⟩
    have w : Hd (wrap64 ((i : Int) + 1) = ((i + 1 : Nat) : Int)) := ⟨w64s h1 hN⟩
    obtain ⟨i1, i2⟩ := late_l0 xs hN t (i + 1) (if lessSt s a then a else s) (by omega) h3
    rw [lateFrom]
    by_cases c : lessSt s a = true
    · rw [if_pos c] at i1 i2 ⊢
      refine ⟨Ev.step (fun k => ?_) i1, Ev.step (fun k => ?_) i2⟩
      · rw [spec_LatestStamp.l0, if_pos (by omega), if_pos (by omega), hr.out, (less_eq s a).1, Option.bind_some, if_pos c, w.out]
      · rw [impl_LatestStamp.l0, if_pos (by omega), if_pos (by omega), if_pos (by omega), if_neg (by omega), hr.out, (less_eq s a).2, Option.bind_some, if_pos c, w.out]
    · rw [if_neg c] at i1 i2 ⊢
      refine ⟨Ev.step (fun k => ?_) i1, Ev.step (fun k => ?_) i2⟩
      · rw [spec_LatestStamp.l0, if_pos (by omega), if_pos (by omega), hr.out, (less_eq s a).1, Option.bind_some, if_neg c, w.out]
      · rw [impl_LatestStamp.l0, if_pos (by omega), if_pos (by omega), if_pos (by omega), if_neg (by omega), hr.out, (less_eq s a).2, Option.bind_some, if_neg c, w.out]
theorem latest_ev (xs : List S51) (hN : xs.length ≤ 4611686018427387904) : Ev (fun k => spec_LatestStamp.f k xs) (tri (lateOf xs)) ∧ Ev (fun k => impl_LatestStamp.f k xs) (tri (lateOf xs)) := by
  cases xs with
  | nil =>
    refine ⟨Ev.congr (f := fun _ => some (tri z51)) (fun k => ?_) (Ev.now _), Ev.step (f := fun _ => some (tri z51)) (fun k => ?_) (Ev.now _)⟩
    · rw [spec_LatestStamp.f, if_pos (by simp)]; rfl
    · rw [impl_LatestStamp.f, impl_LatestStamp.l0, if_neg (by simp)]; rfl
  | cons a t =>
    obtain ⟨i1, i2⟩ := late_l0 (a :: t) hN t 1 a (by omega) rfl
    have hr : rd_T51 (a :: t) 0 = a := rfl
    have w : wrap64 (0 + 1) = ((1 : Nat) : Int) := by rw [w64 (by omega) (by omega)]; rfl
    refine ⟨Ev.congr (fun k => ?_) i1, Ev.step (fun k => ?_) i2⟩
    · rw [spec_LatestStamp.f, if_neg (by simp only [List.length_cons]; omega), if_pos (by simp only [List.length_cons]; omega), hr]; rfl
    · rw [impl_LatestStamp.f, impl_LatestStamp.l0, if_pos (by simp only [List.length_cons]; omega), if_pos (by omega), if_pos (by simp only [List.length_cons]; omega), if_pos rfl, hr, w]
def toStamp (x : S58) : S51 := ⟨x.f0, x.f1, x.f2⟩
theorem rdT_at58 {xs : List S58} {i : Nat} {a : S58} {t : List S58} (h : xs.drop i = a :: t) : rd_T58 xs (i : Int) = a := by
  unfold rd_T58; rw [Int.toNat_natCast]; exact (drop_cons' h _).2.1
theorem toStampS_l0 (xs : List S58) (hN : xs.length ≤ 4611686018427387904) : ∀ (l : List S58) (i : Nat) (A acc : List S51), xs.drop i = l → A.length = i → acc = A ++ List.replicate l.length z51 → Ev (fun k => laws_toStampS.l0 k xs acc (i : Int)) (A ++ l.map toStamp)
  | [], i, A, acc, h, hA, ha => by
    have h1 := drop_nil' h
    subst ha
    refine Ev.step (f := fun _ => some (A ++ [])) (fun k => ?_) (Ev.now _)
    rw [laws_toStampS.l0, if_neg (by omega)]
    rfl
  | a :: t, i, A, acc, h, hA, ha => by
    obtain ⟨h1, _, h3⟩ := drop_cons' h z58
    have ih := toStampS_l0 xs hN t (i + 1) (A ++ [toStamp a]) _ h3 (by simp [hA]) rfl
    subst ha
    have e : (A ++ List.replicate (a :: t).length z51).set ((i : Int)).toNat (toStamp a) = (A ++ [toStamp a]) ++ List.replicate t.length z51 := by
      rw [Int.toNat_natCast, ← hA]; exact set_copy A _ (toStamp a) t.length
    refine Ev.step (f := fun k => laws_toStampS.l0 k xs ((A ++ [toStamp a]) ++ List.replicate t.length z51) ((i + 1 : Nat) : Int)) (fun k => ?_) (Ev.eq ih (by simp))
    rw [laws_toStampS.l0, if_pos (by omega), if_pos (by omega), rdT_at58 h, laws_toStamp.f, Option.bind_some, if_pos (by simp only [List.length_append, List.length_replicate, List.length_cons]; omega), w64s h1 hN, ← e]
    rfl
theorem toStampS_ev (xs : List S58) (hN : xs.length ≤ 1048576) : Ev (fun k => laws_toStampS.f k xs) (xs.map toStamp) := by
  refine Ev.congr (f := fun k => laws_toStampS.l0 k xs (List.replicate xs.length z51) ((0 : Nat) : Int)) (fun k => ?_) (toStampS_l0 xs (by omega) xs 0 [] _ rfl rfl rfl)
  rw [laws_toStampS.f, if_pos (by omega), if_pos (by omega), Int.toNat_natCast]; rfl
theorem szStampS_eq (l : List S58) (n : Int) (hl : l.length ≤ 9223372036854775807) (h0 : 0 ≤ n) (h1 : n ≤ 1048576) : laws_szStampS.f l n = some (if n < l.length then -1 else n - l.length) := by
  unfold laws_szStampS.f
  rw [w64 (by omega) (by omega)]
  by_cases h : n < l.length
  · rw [if_pos (by omega), if_pos h]
  · rw [if_neg (by omega), if_neg h]
theorem eqStampS_l0 (xs : List S51) (hN : xs.length ≤ 4611686018427387904) : ∀ (l : List S51) (i : Nat), xs.drop i = l → Ev (fun k => laws_eqStampS.l0 k xs xs (i : Int)) true
  | [], i, h => by
    have h1 := drop_nil' h
    refine Ev.step (f := fun _ => some true) (fun k => ?_) (Ev.now _)
    rw [laws_eqStampS.l0, if_neg (by omega)]
  | a :: t, i, h => by
    obtain ⟨h1, _, h3⟩ := drop_cons' h z51
    refine Ev.step (f := fun k => laws_eqStampS.l0 k xs xs ((i + 1 : Nat) : Int)) (fun k => ?_) (eqStampS_l0 xs hN t (i + 1) h3)
    rw [laws_eqStampS.l0, if_pos (by omega), if_pos (by omega), if_pos (by omega), laws_eqStamp.f, if_pos rfl, if_pos rfl, if_pos rfl, Option.bind_some, if_pos rfl, w64s h1 hN]
theorem eqStampS_ev (xs : List S51) (hN : xs.length ≤ 4611686018427387904) : Ev (fun k => laws_eqStampS.f k xs xs) true := by
  refine Ev.congr (f := fun k => laws_eqStampS.l0 k xs xs ((0 : Nat) : Int)) (fun k => ?_) (eqStampS_l0 xs hN xs 0 rfl)
  rw [laws_eqStampS.f, if_pos rfl]; rfl
end Go.Proofs.Ytafmhffapmejpaa.PureFnExactLatestStamp
namespace Go.Proofs.Ytafmhffapmejpaa.Pure
open Go.RowKit Go.Proofs.Ytafmhffapmejpaa.PFnExactLatestStamp Go.Proofs.YtafmhffapmejpaaW.PrintWords Go.Proofs.YtafmhffapmejpaaW.PrintLast Go.Proofs.YtafmhffapmejpaaW.PrintMore Go.Proofs.Ytafmhffapmejpaa.Base Go.Proofs.Ytafmhffapmejpaa.PureFnExactLatestStamp
set_option linter.unusedVariables false
attribute [local irreducible] Go.bits IntKind.wrap shl shr
theorem FnExactLatestStamp (l : List S58) (hl0 : l.length ≤ 9223372036854775807 ∧ ∀ x ∈ l, I64 x.f0 ∧ I64 x.f1 ∧ I64 x.f2) : ∃ k, laws_FnExactLatestStamp.f k l = some true := by
  have hl := hl0.1
  apply Ev.rounds (g := fun k => laws_FnExactLatestStamp.f k l)
  simp only [laws_FnExactLatestStamp.f]
  refine Ev.got (szStampS_eq l 1048576 hl (by omega) (by omega)) ?_
  by_cases h : (1048576 : Int) < l.length
  · exact Ev.pos (by rw [if_pos h]; omega) (Ev.now _)
  · refine Ev.neg (by rw [if_neg h]; omega) ?_
    obtain ⟨r1, r2⟩ := latest_ev (l.map toStamp) (by simp; omega)
    refine Ev.bind (toStampS_ev l (by omega)) ?_
    refine Ev.bind r1 ?_
    refine Ev.bind (toStampS_ev l (by omega)) ?_
    refine Ev.bind r2 ?_
    refine Ev.got (a := true) (by simp [laws_eqStamp.f]) ?_
    refine Ev.pos rfl ?_
    refine Ev.bind (toStampS_ev l (by omega)) ?_
    refine Ev.bind (eqStampS_ev _ (by simp; omega)) ?_
    exact Ev.pos rfl (Ev.now _)
end Go.Proofs.Ytafmhffapmejpaa.Pure
