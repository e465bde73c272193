/- The pure statement of the law FnExactDevAt: what the printed functions compute answers as the law says. -/
import Derived.Test.YtljfjifdidgceaaPFnExactDevAtx2
import Derived.Test.YtljfjifdidgceaaBase
namespace Go.Proofs.Ytljfjifdidgceaa.PureFnExactDevAt
open Go.RowKit Go.Proofs.Ytljfjifdidgceaa.PFnExactDevAt Go.Proofs.YtljfjifdidgceaaW.PrintWords Go.Proofs.YtljfjifdidgceaaW.PrintLast Go.Proofs.YtljfjifdidgceaaW.PrintMore Go.Proofs.Ytljfjifdidgceaa.Base
attribute [local irreducible] Go.bits IntKind.wrap shl shr
theorem rdT_at51 {xs : List S51} {i : Nat} {a : S51} {t : List S51} (h : xs.drop i = a :: t) : rd_T51 xs (i : Int) = a := by
  unfold rd_T51; rw [Int.toNat_natCast]; exact (drop_cons' h _).2.1
def devAt (id : Int) : List S51 → Int × Int × Int × Bool
  | [] => (0, 0, 0, false)
  | d :: t => if d.f0 = id then (d.f0, d.f1, d.f2, true) else devAt id t
theorem devAt_l0s (xs : List S51) (id : Int) (hN : xs.length ≤ 4611686018427387904) : ∀ (l : List S51) (i : Nat), xs.drop i = l → Ev (fun k => spec_DevAt.l0 k xs id (i : Int)) (devAt id l)
  | [], i, h => by
    have h1 := drop_nil' h
    refine Ev.step (f := fun _ => some (0, 0, 0, false)) (fun k => ?_) (Ev.now _)
    rw [spec_DevAt.l0, if_neg (by omega)]
  | a :: t, i, h => by
    obtain ⟨h1, _, h3⟩ := drop_cons' h z51
    have ih := devAt_l0s xs id hN t (i + 1) h3
    refine Ev.step (f := fun k => if a.f0 = id then some (a.f0, a.f1, a.f2, true) else spec_DevAt.l0 k xs id ((i + 1 : Nat) : Int)) (fun k => ?_) ?_
    · rw [spec_DevAt.l0, if_pos (by omega), if_pos (by omega), rdT_at51 h, w64s h1 hN]
    · by_cases c : a.f0 = id
      · rw [devAt, if_pos c]; exact Ev.pos c (Ev.now _)
      · rw [devAt, if_neg c]; exact Ev.neg c ih
theorem devAt_l0i (xs : List S51) (id : Int) (hN : xs.length ≤ 4611686018427387904) : ∀ (l : List S51) (i : Nat), xs.drop i = l → Ev (fun k => impl_DevAt.l0 k id xs (xs.length : Int) (i : Int)) (devAt id l)
  | [], i, h => by
    have h1 := drop_nil' h
    refine Ev.step (f := fun _ => some (0, 0, 0, false)) (fun k => ?_) (Ev.now _)
    rw [impl_DevAt.l0, if_neg (by omega)]
  | a :: t, i, h => by
    obtain ⟨h1, _, h3⟩ := drop_cons' h z51
    have ih := devAt_l0i xs id hN t (i + 1) h3
    refine Ev.step (f := fun k => if a.f0 = id then some (a.f0, a.f1, a.f2, true) else impl_DevAt.l0 k id xs (xs.length : Int) ((i + 1 : Nat) : Int)) (fun k => ?_) ?_
    · rw [impl_DevAt.l0, if_pos (by omega), if_pos (by omega), if_pos (by omega), rdT_at51 h, w64s h1 hN]
    · by_cases c : a.f0 = id
      · rw [devAt, if_pos c]; exact Ev.pos c (Ev.now _)
      · rw [devAt, if_neg c]; exact Ev.neg c ih
theorem devAt_ev (xs : List S51) (id : Int) (hN : xs.length ≤ 4611686018427387904) : Ev (fun k => spec_DevAt.f k xs id) (devAt id xs) ∧ Ev (fun k => impl_DevAt.f k xs id) (devAt id xs) :=
  ⟨devAt_l0s xs id hN xs 0 rfl, devAt_l0i xs id hN xs 0 rfl⟩
def toDev (x : S63) : S51 := ⟨x.f0, x.f1, x.f2⟩
theorem rdT_at63 {xs : List S63} {i : Nat} {a : S63} {t : List S63} (h : xs.drop i = a :: t) : rd_T63 xs (i : Int) = a := by
  unfold rd_T63; rw [Int.toNat_natCast]; exact (drop_cons' h _).2.1
theorem toDevS_l0 (xs : List S63) (hN : xs.length ≤ 4611686018427387904) : ∀ (l : List S63) (i : Nat) (A acc : List S51), xs.drop i = l → A.length = i → acc = A ++ List.replicate l.length z51 → Ev (fun k => laws_toDevS.l0 k xs acc (i : Int)) (A ++ l.map toDev)
  | [], i, A, acc, h, hA, ha => by
    have h1 := drop_nil' h
    subst ha
    refine Ev.step (f := fun _ => some (A ++ [])) (fun k => ?_) (Ev.now _)
    rw [laws_toDevS.l0, if_neg (by omega)]
    rfl
  | a :: t, i, A, acc, h, hA, ha => by
    obtain ⟨h1, _, h3⟩ := drop_cons' h z63
    have ih := toDevS_l0 xs hN t (i + 1) (A ++ [toDev a]) _ h3 (by simp [hA]) rfl
    subst ha
    have e : (A ++ List.replicate (a :: t).length z51).set ((i : Int)).toNat (toDev a) = (A ++ [toDev a]) ++ List.replicate t.length z51 := by
      rw [Int.toNat_natCast, ← hA]; exact set_copy A _ (toDev a) t.length
    refine Ev.step (f := fun k => laws_toDevS.l0 k xs ((A ++ [toDev a]) ++ List.replicate t.length z51) ((i + 1 : Nat) : Int)) (fun k => ?_) (Ev.eq ih (by simp))
    rw [laws_toDevS.l0, if_pos (by omega), if_pos (by omega), rdT_at63 h, laws_toDev.f, Option.bind_some, if_pos (by simp only [List.length_append, List.length_replicate, List.length_cons]; omega), w64s h1 hN, ← e]
    rfl
theorem toDevS_ev (xs : List S63) (hN : xs.length ≤ 1048576) : Ev (fun k => laws_toDevS.f k xs) (xs.map toDev) := by
  refine Ev.congr (f := fun k => laws_toDevS.l0 k xs (List.replicate xs.length z51) ((0 : Nat) : Int)) (fun k => ?_) (toDevS_l0 xs (by omega) xs 0 [] _ rfl rfl rfl)
  rw [laws_toDevS.f, if_pos (by omega), if_pos (by omega), Int.toNat_natCast]; rfl
theorem szDevS_eq (l : List S63) (n : Int) (hl : l.length ≤ 9223372036854775807) (h0 : 0 ≤ n) (h1 : n ≤ 1048576) : laws_szDevS.f l n = some (if n < l.length then -1 else n - l.length) := by
  unfold laws_szDevS.f
  rw [w64 (by omega) (by omega)]
  by_cases h : n < l.length
  · rw [if_pos (by omega), if_pos h]
  · rw [if_neg (by omega), if_neg h]
theorem eqDevS_l0 (xs : List S51) (hN : xs.length ≤ 4611686018427387904) : ∀ (l : List S51) (i : Nat), xs.drop i = l → Ev (fun k => laws_eqDevS.l0 k xs xs (i : Int)) true
  | [], i, h => by
    have h1 := drop_nil' h
    refine Ev.step (f := fun _ => some true) (fun k => ?_) (Ev.now _)
    rw [laws_eqDevS.l0, if_neg (by omega)]
  | a :: t, i, h => by
    obtain ⟨h1, _, h3⟩ := drop_cons' h z51
    refine Ev.step (f := fun k => laws_eqDevS.l0 k xs xs ((i + 1 : Nat) : Int)) (fun k => ?_) (eqDevS_l0 xs hN t (i + 1) h3)
    rw [laws_eqDevS.l0, if_pos (by omega), if_pos (by omega), if_pos (by omega), laws_eqDev.f, if_pos rfl, if_pos rfl, if_pos rfl, Option.bind_some, if_pos rfl, w64s h1 hN]
theorem eqDevS_ev (xs : List S51) (hN : xs.length ≤ 4611686018427387904) : Ev (fun k => laws_eqDevS.f k xs xs) true := by
  refine Ev.congr (f := fun k => laws_eqDevS.l0 k xs xs ((0 : Nat) : Int)) (fun k => ?_) (eqDevS_l0 xs hN xs 0 rfl)
  rw [laws_eqDevS.f, if_pos rfl]; rfl
end Go.Proofs.Ytljfjifdidgceaa.PureFnExactDevAt
namespace Go.Proofs.Ytljfjifdidgceaa.Pure
open Go.RowKit Go.Proofs.Ytljfjifdidgceaa.PFnExactDevAt Go.Proofs.YtljfjifdidgceaaW.PrintWords Go.Proofs.YtljfjifdidgceaaW.PrintLast Go.Proofs.YtljfjifdidgceaaW.PrintMore Go.Proofs.Ytljfjifdidgceaa.Base Go.Proofs.Ytljfjifdidgceaa.PureFnExactDevAt
attribute [local irreducible] Go.bits IntKind.wrap shl shr
theorem FnExactDevAt (l : List S63) (id : Int) (hl0 : l.length ≤ 9223372036854775807 ∧ ∀ x ∈ l, I64 x.f0 ∧ I64 x.f1 ∧ I64 x.f2) (_ : I64 id) : ∃ k, laws_FnExactDevAt.f k l id = some true := by
  have hl := hl0.1
  apply Ev.rounds (g := fun k => laws_FnExactDevAt.f k l id)
  simp only [laws_FnExactDevAt.f]
  refine Ev.got (szDevS_eq l 1048576 hl (by omega) (by omega)) ?_
  by_cases h : (1048576 : Int) < l.length
  · exact Ev.pos (by rw [if_pos h]; omega) (Ev.now _)
  · refine Ev.neg (by rw [if_neg h]; omega) ?_
    obtain ⟨r1, r2⟩ := devAt_ev (l.map toDev) id (by simp; omega)
    refine Ev.bind (toDevS_ev l (by omega)) ?_
    refine Ev.bind r1 ?_
    refine Ev.bind (toDevS_ev l (by omega)) ?_
    refine Ev.bind r2 ?_
    refine Ev.got (a := true) (by simp [laws_eqDev.f]) ?_
    refine Ev.pos rfl ?_
    refine Ev.step (fun k => by rw [laws_FnExactDevAt.j0, if_neg (by simp)]) ?_
    refine Ev.bind (toDevS_ev l (by omega)) ?_
    refine Ev.bind (eqDevS_ev _ (by simp; omega)) ?_
    exact Ev.pos rfl (Ev.now _)
end Go.Proofs.Ytljfjifdidgceaa.Pure
