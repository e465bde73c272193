/- The pure statement of the law FnExactSpreadOf: what the printed functions compute answers as the law says. -/
import Derived.Test.YtbhllgifciaepaaPFnExactSpreadOfx4
import Derived.Test.YtbhllgifciaepaaBase
namespace Go.Proofs.Ytbhllgifciaepaa.PureFnExactSpreadOf
open Go.RowKit Go.Proofs.Ytbhllgifciaepaa.PFnExactSpreadOf Go.Proofs.YtbhllgifciaepaaW.PrintWords Go.Proofs.YtbhllgifciaepaaW.PrintLast Go.Proofs.YtbhllgifciaepaaW.PrintMore Go.Proofs.Ytbhllgifciaepaa.Base
set_option linter.unusedVariables false
attribute [local irreducible] Go.bits IntKind.wrap shl shr
theorem rdT_at76 {xs : List S76} {i : Nat} {a : S76} {t : List S76} (h : xs.drop i = a :: t) : rd_T76 xs (i : Int) = a := by
  unfold rd_T76; rw [Int.toNat_natCast]; exact (drop_cons' h _).2.1
def devAt (id : Int) : List S76 → Int × Int × Int × Bool
  | [] => (0, 0, 0, false)
  | d :: t => if d.f0 = id then (d.f0, d.f1, d.f2, true) else devAt id t
theorem devAt_l0s (xs : List S76) (id : Int) (hN : xs.length ≤ 4611686018427387904) : ∀ (l : List S76) (i : Nat), xs.drop i = l → Ev (fun k => spec_DevAt.l0 k xs id (i : Int)) (devAt id l)
  | [], i, h => by
    have h1 := drop_nil' h
    refine Ev.step (f := fun _ => some (0, 0, 0, false)) (fun k => ?_) (Ev.now _)
    rw [spec_DevAt.l0, if_neg (by omega)]
  | a :: t, i, h => by
    obtain ⟨h1, _, h3⟩ := drop_cons' h z76
    have ih := devAt_l0s xs id hN t (i + 1) h3
    refine Ev.step (f := fun k => if a.f0 = id then some (a.f0, a.f1, a.f2, true) else spec_DevAt.l0 k xs id ((i + 1 : Nat) : Int)) (fun k => ?_) ?_
    · rw [spec_DevAt.l0, if_pos (by omega), if_pos (by omega), rdT_at76 h, w64s h1 hN]
    · by_cases c : a.f0 = id
      · rw [devAt, if_pos c]; exact Ev.pos c (Ev.now _)
      · rw [devAt, if_neg c]; exact Ev.neg c ih
theorem devAt_l0i (xs : List S76) (id : Int) (hN : xs.length ≤ 4611686018427387904) : ∀ (l : List S76) (i : Nat), xs.drop i = l → Ev (fun k => impl_DevAt.l0 k id xs (xs.length : Int) (i : Int)) (devAt id l)
  | [], i, h => by
    have h1 := drop_nil' h
    refine Ev.step (f := fun _ => some (0, 0, 0, false)) (fun k => ?_) (Ev.now _)
    rw [impl_DevAt.l0, if_neg (by omega)]
  | a :: t, i, h => by
    obtain ⟨h1, _, h3⟩ := drop_cons' h z76
    have ih := devAt_l0i xs id hN t (i + 1) h3
    refine Ev.step (f := fun k => if a.f0 = id then some (a.f0, a.f1, a.f2, true) else impl_DevAt.l0 k id xs (xs.length : Int) ((i + 1 : Nat) : Int)) (fun k => ?_) ?_
    · rw [impl_DevAt.l0, if_pos (by omega), if_pos (by omega), if_pos (by omega), rdT_at76 h, w64s h1 hN]
    · by_cases c : a.f0 = id
      · rw [devAt, if_pos c]; exact Ev.pos c (Ev.now _)
      · rw [devAt, if_neg c]; exact Ev.neg c ih
theorem devAt_ev (xs : List S76) (id : Int) (hN : xs.length ≤ 4611686018427387904) : Ev (fun k => spec_DevAt.f k xs id) (devAt id xs) ∧ Ev (fun k => impl_DevAt.f k xs id) (devAt id xs) :=
  ⟨devAt_l0s xs id hN xs 0 rfl, devAt_l0i xs id hN xs 0 rfl⟩
def hasI : List Int → Int → Bool
  | [], _ => false
  | a :: t, x => if a = x then true else hasI t x
theorem hasI_iff (l : List Int) (x : Int) : hasI l x = true ↔ x ∈ l := by
  induction l with
  | nil => simp [hasI]
  | cons a t ih =>
    rw [hasI, List.mem_cons]
    by_cases h : a = x
    · rw [if_pos h]; simp [h]
    · rw [if_neg h, ih]
      exact ⟨Or.inr, fun hc => hc.elim (fun e => absurd e.symm h) id⟩
theorem l4Has_l0 (xs : List Int) (x : Int) (hN : xs.length ≤ 4611686018427387904) : ∀ (l : List Int) (i : Nat), xs.drop i = l → Ev (fun k => spec_l4Has.l0 k xs x (i : Int)) (hasI l x)
  | [], i, h => by
    have h1 := drop_nil' h
    refine Ev.step (f := fun _ => some false) (fun k => ?_) (Ev.now _)
    rw [spec_l4Has.l0, if_neg (by omega)]
  | a :: t, i, h => by
    obtain ⟨h1, _, h3⟩ := drop_cons' h 0
    refine Ev.step (f := fun k => if a = x then some true else spec_l4Has.l0 k xs x ((i + 1 : Nat) : Int)) (fun k => ?_) ?_
    · rw [spec_l4Has.l0, if_pos (by omega), if_pos (by omega), rd_at h, w64s h1 hN]
    · by_cases c : a = x
      · rw [hasI, if_pos c]; exact Ev.pos c (Ev.now _)
      · rw [hasI, if_neg c]; exact Ev.neg c (l4Has_l0 xs x hN t (i + 1) h3)
theorem l4Has_ev (xs : List Int) (x : Int) (hN : xs.length ≤ 4611686018427387904) : Ev (fun k => spec_l4Has.f k xs x) (hasI xs x) := l4Has_l0 xs x hN xs 0 rfl
theorem hasInt_l0 (xs : List Int) (x : Int) (hN : xs.length ≤ 4611686018427387904) : ∀ (l : List Int) (i : Nat), xs.drop i = l → Ev (fun k => impl_hasInt.l0 k x xs (xs.length : Int) (i : Int)) (hasI l x)
  | [], i, h => by
    have h1 := drop_nil' h
    refine Ev.step (f := fun _ => some false) (fun k => ?_) (Ev.now _)
    rw [impl_hasInt.l0, if_neg (by omega)]
  | a :: t, i, h => by
    obtain ⟨h1, _, h3⟩ := drop_cons' h 0
    refine Ev.step (f := fun k => if a = x then some true else impl_hasInt.l0 k x xs (xs.length : Int) ((i + 1 : Nat) : Int)) (fun k => ?_) ?_
    · rw [impl_hasInt.l0, if_pos (by omega), if_pos (by omega), if_pos (by omega), rd_at h, w64s h1 hN]
    · by_cases c : a = x
      · rw [hasI, if_pos c]; exact Ev.pos c (Ev.now _)
      · rw [hasI, if_neg c]; exact Ev.neg c (hasInt_l0 xs x hN t (i + 1) h3)
theorem hasInt_ev (xs : List Int) (x : Int) (hN : xs.length ≤ 4611686018427387904) : Ev (fun k => impl_hasInt.f k xs x) (hasI xs x) := hasInt_l0 xs x hN xs 0 rfl
def zoneOf (l : List S76) (id : Int) : Option Int := if (devAt id l).2.2.2 = true then some (devAt id l).2.1 else none
def zonesFrom (l : List S76) : List Int → List Int → List Int
  | acc, [] => acc
  | acc, id :: t => match zoneOf l id with
    | none => zonesFrom l acc t
    | some z => if hasI acc z = true then zonesFrom l acc t else zonesFrom l (acc ++ [z]) t
theorem zones_l0 (l : List S76) (ids : List Int) (hl : l.length ≤ 1048576) (hN : ids.length ≤ 1048576) : ∀ (t : List Int) (i : Nat) (acc : List Int), ids.drop i = t → acc.length ≤ i →
    Ev (fun k => spec_l5Zones.l0 k ids l acc (i : Int)) (zonesFrom l acc t) ∧ Ev (fun k => impl_zonesIn.l0 k l acc ids (ids.length : Int) (i : Int)) (zonesFrom l acc t)
  | [], i, acc, h, ha => by
    have h1 := drop_nil' h
    refine ⟨Ev.step (f := fun _ => some acc) (fun k => ?_) (Ev.now _), Ev.step (f := fun _ => some acc) (fun k => ?_) (Ev.now _)⟩
    · rw [spec_l5Zones.l0, if_neg (by omega)]
    · rw [impl_zonesIn.l0, if_neg (by omega)]
  | id :: t, i, acc, h, ha => by
    obtain ⟨h1, _, h3⟩ := drop_cons' h 0
    have hr : Hd (rd ids (i : Int) = id) := ⟨rd_at h⟩
    have w : Hd (wrap64 ((i : Int) + 1) = ((i + 1 : Nat) : Int)) := ⟨w64s h1 (by omega)⟩
    obtain ⟨d1, d2⟩ := devAt_ev l id (by omega)
    have ih := fun acc' (ha' : acc'.length ≤ i + 1) => zones_l0 l ids hl hN t (i + 1) acc' h3 ha'
    rw [zonesFrom, zoneOf]
    by_cases c : (devAt id l).2.2.2 = true
    · simp only [if_pos c]
      by_cases c2 : hasI acc (devAt id l).2.1 = true
      · rw [if_pos c2]
        refine ⟨Ev.step (fun k => by rw [spec_l5Zones.l0, if_pos (by omega), if_pos (by omega), hr.out, w.out]) ?_, Ev.step (fun k => by rw [impl_zonesIn.l0, if_pos (by omega), if_pos (by omega), if_pos (by omega), hr.out, w.out]) ?_⟩
        · exact Ev.bind d1 (Ev.pos c (Ev.bind (l4Has_ev acc _ (by omega)) (Ev.pos c2 (ih acc (by omega)).1)))
        · exact Ev.bind d2 (Ev.pos c (Ev.bind (hasInt_ev acc _ (by omega)) (Ev.pos c2 (ih acc (by omega)).2)))
      · rw [if_neg c2]
        refine ⟨Ev.step (fun k => by rw [spec_l5Zones.l0, if_pos (by omega), if_pos (by omega), hr.out, w.out]) ?_, Ev.step (fun k => by rw [impl_zonesIn.l0, if_pos (by omega), if_pos (by omega), if_pos (by omega), hr.out, w.out]) ?_⟩
        · exact Ev.bind d1 (Ev.pos c (Ev.bind (l4Has_ev acc _ (by omega)) (Ev.neg c2 (Ev.pos (by omega) (ih _ (by simp; omega)).1))))
        · exact Ev.bind d2 (Ev.pos c (Ev.bind (hasInt_ev acc _ (by omega)) (Ev.neg c2 (Ev.pos (by omega) (ih _ (by simp; omega)).2))))
    · simp only [if_neg c]
      refine ⟨Ev.step (fun k => by rw [spec_l5Zones.l0, if_pos (by omega), if_pos (by omega), hr.out, w.out]) ?_, Ev.step (fun k => by rw [impl_zonesIn.l0, if_pos (by omega), if_pos (by omega), if_pos (by omega), hr.out, w.out]) ?_⟩
      · exact Ev.bind d1 (Ev.neg c (ih acc (by omega)).1)
      · exact Ev.bind d2 (Ev.neg c (ih acc (by omega)).2)
def zonesOf (ids : List Int) (l : List S76) : List Int := zonesFrom l [] ids
theorem zones_ev (ids : List Int) (l : List S76) (hN : ids.length ≤ 1048576) (hl : l.length ≤ 1048576) : Ev (fun k => spec_l5Zones.f k ids l) (zonesOf ids l) ∧ Ev (fun k => impl_zonesIn.f k ids l) (zonesOf ids l) :=
  zones_l0 l ids hl hN ids 0 [] rfl (Nat.le_refl _)
theorem spread_ev (ids : List Int) (l : List S76) (hN : ids.length ≤ 1048576) (hl : l.length ≤ 1048576) : Ev (fun k => spec_SpreadOf.f k ids l) ((zonesOf ids l).length : Int) ∧ Ev (fun k => impl_SpreadOf.f k ids l) ((zonesOf ids l).length : Int) := by
  obtain ⟨z1, z2⟩ := zones_ev ids l hN hl
  simp only [spec_SpreadOf.f, impl_SpreadOf.f]
  exact ⟨Ev.bind z1 (Ev.now _), Ev.bind z2 (Ev.now _)⟩
theorem szPart_eq (l : List Int) (n : Int) (hl : l.length ≤ 9223372036854775807) (h0 : 0 ≤ n) (h1 : n ≤ 1048576) : laws_szPart.f l n = some (if n < l.length then -1 else n - l.length) := by
  unfold laws_szPart.f laws_szIntS.f
  rw [w64 (by omega) (by omega)]
  by_cases h : n < l.length
  · rw [if_pos (by omega), Option.bind_some, if_pos (by omega), if_pos h]
  · rw [if_neg (by omega), Option.bind_some, if_neg (by omega), if_neg h]
theorem szDevS_eq (l : List S99) (n : Int) (hl : l.length ≤ 9223372036854775807) (h0 : 0 ≤ n) (h1 : n ≤ 1048576) : laws_szDevS.f l n = some (if n < l.length then -1 else n - l.length) := by
  unfold laws_szDevS.f
  rw [w64 (by omega) (by omega)]
  by_cases h : n < l.length
  · rw [if_pos (by omega), if_pos h]
  · rw [if_neg (by omega), if_neg h]
theorem toIntS_l0 (xs : List Int) (hN : xs.length ≤ 4611686018427387904) : ∀ (l : List Int) (i : Nat) (A acc : List Int), xs.drop i = l → A.length = i → acc = A ++ List.replicate l.length 0 → Ev (fun k => laws_toIntS.l0 k xs acc (i : Int)) (A ++ l)
  | [], i, A, acc, h, hA, ha => by
    have h1 := drop_nil' h
    subst ha
    refine Ev.step (f := fun _ => some (A ++ [])) (fun k => ?_) (Ev.now _)
    rw [laws_toIntS.l0, if_neg (by omega)]
    rfl
  | a :: t, i, A, acc, h, hA, ha => by
    obtain ⟨h1, _, h3⟩ := drop_cons' h 0
    have ih := toIntS_l0 xs hN t (i + 1) (A ++ [a]) _ h3 (by simp [hA]) rfl
    subst ha
    have e : (A ++ List.replicate (a :: t).length 0).set ((i : Int)).toNat (rd xs i) = (A ++ [a]) ++ List.replicate t.length 0 := by
      rw [rd_at h, Int.toNat_natCast, ← hA]; exact set_copy A 0 a t.length
    refine Ev.step (f := fun k => laws_toIntS.l0 k xs ((A ++ [a]) ++ List.replicate t.length 0) ((i + 1 : Nat) : Int)) (fun k => ?_) (Ev.eq ih (by simp))
    rw [laws_toIntS.l0, if_pos (by omega), if_pos (by omega), if_pos (by simp only [List.length_append, List.length_replicate, List.length_cons]; omega), e, w64s h1 hN]
theorem toIntS_ev (xs : List Int) (hN : xs.length ≤ 1048576) : Ev (fun k => laws_toIntS.f k xs) xs := by
  refine Ev.congr (f := fun k => laws_toIntS.l0 k xs (List.replicate xs.length 0) ((0 : Nat) : Int)) (fun k => ?_) (toIntS_l0 xs (by omega) xs 0 [] _ rfl rfl rfl)
  rw [laws_toIntS.f, if_pos (by omega), if_pos (by omega), Int.toNat_natCast]; rfl
theorem toPart_ev (xs : List Int) (hN : xs.length ≤ 1048576) : Ev (fun k => laws_toPart.f k xs) xs := by
  simp only [laws_toPart.f]
  refine Ev.bind (toIntS_ev xs hN) ?_
  exact Ev.now _
def toDev (x : S99) : S76 := ⟨x.f0, x.f1, x.f2⟩
theorem rdT_at99 {xs : List S99} {i : Nat} {a : S99} {t : List S99} (h : xs.drop i = a :: t) : rd_T99 xs (i : Int) = a := by
  unfold rd_T99; rw [Int.toNat_natCast]; exact (drop_cons' h _).2.1
theorem toDevS_l0 (xs : List S99) (hN : xs.length ≤ 4611686018427387904) : ∀ (l : List S99) (i : Nat) (A acc : List S76), xs.drop i = l → A.length = i → acc = A ++ List.replicate l.length z76 → Ev (fun k => laws_toDevS.l0 k xs acc (i : Int)) (A ++ l.map toDev)
  | [], i, A, acc, h, hA, ha => by
    have h1 := drop_nil' h
    subst ha
    refine Ev.step (f := fun _ => some (A ++ [])) (fun k => ?_) (Ev.now _)
    rw [laws_toDevS.l0, if_neg (by omega)]
    rfl
  | a :: t, i, A, acc, h, hA, ha => by
    obtain ⟨h1, _, h3⟩ := drop_cons' h z99
    have ih := toDevS_l0 xs hN t (i + 1) (A ++ [toDev a]) _ h3 (by simp [hA]) rfl
    subst ha
    have e : (A ++ List.replicate (a :: t).length z76).set ((i : Int)).toNat (toDev a) = (A ++ [toDev a]) ++ List.replicate t.length z76 := by
      rw [Int.toNat_natCast, ← hA]; exact set_copy A _ (toDev a) t.length
    refine Ev.step (f := fun k => laws_toDevS.l0 k xs ((A ++ [toDev a]) ++ List.replicate t.length z76) ((i + 1 : Nat) : Int)) (fun k => ?_) (Ev.eq ih (by simp))
    rw [laws_toDevS.l0, if_pos (by omega), if_pos (by omega), rdT_at99 h, laws_toDev.f, Option.bind_some, if_pos (by simp only [List.length_append, List.length_replicate, List.length_cons]; omega), w64s h1 hN, ← e]
    rfl
theorem toDevS_ev (xs : List S99) (hN : xs.length ≤ 1048576) : Ev (fun k => laws_toDevS.f k xs) (xs.map toDev) := by
  refine Ev.congr (f := fun k => laws_toDevS.l0 k xs (List.replicate xs.length z76) ((0 : Nat) : Int)) (fun k => ?_) (toDevS_l0 xs (by omega) xs 0 [] _ rfl rfl rfl)
  rw [laws_toDevS.f, if_pos (by omega), if_pos (by omega), Int.toNat_natCast]; rfl
theorem eqIntS_l0 (xs : List Int) (hN : xs.length ≤ 4611686018427387904) : ∀ (l : List Int) (i : Nat), xs.drop i = l → Ev (fun k => laws_eqIntS.l0 k xs xs (i : Int)) true
  | [], i, h => by
    have h1 := drop_nil' h
    refine Ev.step (f := fun _ => some true) (fun k => ?_) (Ev.now _)
    rw [laws_eqIntS.l0, if_neg (by omega)]
  | a :: t, i, h => by
    obtain ⟨h1, _, h3⟩ := drop_cons' h 0
    refine Ev.step (f := fun k => laws_eqIntS.l0 k xs xs ((i + 1 : Nat) : Int)) (fun k => ?_) (eqIntS_l0 xs hN t (i + 1) h3)
    rw [laws_eqIntS.l0, if_pos (by omega), if_pos (by omega), if_pos (by omega), if_pos rfl, w64s h1 hN]
theorem eqIntS_ev (xs : List Int) (hN : xs.length ≤ 4611686018427387904) : Ev (fun k => laws_eqIntS.f k xs xs) true := by
  refine Ev.congr (f := fun k => laws_eqIntS.l0 k xs xs ((0 : Nat) : Int)) (fun k => ?_) (eqIntS_l0 xs hN xs 0 rfl)
  rw [laws_eqIntS.f, if_pos rfl]; rfl
theorem eqPart_ev (xs : List Int) (hN : xs.length ≤ 4611686018427387904) : Ev (fun k => laws_eqPart.f k xs xs) true := by
  simp only [laws_eqPart.f]
  refine Ev.bind (eqIntS_ev xs hN) ?_
  exact Ev.pos rfl (Ev.now _)
theorem eqDevS_l0 (xs : List S76) (hN : xs.length ≤ 4611686018427387904) : ∀ (l : List S76) (i : Nat), xs.drop i = l → Ev (fun k => laws_eqDevS.l0 k xs xs (i : Int)) true
  | [], i, h => by
    have h1 := drop_nil' h
    refine Ev.step (f := fun _ => some true) (fun k => ?_) (Ev.now _)
    rw [laws_eqDevS.l0, if_neg (by omega)]
  | a :: t, i, h => by
    obtain ⟨h1, _, h3⟩ := drop_cons' h z76
    refine Ev.step (f := fun k => laws_eqDevS.l0 k xs xs ((i + 1 : Nat) : Int)) (fun k => ?_) (eqDevS_l0 xs hN t (i + 1) h3)
    rw [laws_eqDevS.l0, if_pos (by omega), if_pos (by omega), if_pos (by omega), laws_eqDev.f, if_pos rfl, if_pos rfl, if_pos rfl, Option.bind_some, if_pos rfl, w64s h1 hN]
theorem eqDevS_ev (xs : List S76) (hN : xs.length ≤ 4611686018427387904) : Ev (fun k => laws_eqDevS.f k xs xs) true := by
  refine Ev.congr (f := fun k => laws_eqDevS.l0 k xs xs ((0 : Nat) : Int)) (fun k => ?_) (eqDevS_l0 xs hN xs 0 rfl)
  rw [laws_eqDevS.f, if_pos rfl]; rfl
end Go.Proofs.Ytbhllgifciaepaa.PureFnExactSpreadOf
namespace Go.Proofs.Ytbhllgifciaepaa.Pure
open Go.RowKit Go.Proofs.Ytbhllgifciaepaa.PFnExactSpreadOf Go.Proofs.YtbhllgifciaepaaW.PrintWords Go.Proofs.YtbhllgifciaepaaW.PrintLast Go.Proofs.YtbhllgifciaepaaW.PrintMore Go.Proofs.Ytbhllgifciaepaa.Base Go.Proofs.Ytbhllgifciaepaa.PureFnExactSpreadOf
set_option linter.unusedVariables false
attribute [local irreducible] Go.bits IntKind.wrap shl shr
theorem FnExactSpreadOf (p : List Int) (l : List S99) (hp : p.length ≤ 9223372036854775807 ∧ ∀ x ∈ p, I64 x) (hl : l.length ≤ 9223372036854775807 ∧ ∀ x ∈ l, I64 x.f0 ∧ I64 x.f1 ∧ I64 x.f2) : ∃ k, laws_FnExactSpreadOf.f k p l = some true := by
  apply Ev.rounds (g := fun k => laws_FnExactSpreadOf.f k p l)
  simp only [laws_FnExactSpreadOf.f]
  refine Ev.got (szPart_eq p 1048576 hp.1 (by omega) (by omega)) ?_
  by_cases c1 : (1048576 : Int) < p.length
  · exact Ev.pos (by rw [if_pos c1]; omega) (Ev.now _)
  refine Ev.neg (by rw [if_neg c1]; omega) ?_
  rw [if_neg c1]
  refine Ev.got (szDevS_eq l (1048576 - (p.length : Int)) hl.1 (by omega) (by omega)) ?_
  by_cases c2 : (1048576 : Int) - (p.length : Int) < l.length
  · exact Ev.pos (by rw [if_pos c2]; omega) (Ev.now _)
  refine Ev.neg (by rw [if_neg c2]; omega) ?_
  obtain ⟨s1, s2⟩ := spread_ev p (l.map toDev) (by omega) (by simp; omega)
  refine Ev.bind (toPart_ev p (by omega)) ?_
  refine Ev.bind (toDevS_ev l (by omega)) ?_
  refine Ev.bind s1 ?_
  refine Ev.bind (toPart_ev p (by omega)) ?_
  refine Ev.bind (toDevS_ev l (by omega)) ?_
  refine Ev.bind s2 ?_
  refine Ev.pos rfl ?_
  refine Ev.bind (toPart_ev p (by omega)) ?_
  refine Ev.bind (eqPart_ev p (by omega)) ?_
  refine Ev.pos rfl ?_
  refine Ev.bind (toDevS_ev l (by omega)) ?_
  refine Ev.bind (eqDevS_ev (l.map toDev) (by simp; omega)) ?_
  exact Ev.pos rfl (Ev.now _)
end Go.Proofs.Ytbhllgifciaepaa.Pure
