/- The pure statement of the law FnExactGetText: what the printed functions compute answers as the law says. -/
import Derived.Test.YtafmhffapmejpaaPFnExactGetTextx2
import Derived.Test.YtafmhffapmejpaaBase
namespace Go.Proofs.Ytafmhffapmejpaa.PureFnExactGetText
open Go.RowKit Go.Proofs.Ytafmhffapmejpaa.PFnExactGetText Go.Proofs.YtafmhffapmejpaaW.PrintWords Go.Proofs.YtafmhffapmejpaaW.PrintLast Go.Proofs.YtafmhffapmejpaaW.PrintMore Go.Proofs.Ytafmhffapmejpaa.Base
set_option linter.unusedVariables false
attribute [local irreducible] Go.bits IntKind.wrap shl shr
def p128 (j : Nat) : Int := 128 ^ j
/-- The number whose groups of seven bits stand ahead in a list: it, and how many bytes it takes. -/
def gnum : Nat → List Int → Nat → Int → Option (Int × Nat)
  | 0, _, _, _ => none
  | _ + 1, [], _, _ => none
  | d + 1, c :: t, j, n =>
    if 128 ≤ c then gnum d t (j + 1) (n + c % 128 * p128 j)
    else if c = 0 ∧ 0 < j then none else if 1000000000 < n + c % 128 * p128 j then none else some (n + c % 128 * p128 j, j + 1)
def getNum (b : List Int) (p : Int) : Int × Int × Bool :=
  if 0 ≤ p ∧ p < (b.length : Int) then match gnum 5 (b.drop p.toNat) 0 0 with
    | none => (0, 0, false)
    | some (n, m) => (n, p + m, true)
  else (0, 0, false)
def gnumR (p : Int) : Option (Int × Nat) → Int × Int × Bool
  | none => (0, 0, false)
  | some (n, m) => (n, p + m, true)
theorem pow128 (j : Nat) (hj : j < 5) : p128 j = 2 ^ (7 * j) ∧ 1 ≤ p128 j ∧ p128 j ≤ 268435456 ∧ p128 (j + 1) = 128 * p128 j := by
  unfold p128
  obtain rfl | rfl | rfl | rfl | rfl : j = 0 ∨ j = 1 ∨ j = 2 ∨ j = 3 ∨ j = 4 := by omega
  all_goals decide
theorem p128_0 : p128 0 = 1 := rfl
theorem shl7 {v : Int} (j : Nat) (hj : j < 5) (h0 : 0 ≤ v) (h1 : v < 128) : shl .i64 v (7 * (j : Int)) = v * p128 j := by
  have e : min (7 * (j : Int)).toNat IntKind.i64.bits = 7 * j := by
    rw [show IntKind.i64.bits = 64 from rfl]; omega
  obtain ⟨p1, p2, p3, _⟩ := pow128 j hj
  have b1 : 0 ≤ v * p128 j := Int.mul_nonneg h0 (by omega)
  have b2 : v * p128 j ≤ 127 * 268435456 := Int.mul_le_mul (by omega) p3 (by omega) (by omega)
  rw [shl, e, ← p1, IntKind.wrap_i64]
  omega
theorem or7 {v n : Int} (j : Nat) (hj : j < 5) (h0 : 0 ≤ v) (h1 : v < 128) (n0 : 0 ≤ n) (n1 : n < p128 j) : Go.bits .or .i64 n (v * p128 j) = n + v * p128 j := by
  obtain ⟨p1, p2, p3, _⟩ := pow128 j hj
  have b1 : 0 ≤ v * p128 j := Int.mul_nonneg h0 (by omega)
  have b2 : v * p128 j ≤ 127 * 268435456 := Int.mul_le_mul (by omega) p3 (by omega) (by omega)
  exact orJoin (7 * j) n0 (by rw [← p1]; exact n1) b1 (by rw [← p1]; exact Int.mul_emod_left _ _) (by omega) (by omega)
theorem getNum_l0 (b : List Int) (hN : b.length ≤ 4611686018427387904) (hb : ∀ x ∈ b, 0 ≤ x ∧ x ≤ 255) (p : Nat) : ∀ (d j : Nat) (n : Int), j + d = 5 → 0 ≤ n → n < p128 j → (j = 0 ∨ p < b.length) →
    Ev (fun k => spec_GetNum.l0 k b p n (j : Int)) (gnumR p (gnum d (b.drop (p + j)) j n)) ∧ Ev (fun k => impl_GetNum.l0 k b p n (j : Int)) (gnumR p (gnum d (b.drop (p + j)) j n)) := by
  intro d
  induction d with
  | zero =>
    intro j n hd h0 h1 hp
    have hj : j = 5 := by omega
    subst hj
    refine ⟨Ev.step (f := fun k => spec_GetNum.j1 k b p n 5 false) (fun k => ?_) (Ev.step (f := fun _ => some (0, 0, false)) (fun k => ?_) (Ev.now _)), Ev.step (f := fun k => impl_GetNum.j1 k b p n 5 false) (fun k => ?_) (Ev.step (f := fun _ => some (0, 0, false)) (fun k => ?_) (Ev.now _))⟩
    · rw [spec_GetNum.l0, if_neg (by omega)]; rfl
    · rw [spec_GetNum.j1, if_neg (by simp)]
    · rw [impl_GetNum.l0, if_neg (by omega)]; rfl
    · rw [impl_GetNum.j1, if_neg (by simp)]
  | succ d ih =>
    intro j n hd h0 h1 hp
    cases hl : b.drop (p + j) with
    | nil =>
      have hlen := drop_nil' hl
      have hg : gnumR (p : Int) (gnum (d + 1) [] j n) = (0, 0, false) := rfl
      rw [hg]
      refine ⟨?_, ?_⟩
      · refine Ev.step (f := fun k => spec_GetNum.j1 k b p n j false) (fun k => ?_) (Ev.step (f := fun _ => some (0, 0, false)) (fun k => ?_) (Ev.now _))
        · rw [spec_GetNum.l0, if_pos (by omega), if_pos (by omega)]
          by_cases hpl : (p : Int) < (b.length : Int)
          · rw [if_pos hpl, w64 (by omega) (by omega), decide_eq_false (by omega)]
          · rw [if_neg hpl]
        · rw [spec_GetNum.j1, if_neg (by simp)]
      · refine Ev.step (f := fun k => impl_GetNum.j1 k b p n j false) (fun k => ?_) (Ev.step (f := fun _ => some (0, 0, false)) (fun k => ?_) (Ev.now _))
        · rw [impl_GetNum.l0, if_pos (by omega), if_pos (by omega), w64 (by omega) (by omega), decide_eq_false (by omega)]
        · rw [impl_GetNum.j1, if_neg (by simp)]
    | cons c t =>
      obtain ⟨hlt, _, h3⟩ := drop_cons' hl 0
      have hc : rd b ((p : Int) + (j : Int)) = c := by
        rw [show (p : Int) + (j : Int) = ((p + j : Nat) : Int) by omega]; exact rd_at hl
      have hcb : 0 ≤ c ∧ c ≤ 255 := hb c (by
        have : c ∈ b.drop (p + j) := by rw [hl]; exact List.mem_cons_self
        exact List.mem_of_mem_drop this)
      obtain ⟨-, p2, p3, p4⟩ := pow128 j (by omega)
      have b1 : 0 ≤ c % 128 * p128 j := Int.mul_nonneg (by omega) (by omega)
      have b2 : c % 128 * p128 j ≤ 127 * p128 j := Int.mul_le_mul_of_nonneg_right (by omega) (by omega)
      have s1 : Hd (shl .i64 (c % 128) (7 * (j : Int)) = c % 128 * p128 j) := ⟨shl7 j (by omega) (by omega) (by omega)⟩
      have o1 : Hd (Go.bits .or .i64 n (c % 128 * p128 j) = n + c % 128 * p128 j) := ⟨or7 j (by omega) (by omega) (by omega) h0 h1⟩
      obtain ⟨i1, i2⟩ := ih (j + 1) (n + c % 128 * p128 j) (by omega) (by omega) (by rw [p4]; omega) (Or.inr (by omega))
      rw [show p + (j + 1) = p + j + 1 by omega, h3] at i1 i2
      have eg : gnum (d + 1) (c :: t) j n = if 128 ≤ c then gnum d t (j + 1) (n + c % 128 * p128 j) else if c = 0 ∧ 0 < j then none else if 1000000000 < n + c % 128 * p128 j then none else some (n + c % 128 * p128 j, j + 1) := by rw [gnum]
      rw [eg]
      clear p4 eg
      generalize p128 j = P at *
      have hv : 0 ≤ c % 128 * P ∧ c % 128 * P ≤ 127 * 268435456 := ⟨b1, by omega⟩
      have hn : n < 268435456 := by omega
      clear h1 b1 b2 p2 p3
      generalize c % 128 * P = V at *
      have w1 : Hd (wrap64 ((p : Int) + (j : Int)) = (p : Int) + (j : Int)) := ⟨w64 (by omega) (by omega)⟩
      have w2 : Hd (wrap64 c = c) := ⟨w64 (by omega) (by omega)⟩
      have w3 : Hd (wrap64 (7 * (j : Int)) = 7 * (j : Int)) := ⟨w64 (by omega) (by omega)⟩
      have w4 : Hd (IntKind.u64.wrap (7 * (j : Int)) = 7 * (j : Int)) := ⟨u64_id (by omega) (by omega)⟩
      have w5 : Hd (wrap64 ((j : Int) + 1) = ((j + 1 : Nat) : Int)) := ⟨w64s (n := j + 1) (by omega) (by omega)⟩
      have w6 : Hd (wrap64 (n + V) = n + V) := ⟨w64 (by omega) (by omega)⟩
      have w7 : Hd (wrap64 ((p : Int) + (j : Int) + 1) = (p : Int) + ((j + 1 : Nat) : Int)) := ⟨by rw [w64 (by omega) (by omega)]; omega⟩
      have a1 : Hd (Go.bits .and .i64 c 127 = c % 128) := ⟨and127 (by omega) (by omega)⟩
      have t1 : Hd (Int.tmod c 128 = c % 128) := ⟨Int.tmod_eq_emod_of_nonneg hcb.1⟩
      refine ⟨?_, ?_⟩
      · refine Ev.step (f := fun k => spec_GetNum.j1 k b p n j true) (fun k => ?_) ?_
        · rw [spec_GetNum.l0, if_pos (by omega), if_pos (by omega), if_pos (by omega), w1.out, decide_eq_true (by omega)]
        · by_cases h128 : 128 ≤ c
          · rw [if_pos h128]
            refine Ev.step (fun k => ?_) i1
            rw [spec_GetNum.j1, if_pos rfl, w1.out, if_pos (by omega), if_pos (by omega), w3.out, w4.out, if_pos (by omega), hc, w2.out, if_pos (by omega), a1.out, s1.out, o1.out, w5.out]
          · refine Ev.step (f := fun _ => some _) (fun k => ?_) (Ev.now _)
            rw [spec_GetNum.j1, if_pos rfl, w1.out, if_pos (by omega), if_pos (by omega), w3.out, w4.out, if_pos (by omega), hc, w2.out, if_neg (by omega), a1.out, s1.out, o1.out, w7.out, if_neg h128]
            repeat' split
            all_goals first | rfl | (exfalso; omega)
      · refine Ev.step (f := fun k => impl_GetNum.j1 k b p n j true) (fun k => ?_) ?_
        · rw [impl_GetNum.l0, if_pos (by omega), if_pos (by omega), w64 (by omega) (by omega), decide_eq_true (by omega)]
        · by_cases h128 : 128 ≤ c
          · rw [if_pos h128]
            refine Ev.step (fun k => ?_) i2
            rw [impl_GetNum.j1, if_pos rfl, w1.out, if_pos (by omega), if_pos (by omega), w3.out, if_pos (by omega), hc, w2.out, if_pos (by omega), t1.out, s1.out, w6.out, w5.out]
          · refine Ev.step (f := fun _ => some _) (fun k => ?_) (Ev.now _)
            rw [impl_GetNum.j1, if_pos rfl, w1.out, if_pos (by omega), if_pos (by omega), w3.out, if_pos (by omega), hc, w2.out, if_neg (by omega), t1.out, s1.out, w6.out, w7.out, if_neg h128]
            repeat' split
            all_goals first | rfl | (exfalso; omega)
theorem getNum_ev (b : List Int) (hN : b.length ≤ 4611686018427387904) (hb : ∀ x ∈ b, 0 ≤ x ∧ x ≤ 255) (p : Int) (p0 : -9223372036854775808 ≤ p) (p1 : p < 9223372036854775808) :
    Ev (fun k => spec_GetNum.f k b p) (getNum b p) ∧ Ev (fun k => impl_GetNum.f k b p) (getNum b p) := by
  by_cases h : 0 ≤ p
  · obtain ⟨q, rfl⟩ := Int.eq_ofNat_of_zero_le h
    by_cases hq : (q : Int) < (b.length : Int)
    · have e : getNum b (q : Int) = gnumR q (gnum 5 (b.drop (q + 0)) 0 0) := by
        rw [getNum, if_pos ⟨h, hq⟩, Int.toNat_natCast]; rfl
      rw [e]
      exact getNum_l0 b hN hb q 5 0 0 rfl (by omega) (by rw [p128_0]; decide) (Or.inl rfl)
    · have e : getNum b (q : Int) = (0, 0, false) := by rw [getNum, if_neg (by omega)]
      have e2 : gnumR (q : Int) (gnum 5 (b.drop (q + 0)) 0 0) = (0, 0, false) := by
        rw [List.drop_eq_nil_of_le (by omega)]; rfl
      rw [e, ← e2]
      exact getNum_l0 b hN hb q 5 0 0 rfl (by omega) (by rw [p128_0]; decide) (Or.inl rfl)
  · have e : getNum b p = (0, 0, false) := by rw [getNum, if_neg (by omega)]
    rw [e]
    refine ⟨Ev.step (f := fun k => spec_GetNum.j1 k b p 0 0 false) (fun k => ?_) (Ev.step (f := fun _ => some (0, 0, false)) (fun k => ?_) (Ev.now _)), Ev.step (f := fun k => impl_GetNum.j1 k b p 0 0 false) (fun k => ?_) (Ev.step (f := fun _ => some (0, 0, false)) (fun k => ?_) (Ev.now _))⟩
    · rw [spec_GetNum.f, spec_GetNum.l0, if_pos (by omega), if_neg (by omega)]
    · rw [spec_GetNum.j1, if_neg (by simp)]
    · rw [impl_GetNum.f, impl_GetNum.l0, if_pos (by omega), if_neg (by omega)]
    · rw [impl_GetNum.j1, if_neg (by simp)]
def getText (b : List Int) (p : Int) : ByteArray × Int × Bool :=
  if (getNum b p).2.2 = true then
    if (getNum b p).1 > (b.length : Int) - (getNum b p).2.1 then (⟨#[]⟩, 0, false)
    else (strOfNums ((b.take ((getNum b p).2.1 + (getNum b p).1).toNat).drop (getNum b p).2.1.toNat), (getNum b p).2.1 + (getNum b p).1, true)
  else (⟨#[]⟩, 0, false)
theorem gnum_le : ∀ (d : Nat) (l : List Int) (j : Nat) (n : Int) (v : Int) (m : Nat), (∀ x ∈ l, 0 ≤ x ∧ x ≤ 255) → 0 ≤ n → gnum d l j n = some (v, m) → 0 ≤ v ∧ v ≤ 1000000000 ∧ j < m ∧ m ≤ j + l.length
  | 0, _, _, _, _, _, _, _, h => by cases h
  | _ + 1, [], _, _, _, _, _, _, h => by cases h
  | d + 1, c :: t, j, n, v, m, hb, h0, h => by
    have hc := hb c List.mem_cons_self
    have hp : 0 ≤ c % 128 * p128 j := Int.mul_nonneg (by omega) (by unfold p128; exact Int.pow_nonneg (by decide))
    rw [gnum] at h
    by_cases h1 : 128 ≤ c
    · rw [if_pos h1] at h
      have := gnum_le d t (j + 1) _ v m (fun x hx => hb x (List.mem_cons_of_mem _ hx)) (by omega) h
      simp only [List.length_cons]
      omega
    · rw [if_neg h1] at h
      by_cases h2 : c = 0 ∧ 0 < j
      · rw [if_pos h2] at h; cases h
      · rw [if_neg h2] at h
        by_cases h3 : 1000000000 < n + c % 128 * p128 j
        · rw [if_pos h3] at h; cases h
        · rw [if_neg h3] at h
          injection h with h
          injection h with e1 e2
          subst e1 e2
          simp only [List.length_cons]
          omega
theorem getNum_in (b : List Int) (p : Int) (hb : ∀ x ∈ b, 0 ≤ x ∧ x ≤ 255) (h : (getNum b p).2.2 = true) : 0 ≤ p ∧ 0 ≤ (getNum b p).1 ∧ (getNum b p).1 ≤ 1000000000 ∧ p < (getNum b p).2.1 ∧ (getNum b p).2.1 ≤ b.length := by
  unfold getNum at h ⊢
  by_cases hp : 0 ≤ p ∧ p < (b.length : Int)
  · rw [if_pos hp] at h ⊢
    cases hg : gnum 5 (b.drop p.toNat) 0 0 with
    | none => rw [hg] at h; cases h
    | some vm =>
      obtain ⟨v, m⟩ := vm
      have := gnum_le 5 _ 0 0 v m (fun x hx => hb x (List.mem_of_mem_drop hx)) (by omega) hg
      rw [List.length_drop] at this
      simp only
      omega
  · rw [if_neg hp] at h; cases h
theorem getText_ev (b : List Int) (hN : b.length ≤ 1000000000000) (hb : ∀ x ∈ b, 0 ≤ x ∧ x ≤ 255) (p : Int) (p0 : -9223372036854775808 ≤ p) (p1 : p < 9223372036854775808) :
    Ev (fun k => spec_GetText.f k b p) (getText b p) ∧ Ev (fun k => impl_GetText.f k b p) (getText b p) := by
  obtain ⟨r1, r2⟩ := getNum_ev b (by omega) hb p p0 p1
  have hin := getNum_in b p hb
  rw [getText]
  generalize getNum b p = g at r1 r2 hin
  obtain ⟨n, m, ok⟩ := g
  simp only [spec_GetText.f, impl_GetText.f]
  refine ⟨Ev.bind r1 ?_, Ev.bind r2 ?_⟩
  all_goals
    by_cases hk : ok = true
    · have hin' := hin hk
      simp only at hin'
      have w1 : Hd (wrap64 ((b.length : Int) - m) = (b.length : Int) - m) := ⟨w64 (by omega) (by omega)⟩
      have w2 : Hd (wrap64 (m + n) = m + n) := ⟨w64 (by omega) (by omega)⟩
      simp only [if_pos hk, w1.out, w2.out]
      by_cases h1 : n > (b.length : Int) - m
      · simp only [if_pos h1]
        exact Ev.now _
      · simp only [if_neg h1, if_pos (show 0 ≤ m by omega), if_pos (show m ≤ m + n by omega), if_pos (show m + n ≤ (b.length : Int) by omega)]
        exact Ev.now _
    · simp only [if_neg hk]
      exact Ev.now _
theorem toByteS_l0 (xs : List Int) (hN : xs.length ≤ 4611686018427387904) : ∀ (l : List Int) (i : Nat) (A acc : List Int), xs.drop i = l → A.length = i → acc = A ++ List.replicate l.length 0 → Ev (fun k => laws_toByteS.l0 k xs acc (i : Int)) (A ++ l)
  | [], i, A, acc, h, hA, ha => by
    have h1 := drop_nil' h
    subst ha
    refine Ev.step (f := fun _ => some (A ++ [])) (fun k => ?_) (Ev.now _)
    rw [laws_toByteS.l0, if_neg (by omega)]
    rfl
  | a :: t, i, A, acc, h, hA, ha => by
    obtain ⟨h1, _, h3⟩ := drop_cons' h 0
    have ih := toByteS_l0 xs hN t (i + 1) (A ++ [a]) _ h3 (by simp [hA]) rfl
    subst ha
    have e : (A ++ List.replicate (a :: t).length 0).set ((i : Int)).toNat (rd xs i) = (A ++ [a]) ++ List.replicate t.length 0 := by
      rw [rd_at h, Int.toNat_natCast, ← hA]; exact set_copy A 0 a t.length
    refine Ev.step (f := fun k => laws_toByteS.l0 k xs ((A ++ [a]) ++ List.replicate t.length 0) ((i + 1 : Nat) : Int)) (fun k => ?_) (Ev.eq ih (by simp))
    rw [laws_toByteS.l0, if_pos (by omega), if_pos (by omega), if_pos (by simp only [List.length_append, List.length_replicate, List.length_cons]; omega), e, w64s h1 hN]
theorem toByteS_ev (xs : List Int) (hN : xs.length ≤ 281474976710656) : Ev (fun k => laws_toByteS.f k xs) xs := by
  refine Ev.congr (f := fun k => laws_toByteS.l0 k xs (List.replicate xs.length 0) ((0 : Nat) : Int)) (fun k => ?_) (toByteS_l0 xs (by omega) xs 0 [] _ rfl rfl rfl)
  rw [laws_toByteS.f, if_pos (by omega), if_pos (by omega), Int.toNat_natCast]; rfl
theorem eqByteS_l0 (xs : List Int) (hN : xs.length ≤ 4611686018427387904) : ∀ (l : List Int) (i : Nat), xs.drop i = l → Ev (fun k => laws_eqByteS.l0 k xs xs (i : Int)) true
  | [], i, h => by
    have h1 := drop_nil' h
    refine Ev.step (f := fun _ => some true) (fun k => ?_) (Ev.now _)
    rw [laws_eqByteS.l0, if_neg (by omega)]
  | a :: t, i, h => by
    obtain ⟨h1, _, h3⟩ := drop_cons' h 0
    refine Ev.step (f := fun k => laws_eqByteS.l0 k xs xs ((i + 1 : Nat) : Int)) (fun k => ?_) (eqByteS_l0 xs hN t (i + 1) h3)
    rw [laws_eqByteS.l0, if_pos (by omega), if_pos (by omega), if_pos (by omega), if_pos rfl, w64s h1 hN]
theorem eqByteS_ev (xs : List Int) (hN : xs.length ≤ 4611686018427387904) : Ev (fun k => laws_eqByteS.f k xs xs) true := by
  refine Ev.congr (f := fun k => laws_eqByteS.l0 k xs xs ((0 : Nat) : Int)) (fun k => ?_) (eqByteS_l0 xs hN xs 0 rfl)
  rw [laws_eqByteS.f, if_pos rfl]; rfl
end Go.Proofs.Ytafmhffapmejpaa.PureFnExactGetText
namespace Go.Proofs.Ytafmhffapmejpaa.Pure
open Go.RowKit Go.Proofs.Ytafmhffapmejpaa.PFnExactGetText Go.Proofs.YtafmhffapmejpaaW.PrintWords Go.Proofs.YtafmhffapmejpaaW.PrintLast Go.Proofs.YtafmhffapmejpaaW.PrintMore Go.Proofs.Ytafmhffapmejpaa.Base Go.Proofs.Ytafmhffapmejpaa.PureFnExactGetText
set_option linter.unusedVariables false
attribute [local irreducible] Go.bits IntKind.wrap shl shr
theorem FnExactGetText (b : List Int) (p : Int) (hb0 : Bytes b) (hp : I64 p) : ∃ k, laws_FnExactGetText.f k b p = some true := by
  have hb := bytes_of_wf hb0.2
  have hpb := i64_of_wf hp
  by_cases h : (b.length : Int) > 1048576
  · exact ⟨0, by rw [laws_FnExactGetText.f, if_pos h]⟩
  obtain ⟨r1, r2⟩ := getText_ev b (by omega) hb p hpb.1 (by omega)
  apply Ev.rounds (g := fun k => laws_FnExactGetText.f k b p)
  simp only [laws_FnExactGetText.f]
  refine Ev.neg h ?_
  refine Ev.bind (toByteS_ev b (by omega)) ?_
  refine Ev.bind r1 ?_
  refine Ev.bind (toByteS_ev b (by omega)) ?_
  refine Ev.bind r2 ?_
  refine Ev.pos rfl (Ev.pos rfl ?_)
  refine Ev.step (fun k => by rw [laws_FnExactGetText.j0, if_neg (by simp)]) ?_
  refine Ev.bind (toByteS_ev b (by omega)) ?_
  refine Ev.bind (eqByteS_ev b (by omega)) ?_
  exact Ev.pos rfl (Ev.now _)
end Go.Proofs.Ytafmhffapmejpaa.Pure
