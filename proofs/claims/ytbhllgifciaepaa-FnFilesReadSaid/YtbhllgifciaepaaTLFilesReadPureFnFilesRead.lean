/- Trimmed by a program of this session (trim.py). Not trusted: Lean checks it. -/
import Derived.Test.YtbhllgifciaepaaTLFilesReadPFnFilesReadx8
import Derived.Test.YtbhllgifciaepaaTLFilesReadBase
namespace Go.Proofs.Ytbhllgifciaepaa.PureFnFilesRead
open Go.RowKit Go.Proofs.Ytbhllgifciaepaa.PFnFilesRead Go.Proofs.YtbhllgifciaepaaW.PrintWords Go.Proofs.YtbhllgifciaepaaW.PrintLast Go.Proofs.YtbhllgifciaepaaW.PrintMore Go.Proofs.Ytbhllgifciaepaa.Base
set_option linter.unusedVariables false
attribute [local irreducible] Go.bits IntKind.wrap shl shr
def p128 (j : Nat) : Int := 128 ^ j
def gnum : Nat → List Int → Nat → Int → Option (Int × Nat)
 | 0, _, _, _ => none
 | _ + 1, [], _, _ => none
 | d + 1, c :: t, j, n =>
  if 128 ≤ c then gnum d t (j + 1) (n + c % 128 * p128 j)
  else if c = 0 ∧ 0 < j then none else if 1000000000 < n + c % 128 * p128 j then none else some (n + c % 128 * p128 j, j + 1)
def getNum (b : List Int) (p : Int) : Int × Int × Bool :=
 if 0 ≤ p ∧ p < (b.length : Int) then match gnum 5 (b.drop p.toNat) 0 0 with
  | none => (0, 0, false)
  | some (n, m) => (n, p + m, true)
 else (0, 0, false)
def gnumR (p : Int) : Option (Int × Nat) → Int × Int × Bool
 | none => (0, 0, false)
 | some (n, m) => (n, p + m, true)
theorem pow128 (j : Nat) (hj : j < 5) : p128 j = 2 ^ (7 * j) ∧ 1 ≤ p128 j ∧ p128 j ≤ 268435456 ∧ p128 (j + 1) = 128 * p128 j := by
 unfold p128
 obtain rfl | rfl | rfl | rfl | rfl : j = 0 ∨ j = 1 ∨ j = 2 ∨ j = 3 ∨ j = 4 := by omega
 all_goals decide
theorem p128_0 : p128 0 = 1 := rfl
theorem shl7 {v : Int} (j : Nat) (hj : j < 5) (h0 : 0 ≤ v) (h1 : v < 128) : shl .i64 v (7 * (j : Int)) = v * p128 j := by
 have e : min (7 * (j : Int)).toNat IntKind.i64.bits = 7 * j := by
  rw [show IntKind.i64.bits = 64 from rfl]; omega
 obtain ⟨p1, p2, p3, _⟩ := pow128 j hj
 have b1 : 0 ≤ v * p128 j := Int.mul_nonneg h0 (by omega)
 have b2 : v * p128 j ≤ 127 * 268435456 := Int.mul_le_mul (by omega) p3 (by omega) (by omega)
 rw [shl, e, ← p1, IntKind.wrap_i64]
 omega
theorem or7 {v n : Int} (j : Nat) (hj : j < 5) (h0 : 0 ≤ v) (h1 : v < 128) (n0 : 0 ≤ n) (n1 : n < p128 j) : Go.bits .or .i64 n (v * p128 j) = n + v * p128 j := by
 obtain ⟨p1, p2, p3, _⟩ := pow128 j hj
 have b1 : 0 ≤ v * p128 j := Int.mul_nonneg h0 (by omega)
 have b2 : v * p128 j ≤ 127 * 268435456 := Int.mul_le_mul (by omega) p3 (by omega) (by omega)
 exact orJoin (7 * j) n0 (by rw [← p1]; exact n1) b1 (by rw [← p1]; exact Int.mul_emod_left _ _) (by omega) (by omega)
theorem getNum_l0 (b : List Int) (hN : b.length ≤ 4611686018427387904) (hb : ∀ x ∈ b, 0 ≤ x ∧ x ≤ 255) (p : Nat) : ∀ (d j : Nat) (n : Int), j + d = 5 → 0 ≤ n → n < p128 j → (j = 0 ∨ p < b.length) →
  Ev (fun k => spec_GetNum.l0 k b p n (j : Int)) (gnumR p (gnum d (b.drop (p + j)) j n)) ∧ Ev (fun k => impl_GetNum.l0 k b p n (j : Int)) (gnumR p (gnum d (b.drop (p + j)) j n)) := by
 intro d
 induction d with
 | zero =>
  intro j n hd h0 h1 hp
  have hj : j = 5 := by omega
  subst hj
  refine ⟨Ev.step (f := fun k => spec_GetNum.j1 k b p n 5 false) (fun k => ?_) (Ev.step (f := fun _ => some (0, 0, false)) (fun k => ?_) (Ev.now _)), Ev.step (f := fun k => impl_GetNum.j1 k b p n 5 false) (fun k => ?_) (Ev.step (f := fun _ => some (0, 0, false)) (fun k => ?_) (Ev.now _))⟩
  ·rw [spec_GetNum.l0, if_neg (by omega)]; rfl
  ·rw [spec_GetNum.j1, if_neg (by simp)]
  ·rw [impl_GetNum.l0, if_neg (by omega)]; rfl
  ·rw [impl_GetNum.j1, if_neg (by simp)]
 | succ d ih =>
  intro j n hd h0 h1 hp
  cases hl : b.drop (p + j) with
  | nil =>
   have hlen := drop_nil' hl
   have hg : gnumR (p : Int) (gnum (d + 1) [] j n) = (0, 0, false) := rfl
   rw [hg]
   refine ⟨?_, ?_⟩
   ·refine Ev.step (f := fun k => spec_GetNum.j1 k b p n j false) (fun k => ?_) (Ev.step (f := fun _ => some (0, 0, false)) (fun k => ?_) (Ev.now _))
    ·rw [spec_GetNum.l0, if_pos (by omega), if_pos (by omega)]
     by_cases hpl : (p : Int) < (b.length : Int)
     ·rw [if_pos hpl, w64 (by omega) (by omega), decide_eq_false (by omega)]
     ·rw [if_neg hpl]
    ·rw [spec_GetNum.j1, if_neg (by simp)]
   ·refine Ev.step (f := fun k => impl_GetNum.j1 k b p n j false) (fun k => ?_) (Ev.step (f := fun _ => some (0, 0, false)) (fun k => ?_) (Ev.now _))
    ·rw [impl_GetNum.l0, if_pos (by omega), if_pos (by omega), w64 (by omega) (by omega), decide_eq_false (by omega)]
    ·rw [impl_GetNum.j1, if_neg (by simp)]
  | cons c t =>
   obtain ⟨hlt, _, h3⟩ := drop_cons' hl 0
   have hc : rd b ((p : Int) + (j : Int)) = c := by
    rw [show (p : Int) + (j : Int) = ((p + j : Nat) : Int) by omega]; exact rd_at hl
   have hcb : 0 ≤ c ∧ c ≤ 255 := hb c (by
    have : c ∈ b.drop (p + j) := by rw [hl]; exact List.mem_cons_self
    exact List.mem_of_mem_drop this)
   obtain ⟨-, p2, p3, p4⟩ := pow128 j (by omega)
   have b1 : 0 ≤ c % 128 * p128 j := Int.mul_nonneg (by omega) (by omega)
   have b2 : c % 128 * p128 j ≤ 127 * p128 j := Int.mul_le_mul_of_nonneg_right (by omega) (by omega)
   have s1 : Hd (shl .i64 (c % 128) (7 * (j : Int)) = c % 128 * p128 j) := ⟨shl7 j (by omega) (by omega) (by omega)⟩
   have o1 : Hd (Go.bits .or .i64 n (c % 128 * p128 j) = n + c % 128 * p128 j) := ⟨or7 j (by omega) (by omega) (by omega) h0 h1⟩
   obtain ⟨i1, i2⟩ := ih (j + 1) (n + c % 128 * p128 j) (by omega) (by omega) (by rw [p4]; omega) (Or.inr (by omega))
   rw [show p + (j + 1) = p + j + 1 by omega, h3] at i1 i2
   have eg : gnum (d + 1) (c :: t) j n = if 128 ≤ c then gnum d t (j + 1) (n + c % 128 * p128 j) else if c = 0 ∧ 0 < j then none else if 1000000000 < n + c % 128 * p128 j then none else some (n + c % 128 * p128 j, j + 1) := by rw [gnum]
   rw [eg]
   clear p4 eg
   generalize p128 j = P at *
   have hv : 0 ≤ c % 128 * P ∧ c % 128 * P ≤ 127 * 268435456 := ⟨b1, by omega⟩
   have hn : n < 268435456 := by omega
   clear h1 b1 b2 p2 p3
   generalize c % 128 * P = V at *
   have w1 : Hd (wrap64 ((p : Int) + (j : Int)) = (p : Int) + (j : Int)) := ⟨w64 (by omega) (by omega)⟩
   have w2 : Hd (wrap64 c = c) := ⟨w64 (by omega) (by omega)⟩
   have w3 : Hd (wrap64 (7 * (j : Int)) = 7 * (j : Int)) := ⟨w64 (by omega) (by omega)⟩
   have w4 : Hd (IntKind.u64.wrap (7 * (j : Int)) = 7 * (j : Int)) := ⟨u64_id (by omega) (by omega)⟩
   have w5 : Hd (wrap64 ((j : Int) + 1) = ((j + 1 : Nat) : Int)) := ⟨w64s (n := j + 1) (by omega) (by omega)⟩
   have w6 : Hd (wrap64 (n + V) = n + V) := ⟨w64 (by omega) (by omega)⟩
   have w7 : Hd (wrap64 ((p : Int) + (j : Int) + 1) = (p : Int) + ((j + 1 : Nat) : Int)) := ⟨by rw [w64 (by omega) (by omega)]; omega⟩
   have a1 : Hd (Go.bits .and .i64 c 127 = c % 128) := ⟨and127 (by omega) (by omega)⟩
   have t1 : Hd (Int.tmod c 128 = c % 128) := ⟨Int.tmod_eq_emod_of_nonneg hcb.1⟩
   refine ⟨?_, ?_⟩
   ·refine Ev.step (f := fun k => spec_GetNum.j1 k b p n j true) (fun k => ?_) ?_
    ·rw [spec_GetNum.l0, if_pos (by omega), if_pos (by omega), if_pos (by omega), w1.out, decide_eq_true (by omega)]
    ·by_cases h128 : 128 ≤ c
     ·rw [if_pos h128]
      refine Ev.step (fun k => ?_) i1
      rw [spec_GetNum.j1, if_pos rfl, w1.out, if_pos (by omega), if_pos (by omega), w3.out, w4.out, if_pos (by omega), hc, w2.out, if_pos (by omega), a1.out, s1.out, o1.out, w5.out]
     ·refine Ev.step (f := fun _ => some _) (fun k => ?_) (Ev.now _)
      rw [spec_GetNum.j1, if_pos rfl, w1.out, if_pos (by omega), if_pos (by omega), w3.out, w4.out, if_pos (by omega), hc, w2.out, if_neg (by omega), a1.out, s1.out, o1.out, w7.out, if_neg h128]
      repeat' split
      all_goals first | rfl | (exfalso; omega)
   ·refine Ev.step (f := fun k => impl_GetNum.j1 k b p n j true) (fun k => ?_) ?_
    ·rw [impl_GetNum.l0, if_pos (by omega), if_pos (by omega), w64 (by omega) (by omega), decide_eq_true (by omega)]
    ·by_cases h128 : 128 ≤ c
     ·rw [if_pos h128]
      refine Ev.step (fun k => ?_) i2
      rw [impl_GetNum.j1, if_pos rfl, w1.out, if_pos (by omega), if_pos (by omega), w3.out, if_pos (by omega), hc, w2.out, if_pos (by omega), t1.out, s1.out, w6.out, w5.out]
     ·refine Ev.step (f := fun _ => some _) (fun k => ?_) (Ev.now _)
      rw [impl_GetNum.j1, if_pos rfl, w1.out, if_pos (by omega), if_pos (by omega), w3.out, if_pos (by omega), hc, w2.out, if_neg (by omega), t1.out, s1.out, w6.out, w7.out, if_neg h128]
      repeat' split
      all_goals first | rfl | (exfalso; omega)
theorem getNum_ev (b : List Int) (hN : b.length ≤ 4611686018427387904) (hb : ∀ x ∈ b, 0 ≤ x ∧ x ≤ 255) (p : Int) (p0 : -9223372036854775808 ≤ p) (p1 : p < 9223372036854775808) :
  Ev (fun k => spec_GetNum.f k b p) (getNum b p) ∧ Ev (fun k => impl_GetNum.f k b p) (getNum b p) := by
 by_cases h : 0 ≤ p
 ·obtain ⟨q, rfl⟩ := Int.eq_ofNat_of_zero_le h
  by_cases hq : (q : Int) < (b.length : Int)
  ·have e : getNum b (q : Int) = gnumR q (gnum 5 (b.drop (q + 0)) 0 0) := by
    rw [getNum, if_pos ⟨h, hq⟩, Int.toNat_natCast]; rfl
   rw [e]
   exact getNum_l0 b hN hb q 5 0 0 rfl (by omega) (by rw [p128_0]; decide) (Or.inl rfl)
  ·have e : getNum b (q : Int) = (0, 0, false) := by rw [getNum, if_neg (by omega)]
   have e2 : gnumR (q : Int) (gnum 5 (b.drop (q + 0)) 0 0) = (0, 0, false) := by
    rw [List.drop_eq_nil_of_le (by omega)]; rfl
   rw [e, ← e2]
   exact getNum_l0 b hN hb q 5 0 0 rfl (by omega) (by rw [p128_0]; decide) (Or.inl rfl)
 ·have e : getNum b p = (0, 0, false) := by rw [getNum, if_neg (by omega)]
  rw [e]
  refine ⟨Ev.step (f := fun k => spec_GetNum.j1 k b p 0 0 false) (fun k => ?_) (Ev.step (f := fun _ => some (0, 0, false)) (fun k => ?_) (Ev.now _)), Ev.step (f := fun k => impl_GetNum.j1 k b p 0 0 false) (fun k => ?_) (Ev.step (f := fun _ => some (0, 0, false)) (fun k => ?_) (Ev.now _))⟩
  ·rw [spec_GetNum.f, spec_GetNum.l0, if_pos (by omega), if_neg (by omega)]
  ·rw [spec_GetNum.j1, if_neg (by simp)]
  ·rw [impl_GetNum.f, impl_GetNum.l0, if_pos (by omega), if_neg (by omega)]
  ·rw [impl_GetNum.j1, if_neg (by simp)]
def getText (b : List Int) (p : Int) : ByteArray × Int × Bool :=
 if (getNum b p).2.2 = true then
  if (getNum b p).1 > (b.length : Int) - (getNum b p).2.1 then (⟨#[]⟩, 0, false)
  else (strOfNums ((b.take ((getNum b p).2.1 + (getNum b p).1).toNat).drop (getNum b p).2.1.toNat), (getNum b p).2.1 + (getNum b p).1, true)
 else (⟨#[]⟩, 0, false)
theorem gnum_le : ∀ (d : Nat) (l : List Int) (j : Nat) (n : Int) (v : Int) (m : Nat), (∀ x ∈ l, 0 ≤ x ∧ x ≤ 255) → 0 ≤ n → gnum d l j n = some (v, m) → 0 ≤ v ∧ v ≤ 1000000000 ∧ j < m ∧ m ≤ j + l.length
 | 0, _, _, _, _, _, _, _, h => by cases h
 | _ + 1, [], _, _, _, _, _, _, h => by cases h
 | d + 1, c :: t, j, n, v, m, hb, h0, h => by
  have hc := hb c List.mem_cons_self
  have hp : 0 ≤ c % 128 * p128 j := Int.mul_nonneg (by omega) (by unfold p128; exact Int.pow_nonneg (by decide))
  rw [gnum] at h
  by_cases h1 : 128 ≤ c
  ·rw [if_pos h1] at h
   have := gnum_le d t (j + 1) _ v m (fun x hx => hb x (List.mem_cons_of_mem _ hx)) (by omega) h
   simp only [List.length_cons]
   omega
  ·rw [if_neg h1] at h
   by_cases h2 : c = 0 ∧ 0 < j
   ·rw [if_pos h2] at h; cases h
   ·rw [if_neg h2] at h
    by_cases h3 : 1000000000 < n + c % 128 * p128 j
    ·rw [if_pos h3] at h; cases h
    ·rw [if_neg h3] at h
     injection h with h
     injection h with e1 e2
     subst e1 e2
     simp only [List.length_cons]
     omega
theorem getNum_in (b : List Int) (p : Int) (hb : ∀ x ∈ b, 0 ≤ x ∧ x ≤ 255) (h : (getNum b p).2.2 = true) : 0 ≤ p ∧ 0 ≤ (getNum b p).1 ∧ (getNum b p).1 ≤ 1000000000 ∧ p < (getNum b p).2.1 ∧ (getNum b p).2.1 ≤ b.length := by
 unfold getNum at h ⊢
 by_cases hp : 0 ≤ p ∧ p < (b.length : Int)
 ·rw [if_pos hp] at h ⊢
  cases hg : gnum 5 (b.drop p.toNat) 0 0 with
  | none => rw [hg] at h; cases h
  | some vm =>
   obtain ⟨v, m⟩ := vm
   have := gnum_le 5 _ 0 0 v m (fun x hx => hb x (List.mem_of_mem_drop hx)) (by omega) hg
   rw [List.length_drop] at this
   simp only
   omega
 ·rw [if_neg hp] at h; cases h
theorem getText_ev (b : List Int) (hN : b.length ≤ 1000000000000) (hb : ∀ x ∈ b, 0 ≤ x ∧ x ≤ 255) (p : Int) (p0 : -9223372036854775808 ≤ p) (p1 : p < 9223372036854775808) :
  Ev (fun k => spec_GetText.f k b p) (getText b p) ∧ Ev (fun k => impl_GetText.f k b p) (getText b p) := by
 obtain ⟨r1, r2⟩ := getNum_ev b (by omega) hb p p0 p1
 have hin := getNum_in b p hb
 rw [getText]
 generalize getNum b p = g at r1 r2 hin
 obtain ⟨n, m, ok⟩ := g
 simp only [spec_GetText.f, impl_GetText.f]
 refine ⟨Ev.bind r1 ?_, Ev.bind r2 ?_⟩
 all_goals
  by_cases hk : ok = true
  ·have hin' := hin hk
   simp only at hin'
   have w1 : Hd (wrap64 ((b.length : Int) - m) = (b.length : Int) - m) := ⟨w64 (by omega) (by omega)⟩
   have w2 : Hd (wrap64 (m + n) = m + n) := ⟨w64 (by omega) (by omega)⟩
   simp only [if_pos hk, w1.out, w2.out]
   by_cases h1 : n > (b.length : Int) - m
   ·simp only [if_pos h1]
    exact Ev.now _
   ·simp only [if_neg h1, if_pos (show 0 ≤ m by omega), if_pos (show m ≤ m + n by omega), if_pos (show m + n ≤ (b.length : Int) by omega)]
    exact Ev.now _
  ·simp only [if_neg hk]
   exact Ev.now _
theorem l1In_eq (x a b : Int) : spec_l1In.f x a b = some (decide (a ≤ x ∧ x ≤ b)) := by
 unfold spec_l1In.f
 by_cases h : x ≥ a
 ·rw [if_pos h]; simp [show a ≤ x from h]
 ·rw [if_neg h]; simp [show ¬ a ≤ x from h]
theorem in_eq (x a b : Int) : impl_in.f x a b = some (decide (a ≤ x ∧ x ≤ b)) := by
 unfold impl_in.f
 by_cases h : x ≥ a
 ·rw [if_pos h]; simp [show a ≤ x from h]
 ·rw [if_neg h]; simp [show ¬ a ≤ x from h]
def stOk (a b c : Int) : Bool := decide (0 ≤ a ∧ a ≤ 1000000000) && (decide (0 ≤ b ∧ b ≤ 1000000) && decide (0 ≤ c ∧ c ≤ 20))
theorem stampOk_eq (a b c : Int) : spec_StampOk.f a b c = some (stOk a b c) ∧ impl_StampOk.f a b c = some (stOk a b c) := by
 unfold spec_StampOk.f impl_StampOk.f stOk
 simp only [l1In_eq, in_eq, Option.bind_some]
 cases decide (0 ≤ a ∧ a ≤ 1000000000) <;> cases decide (0 ≤ b ∧ b ≤ 1000000) <;> simp
def fileOk (a b c : Int) (d : Bool) (l : List Int) : Bool := stOk a b c && (decide ((l.length : Int) ≤ 200) && (!d || ((l.length : Int) == 0)))
theorem fileOk_eq (a b c : Int) (d : Bool) (l : List Int) : spec_FileOk.f a b c d l = some (fileOk a b c d l) ∧ impl_FileOk.f a b c d l = some (fileOk a b c d l) := by
 unfold spec_FileOk.f impl_FileOk.f fileOk
 rw [(stampOk_eq a b c).1, (stampOk_eq a b c).2]
 simp only [Option.bind_some]
 cases stOk a b c <;> cases d <;> by_cases h : (l.length : Int) ≤ 200 <;> simp [h]
def putN (n : Nat) : List Int := if _h : 127 < n then (((n % 128 + 128 : Nat)) : Int) :: putN (n / 128) else [(n : Int)]
termination_by n
decreasing_by omega
def clip (n : Int) : Nat := if n < 0 then 0 else if 1000000000 < n then 1000000000 else n.toNat
theorem clip_le (n : Int) : clip n ≤ 1000000000 := by unfold clip; split; omega; split <;> omega
theorem putN_bytes (n : Nat) : ∀ x ∈ putN n, 0 ≤ x ∧ x ≤ 255 := by
 induction n using Nat.strongRecOn with
 | _ n ih =>
  intro x hx
  rw [putN] at hx
  split at hx
  ·rcases List.mem_cons.1 hx with rfl | hx
   ·omega
   ·exact ih (n / 128) (by omega) x hx
  ·rw [List.mem_singleton.1 hx]; omega
theorem putN_len (n : Nat) : (putN n).length ≤ n + 1 := by
 induction n using Nat.strongRecOn with
 | _ n ih =>
  rw [putN]
  split
  ·have := ih (n / 128) (by omega)
   rw [List.length_cons]; omega
  ·simp
theorem spec_putNum_l0 (n : Nat) : ∀ (acc : List Int), n ≤ 1000000000 → acc.length + n < 140737488355328 → Ev (fun k => spec_PutNum.l0 k (n : Int) acc) (acc ++ putN n) := by
 induction n using Nat.strongRecOn with
 | _ n ih =>
  intro acc hn ha
  by_cases h : 127 < n
  ·have i1 := ih (n / 128) (by omega) (acc ++ [((n % 128 + 128 : Nat) : Int)]) (by omega) (by simp; omega)
   have a1 : Hd (Go.bits .and .i64 (n : Int) 127 = ((n % 128 : Nat) : Int)) := ⟨by rw [and127 (by omega) (by omega)]; omega⟩
   have o1 : Hd (Go.bits .or .i64 ((n % 128 : Nat) : Int) 128 = ((n % 128 : Nat) : Int) + 128) := ⟨or128 (by omega) (by omega)⟩
   refine Ev.step (fun k => ?_) (Ev.eq i1 (by rw [putN.eq_1 n, dif_pos h]; simp))
   rw [spec_PutNum.l0, if_pos (by omega), if_pos (by omega), a1.out, o1.out, show (((n % 128 : Nat) : Int) + 128) % 256 = ((n % 128 + 128 : Nat) : Int) by omega, show (n : Int) / 128 = ((n / 128 : Nat) : Int) by omega]
  ·refine Ev.step (f := fun _ => some (acc ++ putN n)) (fun k => ?_) (Ev.now _)
   rw [spec_PutNum.l0, if_neg (by omega), if_pos (by omega), putN.eq_1 n, dif_neg h, show (n : Int) % 256 = (n : Int) by omega]
theorem spec_putNum_ev (b : List Int) (n : Int) (hb : b.length ≤ 100000000000000) : Ev (fun k => spec_PutNum.f k b n) (b ++ putN (clip n)) := by
 have hc := clip_le n
 have i1 := spec_putNum_l0 (clip n) b hc (by omega)
 have j1 : Ev (fun k => spec_PutNum.j1 k ((clip n : Nat) : Int) b) (b ++ putN (clip n)) := Ev.step (fun k => by rw [spec_PutNum.j1]) i1
 simp only [spec_PutNum.f]
 refine Ev.some_bind ?_
 refine Ev.pos (by simp; omega) (Ev.some_bind ?_)
 rw [List.nil_append]
 by_cases h1 : n > 1000000000
 ·refine Ev.pos h1 (Ev.step (fun k => ?_) j1)
  rw [spec_PutNum.j0, if_neg (by omega), show ((clip n : Nat) : Int) = 1000000000 by unfold clip; rw [if_neg (by omega), if_pos (by omega)]; rfl]
 ·refine Ev.neg h1 (Ev.step (fun k => ?_) j1)
  by_cases h2 : n < 0
  ·rw [spec_PutNum.j0, if_pos h2, show ((clip n : Nat) : Int) = 0 by unfold clip; rw [if_pos h2]; rfl]
  ·rw [spec_PutNum.j0, if_neg h2, show ((clip n : Nat) : Int) = n by unfold clip; rw [if_neg h2, if_neg (by omega)]; omega]
theorem spec_putText_ev (b : List Int) (s : ByteArray) (hb : b.length ≤ 10000000000000) (hs : s.size ≤ 10000000000000) : Ev (fun k => spec_PutText.f k b s) (b ++ putN (clip s.size) ++ bytesOf s) := by
 have hc := clip_le s.size
 have hp := putN_len (clip s.size)
 simp only [spec_PutText.f]
 refine Ev.bind (spec_putNum_ev b _ (by omega)) ?_
 refine Ev.pos (by rw [List.length_append]; omega) (Ev.now _)
theorem addNum_l0 (n : Nat) : ∀ (acc : List Int), n ≤ 1000000000 → acc.length + n < 140737488355328 → Ev (fun k => impl_addNum.l0 k acc (n : Int)) (acc ++ putN n) := by
 induction n using Nat.strongRecOn with
 | _ n ih =>
  intro acc hn ha
  by_cases h : 127 < n
  ·have i1 := ih (n / 128) (by omega) (acc ++ [((n % 128 + 128 : Nat) : Int)]) (by omega) (by simp; omega)
   have t1 : Hd (Int.tmod (n : Int) 128 = ((n % 128 : Nat) : Int)) := ⟨by rw [Int.tmod_eq_emod_of_nonneg (by omega)]; omega⟩
   have t2 : Hd (Int.tdiv (n : Int) 128 = ((n / 128 : Nat) : Int)) := ⟨by rw [Int.tdiv_eq_ediv_of_nonneg (by omega)]; omega⟩
   have w1 : Hd (wrap64 (((n % 128 : Nat) : Int) + 128) = ((n % 128 : Nat) : Int) + 128) := ⟨w64 (by omega) (by omega)⟩
   have w2 : Hd (wrap64 ((n / 128 : Nat) : Int) = ((n / 128 : Nat) : Int)) := ⟨w64 (by omega) (by omega)⟩
   refine Ev.step (fun k => ?_) (Ev.eq i1 (by rw [putN.eq_1 n, dif_pos h]; simp))
   rw [impl_addNum.l0, if_pos (by omega), if_pos (by omega), t1.out, t2.out, w1.out, w2.out, show (((n % 128 : Nat) : Int) + 128) % 256 = ((n % 128 + 128 : Nat) : Int) by omega]
  ·refine Ev.step (f := fun _ => some (acc ++ putN n)) (fun k => ?_) (Ev.now _)
   rw [impl_addNum.l0, if_neg (by omega), if_pos (by omega), putN.eq_1 n, dif_neg h, show (n : Int) % 256 = (n : Int) by omega]
theorem addNum_ev (b : List Int) (n : Int) (hb : b.length ≤ 100000000000000) : Ev (fun k => impl_addNum.f k b n) (b ++ putN (clip n)) := by
 have hc := clip_le n
 have i1 := addNum_l0 (clip n) b hc (by omega)
 simp only [impl_addNum.f]
 rw [show mx 0 (mn n 1000000000) = ((clip n : Nat) : Int) by
  unfold mx mn clip
  split <;> split <;> (first | omega | (split <;> omega) | (split <;> split <;> omega))]
 exact i1
theorem addText_ev (b : List Int) (s : ByteArray) (hb : b.length ≤ 10000000000000) (hs : s.size ≤ 10000000000000) : Ev (fun k => impl_addText.f k b s) (b ++ putN (clip s.size) ++ bytesOf s) := by
 have hc := clip_le s.size
 have hp := putN_len (clip s.size)
 simp only [impl_addText.f]
 refine Ev.bind (addNum_ev b _ (by omega)) ?_
 refine Ev.pos (by rw [List.length_append]; omega) (Ev.now _)
def crcBit (x : Int) : Int := if x % 2 = 1 then Go.bits .xor .u32 (x / 2) 2197175160 else x / 2
def crcN : Nat → Int → Int
 | 0, x => x
 | d + 1, x => crcN d (crcBit x)
def crcL : List Int → Int → Int
 | [], x => x
 | b :: t, x => crcL t (crcN 8 (Go.bits .xor .u32 x b))
def crcOf (l : List Int) : Int := Go.bits .xor .u32 (crcL l 4294967295) 4294967295
theorem crcBit_in {x : Int} (h0 : 0 ≤ x) (h1 : x < 4294967296) : 0 ≤ crcBit x ∧ crcBit x < 4294967296 := by
 unfold crcBit
 split
 ·have h := xorSame (x := x / 2) (y := 2197175160) (by omega) (by omega) (by omega) (by omega)
  exact ⟨h.2.1, h.2.2⟩
 ·omega
theorem crcN_in : ∀ (d : Nat) (x : Int), 0 ≤ x → x < 4294967296 → 0 ≤ crcN d x ∧ crcN d x < 4294967296
 | 0, x, h0, h1 => ⟨h0, h1⟩
 | d + 1, x, h0, h1 => crcN_in d (crcBit x) (crcBit_in h0 h1).1 (crcBit_in h0 h1).2
theorem crc_l1s (xs : List Int) (i : Int) (r : Int) : ∀ (d j : Nat) (x : Int), j + d = 8 → 0 ≤ x → x < 4294967296 → Ev (fun k => spec_Crc.l0 k xs (crcN d x) (wrap64 (i + 1))) r → Ev (fun k => spec_Crc.l1 k xs x i (j : Int)) r
 | 0, j, x, hd, h0, h1, h => by
  refine Ev.step (fun k => ?_) h
  rw [spec_Crc.l1, if_neg (by omega)]
  rfl
 | d + 1, j, x, hd, h0, h1, h => by
  have ih := crc_l1s xs i r d (j + 1) (crcBit x) (by omega) (crcBit_in h0 h1).1 (crcBit_in h0 h1).2 h
  have w : Hd (wrap64 ((j : Int) + 1) = ((j + 1 : Nat) : Int)) := ⟨w64s (n := j + 1) (by omega) (by omega)⟩
  by_cases c : x % 2 = 1
  ·have e : Hd (crcBit x = Go.bits .xor .i64 (x / 2) 2197175160) := ⟨by
    rw [crcBit, if_pos c, (xorSame (x := x / 2) (y := 2197175160) (by omega) (by omega) (by omega) (by omega)).1]⟩
   refine Ev.step (fun k => ?_) ih
   rw [spec_Crc.l1, if_pos (by omega), andOne h0 (by omega), if_pos c, w.out, e.out]
  ·have e : Hd (crcBit x = x / 2) := ⟨by rw [crcBit, if_neg c]⟩
   refine Ev.step (fun k => ?_) ih
   rw [spec_Crc.l1, if_pos (by omega), andOne h0 (by omega), if_neg c, w.out, e.out]
theorem crc_l1i (xs : List Int) (n i : Int) (r : Int) : ∀ (d j : Nat) (x : Int), j + d = 8 → 0 ≤ x → x < 4294967296 → Ev (fun k => impl_Crc.l0 k (crcN d x) xs n (wrap64 (i + 1))) r → Ev (fun k => impl_Crc.l1 k x xs n i (j : Int)) r
 | 0, j, x, hd, h0, h1, h => by
  refine Ev.step (fun k => ?_) h
  rw [impl_Crc.l1, if_neg (by omega)]
  rfl
 | d + 1, j, x, hd, h0, h1, h => by
  have ih := crc_l1i xs n i r d (j + 1) (crcBit x) (by omega) (crcBit_in h0 h1).1 (crcBit_in h0 h1).2 h
  have w : Hd (wrap64 ((j : Int) + 1) = ((j + 1 : Nat) : Int)) := ⟨w64s (n := j + 1) (by omega) (by omega)⟩
  by_cases c : x % 2 = 1
  ·have e : Hd (crcBit x = Go.bits .xor .u32 (x / 2) 2197175160) := ⟨by rw [crcBit, if_pos c]⟩
   refine Ev.step (fun k => ?_) ih
   rw [impl_Crc.l1, if_pos (by omega), andOneU h0 h1, if_pos c, w.out, e.out]
  ·have e : Hd (crcBit x = x / 2) := ⟨by rw [crcBit, if_neg c]⟩
   refine Ev.step (fun k => ?_) ih
   rw [impl_Crc.l1, if_pos (by omega), andOneU h0 h1, if_neg c, w.out, e.out]
theorem crc_l0 (xs : List Int) (hN : xs.length ≤ 4611686018427387904) (hb : ∀ x ∈ xs, 0 ≤ x ∧ x ≤ 255) : ∀ (l : List Int) (i : Nat) (x : Int), xs.drop i = l → 0 ≤ x → x < 4294967296 →
  Ev (fun k => spec_Crc.l0 k xs x (i : Int)) (Go.bits .xor .u32 (crcL l x) 4294967295) ∧ Ev (fun k => impl_Crc.l0 k x xs (xs.length : Int) (i : Int)) (Go.bits .xor .u32 (crcL l x) 4294967295)
 | [], i, x, h, h0, h1 => by
  have hl := drop_nil' h
  have q := xorSame (x := x) (y := 4294967295) h0 h1 (by omega) (by omega)
  refine ⟨Ev.step (f := fun _ => some _) (fun k => ?_) (Ev.now _), Ev.step (f := fun _ => some _) (fun k => ?_) (Ev.now _)⟩
  ·rw [spec_Crc.l0, if_neg (by omega), q.1]; rfl
  ·rw [impl_Crc.l0, if_neg (by omega), bits_xor_comm, w64 (by omega) (by omega)]; rfl
 | b :: t, i, x, h, h0, h1 => by
  obtain ⟨hl, _, h3⟩ := drop_cons' h 0
  have hbb : 0 ≤ b ∧ b ≤ 255 := hb b (List.mem_of_mem_drop (by rw [h]; exact List.mem_cons_self))
  have q := xorSame (x := x) (y := b) h0 h1 (by omega) (by omega)
  have q8 := crcN_in 8 _ q.2.1 q.2.2
  obtain ⟨i1, i2⟩ := crc_l0 xs hN hb t (i + 1) _ h3 q8.1 q8.2
  have w : Hd (wrap64 ((i : Int) + 1) = ((i + 1 : Nat) : Int)) := ⟨w64s hl hN⟩
  have hr : Hd (rd xs (i : Int) = b) := ⟨rd_at h⟩
  have wb : Hd (wrap64 b = b) := ⟨w64 (by omega) (by omega)⟩
  have q1 : Hd (Go.bits .xor .i64 x b = Go.bits .xor .u32 x b) := ⟨q.1⟩
  refine ⟨Ev.step (fun k => ?_) (crc_l1s xs (i : Int) _ 8 0 (Go.bits .xor .u32 x b) rfl q.2.1 q.2.2 (by rw [w.out]; exact i1)), Ev.step (fun k => ?_) (crc_l1i xs (xs.length : Int) (i : Int) _ 8 0 (Go.bits .xor .u32 x b) rfl q.2.1 q.2.2 (by rw [w.out]; exact i2))⟩
  ·rw [spec_Crc.l0, if_pos (by omega), if_pos (by omega), hr.out, wb.out, q1.out]; rfl
  ·rw [impl_Crc.l0, if_pos (by omega), if_pos (by omega), if_pos (by omega), hr.out, show b % 4294967296 = b by omega]; rfl
theorem crc_ev (xs : List Int) (hN : xs.length ≤ 4611686018427387904) (hb : ∀ x ∈ xs, 0 ≤ x ∧ x ≤ 255) : Ev (fun k => spec_Crc.f k xs) (crcOf xs) ∧ Ev (fun k => impl_Crc.f k xs) (crcOf xs) :=
 crc_l0 xs hN hb xs 0 4294967295 rfl (by omega) (by omega)
theorem strOf_len (l : List Int) : (strOfNums l).size = l.length := by
 have h := bytesOf_length (strOfNums l)
 rw [← h, bytesOf, List.length_map, strOfNums_data, List.length_map]
theorem bytesOf_strOf (l : List Int) (hb : ∀ x ∈ l, 0 ≤ x ∧ x ≤ 255) : bytesOf (strOfNums l) = l := by
 rw [bytesOf, strOfNums_data, List.map_map]
 conv => rhs; rw [← List.map_id l]
 refine List.map_congr_left (fun x hx => ?_)
 have := hb x hx
 simp only [Function.comp, id]
 rw [UInt8.toNat_ofNat']
 omega
def dead (d : Bool) : Int := if d = true then 1 else 0
def fileBytes (a b c : Int) (d : Bool) (l : List Int) : List Int := putN (clip a) ++ putN (clip b) ++ putN (clip c) ++ putN (clip (dead d)) ++ putN (clip l.length) ++ l
def crc4 (x : Int) : List Int := [(x / 16777216) % 256, (x / 65536) % 256, (x / 256) % 256, x % 256]
def putFile (a b c : Int) (d : Bool) (l : List Int) : List Int := if fileOk a b c d l = true then fileBytes a b c d l ++ crc4 (crcOf (fileBytes a b c d l)) else []
theorem putFile_len (a b c : Int) (d : Bool) (l : List Int) : (putFile a b c d l).length ≤ 10000000000 := by
 unfold putFile fileBytes crc4
 have h1 := putN_len (clip a)
 have h2 := putN_len (clip b)
 have h3 := putN_len (clip c)
 have h4 := putN_len (clip (dead d))
 have h5 := putN_len (clip l.length)
 have g1 := clip_le a
 have g2 := clip_le b
 have g3 := clip_le c
 have g4 := clip_le (dead d)
 have g5 := clip_le l.length
 split
 ·rename_i h
  have hl : (l.length : Int) ≤ 200 := by
   unfold fileOk at h
   simp only [Bool.and_eq_true, decide_eq_true_eq] at h
   exact h.2.1
  simp only [List.length_append, List.length_cons, List.length_nil]
  omega
 ·simp
theorem fileBytes_range (a b c : Int) (d : Bool) (l : List Int) (hb : ∀ x ∈ l, 0 ≤ x ∧ x ≤ 255) : ∀ x ∈ fileBytes a b c d l, 0 ≤ x ∧ x ≤ 255 := by
 intro x hx
 unfold fileBytes at hx
 simp only [List.mem_append] at hx
 rcases hx with ((((hx | hx) | hx) | hx) | hx) | hx
 ·exact putN_bytes _ x hx
 ·exact putN_bytes _ x hx
 ·exact putN_bytes _ x hx
 ·exact putN_bytes _ x hx
 ·exact putN_bytes _ x hx
 ·exact hb x hx
theorem l8Stamp_ev (l : List Int) (a b c : Int) (hl : l.length ≤ 1000) : Ev (fun k => spec_l8Stamp.f k l a b c) (l ++ putN (clip a) ++ putN (clip b) ++ putN (clip c)) := by
 have h1 := putN_len (clip a)
 have h2 := putN_len (clip b)
 have g1 := clip_le a
 have g2 := clip_le b
 simp only [spec_l8Stamp.f]
 refine Ev.bind (spec_putNum_ev l a (by omega)) ?_
 refine Ev.bind (spec_putNum_ev _ b (by rw [List.length_append]; omega)) ?_
 refine Ev.bind (spec_putNum_ev _ c (by rw [List.length_append, List.length_append]; omega)) ?_
 exact Ev.now _
theorem fileOk_le {a b c : Int} {d : Bool} {l : List Int} (h : fileOk a b c d l = true) : l.length ≤ 200 := by
 unfold fileOk at h
 simp only [Bool.and_eq_true, decide_eq_true_eq] at h
 have := h.2.1
 omega
theorem spec_putFile_ev (a b c : Int) (d : Bool) (l : List Int) (hb : ∀ x ∈ l, 0 ≤ x ∧ x ≤ 255) : Ev (fun k => spec_PutFile.f k a b c d l) (putFile a b c d l) := by
 have hlen := putFile_len a b c d l
 simp only [spec_PutFile.f]
 refine Ev.got (fileOk_eq a b c d l).1 ?_
 by_cases h : fileOk a b c d l = true
 ·have hl := fileOk_le h
  have e1 : putFile a b c d l = fileBytes a b c d l ++ crc4 (crcOf (fileBytes a b c d l)) := by unfold putFile; rw [if_pos h]
  rw [e1] at hlen ⊢
  have h1 := putN_len (clip a)
  have h2 := putN_len (clip b)
  have h3 := putN_len (clip c)
  have h4 := putN_len (clip (dead d))
  have g1 := clip_le a
  have g2 := clip_le b
  have g3 := clip_le c
  have g4 := clip_le (dead d)
  refine Ev.pos h ?_
  refine Ev.bind (l8Stamp_ev [] a b c (by simp)) ?_
  refine Ev.got (a := dead d) (by unfold spec_l8Bool.f dead; cases d <;> rfl) ?_
  refine Ev.bind (spec_putNum_ev _ (dead d) (by simp only [List.length_append, List.length_nil]; omega)) ?_
  refine Ev.bind (spec_putText_ev _ (strOfNums l) (by simp only [List.length_append, List.length_nil]; omega) (by rw [strOf_len]; omega)) ?_
  have e2 : ([] ++ putN (clip a) ++ putN (clip b) ++ putN (clip c) ++ putN (clip (dead d)) ++ putN (clip (strOfNums l).size) ++ bytesOf (strOfNums l)) = fileBytes a b c d l := by
   rw [strOf_len, bytesOf_strOf l hb, fileBytes, List.nil_append]
  rw [e2]
  refine Ev.bind (crc_ev _ (by rw [List.length_append] at hlen; omega) (fileBytes_range a b c d l hb)).1 ?_
  refine Ev.some_bind ?_
  refine Ev.pos (by unfold crc4 at hlen; rw [List.length_append] at hlen; omega) (Ev.now _)
 ·refine Ev.neg h ?_
  unfold putFile
  rw [if_neg h]
  exact Ev.now _
theorem addStamp_ev (l : List Int) (a b c : Int) (d : Bool) (hl : l.length ≤ 1000) : Ev (fun k => impl_addStamp.f k l a b c d) (l ++ putN (clip a) ++ putN (clip b) ++ putN (clip c) ++ putN (clip (dead d))) := by
 have h1 := putN_len (clip a)
 have h2 := putN_len (clip b)
 have h3 := putN_len (clip c)
 have g1 := clip_le a
 have g2 := clip_le b
 have g3 := clip_le c
 simp only [impl_addStamp.f]
 refine Ev.bind (addNum_ev l a (by omega)) ?_
 refine Ev.bind (addNum_ev _ b (by rw [List.length_append]; omega)) ?_
 refine Ev.bind (addNum_ev _ c (by rw [List.length_append, List.length_append]; omega)) ?_
 refine Ev.got (a := dead d) (by unfold impl_bit.f dead; cases d <;> rfl) ?_
 refine Ev.bind (addNum_ev _ (dead d) (by simp only [List.length_append]; omega)) ?_
 exact Ev.now _
theorem impl_putFile_ev (a b c : Int) (d : Bool) (l : List Int) (hb : ∀ x ∈ l, 0 ≤ x ∧ x ≤ 255) : Ev (fun k => impl_PutFile.f k a b c d l) (putFile a b c d l) := by
 have hlen := putFile_len a b c d l
 simp only [impl_PutFile.f]
 refine Ev.got (fileOk_eq a b c d l).2 ?_
 by_cases h : fileOk a b c d l = true
 ·have hl := fileOk_le h
  have e1 : putFile a b c d l = fileBytes a b c d l ++ crc4 (crcOf (fileBytes a b c d l)) := by unfold putFile; rw [if_pos h]
  rw [e1] at hlen ⊢
  have h1 := putN_len (clip a)
  have h2 := putN_len (clip b)
  have h3 := putN_len (clip c)
  have h4 := putN_len (clip (dead d))
  have g1 := clip_le a
  have g2 := clip_le b
  have g3 := clip_le c
  have g4 := clip_le (dead d)
  refine Ev.pos h ?_
  refine Ev.bind (addStamp_ev [] a b c d (by simp)) ?_
  refine Ev.bind (addText_ev _ (strOfNums l) (by simp only [List.length_append, List.length_nil]; omega) (by rw [strOf_len]; omega)) ?_
  have e2 : ([] ++ putN (clip a) ++ putN (clip b) ++ putN (clip c) ++ putN (clip (dead d)) ++ putN (clip (strOfNums l).size) ++ bytesOf (strOfNums l)) = fileBytes a b c d l := by
   rw [strOf_len, bytesOf_strOf l hb, fileBytes, List.nil_append]
  rw [e2]
  refine Ev.bind (crc_ev _ (by rw [List.length_append] at hlen; omega) (fileBytes_range a b c d l hb)).2 ?_
  refine Ev.some_bind ?_
  refine Ev.pos (by unfold crc4 at hlen; rw [List.length_append] at hlen; omega) (Ev.now _)
 ·refine Ev.neg h ?_
  unfold putFile
  rw [if_neg h]
  exact Ev.now _
theorem p128_s (j : Nat) : p128 (j + 1) = 128 * p128 j := by unfold p128; rw [Int.pow_succ, Int.mul_comm]
theorem p128_pos (j : Nat) : 0 ≤ p128 j := by unfold p128; exact Int.pow_nonneg (by decide)
theorem gnum_back (m : Nat) : ∀ (d j : Nat) (n : Int) (rest : List Int), m < 128 ^ d → 0 ≤ n → n + (m : Int) * p128 j ≤ 1000000000 → (j = 0 ∨ 0 < m) → 0 < d → gnum d (putN m ++ rest) j n = some (n + (m : Int) * p128 j, j + (putN m).length) := by
 induction m using Nat.strongRecOn with
 | _ m ih =>
  intro d j n rest hm h0 h1 hj hd
  obtain ⟨d, rfl⟩ : ∃ e, d = e + 1 := ⟨d - 1, by omega⟩
  have hp := p128_pos j
  by_cases h : 127 < m
  ·rw [putN.eq_1 m, dif_pos h]
   have e1 : (((m % 128 + 128 : Nat) : Int)) % 128 = ((m % 128 : Nat) : Int) := by omega
   have e3 : n + ((m % 128 : Nat) : Int) * p128 j + ((m / 128 : Nat) : Int) * p128 (j + 1) = n + (m : Int) * p128 j := by
    rw [p128_s]
    have : (m : Int) = ((m % 128 : Nat) : Int) + 128 * ((m / 128 : Nat) : Int) := by omega
    rw [this, Int.add_mul, ← Int.mul_assoc, Int.mul_comm ((m / 128 : Nat) : Int) 128, Int.add_assoc]
   have hd2 : 0 < d := by
    rcases Nat.eq_zero_or_pos d with e | e
    ·subst e; rw [Nat.zero_add, Nat.pow_one] at hm; omega
    ·exact e
   have hi := ih (m / 128) (by omega) d (j + 1) (n + ((m % 128 : Nat) : Int) * p128 j) rest (by rw [Nat.pow_succ] at hm; exact Nat.div_lt_of_lt_mul (by rw [Nat.mul_comm]; exact hm)) (Int.add_nonneg h0 (Int.mul_nonneg (by omega) hp)) (by rw [e3]; exact h1) (Or.inr (by omega)) hd2
   rw [List.cons_append, gnum, if_pos (by omega), e1, hi, e3, List.length_cons]
   congr 2
   omega
  ·rw [putN.eq_1 m, dif_neg h]
   have e1 : (m : Int) % 128 = m := by omega
   rw [List.cons_append, gnum, if_neg (by omega), e1, if_neg (by omega), if_neg (by omega)]
   rfl
theorem putN_ne (m : Nat) : putN m ≠ [] := by
 rw [putN]; split <;> simp
theorem getNum_back (b rest : List Int) (m : Nat) (hm : m ≤ 1000000000) : getNum (b ++ putN m ++ rest) (b.length : Int) = ((m : Int), ((b.length + (putN m).length : Nat) : Int), true) := by
 have hl : 0 < (putN m).length := List.length_pos_iff.2 (putN_ne m)
 have e : (b ++ putN m ++ rest).drop ((b.length : Int)).toNat = putN m ++ rest := by
  rw [Int.toNat_natCast, List.append_assoc, List.drop_left]
 have g := gnum_back m 5 0 0 rest (by omega) (by omega) (by rw [p128_0]; omega) (Or.inl rfl) (by omega)
 rw [getNum, if_pos (by rw [List.length_append, List.length_append]; omega), e, g]
 simp only [p128_0]
 rw [show (0 : Int) + (m : Int) * 1 = m by omega, show ((b.length : Int) + ((0 + (putN m).length : Nat) : Int)) = ((b.length + (putN m).length : Nat) : Int) by omega]
theorem clip_nat (n : Nat) (h : n ≤ 1000000000) : clip (n : Int) = n := by
 unfold clip; rw [if_neg (by omega), if_neg (by omega), Int.toNat_natCast]
theorem getNum_pos (b : List Int) (p : Int) (hb : ∀ x ∈ b, 0 ≤ x ∧ x ≤ 255) : 0 ≤ (getNum b p).2.1 ∧ (getNum b p).2.1 ≤ b.length ∧ 0 ≤ (getNum b p).1 ∧ (getNum b p).1 ≤ 1000000000 := by
 by_cases h : (getNum b p).2.2 = true
 ·have := getNum_in b p hb h; omega
 ·unfold getNum at h ⊢
  by_cases hp : 0 ≤ p ∧ p < (b.length : Int)
  ·rw [if_pos hp] at h ⊢
   cases hg : gnum 5 (b.drop p.toNat) 0 0 with
   | none => simp only; omega
   | some vm => rw [hg] at h; exact absurd rfl h
  ·rw [if_neg hp]; simp only; omega
theorem getText_in (b : List Int) (p : Int) (hb : ∀ x ∈ b, 0 ≤ x ∧ x ≤ 255) : 0 ≤ (getText b p).2.1 ∧ (getText b p).2.1 ≤ b.length ∧ (getText b p).1.size ≤ b.length := by
 have hn := getNum_pos b p hb
 unfold getText
 split
 ·split
  ·simp only
   refine ⟨by omega, by omega, ?_⟩
   show (#[] : Array UInt8).size ≤ _
   simp
  ·simp only
   refine ⟨by omega, by omega, ?_⟩
   rw [strOf_len, List.length_drop, List.length_take]
   omega
 ·simp only
  refine ⟨by omega, by omega, ?_⟩
  show (#[] : Array UInt8).size ≤ _
  simp
theorem putFile_range (a b c : Int) (d : Bool) (l : List Int) (hb : ∀ x ∈ l, 0 ≤ x ∧ x ≤ 255) : ∀ x ∈ putFile a b c d l, 0 ≤ x ∧ x ≤ 255 := by
 intro x hx
 unfold putFile at hx
 split at hx
 ·rcases List.mem_append.1 hx with hx | hx
  ·exact fileBytes_range a b c d l hb x hx
  ·unfold crc4 at hx
   simp only [List.mem_cons, List.not_mem_nil, or_false] at hx
   omega
 ·cases hx
theorem str_iff (p b : List Int) (hp : ∀ x ∈ p, 0 ≤ x ∧ x ≤ 255) (hb : ∀ x ∈ b, 0 ≤ x ∧ x ≤ 255) : (strOfNums p).toList = (strOfNums b).toList ↔ p = b := by
 refine ⟨fun h => ?_, fun h => by rw [h]⟩
 have e := str_back2 h
 rw [← bytesOf_strOf p hp, ← bytesOf_strOf b hb, e]
def g1 (b : List Int) := getNum b 0
def g2 (b : List Int) := getNum b (g1 b).2.1
def g3 (b : List Int) := getNum b (g2 b).2.1
def g4 (b : List Int) := getNum b (g3 b).2.1
def tx (b : List Int) := getText b (g4 b).2.1
def theFile (b : List Int) : List Int := putFile (g1 b).1 (g2 b).1 (g3 b).1 ((g4 b).1 == 1) (bytesOf (tx b).1)
def goodB (b : List Int) : Bool := (g1 b).2.2 && ((g2 b).2.2 && ((g3 b).2.2 && ((g4 b).2.2 && ((tx b).2.2 && (decide ((g4 b).1 ≤ 1) && decide (theFile b = b))))))
def getFile (b : List Int) : Int × Int × Int × Bool × List Int × Bool := if goodB b = true then ((g1 b).1, (g2 b).1, (g3 b).1, ((g4 b).1 == 1), bytesOf (tx b).1, true) else (0, 0, 0, false, [], false)
theorem goodB_iff (b : List Int) : goodB b = true ↔ (g1 b).2.2 = true ∧ (g2 b).2.2 = true ∧ (g3 b).2.2 = true ∧ (g4 b).2.2 = true ∧ (tx b).2.2 = true ∧ (g4 b).1 ≤ 1 ∧ theFile b = b := by
 unfold goodB
 simp only [Bool.and_eq_true, decide_eq_true_eq]
theorem five (n1 n2 n3 n4 n5 : Nat) (h1 : n1 ≤ 1000000000) (h2 : n2 ≤ 1000000000) (h3 : n3 ≤ 1000000000) (h4 : n4 ≤ 1000000000) (h5 : n5 ≤ 1000000000) (rest b : List Int) (hb : b = putN n1 ++ putN n2 ++ putN n3 ++ putN n4 ++ putN n5 ++ rest) :
  g1 b = ((n1 : Int), ((putN n1).length : Int), true) ∧ g2 b = ((n2 : Int), ((putN n1 ++ putN n2).length : Int), true) ∧ g3 b = ((n3 : Int), ((putN n1 ++ putN n2 ++ putN n3).length : Int), true) ∧ g4 b = ((n4 : Int), ((putN n1 ++ putN n2 ++ putN n3 ++ putN n4).length : Int), true) ∧ getNum b (g4 b).2.1 = ((n5 : Int), ((putN n1 ++ putN n2 ++ putN n3 ++ putN n4 ++ putN n5).length : Int), true) := by
 have q1 := getNum_back [] (putN n2 ++ putN n3 ++ putN n4 ++ putN n5 ++ rest) n1 h1
 have q2 := getNum_back (putN n1) (putN n3 ++ putN n4 ++ putN n5 ++ rest) n2 h2
 have q3 := getNum_back (putN n1 ++ putN n2) (putN n4 ++ putN n5 ++ rest) n3 h3
 have q4 := getNum_back (putN n1 ++ putN n2 ++ putN n3) (putN n5 ++ rest) n4 h4
 have q5 := getNum_back (putN n1 ++ putN n2 ++ putN n3 ++ putN n4) rest n5 h5
 have e1 : [] ++ putN n1 ++ (putN n2 ++ putN n3 ++ putN n4 ++ putN n5 ++ rest) = b := by rw [hb]; simp only [List.nil_append, List.append_assoc]
 have e2 : putN n1 ++ putN n2 ++ (putN n3 ++ putN n4 ++ putN n5 ++ rest) = b := by rw [hb]; simp only [List.append_assoc]
 have e3 : putN n1 ++ putN n2 ++ putN n3 ++ (putN n4 ++ putN n5 ++ rest) = b := by rw [hb]; simp only [List.append_assoc]
 have e4 : putN n1 ++ putN n2 ++ putN n3 ++ putN n4 ++ (putN n5 ++ rest) = b := by rw [hb]; simp only [List.append_assoc]
 rw [e1] at q1
 rw [e2] at q2
 rw [e3] at q3
 rw [e4] at q4
 rw [← hb] at q5
 have f1 : g1 b = ((n1 : Int), ((putN n1).length : Int), true) := by unfold g1; exact q1.trans (by simp)
 have f2 : g2 b = ((n2 : Int), ((putN n1 ++ putN n2).length : Int), true) := by unfold g2; rw [f1]; exact q2.trans (by rw [List.length_append])
 have f3 : g3 b = ((n3 : Int), ((putN n1 ++ putN n2 ++ putN n3).length : Int), true) := by unfold g3; rw [f2]; exact q3.trans (by rw [List.length_append (bs := putN n3)])
 have f4 : g4 b = ((n4 : Int), ((putN n1 ++ putN n2 ++ putN n3 ++ putN n4).length : Int), true) := by unfold g4; rw [f3]; exact q4.trans (by rw [List.length_append (bs := putN n4)])
 exact ⟨f1, f2, f3, f4, by rw [f4]; exact q5.trans (by rw [List.length_append (bs := putN n5)])⟩
theorem getNum_nil (p : Int) : (getNum [] p).2.2 = false := by
 unfold getNum
 rw [if_neg (by simp only [List.length_nil]; omega)]
theorem good_file (b : List Int) (h : goodB b = true) : fileOk (g1 b).1 (g2 b).1 (g3 b).1 ((g4 b).1 == 1) (bytesOf (tx b).1) = true := by
 obtain ⟨h1, _, _, _, _, _, h7⟩ := (goodB_iff b).1 h
 unfold theFile at h7
 by_cases c : fileOk (g1 b).1 (g2 b).1 (g3 b).1 ((g4 b).1 == 1) (bytesOf (tx b).1) = true
 ·exact c
 ·have e : b = [] := by
   rw [← h7, putFile, if_neg c]
  rw [e] at h1
  unfold g1 at h1
  rw [getNum_nil] at h1
  cases h1
theorem good_len (b : List Int) (h : goodB b = true) : (tx b).2.1 + 4 = (b.length : Int) := by
 have hok := good_file b h
 obtain ⟨_, _, _, _, h5, _, h7⟩ := (goodB_iff b).1 h
 have hl := fileOk_le hok
 unfold theFile at h7
 rw [putFile, if_pos hok] at h7
 have h8 := h7
 rw [fileBytes, List.append_assoc _ (bytesOf (tx b).1)] at h8
 have hc : clip ((bytesOf (tx b).1).length : Int) = (bytesOf (tx b).1).length := clip_nat _ (by omega)
 obtain ⟨_, _, _, f4, f5⟩ := five _ _ _ _ _ (clip_le _) (clip_le _) (clip_le _) (clip_le _) (clip_le _) _ b h8.symm
 have e2 : (tx b).2.1 = (getNum b (g4 b).2.1).2.1 + (getNum b (g4 b).2.1).1 := by
  unfold tx getText at h5 ⊢
  split at h5
  ·split at h5
   ·cases h5
   ·rename_i c1 c2
    rw [if_pos c1, if_neg c2]
  ·cases h5
 have e3 := congrArg List.length h7
 rw [List.length_append, fileBytes, List.length_append] at e3
 have e4 : (crc4 (crcOf (fileBytes (g1 b).1 (g2 b).1 (g3 b).1 ((g4 b).1 == 1) (bytesOf (tx b).1)))).length = 4 := rfl
 rw [fileBytes] at e4
 rw [e2, f5]
 simp only
 rw [hc] at *
 omega
theorem l8Get_ev (b : List Int) (hN : b.length ≤ 100000000000) (hb : ∀ x ∈ b, 0 ≤ x ∧ x ≤ 255) : Ev (fun k => spec_l8GetStamp.f k b 0) ((g1 b).1, (g2 b).1, (g3 b).1, (g3 b).2.1, (g1 b).2.2 && ((g2 b).2.2 && (g3 b).2.2)) := by
 have p1 := getNum_pos b 0 hb
 have p2 := getNum_pos b (g1 b).2.1 hb
 simp only [spec_l8GetStamp.f]
 refine Ev.bind (getNum_ev b (by omega) hb 0 (by omega) (by omega)).1 ?_
 refine Ev.bind (getNum_ev b (by omega) hb (g1 b).2.1 (by unfold g1; omega) (by unfold g1; omega)).1 ?_
 refine Ev.bind (getNum_ev b (by omega) hb (g2 b).2.1 (by unfold g2; omega) (by unfold g2; omega)).1 ?_
 show Ev (fun k => if (g1 b).2.2 = true then (if (g2 b).2.2 = true then some ((g1 b).1, (g2 b).1, (g3 b).1, (g3 b).2.1, (g3 b).2.2) else some ((g1 b).1, (g2 b).1, (g3 b).1, (g3 b).2.1, false)) else some ((g1 b).1, (g2 b).1, (g3 b).1, (g3 b).2.1, false)) _
 by_cases c1 : (g1 b).2.2 = true
 ·rw [c1]
  by_cases c2 : (g2 b).2.2 = true
  ·rw [c2]
   exact Ev.pos rfl (Ev.pos rfl (Ev.now _))
  ·rw [Bool.eq_false_iff.mpr c2]
   exact Ev.pos rfl (Ev.neg (by simp) (Ev.now _))
 ·rw [Bool.eq_false_iff.mpr c1]
  exact Ev.neg (by simp) (Ev.now _)
theorem getFile_no (b : List Int) (h : ¬ goodB b = true) : getFile b = (0, 0, 0, false, [], false) := if_neg h
theorem spec_getFile_ev (b : List Int) (hN : b.length ≤ 100000000000) (hb : ∀ x ∈ b, 0 ≤ x ∧ x ≤ 255) : Ev (fun k => spec_GetFile.f k b) (getFile b) := by
 have p3 := getNum_pos b (g2 b).2.1 hb
 have p4 := getNum_pos b (g3 b).2.1 hb
 have p5 := getText_in b (g4 b).2.1 hb
 have iff := goodB_iff b
 simp only [spec_GetFile.f]
 refine Ev.bind (l8Get_ev b hN hb) ?_
 refine Ev.bind (getNum_ev b (by omega) hb (g3 b).2.1 (by unfold g3; omega) (by unfold g3; omega)).1 ?_
 refine Ev.bind (getText_ev b (by omega) hb (g4 b).2.1 (by unfold g4; omega) (by unfold g4; omega)).1 ?_
 have bad : ¬ goodB b = true → Ev (fun k => spec_GetFile.j0 k b (g4 b).1 (tx b).1 true (g1 b).1 (g2 b).1 (g3 b).1) (getFile b) := fun h => by
  rw [getFile_no b h]
  exact Ev.step (f := fun _ => some (0, 0, 0, false, [], false)) (fun k => by rw [spec_GetFile.j0, if_pos rfl]) (Ev.now _)
 show Ev (fun k => if ((g1 b).2.2 && ((g2 b).2.2 && (g3 b).2.2)) = true then (if (g4 b).2.2 = true then (if (tx b).2.2 = true then (if (g4 b).1 > 1 then spec_GetFile.j0 k b (g4 b).1 (tx b).1 true (g1 b).1 (g2 b).1 (g3 b).1 else spec_GetFile.j0 k b (g4 b).1 (tx b).1 ((wrap64 ((tx b).2.1 + 4)) != (b.length : Int)) (g1 b).1 (g2 b).1 (g3 b).1) else spec_GetFile.j0 k b (g4 b).1 (tx b).1 true (g1 b).1 (g2 b).1 (g3 b).1) else spec_GetFile.j0 k b (g4 b).1 (tx b).1 true (g1 b).1 (g2 b).1 (g3 b).1) else spec_GetFile.j0 k b (g4 b).1 (tx b).1 true (g1 b).1 (g2 b).1 (g3 b).1) _
 by_cases c1 : ((g1 b).2.2 && ((g2 b).2.2 && (g3 b).2.2)) = true
 case neg =>
  refine Ev.neg c1 (bad fun h => c1 ?_)
  obtain ⟨q1, q2, q3, _⟩ := iff.1 h
  rw [q1, q2, q3]; rfl
 refine Ev.pos c1 ?_
 by_cases c2 : (g4 b).2.2 = true
 case neg => exact Ev.neg c2 (bad fun h => c2 (iff.1 h).2.2.2.1)
 refine Ev.pos c2 ?_
 by_cases c3 : (tx b).2.2 = true
 case neg => exact Ev.neg c3 (bad fun h => c3 (iff.1 h).2.2.2.2.1)
 refine Ev.pos c3 ?_
 by_cases c4 : (g4 b).1 > 1
 ·exact Ev.pos c4 (bad fun h => by have := (iff.1 h).2.2.2.2.2.1; omega)
 refine Ev.neg c4 ?_
 have w : wrap64 ((tx b).2.1 + 4) = (tx b).2.1 + 4 := w64 (by unfold tx; omega) (by unfold tx; omega)
 rw [w]
 by_cases c5 : (tx b).2.1 + 4 = (b.length : Int)
 case neg =>
  have e : ((tx b).2.1 + 4 != (b.length : Int)) = true := bne_iff_ne.mpr c5
  rw [e]
  exact bad fun h => c5 (good_len b h)
 have e : ((tx b).2.1 + 4 != (b.length : Int)) = false := bne_eq_false_iff_eq.mpr c5
 rw [e]
 have hrl := bytesOf_range (tx b).1
 have hsz : (tx b).1.size ≤ b.length := p5.2.2
 refine Ev.step (f := fun k => (some (([] : List Int) : List Int)).bind fun y237 => (if y237.length + (tx b).1.size < 140737488355328 then ((some (y237 ++ bytesOf (tx b).1 : List Int)).bind fun y240 => ((spec_FileOk.f (g1 b).1 (g2 b).1 (g3 b).1 ((g4 b).1 == 1) y240).bind fun t244 => (if t244 = true then ((spec_PutFile.f k (g1 b).1 (g2 b).1 (g3 b).1 ((g4 b).1 == 1) y240).bind fun t245 => (if (strOfNums t245).toList = (strOfNums b).toList then (some ((g1 b).1, (g2 b).1, (g3 b).1, ((g4 b).1 == 1), y240, true)) else (some (0, 0, 0, false, ([] : List Int), false)))) else (some (0, 0, 0, false, ([] : List Int), false))))) else none)) (fun k => by rw [spec_GetFile.j0, if_neg (by decide)]) ?_
 refine Ev.some_bind (Ev.pos (by rw [List.length_nil]; omega) (Ev.some_bind ?_))
 rw [List.nil_append]
 refine Ev.got (fileOk_eq _ _ _ _ _).1 ?_
 simp only [Bool.and_eq_true] at c1
 by_cases c6 : fileOk (g1 b).1 (g2 b).1 (g3 b).1 ((g4 b).1 == 1) (bytesOf (tx b).1) = true
 ·refine Ev.pos c6 (Ev.bind (spec_putFile_ev _ _ _ _ _ hrl) ?_)
  have hs := str_iff (theFile b) b (putFile_range _ _ _ _ _ hrl) hb
  by_cases c7 : theFile b = b
  ·refine Ev.pos (hs.2 c7) ?_
   rw [getFile, if_pos (iff.2 ⟨c1.1, c1.2.1, c1.2.2, c2, c3, by omega, c7⟩)]
   exact Ev.now _
  ·refine Ev.neg (fun q => c7 (hs.1 q)) ?_
   rw [getFile_no b (fun q => c7 (iff.1 q).2.2.2.2.2.2)]
   exact Ev.now _
 ·refine Ev.neg c6 ?_
  rw [getFile_no b (fun q => c6 (good_file b q))]
  exact Ev.now _
def rdN (b : List Int) (p : Int) (bad : Bool) : Int × Int × Bool := if bad = true then (0, p, true) else if (getNum b p).2.2 = true then ((getNum b p).1, (getNum b p).2.1, false) else (0, p, true)
theorem rdN_bad (b : List Int) (p : Int) : rdN b p true = (0, p, true) := rfl
theorem rdN_ev (b : List Int) (hN : b.length ≤ 100000000000) (hb : ∀ x ∈ b, 0 ≤ x ∧ x ≤ 255) (p : Int) (h0 : 0 ≤ p) (h1 : p ≤ b.length) (bad : Bool) : Ev (fun k => impl_reader_num.f k b p bad) (rdN b p bad) ∧ 0 ≤ (rdN b p bad).2.1 ∧ (rdN b p bad).2.1 ≤ b.length := by
 have q := getNum_pos b p hb
 have e := (getNum_ev b (by omega) hb p (by omega) (by omega)).2
 simp only [impl_reader_num.f]
 cases bad with
 | true => exact ⟨Ev.bind e (Ev.pos rfl (Ev.now _)), h0, h1⟩
 | false =>
  unfold rdN
  rw [if_neg (by decide)]
  by_cases c : (getNum b p).2.2 = true
  ·rw [if_pos c]
   exact ⟨Ev.bind e (Ev.neg (by simp) (Ev.pos c (Ev.now _))), by simp only; omega, by simp only; omega⟩
  ·rw [if_neg c]
   exact ⟨Ev.bind e (Ev.neg (by simp) (Ev.neg c (Ev.now _))), h0, h1⟩
theorem rstamp_ev (b : List Int) (hN : b.length ≤ 100000000000) (hb : ∀ x ∈ b, 0 ≤ x ∧ x ≤ 255) : ∃ v1 v2 v3 d p bad, Ev (fun k => impl_reader_stamp.f k b 0 false) (v1, v2, v3, (d == 1), p, bad) ∧ 0 ≤ p ∧ p ≤ b.length ∧
  (bad = false → (g1 b).2.2 = true ∧ (g2 b).2.2 = true ∧ (g3 b).2.2 = true ∧ (g4 b).2.2 = true ∧ (g4 b).1 ≤ 1 ∧ v1 = (g1 b).1 ∧ v2 = (g2 b).1 ∧ v3 = (g3 b).1 ∧ d = (g4 b).1 ∧ p = (g4 b).2.1) ∧
  (bad = true → ¬ goodB b = true) := by
 have iff := goodB_iff b
 obtain ⟨e1, a1, b1⟩ := rdN_ev b hN hb 0 (by omega) (by omega) false
 obtain ⟨e2, a2, b2⟩ := rdN_ev b hN hb (rdN b 0 false).2.1 a1 b1 (rdN b 0 false).2.2
 obtain ⟨e3, a3, b3⟩ := rdN_ev b hN hb (rdN b (rdN b 0 false).2.1 (rdN b 0 false).2.2).2.1 a2 b2 (rdN b (rdN b 0 false).2.1 (rdN b 0 false).2.2).2.2
 obtain ⟨e4, a4, b4⟩ := rdN_ev b hN hb _ a3 b3 (rdN b (rdN b (rdN b 0 false).2.1 (rdN b 0 false).2.2).2.1 (rdN b (rdN b 0 false).2.1 (rdN b 0 false).2.2).2.2).2.2
 have c1 : rdN b 0 false = if (g1 b).2.2 = true then ((g1 b).1, (g1 b).2.1, false) else (0, 0, true) := by
  unfold rdN g1; rw [if_neg (by decide)]
 have step : ∀ (p : Int) (g : Int × Int × Bool), getNum b p = g → rdN b p false = if g.2.2 = true then (g.1, g.2.1, false) else (0, p, true) := fun p g e => by
  unfold rdN; rw [if_neg (by decide), e]
 simp only [impl_reader_stamp.f]
 by_cases k1 : (g1 b).2.2 = true
 case neg =>
  rw [if_neg k1] at c1
  rw [c1] at e1 e2 e3 e4
  simp only [rdN_bad] at e2 e3 e4
  refine ⟨0, 0, 0, 0, 0, true, Ev.bind e1 (Ev.bind e2 (Ev.bind e3 (Ev.bind e4 (Ev.pos rfl (Ev.now _))))), by omega, by omega, fun h => (by cases h), fun _ h => k1 (iff.1 h).1⟩
 rw [if_pos k1] at c1
 rw [c1] at e1 e2 e3 e4 a1 b1 a2 b2 a3 b3
 have c2 := step (g1 b).2.1 (g2 b) rfl
 by_cases k2 : (g2 b).2.2 = true
 case neg =>
  rw [if_neg k2] at c2
  simp only [c2] at e2 e3 e4
  simp only [rdN_bad] at e3 e4
  refine ⟨_, 0, 0, 0, _, true, Ev.bind e1 (Ev.bind e2 (Ev.bind e3 (Ev.bind e4 (Ev.pos rfl (Ev.now _))))), a1, b1, fun h => (by cases h), fun _ h => k2 (iff.1 h).2.1⟩
 rw [if_pos k2] at c2
 simp only [c2] at e2 e3 e4 a2 b2 a3 b3
 have c3 := step (g2 b).2.1 (g3 b) rfl
 by_cases k3 : (g3 b).2.2 = true
 case neg =>
  rw [if_neg k3] at c3
  simp only [c3] at e3 e4
  simp only [rdN_bad] at e4
  refine ⟨_, _, 0, 0, _, true, Ev.bind e1 (Ev.bind e2 (Ev.bind e3 (Ev.bind e4 (Ev.pos rfl (Ev.now _))))), a2, b2, fun h => (by cases h), fun _ h => k3 (iff.1 h).2.2.1⟩
 rw [if_pos k3] at c3
 simp only [c3] at e3 e4 a3 b3
 have c4 := step (g3 b).2.1 (g4 b) rfl
 by_cases k4 : (g4 b).2.2 = true
 case neg =>
  rw [if_neg k4] at c4
  simp only [c4] at e4
  refine ⟨_, _, _, 0, _, true, Ev.bind e1 (Ev.bind e2 (Ev.bind e3 (Ev.bind e4 (Ev.pos rfl (Ev.now _))))), a3, b3, fun h => (by cases h), fun _ h => k4 (iff.1 h).2.2.2.1⟩
 rw [if_pos k4] at c4
 simp only [c4] at e4
 have p4 := getNum_pos b (g3 b).2.1 hb
 by_cases k5 : (g4 b).1 > 1
 ·refine ⟨(g1 b).1, (g2 b).1, (g3 b).1, (g4 b).1, (g4 b).2.1, true, Ev.bind e1 (Ev.bind e2 (Ev.bind e3 (Ev.bind e4 (Ev.neg (by simp) ?_)))), by unfold g4; omega, by unfold g4; omega, fun h => (by cases h), fun _ h => by have := (iff.1 h).2.2.2.2.2.1; omega⟩
  rw [decide_eq_true k5]
  exact Ev.now _
 ·refine ⟨(g1 b).1, (g2 b).1, (g3 b).1, (g4 b).1, (g4 b).2.1, false, Ev.bind e1 (Ev.bind e2 (Ev.bind e3 (Ev.bind e4 (Ev.neg (by simp) ?_)))), by unfold g4; omega, by unfold g4; omega, fun _ => ⟨k1, k2, k3, k4, by omega, rfl, rfl, rfl, rfl, rfl⟩, fun h => (by cases h)⟩
  rw [decide_eq_false k5]
  exact Ev.now _
theorem impl_getFile_ev (b : List Int) (hN : b.length ≤ 100000000000) (hb : ∀ x ∈ b, 0 ≤ x ∧ x ≤ 255) : Ev (fun k => impl_GetFile.f k b) (getFile b) := by
 have iff := goodB_iff b
 obtain ⟨v1, v2, v3, d, p, bad, e1, h0, h1, hgood, hbad⟩ := rstamp_ev b hN hb
 have et := (getText_ev b (by omega) hb p (by omega) (by omega)).2
 have tin := getText_in b p hb
 have hfin : ∀ (s : ByteArray) (q : Int) (z : Bool), s.size ≤ b.length → Ev (fun k => impl_reader_text.f k b p bad) (s, q, z) → (z = true → ¬ goodB b = true) → (z = false → bad = false ∧ (getText b p).2.2 = true ∧ s = (getText b p).1) → Ev (fun k => impl_GetFile.f k b) (getFile b) := fun s q z hs e2 hz1 hz2 => by
  simp only [impl_GetFile.f]
  have hrl := bytesOf_range s
  refine Ev.bind e1 (Ev.bind e2 (Ev.pos (by show (bytesOf s).length ≤ 9223372036854775807; rw [bytesOf_length]; omega) (Ev.bind (impl_putFile_ev _ _ _ _ _ hrl) ?_)))
  cases z with
  | true =>
   rw [getFile_no b (hz1 rfl)]
   exact Ev.pos rfl (Ev.now _)
  | false =>
   obtain ⟨y1, y2, y3⟩ := hz2 rfl
   obtain ⟨k1, k2, k3, k4, k5, rfl, rfl, rfl, rfl, rfl⟩ := hgood y1
   subst y3
   have hs := str_iff (theFile b) b (putFile_range _ _ _ _ _ (bytesOf_range _)) hb
   refine Ev.neg (by simp) ?_
   show Ev (fun k => if ((theFile b).length : Int) = 0 then some (0, 0, 0, false, ([] : List Int), false) else if (strOfNums (theFile b)).toList = (strOfNums b).toList then some ((g1 b).1, (g2 b).1, (g3 b).1, ((g4 b).1 == 1), bytesOf (tx b).1, true) else some (0, 0, 0, false, ([] : List Int), false)) (getFile b)
   by_cases c7 : theFile b = b
   ·have hg : goodB b = true := iff.2 ⟨k1, k2, k3, k4, y2, k5, c7⟩
    have hne : ¬ ((theFile b).length : Int) = 0 := fun h => by
     rw [c7] at h
     have hbn : b = [] := List.length_eq_zero_iff.1 (by omega)
     rw [hbn] at k1
     unfold g1 at k1
     rw [getNum_nil] at k1
     cases k1
    refine Ev.neg hne (Ev.pos (hs.2 c7) ?_)
    rw [getFile, if_pos hg]
    exact Ev.now _
   ·rw [getFile_no b (fun q => c7 (iff.1 q).2.2.2.2.2.2)]
    by_cases c8 : ((theFile b).length : Int) = 0
    ·exact Ev.pos c8 (Ev.now _)
    ·exact Ev.neg c8 (Ev.neg (fun q => c7 (hs.1 q)) (Ev.now _))
 have hz0 : (⟨#[]⟩ : ByteArray).size ≤ b.length := by show (#[] : Array UInt8).size ≤ _; simp
 cases bad with
 | true =>
  refine hfin _ p true hz0 ?_ (fun _ => hbad rfl) (fun h => (by cases h))
  simp only [impl_reader_text.f]
  exact Ev.bind et (Ev.pos (by trivial) (Ev.now _))
 | false =>
  obtain ⟨k1, k2, k3, k4, k5, _, _, _, _, hp⟩ := hgood rfl
  by_cases c : (getText b p).2.2 = true
  ·refine hfin (getText b p).1 (getText b p).2.1 false tin.2.2 ?_ (fun h => (by cases h)) (fun _ => ⟨rfl, c, rfl⟩)
   simp only [impl_reader_text.f]
   exact Ev.bind et (Ev.neg (by simp) (Ev.pos c (Ev.now _)))
  ·refine hfin _ p true hz0 ?_ (fun _ h => c ?_) (fun h => (by cases h))
   ·simp only [impl_reader_text.f]
    exact Ev.bind et (Ev.neg (by simp) (Ev.neg c (Ev.now _)))
   ·rw [hp]; exact (iff.1 h).2.2.2.2.1
def Cur (b : List Int) (i : Int) : Prop := b.length ≤ 1048576 ∧ 0 ≤ i ∧ i ≤ b.length
theorem new_l0 (b : List Int) (hN : b.length ≤ 1048576) (d : Nat) : ∀ (i : Nat) (h : Int), i + d = b.length → ∃ h', Ev (fun k => spec_l1New.l0 k b h (i : Int)) (b, 0, h') := by
 induction d with
 | zero =>
  intro i h hd
  refine ⟨h, Ev.step (f := fun _ => some (b, 0, h)) (fun k => ?_) (Ev.now _)⟩
  rw [spec_l1New.l0, if_neg (by omega)]
 | succ d ih =>
  intro i h hd
  by_cases c : (i : Int) < 4000
  ·obtain ⟨h', e⟩ := ih (i + 1) (Go.bits .and .i64 (wrap64 ((wrap64 ((wrap64 (h * 137)) + (wrap64 (rd b i)))) + 11)) 1073741823) (by omega)
   refine ⟨h', Ev.step (fun k => ?_) e⟩
   rw [spec_l1New.l0, if_pos (by omega), if_pos c, if_pos (by omega), w64s (i := i) (n := b.length) (by omega) (by omega)]
  ·refine ⟨h, Ev.step (f := fun _ => some (b, 0, h)) (fun k => ?_) (Ev.now _)⟩
   rw [spec_l1New.l0, if_pos (by omega), if_neg c]
theorem new_ev (b : List Int) (hN : b.length ≤ 1048576) : ∃ h', Ev (fun k => spec_l1New.f k b) (b, 0, h') ∧ Cur b 0 := by
 obtain ⟨h', e⟩ := new_l0 b hN b.length 0 (wrap64 (378378 + (b.length : Int))) (by omega)
 exact ⟨h', e, hN, by omega, by omega⟩
theorem byte_ok (b : List Int) (i h : Int) (hc : Cur b i) : ∃ x i' h', spec_l1Byte.f b i h = some (x, i', h') ∧ 0 ≤ x ∧ x ≤ 255 ∧ Cur b i' := by
 obtain ⟨c1, c2, c3⟩ := hc
 unfold spec_l1Byte.f
 by_cases c : i < (b.length : Int)
 ·rw [if_pos c, if_pos c2]
  refine ⟨_, _, _, rfl, (and255 _).1, (and255 _).2, c1, ?_⟩
  rw [w64 (by omega) (by omega)]
  omega
 ·rw [if_neg c]
  exact ⟨_, _, _, rfl, (and255 _).1, (and255 _).2, c1, c2, c3⟩
theorem tmod_in {x n : Int} (h0 : 0 ≤ x) (hn : 0 < n) : 0 ≤ Int.tmod x n ∧ Int.tmod x n < n := by
 rw [Int.tmod_eq_emod_of_nonneg h0]
 exact ⟨Int.emod_nonneg _ (by omega), Int.emod_lt_of_pos _ hn⟩
theorem below_ok (b : List Int) (i h n : Int) (hc : Cur b i) : ∃ x i' h', spec_l1Below.f b i h n = some (x, i', h') ∧ 0 ≤ x ∧ (0 < n → x < n) ∧ (n ≤ 0 → x = 0) ∧ Cur b i' := by
 unfold spec_l1Below.f
 by_cases c0 : n ≤ 0
 ·rw [if_pos c0]
  exact ⟨0, i, h, rfl, Int.le_refl _, fun h1 => absurd h1 (by omega), fun _ => rfl, hc⟩
 ·rw [if_neg c0]
  obtain ⟨x, i1, h1, e1, x0, x1, hc1⟩ := byte_ok b i h hc
  by_cases c1 : n ≤ 256
  ·rw [if_pos c1, e1, Option.bind_some, if_neg (by omega)]
   have ht := tmod_in x0 (show 0 < n by omega)
   exact ⟨_, _, _, rfl, ht.1, fun _ => ht.2, fun hq => absurd hq c0, hc1⟩
  ·obtain ⟨y, i2, h2, e2, y0, y1, hc2⟩ := byte_ok b i1 h1 hc1
   obtain ⟨z, i3, h3, e3, z0, z1, hc3⟩ := byte_ok b i2 h2 hc2
   rw [if_neg c1, e1, Option.bind_some, e2, Option.bind_some, e3, Option.bind_some, if_neg (by omega)]
   have w : wrap64 (wrap64 (wrap64 (x * 65536) + wrap64 (y * 256)) + z) = x * 65536 + y * 256 + z := by
    rw [w64 (x := x * 65536) (by omega) (by omega), w64 (x := y * 256) (by omega) (by omega), w64 (x := x * 65536 + y * 256) (by omega) (by omega), w64 (by omega) (by omega)]
   have ht := tmod_in (x := x * 65536 + y * 256 + z) (by omega) (show 0 < n by omega)
   refine ⟨_, _, _, rfl, ?_, fun _ => ?_, fun hq => absurd hq c0, hc3⟩
   ·simp only [w]; exact ht.1
   ·simp only [w]; exact ht.2
theorem int_ok (b : List Int) (i h : Int) (l : List Int) (hl : 0 < l.length) (hc : Cur b i) : ∃ x i' h', spec_l1Int.f b i h l = some (x, i', h') ∧ x ∈ l ∧ Cur b i' := by
 obtain ⟨x, i1, h1, e1, x0, x1, _, hc1⟩ := below_ok b i h (l.length : Int) hc
 have x2 := x1 (by omega)
 unfold spec_l1Int.f
 rw [e1, Option.bind_some, if_pos x0, if_pos x2]
 exact ⟨_, _, _, rfl, rd_mem x0 x2, hc1⟩
theorem stamp_ok (b : List Int) (i h : Int) (hc : Cur b i) : ∃ x y z i' h', spec_l2Draw.f b i h = some (x, y, z, i', h') ∧ Cur b i' ∧ (0 ≤ y ∧ y < 3) := by
 obtain ⟨x, i1, h1, e1, _, hc1⟩ := int_ok b i h [0, 1, 2, 3, 1000000000] (by decide) hc
 obtain ⟨y, i2, h2, e2, y0, y1, _, hc2⟩ := below_ok b i1 h1 3 hc1
 obtain ⟨z, i3, h3, e3, _, _, _, hc3⟩ := below_ok b i2 h2 3 hc2
 unfold spec_l2Draw.f
 rw [e1, Option.bind_some, e2, Option.bind_some, e3, Option.bind_some]
 exact ⟨_, _, _, _, _, rfl, hc3, y0, y1 (by omega)⟩
theorem anyB_ok (b : List Int) (i h : Int) (hc : Cur b i) : ∃ x y z i' h', spec_l2Any.f b i h = some (x, y, z, i', h') ∧ Cur b i' ∧ (y < 9223372036854775807 ∧ -9223372036854775808 ≤ y) := by
 obtain ⟨x, y, z, i1, h1, e1, hc1, hy⟩ := stamp_ok b i h hc
 obtain ⟨n, i2, h2, e2, _, _, _, hc2⟩ := below_ok b i1 h1 10 hc1
 unfold spec_l2Any.f
 rw [e1, Option.bind_some, e2, Option.bind_some]
 by_cases c0 : n = 0
 ·obtain ⟨v, i3, h3, e3, _, hc3⟩ := int_ok b i2 h2 [(-1), 1000000001] (by decide) hc2
  rw [if_pos c0, e3, Option.bind_some]
  exact ⟨_, _, _, _, _, rfl, hc3, by dsimp only; omega⟩
 rw [if_neg c0]
 by_cases c1 : n = 1
 ·obtain ⟨v, i3, h3, e3, hv, hc3⟩ := int_ok b i2 h2 [(-1), 1000000, 1000001] (by decide) hc2
  simp only [List.mem_cons, List.not_mem_nil, or_false] at hv
  rw [if_pos c1, e3, Option.bind_some]
  exact ⟨_, _, _, _, _, rfl, hc3, by dsimp only; omega⟩
 rw [if_neg c1]
 by_cases c2 : n = 2
 ·obtain ⟨v, i3, h3, e3, _, hc3⟩ := int_ok b i2 h2 [(-1), 20, 21] (by decide) hc2
  rw [if_pos c2, e3, Option.bind_some]
  exact ⟨_, _, _, _, _, rfl, hc3, by dsimp only; omega⟩
 ·rw [if_neg c2]
  exact ⟨_, _, _, _, _, rfl, hc2, by dsimp only; omega⟩
theorem once_ok (b : List Int) (i h n : Int) (hc : Cur b i) : ∃ x i' h', spec_l1Once.f b i h n = some (x, i', h') ∧ Cur b i' := by
 obtain ⟨x, i1, h1, e1, _, _, _, hc1⟩ := below_ok b i h n hc
 unfold spec_l1Once.f
 rw [e1, Option.bind_some]
 exact ⟨_, _, _, rfl, hc1⟩
theorem bytes_l0 (b : List Int) (n : Int) (hn : n ≤ 1048576) (d : Nat) : ∀ (i : Nat) (acc : List Int) (p h : Int), (i : Int) + d = n → Cur b p → acc.length = i → (∀ x ∈ acc, 0 ≤ x ∧ x ≤ 255) → ∃ l p' h', Ev (fun k => spec_l1Bytes.l0 k n acc (i : Int) b p h) (l, p', h') ∧ (l.length : Int) = n ∧ (∀ x ∈ l, 0 ≤ x ∧ x ≤ 255) ∧ Cur b p' := by
 induction d with
 | zero =>
  intro i acc p h hd hc ha hx
  refine ⟨acc, p, h, Ev.step (f := fun _ => some (acc, p, h)) (fun k => ?_) (Ev.now _), by omega, hx, hc⟩
  rw [spec_l1Bytes.l0, if_neg (by omega)]
 | succ d ih =>
  intro i acc p h hd hc ha hx
  obtain ⟨x, p1, h1, e1, x0, x1, hc1⟩ := byte_ok b p h hc
  obtain ⟨l, p', h', e, q⟩ := ih (i + 1) (acc ++ [x % 256]) p1 h1 (by omega) hc1 (by simp [ha]) (by
   intro y hy
   rcases List.mem_append.1 hy with hy | hy
   ·exact hx y hy
   ·rw [List.mem_singleton.1 hy]; omega)
  refine ⟨l, p', h', Ev.step (fun k => ?_) e, q⟩
  rw [spec_l1Bytes.l0, if_pos (by omega), e1, Option.bind_some, if_pos (by omega), w64s (i := i) (n := i + 1) (by omega) (by omega)]
theorem some_ok (b : List Int) (i h : Int) (hc : Cur b i) : ∃ l i' h', Ev (fun k => spec_l1Some.f k b i h) (l, i', h') ∧ l.length ≤ 9 ∧ (∀ x ∈ l, 0 ≤ x ∧ x ≤ 255) ∧ Cur b i' := by
 obtain ⟨n, i1, h1, e1, hn, hc1⟩ := int_ok b i h [0, 1, 2, 5, 9] (by decide) hc
 have hn2 : 0 ≤ n ∧ n ≤ 9 := by
  simp only [List.mem_cons, List.not_mem_nil, or_false] at hn
  omega
 obtain ⟨l, i2, h2, e2, q1, q2, q3⟩ := bytes_l0 b n (by omega) n.toNat 0 [] i1 h1 (by omega) hc1 rfl (by simp)
 refine ⟨l, i2, h2, ?_, by omega, q2, q3⟩
 simp only [spec_l1Some.f]
 refine Ev.got e1 ?_
 refine Ev.bind e2 ?_
 exact Ev.now _
theorem stamp_ok3 (b : List Int) (i h : Int) (hc : Cur b i) : ∃ x y z i' h', spec_l2Draw.f b i h = some (x, y, z, i', h') ∧ Cur b i' ∧ stOk x y z = true := by
 obtain ⟨x, i1, h1, e1, hx, hc1⟩ := int_ok b i h [0, 1, 2, 3, 1000000000] (by decide) hc
 obtain ⟨y, i2, h2, e2, y0, y1, _, hc2⟩ := below_ok b i1 h1 3 hc1
 obtain ⟨z, i3, h3, e3, z0, z1, _, hc3⟩ := below_ok b i2 h2 3 hc2
 have y2 := y1 (by omega)
 have z2 := z1 (by omega)
 unfold spec_l2Draw.f
 rw [e1, Option.bind_some, e2, Option.bind_some, e3, Option.bind_some]
 refine ⟨_, _, _, _, _, rfl, hc3, ?_⟩
 simp only [List.mem_cons, List.not_mem_nil, or_false] at hx
 unfold stOk
 simp only [Bool.and_eq_true, decide_eq_true_eq]
 omega
theorem l8Draw_ok (b : List Int) (i h : Int) (hc : Cur b i) : ∃ x y z d l i' h', Ev (fun k => spec_l8Draw.f k b i h) (x, y, z, d, l, i', h') ∧ stOk x y z = true ∧ l.length ≤ 9 ∧ (∀ v ∈ l, 0 ≤ v ∧ v ≤ 255) ∧ (d = true → l = []) ∧ Cur b i' := by
 obtain ⟨x, y, z, i1, h1, e1, hc1, hs⟩ := stamp_ok3 b i h hc
 obtain ⟨d, i2, h2, e2, hc2⟩ := once_ok b i1 h1 4 hc1
 obtain ⟨l, i3, h3, e3, q1, q2, hc3⟩ := some_ok b i2 h2 hc2
 simp only [spec_l8Draw.f]
 cases d with
 | true => exact ⟨x, y, z, true, [], i2, h2, Ev.got e1 (Ev.got e2 (Ev.pos rfl (Ev.now _))), hs, by simp, by simp, fun _ => rfl, hc2⟩
 | false => exact ⟨x, y, z, false, l, i3, h3, Ev.got e1 (Ev.got e2 (Ev.neg (by simp) (Ev.bind e3 (Ev.now _)))), hs, q1, q2, fun h => (by cases h), hc3⟩
theorem drawGetFile_ev (b : List Int) (hN : b.length ≤ 1048576) : ∃ r : List Int, Ev (fun k => spec_DrawGetFile.f k b) r ∧ r.length ≤ 20000000000 ∧ ∀ x ∈ r, 0 ≤ x ∧ x ≤ 255 := by
 obtain ⟨g, e0, hc0⟩ := new_ev b hN
 obtain ⟨x, y, z, d, l, i1, h1, e1, hs, hl, hlb, hd, hc1⟩ := l8Draw_ok b 0 g hc0
 have hok : fileOk x y z d l = true := by
  unfold fileOk
  rw [hs]
  cases d with
  | true => rw [hd rfl]; rfl
  | false => simp; omega
 have e2 := spec_putFile_ev x y z d l hlb
 have hlen := putFile_len x y z d l
 have hr : ∀ v ∈ putFile x y z d l, 0 ≤ v ∧ v ≤ 255 := fun v hv => by
  rw [putFile, if_pos hok] at hv
  rcases List.mem_append.1 hv with hv | hv
  ·exact fileBytes_range x y z d l hlb v hv
  ·unfold crc4 at hv
   simp only [List.mem_cons, List.not_mem_nil, or_false] at hv
   omega
 have hpos : 0 < (putFile x y z d l).length := by
  rw [putFile, if_pos hok, List.length_append]
  show 0 < _ + 4
  omega
 generalize putFile x y z d l = p at e2 hlen hr hpos
 obtain ⟨n, i2, h2, e3, n0, n1, _, hc2⟩ := below_ok b i1 h1 5 hc1
 obtain ⟨m, i3, h3, e4, m0, m1, _, hc3⟩ := below_ok b i2 h2 (p.length : Int) hc2
 have m2 := m1 (by omega)
 simp only [spec_DrawGetFile.f]
 by_cases c0 : n = 0
 ·obtain ⟨q, i4, h4, e5, _, _, _, hc4⟩ := below_ok b i3 h3 8 hc3
  refine ⟨_, Ev.bind e0 (Ev.bind e1 (Ev.bind e2 (Ev.got e3 (Ev.pos c0 (Ev.got e4 (Ev.pos m0 (Ev.pos m2 (Ev.got e5 (Ev.pos (wrapU64 _) (Ev.now _)))))))))), by rw [List.length_set]; omega, fun v hv => ?_⟩
  rcases List.mem_or_eq_of_mem_set hv with hv | rfl
  ·exact hr v hv
  ·exact xor8 _ _
 by_cases c1 : n = 1
 ·refine ⟨_, Ev.bind e0 (Ev.bind e1 (Ev.bind e2 (Ev.got e3 (Ev.neg c0 (Ev.pos c1 (Ev.got e4 (Ev.pos m0 (Ev.pos (Int.le_of_lt m2) (Ev.now _))))))))), by rw [List.length_take]; omega, fun v hv => hr v (List.mem_of_mem_take hv)⟩
 by_cases c2 : n = 2
 ·refine ⟨_, Ev.bind e0 (Ev.bind e1 (Ev.bind e2 (Ev.got e3 (Ev.neg c0 (Ev.neg c1 (Ev.pos c2 (Ev.pos (by omega) (Ev.now _)))))))), by rw [List.length_append, List.length_singleton]; omega, fun v hv => ?_⟩
  rcases List.mem_append.1 hv with hv | hv
  ·exact hr v hv
  ·rw [List.mem_singleton.1 hv]; omega
 ·exact ⟨p, Ev.bind e0 (Ev.bind e1 (Ev.bind e2 (Ev.got e3 (Ev.neg c0 (Ev.neg c1 (Ev.neg c2 (Ev.now _))))))), by omega, hr⟩
theorem l8Any_ok (b : List Int) (i h : Int) (hc : Cur b i) : ∃ x y z d l i' h', Ev (fun k => spec_l8Any.f k b i h) (x, y, z, d, l, i', h') ∧ Cur b i' := by
 obtain ⟨x, y, z, d, l, i1, h1, e1, _, _, _, _, hc1⟩ := l8Draw_ok b i h hc
 obtain ⟨n, i2, h2, e2, _, _, _, hc2⟩ := below_ok b i1 h1 12 hc1
 simp only [spec_l8Any.f]
 by_cases c0 : n = 0
 ·obtain ⟨x', y', z', i3, h3, e3, hc3, _⟩ := anyB_ok b i2 h2 hc2
  exact ⟨_, _, _, _, _, _, _, Ev.bind e1 (Ev.got e2 (Ev.pos c0 (Ev.got e3 (Ev.now _)))), hc3⟩
 by_cases c1 : n = 1
 ·exact ⟨_, _, _, _, _, _, _, Ev.bind e1 (Ev.got e2 (Ev.neg c0 (Ev.pos c1 (Ev.now _)))), hc2⟩
 by_cases c2 : n = 2
 ·obtain ⟨m, i3, h3, e3, m0, m1, _, hc3⟩ := below_ok b i2 h2 2 hc2
  have m2 := m1 (by omega)
  have w : wrap64 (200 + m) = 200 + m := w64 (by omega) (by omega)
  exact ⟨_, _, _, _, _, _, _, Ev.bind e1 (Ev.got e2 (Ev.neg c0 (Ev.neg c1 (Ev.pos c2 (Ev.got e3 (Ev.pos (by rw [w]; omega) (Ev.pos (by rw [w]; omega) (Ev.now _)))))))), hc3⟩
 ·exact ⟨_, _, _, _, _, _, _, Ev.bind e1 (Ev.got e2 (Ev.neg c0 (Ev.neg c1 (Ev.neg c2 (Ev.now _))))), hc2⟩
theorem drawNewer_ev (b : List Int) (hN : b.length ≤ 1048576) : ∃ x y z d l x' y' z' d' l', Ev (fun k => spec_DrawNewer.f k b) (x, y, z, d, l, x', y', z', d', l') := by
 obtain ⟨g, e0, hc0⟩ := new_ev b hN
 obtain ⟨x, y, z, d, l, i1, h1, e1, _, _, _, _, hc1⟩ := l8Draw_ok b 0 g hc0
 obtain ⟨n, i2, h2, e2, hc2⟩ := once_ok b i1 h1 4 hc1
 obtain ⟨x', y', z', d', l', i3, h3, e3, _⟩ := l8Any_ok b i2 h2 hc2
 simp only [spec_DrawNewer.f]
 cases n with
 | true => exact ⟨_, _, _, _, _, _, _, _, _, _, Ev.bind e0 (Ev.bind e1 (Ev.got e2 (Ev.pos rfl (Ev.now _))))⟩
 | false => exact ⟨_, _, _, _, _, _, _, _, _, _, Ev.bind e0 (Ev.bind e1 (Ev.got e2 (Ev.neg (by simp) (Ev.bind e3 (Ev.now _)))))⟩
theorem sameBytes_l0 (xs : List Int) (hN : xs.length ≤ 4611686018427387904) : ∀ (l : List Int) (i : Nat), xs.drop i = l → Ev (fun k => laws_sameBytes.l0 k xs xs (i : Int)) true
 | [], i, h => by
  have h1 := drop_nil' h
  refine Ev.step (f := fun _ => some true) (fun k => ?_) (Ev.now _)
  rw [laws_sameBytes.l0, if_neg (by omega)]
 | a :: t, i, h => by
  obtain ⟨h1, _, h3⟩ := drop_cons' h 0
  refine Ev.step (f := fun k => laws_sameBytes.l0 k xs xs ((i + 1 : Nat) : Int)) (fun k => ?_) (sameBytes_l0 xs hN t (i + 1) h3)
  rw [laws_sameBytes.l0, if_pos (by omega), if_pos (by omega), if_pos (by omega), if_pos rfl, w64s h1 hN]
theorem sameBytes_ev (xs : List Int) (hN : xs.length ≤ 4611686018427387904) : Ev (fun k => laws_sameBytes.f k xs xs) true := by
 refine Ev.congr (f := fun k => laws_sameBytes.l0 k xs xs ((0 : Nat) : Int)) (fun k => ?_) (sameBytes_l0 xs hN xs 0 rfl)
 rw [laws_sameBytes.f, if_pos rfl]; rfl
def iless6 (x y z u v w : Int) : Bool := if x = u then (if y = v then decide (z < w) else decide (y < v)) else decide (x < u)
theorem iless6_eq (x y z u v w : Int) : impl_LessStamp.f x y z u v w = some (iless6 x y z u v w) := by
 unfold impl_LessStamp.f iless6
 (repeat' split) <;> rfl
theorem iless6_not (x y z u v w : Int) (h : iless6 x y z u v w = true) : iless6 u v w x y z = false := by
 unfold iless6 at *
 (repeat' split at h) <;> (repeat' split) <;> simp only [decide_eq_true_eq, decide_eq_false_iff_not] at * <;> omega
theorem big_eq (l : List Int) : laws_big.f l = some (decide ((l.length : Int) > 1048576)) := rfl
end Go.Proofs.Ytbhllgifciaepaa.PureFnFilesRead
namespace Go.Proofs.Ytbhllgifciaepaa.Pure
open Go.RowKit Go.Proofs.Ytbhllgifciaepaa.PFnFilesRead Go.Proofs.YtbhllgifciaepaaW.PrintWords Go.Proofs.YtbhllgifciaepaaW.PrintLast Go.Proofs.YtbhllgifciaepaaW.PrintMore Go.Proofs.Ytbhllgifciaepaa.Base Go.Proofs.Ytbhllgifciaepaa.PureFnFilesRead
set_option linter.unusedVariables false
attribute [local irreducible] Go.bits IntKind.wrap shl shr
theorem FnFilesRead (code : List Int) (h0 : Bytes code) : ∃ k, laws_FnFilesRead.f k code = some true := by
 apply Ev.rounds (g := fun k => laws_FnFilesRead.f k code)
 simp only [laws_FnFilesRead.f]
 refine Ev.got (big_eq code) ?_
 by_cases hb : (code.length : Int) > 1048576
 ·exact Ev.pos (decide_eq_true hb) (Ev.now _)
 refine Ev.neg (by rw [decide_eq_true_eq]; exact hb) ?_
 obtain ⟨r, e1, hr, hrb⟩ := drawGetFile_ev code (by omega)
 obtain ⟨x, y, z, d, l, x', y', z', d', l', e2⟩ := drawNewer_ev code (by omega)
 have e3 := impl_getFile_ev r (by omega) hrb
 have e4 := spec_getFile_ev r (by omega) hrb
 refine Ev.bind e1 (Ev.bind e3 (Ev.bind e4 (Ev.bind e2 (Ev.pos (by simp) ?_))))
 have n1 : impl_Newer.f x y z d l x' y' z' d' l' = some (iless6 x' y' z' x y z) := by unfold impl_Newer.f; rw [iless6_eq]; rfl
 have n2 : impl_Newer.f x' y' z' d' l' x y z d l = some (iless6 x y z x' y' z') := by unfold impl_Newer.f; rw [iless6_eq]; rfl
 have tail : Ev (fun k => (impl_Newer.f x y z d l x' y' z' d' l').bind fun t515 => (impl_LessStamp.f x' y' z' x y z).bind fun t516 => if (t515 == t516) = true then ((impl_Newer.f x y z d l x' y' z' d' l').bind fun t517 => (if t517 = true then ((impl_Newer.f x' y' z' d' l' x y z d l).bind fun t518 => (some (!t518))) else (some (!false)))) else (some false)) true := by
  refine Ev.got n1 (Ev.got (iless6_eq _ _ _ _ _ _) (Ev.pos (by simp) (Ev.got n1 ?_)))
  by_cases c : iless6 x' y' z' x y z = true
  ·refine Ev.pos c (Ev.got n2 ?_)
   rw [iless6_not _ _ _ _ _ _ c]
   exact Ev.now _
  ·exact Ev.neg c (Ev.now _)
 by_cases c : goodB r = true
 ·have hg : getFile r = ((g1 r).1, (g2 r).1, (g3 r).1, ((g4 r).1 == 1), bytesOf (tx r).1, true) := if_pos c
  rw [hg]
  refine Ev.pos rfl (Ev.got ((fileOk_eq _ _ _ _ _).2.trans (congrArg some (good_file r c))) (Ev.pos rfl ?_))
  have e5 := impl_putFile_ev (g1 r).1 (g2 r).1 (g3 r).1 ((g4 r).1 == 1) (bytesOf (tx r).1) (bytesOf_range _)
  have h7 : theFile r = r := ((goodB_iff r).1 c).2.2.2.2.2.2
  unfold theFile at h7
  rw [h7] at e5
  exact Ev.bind e5 (Ev.bind (sameBytes_ev r (by omega)) (Ev.pos rfl tail))
 ·rw [getFile_no r c]
  exact Ev.neg (by simp) tail
end Go.Proofs.Ytbhllgifciaepaa.Pure
