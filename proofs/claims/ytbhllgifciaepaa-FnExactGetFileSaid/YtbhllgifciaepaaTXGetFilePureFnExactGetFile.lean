/- Trimmed by a program of this session (trim.py). Not trusted: Lean checks it. -/
import Derived.Test.YtbhllgifciaepaaTXGetFilePFnExactGetFilex8
import Derived.Test.YtbhllgifciaepaaTXGetFileBase
namespace Go.Proofs.Ytbhllgifciaepaa.PureFnExactGetFile
open Go.RowKit Go.Proofs.Ytbhllgifciaepaa.PFnExactGetFile Go.Proofs.YtbhllgifciaepaaW.PrintWords Go.Proofs.YtbhllgifciaepaaW.PrintLast Go.Proofs.YtbhllgifciaepaaW.PrintMore Go.Proofs.Ytbhllgifciaepaa.Base
set_option linter.unusedVariables false
attribute [local irreducible] Go.bits IntKind.wrap shl shr
def p128 (j : Nat) : Int := 128 ^ j
def gnum : Nat → List Int → Nat → Int → Option (Int × Nat)
 | 0, _, _, _ => none
 | _ + 1, [], _, _ => none
 | d + 1, c :: t, j, n =>
  if 128 ≤ c then gnum d t (j + 1) (n + c % 128 * p128 j)
  else if c = 0 ∧ 0 < j then none else if 1000000000 < n + c % 128 * p128 j then none else some (n + c % 128 * p128 j, j + 1)
def getNum (b : List Int) (p : Int) : Int × Int × Bool :=
 if 0 ≤ p ∧ p < (b.length : Int) then match gnum 5 (b.drop p.toNat) 0 0 with
  | none => (0, 0, false)
  | some (n, m) => (n, p + m, true)
 else (0, 0, false)
def gnumR (p : Int) : Option (Int × Nat) → Int × Int × Bool
 | none => (0, 0, false)
 | some (n, m) => (n, p + m, true)
theorem pow128 (j : Nat) (hj : j < 5) : p128 j = 2 ^ (7 * j) ∧ 1 ≤ p128 j ∧ p128 j ≤ 268435456 ∧ p128 (j + 1) = 128 * p128 j := by
 unfold p128
 obtain rfl | rfl | rfl | rfl | rfl : j = 0 ∨ j = 1 ∨ j = 2 ∨ j = 3 ∨ j = 4 := by omega
 all_goals decide
theorem p128_0 : p128 0 = 1 := rfl
theorem shl7 {v : Int} (j : Nat) (hj : j < 5) (h0 : 0 ≤ v) (h1 : v < 128) : shl .i64 v (7 * (j : Int)) = v * p128 j := by
 have e : min (7 * (j : Int)).toNat IntKind.i64.bits = 7 * j := by
  rw [show IntKind.i64.bits = 64 from rfl]; omega
 obtain ⟨p1, p2, p3, _⟩ := pow128 j hj
 have b1 : 0 ≤ v * p128 j := Int.mul_nonneg h0 (by omega)
 have b2 : v * p128 j ≤ 127 * 268435456 := Int.mul_le_mul (by omega) p3 (by omega) (by omega)
 rw [shl, e, ← p1, IntKind.wrap_i64]
 omega
theorem or7 {v n : Int} (j : Nat) (hj : j < 5) (h0 : 0 ≤ v) (h1 : v < 128) (n0 : 0 ≤ n) (n1 : n < p128 j) : Go.bits .or .i64 n (v * p128 j) = n + v * p128 j := by
 obtain ⟨p1, p2, p3, _⟩ := pow128 j hj
 have b1 : 0 ≤ v * p128 j := Int.mul_nonneg h0 (by omega)
 have b2 : v * p128 j ≤ 127 * 268435456 := Int.mul_le_mul (by omega) p3 (by omega) (by omega)
 exact orJoin (7 * j) n0 (by rw [← p1]; exact n1) b1 (by rw [← p1]; exact Int.mul_emod_left _ _) (by omega) (by omega)
theorem getNum_l0 (b : List Int) (hN : b.length ≤ 4611686018427387904) (hb : ∀ x ∈ b, 0 ≤ x ∧ x ≤ 255) (p : Nat) : ∀ (d j : Nat) (n : Int), j + d = 5 → 0 ≤ n → n < p128 j → (j = 0 ∨ p < b.length) →
  Ev (fun k => spec_GetNum.l0 k b p n (j : Int)) (gnumR p (gnum d (b.drop (p + j)) j n)) ∧ Ev (fun k => impl_GetNum.l0 k b p n (j : Int)) (gnumR p (gnum d (b.drop (p + j)) j n)) := by
 intro d
 induction d with
 | zero =>
  intro j n hd h0 h1 hp
  have hj : j = 5 := by omega
  subst hj
  refine ⟨Ev.step (f := fun k => spec_GetNum.j1 k b p n 5 false) (fun k => ?_) (Ev.step (f := fun _ => some (0, 0, false)) (fun k => ?_) (Ev.now _)), Ev.step (f := fun k => impl_GetNum.j1 k b p n 5 false) (fun k => ?_) (Ev.step (f := fun _ => some (0, 0, false)) (fun k => ?_) (Ev.now _))⟩
  ·rw [spec_GetNum.l0, if_neg (by omega)]; rfl
  ·rw [spec_GetNum.j1, if_neg (by simp)]
  ·rw [impl_GetNum.l0, if_neg (by omega)]; rfl
  ·rw [impl_GetNum.j1, if_neg (by simp)]
 | succ d ih =>
  intro j n hd h0 h1 hp
  cases hl : b.drop (p + j) with
  | nil =>
   have hlen := drop_nil' hl
   have hg : gnumR (p : Int) (gnum (d + 1) [] j n) = (0, 0, false) := rfl
   rw [hg]
   refine ⟨?_, ?_⟩
   ·refine Ev.step (f := fun k => spec_GetNum.j1 k b p n j false) (fun k => ?_) (Ev.step (f := fun _ => some (0, 0, false)) (fun k => ?_) (Ev.now _))
    ·rw [spec_GetNum.l0, if_pos (by omega), if_pos (by omega)]
     by_cases hpl : (p : Int) < (b.length : Int)
     ·rw [if_pos hpl, w64 (by omega) (by omega), decide_eq_false (by omega)]
     ·rw [if_neg hpl]
    ·rw [spec_GetNum.j1, if_neg (by simp)]
   ·refine Ev.step (f := fun k => impl_GetNum.j1 k b p n j false) (fun k => ?_) (Ev.step (f := fun _ => some (0, 0, false)) (fun k => ?_) (Ev.now _))
    ·rw [impl_GetNum.l0, if_pos (by omega), if_pos (by omega), w64 (by omega) (by omega), decide_eq_false (by omega)]
    ·rw [impl_GetNum.j1, if_neg (by simp)]
  | cons c t =>
   obtain ⟨hlt, _, h3⟩ := drop_cons' hl 0
   have hc : rd b ((p : Int) + (j : Int)) = c := by
    rw [show (p : Int) + (j : Int) = ((p + j : Nat) : Int) by omega]; exact rd_at hl
   have hcb : 0 ≤ c ∧ c ≤ 255 := hb c (by
    have : c ∈ b.drop (p + j) := by rw [hl]; exact List.mem_cons_self
    exact List.mem_of_mem_drop this)
   obtain ⟨-, p2, p3, p4⟩ := pow128 j (by omega)
   have b1 : 0 ≤ c % 128 * p128 j := Int.mul_nonneg (by omega) (by omega)
   have b2 : c % 128 * p128 j ≤ 127 * p128 j := Int.mul_le_mul_of_nonneg_right (by omega) (by omega)
   have s1 : Hd (shl .i64 (c % 128) (7 * (j : Int)) = c % 128 * p128 j) := ⟨shl7 j (by omega) (by omega) (by omega)⟩
   have o1 : Hd (Go.bits .or .i64 n (c % 128 * p128 j) = n + c % 128 * p128 j) := ⟨or7 j (by omega) (by omega) (by omega) h0 h1⟩
   obtain ⟨i1, i2⟩ := ih (j + 1) (n + c % 128 * p128 j) (by omega) (by omega) (by rw [p4]; omega) (Or.inr (by omega))
   rw [show p + (j + 1) = p + j + 1 by omega, h3] at i1 i2
   have eg : gnum (d + 1) (c :: t) j n = if 128 ≤ c then gnum d t (j + 1) (n + c % 128 * p128 j) else if c = 0 ∧ 0 < j then none else if 1000000000 < n + c % 128 * p128 j then none else some (n + c % 128 * p128 j, j + 1) := by rw [gnum]
   rw [eg]
   clear p4 eg
   generalize p128 j = P at *
   have hv : 0 ≤ c % 128 * P ∧ c % 128 * P ≤ 127 * 268435456 := ⟨b1, by omega⟩
   have hn : n < 268435456 := by omega
   clear h1 b1 b2 p2 p3
   generalize c % 128 * P = V at *
   have w1 : Hd (wrap64 ((p : Int) + (j : Int)) = (p : Int) + (j : Int)) := ⟨w64 (by omega) (by omega)⟩
   have w2 : Hd (wrap64 c = c) := ⟨w64 (by omega) (by omega)⟩
   have w3 : Hd (wrap64 (7 * (j : Int)) = 7 * (j : Int)) := ⟨w64 (by omega) (by omega)⟩
   have w4 : Hd (IntKind.u64.wrap (7 * (j : Int)) = 7 * (j : Int)) := ⟨u64_id (by omega) (by omega)⟩
   have w5 : Hd (wrap64 ((j : Int) + 1) = ((j + 1 : Nat) : Int)) := ⟨w64s (n := j + 1) (by omega) (by omega)⟩
   have w6 : Hd (wrap64 (n + V) = n + V) := ⟨w64 (by omega) (by omega)⟩
   have w7 : Hd (wrap64 ((p : Int) + (j : Int) + 1) = (p : Int) + ((j + 1 : Nat) : Int)) := ⟨by rw [w64 (by omega) (by omega)]; omega⟩
   have a1 : Hd (Go.bits .and .i64 c 127 = c % 128) := ⟨and127 (by omega) (by omega)⟩
   have t1 : Hd (Int.tmod c 128 = c % 128) := ⟨Int.tmod_eq_emod_of_nonneg hcb.1⟩
   refine ⟨?_, ?_⟩
   ·refine Ev.step (f := fun k => spec_GetNum.j1 k b p n j true) (fun k => ?_) ?_
    ·rw [spec_GetNum.l0, if_pos (by omega), if_pos (by omega), if_pos (by omega), w1.out, decide_eq_true (by omega)]
    ·by_cases h128 : 128 ≤ c
     ·rw [if_pos h128]
      refine Ev.step (fun k => ?_) i1
      rw [spec_GetNum.j1, if_pos rfl, w1.out, if_pos (by omega), if_pos (by omega), w3.out, w4.out, if_pos (by omega), hc, w2.out, if_pos (by omega), a1.out, s1.out, o1.out, w5.out]
     ·refine Ev.step (f := fun _ => some _) (fun k => ?_) (Ev.now _)
      rw [spec_GetNum.j1, if_pos rfl, w1.out, if_pos (by omega), if_pos (by omega), w3.out, w4.out, if_pos (by omega), hc, w2.out, if_neg (by omega), a1.out, s1.out, o1.out, w7.out, if_neg h128]
      repeat' split
      all_goals first | rfl | (exfalso; omega)
   ·refine Ev.step (f := fun k => impl_GetNum.j1 k b p n j true) (fun k => ?_) ?_
    ·rw [impl_GetNum.l0, if_pos (by omega), if_pos (by omega), w64 (by omega) (by omega), decide_eq_true (by omega)]
    ·by_cases h128 : 128 ≤ c
     ·rw [if_pos h128]
      refine Ev.step (fun k => ?_) i2
      rw [impl_GetNum.j1, if_pos rfl, w1.out, if_pos (by omega), if_pos (by omega), w3.out, if_pos (by omega), hc, w2.out, if_pos (by omega), t1.out, s1.out, w6.out, w5.out]
     ·refine Ev.step (f := fun _ => some _) (fun k => ?_) (Ev.now _)
      rw [impl_GetNum.j1, if_pos rfl, w1.out, if_pos (by omega), if_pos (by omega), w3.out, if_pos (by omega), hc, w2.out, if_neg (by omega), t1.out, s1.out, w6.out, w7.out, if_neg h128]
      repeat' split
      all_goals first | rfl | (exfalso; omega)
theorem getNum_ev (b : List Int) (hN : b.length ≤ 4611686018427387904) (hb : ∀ x ∈ b, 0 ≤ x ∧ x ≤ 255) (p : Int) (p0 : -9223372036854775808 ≤ p) (p1 : p < 9223372036854775808) :
  Ev (fun k => spec_GetNum.f k b p) (getNum b p) ∧ Ev (fun k => impl_GetNum.f k b p) (getNum b p) := by
 by_cases h : 0 ≤ p
 ·obtain ⟨q, rfl⟩ := Int.eq_ofNat_of_zero_le h
  by_cases hq : (q : Int) < (b.length : Int)
  ·have e : getNum b (q : Int) = gnumR q (gnum 5 (b.drop (q + 0)) 0 0) := by
    rw [getNum, if_pos ⟨h, hq⟩, Int.toNat_natCast]; rfl
   rw [e]
   exact getNum_l0 b hN hb q 5 0 0 rfl (by omega) (by rw [p128_0]; decide) (Or.inl rfl)
  ·have e : getNum b (q : Int) = (0, 0, false) := by rw [getNum, if_neg (by omega)]
   have e2 : gnumR (q : Int) (gnum 5 (b.drop (q + 0)) 0 0) = (0, 0, false) := by
    rw [List.drop_eq_nil_of_le (by omega)]; rfl
   rw [e, ← e2]
   exact getNum_l0 b hN hb q 5 0 0 rfl (by omega) (by rw [p128_0]; decide) (Or.inl rfl)
 ·have e : getNum b p = (0, 0, false) := by rw [getNum, if_neg (by omega)]
  rw [e]
  refine ⟨Ev.step (f := fun k => spec_GetNum.j1 k b p 0 0 false) (fun k => ?_) (Ev.step (f := fun _ => some (0, 0, false)) (fun k => ?_) (Ev.now _)), Ev.step (f := fun k => impl_GetNum.j1 k b p 0 0 false) (fun k => ?_) (Ev.step (f := fun _ => some (0, 0, false)) (fun k => ?_) (Ev.now _))⟩
  ·rw [spec_GetNum.f, spec_GetNum.l0, if_pos (by omega), if_neg (by omega)]
  ·rw [spec_GetNum.j1, if_neg (by simp)]
  ·rw [impl_GetNum.f, impl_GetNum.l0, if_pos (by omega), if_neg (by omega)]
  ·rw [impl_GetNum.j1, if_neg (by simp)]
def getText (b : List Int) (p : Int) : ByteArray × Int × Bool :=
 if (getNum b p).2.2 = true then
  if (getNum b p).1 > (b.length : Int) - (getNum b p).2.1 then (⟨#[]⟩, 0, false)
  else (strOfNums ((b.take ((getNum b p).2.1 + (getNum b p).1).toNat).drop (getNum b p).2.1.toNat), (getNum b p).2.1 + (getNum b p).1, true)
 else (⟨#[]⟩, 0, false)
theorem gnum_le : ∀ (d : Nat) (l : List Int) (j : Nat) (n : Int) (v : Int) (m : Nat), (∀ x ∈ l, 0 ≤ x ∧ x ≤ 255) → 0 ≤ n → gnum d l j n = some (v, m) → 0 ≤ v ∧ v ≤ 1000000000 ∧ j < m ∧ m ≤ j + l.length
 | 0, _, _, _, _, _, _, _, h => by cases h
 | _ + 1, [], _, _, _, _, _, _, h => by cases h
 | d + 1, c :: t, j, n, v, m, hb, h0, h => by
  have hc := hb c List.mem_cons_self
  have hp : 0 ≤ c % 128 * p128 j := Int.mul_nonneg (by omega) (by unfold p128; exact Int.pow_nonneg (by decide))
  rw [gnum] at h
  by_cases h1 : 128 ≤ c
  ·rw [if_pos h1] at h
   have := gnum_le d t (j + 1) _ v m (fun x hx => hb x (List.mem_cons_of_mem _ hx)) (by omega) h
   simp only [List.length_cons]
   omega
  ·rw [if_neg h1] at h
   by_cases h2 : c = 0 ∧ 0 < j
   ·rw [if_pos h2] at h; cases h
   ·rw [if_neg h2] at h
    by_cases h3 : 1000000000 < n + c % 128 * p128 j
    ·rw [if_pos h3] at h; cases h
    ·rw [if_neg h3] at h
     injection h with h
     injection h with e1 e2
     subst e1 e2
     simp only [List.length_cons]
     omega
theorem getNum_in (b : List Int) (p : Int) (hb : ∀ x ∈ b, 0 ≤ x ∧ x ≤ 255) (h : (getNum b p).2.2 = true) : 0 ≤ p ∧ 0 ≤ (getNum b p).1 ∧ (getNum b p).1 ≤ 1000000000 ∧ p < (getNum b p).2.1 ∧ (getNum b p).2.1 ≤ b.length := by
 unfold getNum at h ⊢
 by_cases hp : 0 ≤ p ∧ p < (b.length : Int)
 ·rw [if_pos hp] at h ⊢
  cases hg : gnum 5 (b.drop p.toNat) 0 0 with
  | none => rw [hg] at h; cases h
  | some vm =>
   obtain ⟨v, m⟩ := vm
   have := gnum_le 5 _ 0 0 v m (fun x hx => hb x (List.mem_of_mem_drop hx)) (by omega) hg
   rw [List.length_drop] at this
   simp only
   omega
 ·rw [if_neg hp] at h; cases h
theorem getText_ev (b : List Int) (hN : b.length ≤ 1000000000000) (hb : ∀ x ∈ b, 0 ≤ x ∧ x ≤ 255) (p : Int) (p0 : -9223372036854775808 ≤ p) (p1 : p < 9223372036854775808) :
  Ev (fun k => spec_GetText.f k b p) (getText b p) ∧ Ev (fun k => impl_GetText.f k b p) (getText b p) := by
 obtain ⟨r1, r2⟩ := getNum_ev b (by omega) hb p p0 p1
 have hin := getNum_in b p hb
 rw [getText]
 generalize getNum b p = g at r1 r2 hin
 obtain ⟨n, m, ok⟩ := g
 simp only [spec_GetText.f, impl_GetText.f]
 refine ⟨Ev.bind r1 ?_, Ev.bind r2 ?_⟩
 all_goals
  by_cases hk : ok = true
  ·have hin' := hin hk
   simp only at hin'
   have w1 : Hd (wrap64 ((b.length : Int) - m) = (b.length : Int) - m) := ⟨w64 (by omega) (by omega)⟩
   have w2 : Hd (wrap64 (m + n) = m + n) := ⟨w64 (by omega) (by omega)⟩
   simp only [if_pos hk, w1.out, w2.out]
   by_cases h1 : n > (b.length : Int) - m
   ·simp only [if_pos h1]
    exact Ev.now _
   ·simp only [if_neg h1, if_pos (show 0 ≤ m by omega), if_pos (show m ≤ m + n by omega), if_pos (show m + n ≤ (b.length : Int) by omega)]
    exact Ev.now _
  ·simp only [if_neg hk]
   exact Ev.now _
theorem l1In_eq (x a b : Int) : spec_l1In.f x a b = some (decide (a ≤ x ∧ x ≤ b)) := by
 unfold spec_l1In.f
 by_cases h : x ≥ a
 ·rw [if_pos h]; simp [show a ≤ x from h]
 ·rw [if_neg h]; simp [show ¬ a ≤ x from h]
theorem in_eq (x a b : Int) : impl_in.f x a b = some (decide (a ≤ x ∧ x ≤ b)) := by
 unfold impl_in.f
 by_cases h : x ≥ a
 ·rw [if_pos h]; simp [show a ≤ x from h]
 ·rw [if_neg h]; simp [show ¬ a ≤ x from h]
def stOk (a b c : Int) : Bool := decide (0 ≤ a ∧ a ≤ 1000000000) && (decide (0 ≤ b ∧ b ≤ 1000000) && decide (0 ≤ c ∧ c ≤ 20))
theorem stampOk_eq (a b c : Int) : spec_StampOk.f a b c = some (stOk a b c) ∧ impl_StampOk.f a b c = some (stOk a b c) := by
 unfold spec_StampOk.f impl_StampOk.f stOk
 simp only [l1In_eq, in_eq, Option.bind_some]
 cases decide (0 ≤ a ∧ a ≤ 1000000000) <;> cases decide (0 ≤ b ∧ b ≤ 1000000) <;> simp
def fileOk (a b c : Int) (d : Bool) (l : List Int) : Bool := stOk a b c && (decide ((l.length : Int) ≤ 200) && (!d || ((l.length : Int) == 0)))
theorem fileOk_eq (a b c : Int) (d : Bool) (l : List Int) : spec_FileOk.f a b c d l = some (fileOk a b c d l) ∧ impl_FileOk.f a b c d l = some (fileOk a b c d l) := by
 unfold spec_FileOk.f impl_FileOk.f fileOk
 rw [(stampOk_eq a b c).1, (stampOk_eq a b c).2]
 simp only [Option.bind_some]
 cases stOk a b c <;> cases d <;> by_cases h : (l.length : Int) ≤ 200 <;> simp [h]
def putN (n : Nat) : List Int := if _h : 127 < n then (((n % 128 + 128 : Nat)) : Int) :: putN (n / 128) else [(n : Int)]
termination_by n
decreasing_by omega
def clip (n : Int) : Nat := if n < 0 then 0 else if 1000000000 < n then 1000000000 else n.toNat
theorem clip_le (n : Int) : clip n ≤ 1000000000 := by unfold clip; split; omega; split <;> omega
theorem putN_bytes (n : Nat) : ∀ x ∈ putN n, 0 ≤ x ∧ x ≤ 255 := by
 induction n using Nat.strongRecOn with
 | _ n ih =>
  intro x hx
  rw [putN] at hx
  split at hx
  ·rcases List.mem_cons.1 hx with rfl | hx
   ·omega
   ·exact ih (n / 128) (by omega) x hx
  ·rw [List.mem_singleton.1 hx]; omega
theorem putN_len (n : Nat) : (putN n).length ≤ n + 1 := by
 induction n using Nat.strongRecOn with
 | _ n ih =>
  rw [putN]
  split
  ·have := ih (n / 128) (by omega)
   rw [List.length_cons]; omega
  ·simp
theorem spec_putNum_l0 (n : Nat) : ∀ (acc : List Int), n ≤ 1000000000 → acc.length + n < 140737488355328 → Ev (fun k => spec_PutNum.l0 k (n : Int) acc) (acc ++ putN n) := by
 induction n using Nat.strongRecOn with
 | _ n ih =>
  intro acc hn ha
  by_cases h : 127 < n
  ·have i1 := ih (n / 128) (by omega) (acc ++ [((n % 128 + 128 : Nat) : Int)]) (by omega) (by simp; omega)
   have a1 : Hd (Go.bits .and .i64 (n : Int) 127 = ((n % 128 : Nat) : Int)) := ⟨by rw [and127 (by omega) (by omega)]; omega⟩
   have o1 : Hd (Go.bits .or .i64 ((n % 128 : Nat) : Int) 128 = ((n % 128 : Nat) : Int) + 128) := ⟨or128 (by omega) (by omega)⟩
   refine Ev.step (fun k => ?_) (Ev.eq i1 (by rw [putN.eq_1 n, dif_pos h]; simp))
   rw [spec_PutNum.l0, if_pos (by omega), if_pos (by omega), a1.out, o1.out, show (((n % 128 : Nat) : Int) + 128) % 256 = ((n % 128 + 128 : Nat) : Int) by omega, show (n : Int) / 128 = ((n / 128 : Nat) : Int) by omega]
  ·refine Ev.step (f := fun _ => some (acc ++ putN n)) (fun k => ?_) (Ev.now _)
   rw [spec_PutNum.l0, if_neg (by omega), if_pos (by omega), putN.eq_1 n, dif_neg h, show (n : Int) % 256 = (n : Int) by omega]
theorem spec_putNum_ev (b : List Int) (n : Int) (hb : b.length ≤ 100000000000000) : Ev (fun k => spec_PutNum.f k b n) (b ++ putN (clip n)) := by
 have hc := clip_le n
 have i1 := spec_putNum_l0 (clip n) b hc (by omega)
 have j1 : Ev (fun k => spec_PutNum.j1 k ((clip n : Nat) : Int) b) (b ++ putN (clip n)) := Ev.step (fun k => by rw [spec_PutNum.j1]) i1
 simp only [spec_PutNum.f]
 refine Ev.some_bind ?_
 refine Ev.pos (by simp; omega) (Ev.some_bind ?_)
 rw [List.nil_append]
 by_cases h1 : n > 1000000000
 ·refine Ev.pos h1 (Ev.step (fun k => ?_) j1)
  rw [spec_PutNum.j0, if_neg (by omega), show ((clip n : Nat) : Int) = 1000000000 by unfold clip; rw [if_neg (by omega), if_pos (by omega)]; rfl]
 ·refine Ev.neg h1 (Ev.step (fun k => ?_) j1)
  by_cases h2 : n < 0
  ·rw [spec_PutNum.j0, if_pos h2, show ((clip n : Nat) : Int) = 0 by unfold clip; rw [if_pos h2]; rfl]
  ·rw [spec_PutNum.j0, if_neg h2, show ((clip n : Nat) : Int) = n by unfold clip; rw [if_neg h2, if_neg (by omega)]; omega]
theorem spec_putText_ev (b : List Int) (s : ByteArray) (hb : b.length ≤ 10000000000000) (hs : s.size ≤ 10000000000000) : Ev (fun k => spec_PutText.f k b s) (b ++ putN (clip s.size) ++ bytesOf s) := by
 have hc := clip_le s.size
 have hp := putN_len (clip s.size)
 simp only [spec_PutText.f]
 refine Ev.bind (spec_putNum_ev b _ (by omega)) ?_
 refine Ev.pos (by rw [List.length_append]; omega) (Ev.now _)
theorem addNum_l0 (n : Nat) : ∀ (acc : List Int), n ≤ 1000000000 → acc.length + n < 140737488355328 → Ev (fun k => impl_addNum.l0 k acc (n : Int)) (acc ++ putN n) := by
 induction n using Nat.strongRecOn with
 | _ n ih =>
  intro acc hn ha
  by_cases h : 127 < n
  ·have i1 := ih (n / 128) (by omega) (acc ++ [((n % 128 + 128 : Nat) : Int)]) (by omega) (by simp; omega)
   have t1 : Hd (Int.tmod (n : Int) 128 = ((n % 128 : Nat) : Int)) := ⟨by rw [Int.tmod_eq_emod_of_nonneg (by omega)]; omega⟩
   have t2 : Hd (Int.tdiv (n : Int) 128 = ((n / 128 : Nat) : Int)) := ⟨by rw [Int.tdiv_eq_ediv_of_nonneg (by omega)]; omega⟩
   have w1 : Hd (wrap64 (((n % 128 : Nat) : Int) + 128) = ((n % 128 : Nat) : Int) + 128) := ⟨w64 (by omega) (by omega)⟩
   have w2 : Hd (wrap64 ((n / 128 : Nat) : Int) = ((n / 128 : Nat) : Int)) := ⟨w64 (by omega) (by omega)⟩
   refine Ev.step (fun k => ?_) (Ev.eq i1 (by rw [putN.eq_1 n, dif_pos h]; simp))
   rw [impl_addNum.l0, if_pos (by omega), if_pos (by omega), t1.out, t2.out, w1.out, w2.out, show (((n % 128 : Nat) : Int) + 128) % 256 = ((n % 128 + 128 : Nat) : Int) by omega]
  ·refine Ev.step (f := fun _ => some (acc ++ putN n)) (fun k => ?_) (Ev.now _)
   rw [impl_addNum.l0, if_neg (by omega), if_pos (by omega), putN.eq_1 n, dif_neg h, show (n : Int) % 256 = (n : Int) by omega]
theorem addNum_ev (b : List Int) (n : Int) (hb : b.length ≤ 100000000000000) : Ev (fun k => impl_addNum.f k b n) (b ++ putN (clip n)) := by
 have hc := clip_le n
 have i1 := addNum_l0 (clip n) b hc (by omega)
 simp only [impl_addNum.f]
 rw [show mx 0 (mn n 1000000000) = ((clip n : Nat) : Int) by
  unfold mx mn clip
  split <;> split <;> (first | omega | (split <;> omega) | (split <;> split <;> omega))]
 exact i1
theorem addText_ev (b : List Int) (s : ByteArray) (hb : b.length ≤ 10000000000000) (hs : s.size ≤ 10000000000000) : Ev (fun k => impl_addText.f k b s) (b ++ putN (clip s.size) ++ bytesOf s) := by
 have hc := clip_le s.size
 have hp := putN_len (clip s.size)
 simp only [impl_addText.f]
 refine Ev.bind (addNum_ev b _ (by omega)) ?_
 refine Ev.pos (by rw [List.length_append]; omega) (Ev.now _)
def crcBit (x : Int) : Int := if x % 2 = 1 then Go.bits .xor .u32 (x / 2) 2197175160 else x / 2
def crcN : Nat → Int → Int
 | 0, x => x
 | d + 1, x => crcN d (crcBit x)
def crcL : List Int → Int → Int
 | [], x => x
 | b :: t, x => crcL t (crcN 8 (Go.bits .xor .u32 x b))
def crcOf (l : List Int) : Int := Go.bits .xor .u32 (crcL l 4294967295) 4294967295
theorem crcBit_in {x : Int} (h0 : 0 ≤ x) (h1 : x < 4294967296) : 0 ≤ crcBit x ∧ crcBit x < 4294967296 := by
 unfold crcBit
 split
 ·have h := xorSame (x := x / 2) (y := 2197175160) (by omega) (by omega) (by omega) (by omega)
  exact ⟨h.2.1, h.2.2⟩
 ·omega
theorem crcN_in : ∀ (d : Nat) (x : Int), 0 ≤ x → x < 4294967296 → 0 ≤ crcN d x ∧ crcN d x < 4294967296
 | 0, x, h0, h1 => ⟨h0, h1⟩
 | d + 1, x, h0, h1 => crcN_in d (crcBit x) (crcBit_in h0 h1).1 (crcBit_in h0 h1).2
theorem crc_l1s (xs : List Int) (i : Int) (r : Int) : ∀ (d j : Nat) (x : Int), j + d = 8 → 0 ≤ x → x < 4294967296 → Ev (fun k => spec_Crc.l0 k xs (crcN d x) (wrap64 (i + 1))) r → Ev (fun k => spec_Crc.l1 k xs x i (j : Int)) r
 | 0, j, x, hd, h0, h1, h => by
  refine Ev.step (fun k => ?_) h
  rw [spec_Crc.l1, if_neg (by omega)]
  rfl
 | d + 1, j, x, hd, h0, h1, h => by
  have ih := crc_l1s xs i r d (j + 1) (crcBit x) (by omega) (crcBit_in h0 h1).1 (crcBit_in h0 h1).2 h
  have w : Hd (wrap64 ((j : Int) + 1) = ((j + 1 : Nat) : Int)) := ⟨w64s (n := j + 1) (by omega) (by omega)⟩
  by_cases c : x % 2 = 1
  ·have e : Hd (crcBit x = Go.bits .xor .i64 (x / 2) 2197175160) := ⟨by
    rw [crcBit, if_pos c, (xorSame (x := x / 2) (y := 2197175160) (by omega) (by omega) (by omega) (by omega)).1]⟩
   refine Ev.step (fun k => ?_) ih
   rw [spec_Crc.l1, if_pos (by omega), andOne h0 (by omega), if_pos c, w.out, e.out]
  ·have e : Hd (crcBit x = x / 2) := ⟨by rw [crcBit, if_neg c]⟩
   refine Ev.step (fun k => ?_) ih
   rw [spec_Crc.l1, if_pos (by omega), andOne h0 (by omega), if_neg c, w.out, e.out]
theorem crc_l1i (xs : List Int) (n i : Int) (r : Int) : ∀ (d j : Nat) (x : Int), j + d = 8 → 0 ≤ x → x < 4294967296 → Ev (fun k => impl_Crc.l0 k (crcN d x) xs n (wrap64 (i + 1))) r → Ev (fun k => impl_Crc.l1 k x xs n i (j : Int)) r
 | 0, j, x, hd, h0, h1, h => by
  refine Ev.step (fun k => ?_) h
  rw [impl_Crc.l1, if_neg (by omega)]
  rfl
 | d + 1, j, x, hd, h0, h1, h => by
  have ih := crc_l1i xs n i r d (j + 1) (crcBit x) (by omega) (crcBit_in h0 h1).1 (crcBit_in h0 h1).2 h
  have w : Hd (wrap64 ((j : Int) + 1) = ((j + 1 : Nat) : Int)) := ⟨w64s (n := j + 1) (by omega) (by omega)⟩
  by_cases c : x % 2 = 1
  ·have e : Hd (crcBit x = Go.bits .xor .u32 (x / 2) 2197175160) := ⟨by rw [crcBit, if_pos c]⟩
   refine Ev.step (fun k => ?_) ih
   rw [impl_Crc.l1, if_pos (by omega), andOneU h0 h1, if_pos c, w.out, e.out]
  ·have e : Hd (crcBit x = x / 2) := ⟨by rw [crcBit, if_neg c]⟩
   refine Ev.step (fun k => ?_) ih
   rw [impl_Crc.l1, if_pos (by omega), andOneU h0 h1, if_neg c, w.out, e.out]
theorem crc_l0 (xs : List Int) (hN : xs.length ≤ 4611686018427387904) (hb : ∀ x ∈ xs, 0 ≤ x ∧ x ≤ 255) : ∀ (l : List Int) (i : Nat) (x : Int), xs.drop i = l → 0 ≤ x → x < 4294967296 →
  Ev (fun k => spec_Crc.l0 k xs x (i : Int)) (Go.bits .xor .u32 (crcL l x) 4294967295) ∧ Ev (fun k => impl_Crc.l0 k x xs (xs.length : Int) (i : Int)) (Go.bits .xor .u32 (crcL l x) 4294967295)
 | [], i, x, h, h0, h1 => by
  have hl := drop_nil' h
  have q := xorSame (x := x) (y := 4294967295) h0 h1 (by omega) (by omega)
  refine ⟨Ev.step (f := fun _ => some _) (fun k => ?_) (Ev.now _), Ev.step (f := fun _ => some _) (fun k => ?_) (Ev.now _)⟩
  ·rw [spec_Crc.l0, if_neg (by omega), q.1]; rfl
  ·rw [impl_Crc.l0, if_neg (by omega), bits_xor_comm, w64 (by omega) (by omega)]; rfl
 | b :: t, i, x, h, h0, h1 => by
  obtain ⟨hl, _, h3⟩ := drop_cons' h 0
  have hbb : 0 ≤ b ∧ b ≤ 255 := hb b (List.mem_of_mem_drop (by rw [h]; exact List.mem_cons_self))
  have q := xorSame (x := x) (y := b) h0 h1 (by omega) (by omega)
  have q8 := crcN_in 8 _ q.2.1 q.2.2
  obtain ⟨i1, i2⟩ := crc_l0 xs hN hb t (i + 1) _ h3 q8.1 q8.2
  have w : Hd (wrap64 ((i : Int) + 1) = ((i + 1 : Nat) : Int)) := ⟨w64s hl hN⟩
  have hr : Hd (rd xs (i : Int) = b) := ⟨rd_at h⟩
  have wb : Hd (wrap64 b = b) := ⟨w64 (by omega) (by omega)⟩
  have q1 : Hd (Go.bits .xor .i64 x b = Go.bits .xor .u32 x b) := ⟨q.1⟩
  refine ⟨Ev.step (fun k => ?_) (crc_l1s xs (i : Int) _ 8 0 (Go.bits .xor .u32 x b) rfl q.2.1 q.2.2 (by rw [w.out]; exact i1)), Ev.step (fun k => ?_) (crc_l1i xs (xs.length : Int) (i : Int) _ 8 0 (Go.bits .xor .u32 x b) rfl q.2.1 q.2.2 (by rw [w.out]; exact i2))⟩
  ·rw [spec_Crc.l0, if_pos (by omega), if_pos (by omega), hr.out, wb.out, q1.out]; rfl
  ·rw [impl_Crc.l0, if_pos (by omega), if_pos (by omega), if_pos (by omega), hr.out, show b % 4294967296 = b by omega]; rfl
theorem crc_ev (xs : List Int) (hN : xs.length ≤ 4611686018427387904) (hb : ∀ x ∈ xs, 0 ≤ x ∧ x ≤ 255) : Ev (fun k => spec_Crc.f k xs) (crcOf xs) ∧ Ev (fun k => impl_Crc.f k xs) (crcOf xs) :=
 crc_l0 xs hN hb xs 0 4294967295 rfl (by omega) (by omega)
theorem strOf_len (l : List Int) : (strOfNums l).size = l.length := by
 have h := bytesOf_length (strOfNums l)
 rw [← h, bytesOf, List.length_map, strOfNums_data, List.length_map]
theorem bytesOf_strOf (l : List Int) (hb : ∀ x ∈ l, 0 ≤ x ∧ x ≤ 255) : bytesOf (strOfNums l) = l := by
 rw [bytesOf, strOfNums_data, List.map_map]
 conv => rhs; rw [← List.map_id l]
 refine List.map_congr_left (fun x hx => ?_)
 have := hb x hx
 simp only [Function.comp, id]
 rw [UInt8.toNat_ofNat']
 omega
def dead (d : Bool) : Int := if d = true then 1 else 0
def fileBytes (a b c : Int) (d : Bool) (l : List Int) : List Int := putN (clip a) ++ putN (clip b) ++ putN (clip c) ++ putN (clip (dead d)) ++ putN (clip l.length) ++ l
def crc4 (x : Int) : List Int := [(x / 16777216) % 256, (x / 65536) % 256, (x / 256) % 256, x % 256]
def putFile (a b c : Int) (d : Bool) (l : List Int) : List Int := if fileOk a b c d l = true then fileBytes a b c d l ++ crc4 (crcOf (fileBytes a b c d l)) else []
theorem putFile_len (a b c : Int) (d : Bool) (l : List Int) : (putFile a b c d l).length ≤ 10000000000 := by
 unfold putFile fileBytes crc4
 have h1 := putN_len (clip a)
 have h2 := putN_len (clip b)
 have h3 := putN_len (clip c)
 have h4 := putN_len (clip (dead d))
 have h5 := putN_len (clip l.length)
 have g1 := clip_le a
 have g2 := clip_le b
 have g3 := clip_le c
 have g4 := clip_le (dead d)
 have g5 := clip_le l.length
 split
 ·rename_i h
  have hl : (l.length : Int) ≤ 200 := by
   unfold fileOk at h
   simp only [Bool.and_eq_true, decide_eq_true_eq] at h
   exact h.2.1
  simp only [List.length_append, List.length_cons, List.length_nil]
  omega
 ·simp
theorem fileBytes_range (a b c : Int) (d : Bool) (l : List Int) (hb : ∀ x ∈ l, 0 ≤ x ∧ x ≤ 255) : ∀ x ∈ fileBytes a b c d l, 0 ≤ x ∧ x ≤ 255 := by
 intro x hx
 unfold fileBytes at hx
 simp only [List.mem_append] at hx
 rcases hx with ((((hx | hx) | hx) | hx) | hx) | hx
 ·exact putN_bytes _ x hx
 ·exact putN_bytes _ x hx
 ·exact putN_bytes _ x hx
 ·exact putN_bytes _ x hx
 ·exact putN_bytes _ x hx
 ·exact hb x hx
theorem l8Stamp_ev (l : List Int) (a b c : Int) (hl : l.length ≤ 1000) : Ev (fun k => spec_l8Stamp.f k l a b c) (l ++ putN (clip a) ++ putN (clip b) ++ putN (clip c)) := by
 have h1 := putN_len (clip a)
 have h2 := putN_len (clip b)
 have g1 := clip_le a
 have g2 := clip_le b
 simp only [spec_l8Stamp.f]
 refine Ev.bind (spec_putNum_ev l a (by omega)) ?_
 refine Ev.bind (spec_putNum_ev _ b (by rw [List.length_append]; omega)) ?_
 refine Ev.bind (spec_putNum_ev _ c (by rw [List.length_append, List.length_append]; omega)) ?_
 exact Ev.now _
theorem fileOk_le {a b c : Int} {d : Bool} {l : List Int} (h : fileOk a b c d l = true) : l.length ≤ 200 := by
 unfold fileOk at h
 simp only [Bool.and_eq_true, decide_eq_true_eq] at h
 have := h.2.1
 omega
theorem spec_putFile_ev (a b c : Int) (d : Bool) (l : List Int) (hb : ∀ x ∈ l, 0 ≤ x ∧ x ≤ 255) : Ev (fun k => spec_PutFile.f k a b c d l) (putFile a b c d l) := by
 have hlen := putFile_len a b c d l
 simp only [spec_PutFile.f]
 refine Ev.got (fileOk_eq a b c d l).1 ?_
 by_cases h : fileOk a b c d l = true
 ·have hl := fileOk_le h
  have e1 : putFile a b c d l = fileBytes a b c d l ++ crc4 (crcOf (fileBytes a b c d l)) := by unfold putFile; rw [if_pos h]
  rw [e1] at hlen ⊢
  have h1 := putN_len (clip a)
  have h2 := putN_len (clip b)
  have h3 := putN_len (clip c)
  have h4 := putN_len (clip (dead d))
  have g1 := clip_le a
  have g2 := clip_le b
  have g3 := clip_le c
  have g4 := clip_le (dead d)
  refine Ev.pos h ?_
  refine Ev.bind (l8Stamp_ev [] a b c (by simp)) ?_
  refine Ev.got (a := dead d) (by unfold spec_l8Bool.f dead; cases d <;> rfl) ?_
  refine Ev.bind (spec_putNum_ev _ (dead d) (by simp only [List.length_append, List.length_nil]; omega)) ?_
  refine Ev.bind (spec_putText_ev _ (strOfNums l) (by simp only [List.length_append, List.length_nil]; omega) (by rw [strOf_len]; omega)) ?_
  have e2 : ([] ++ putN (clip a) ++ putN (clip b) ++ putN (clip c) ++ putN (clip (dead d)) ++ putN (clip (strOfNums l).size) ++ bytesOf (strOfNums l)) = fileBytes a b c d l := by
   rw [strOf_len, bytesOf_strOf l hb, fileBytes, List.nil_append]
  rw [e2]
  refine Ev.bind (crc_ev _ (by rw [List.length_append] at hlen; omega) (fileBytes_range a b c d l hb)).1 ?_
  refine Ev.some_bind ?_
  refine Ev.pos (by unfold crc4 at hlen; rw [List.length_append] at hlen; omega) (Ev.now _)
 ·refine Ev.neg h ?_
  unfold putFile
  rw [if_neg h]
  exact Ev.now _
theorem addStamp_ev (l : List Int) (a b c : Int) (d : Bool) (hl : l.length ≤ 1000) : Ev (fun k => impl_addStamp.f k l a b c d) (l ++ putN (clip a) ++ putN (clip b) ++ putN (clip c) ++ putN (clip (dead d))) := by
 have h1 := putN_len (clip a)
 have h2 := putN_len (clip b)
 have h3 := putN_len (clip c)
 have g1 := clip_le a
 have g2 := clip_le b
 have g3 := clip_le c
 simp only [impl_addStamp.f]
 refine Ev.bind (addNum_ev l a (by omega)) ?_
 refine Ev.bind (addNum_ev _ b (by rw [List.length_append]; omega)) ?_
 refine Ev.bind (addNum_ev _ c (by rw [List.length_append, List.length_append]; omega)) ?_
 refine Ev.got (a := dead d) (by unfold impl_bit.f dead; cases d <;> rfl) ?_
 refine Ev.bind (addNum_ev _ (dead d) (by simp only [List.length_append]; omega)) ?_
 exact Ev.now _
theorem impl_putFile_ev (a b c : Int) (d : Bool) (l : List Int) (hb : ∀ x ∈ l, 0 ≤ x ∧ x ≤ 255) : Ev (fun k => impl_PutFile.f k a b c d l) (putFile a b c d l) := by
 have hlen := putFile_len a b c d l
 simp only [impl_PutFile.f]
 refine Ev.got (fileOk_eq a b c d l).2 ?_
 by_cases h : fileOk a b c d l = true
 ·have hl := fileOk_le h
  have e1 : putFile a b c d l = fileBytes a b c d l ++ crc4 (crcOf (fileBytes a b c d l)) := by unfold putFile; rw [if_pos h]
  rw [e1] at hlen ⊢
  have h1 := putN_len (clip a)
  have h2 := putN_len (clip b)
  have h3 := putN_len (clip c)
  have h4 := putN_len (clip (dead d))
  have g1 := clip_le a
  have g2 := clip_le b
  have g3 := clip_le c
  have g4 := clip_le (dead d)
  refine Ev.pos h ?_
  refine Ev.bind (addStamp_ev [] a b c d (by simp)) ?_
  refine Ev.bind (addText_ev _ (strOfNums l) (by simp only [List.length_append, List.length_nil]; omega) (by rw [strOf_len]; omega)) ?_
  have e2 : ([] ++ putN (clip a) ++ putN (clip b) ++ putN (clip c) ++ putN (clip (dead d)) ++ putN (clip (strOfNums l).size) ++ bytesOf (strOfNums l)) = fileBytes a b c d l := by
   rw [strOf_len, bytesOf_strOf l hb, fileBytes, List.nil_append]
  rw [e2]
  refine Ev.bind (crc_ev _ (by rw [List.length_append] at hlen; omega) (fileBytes_range a b c d l hb)).2 ?_
  refine Ev.some_bind ?_
  refine Ev.pos (by unfold crc4 at hlen; rw [List.length_append] at hlen; omega) (Ev.now _)
 ·refine Ev.neg h ?_
  unfold putFile
  rw [if_neg h]
  exact Ev.now _
theorem p128_s (j : Nat) : p128 (j + 1) = 128 * p128 j := by unfold p128; rw [Int.pow_succ, Int.mul_comm]
theorem p128_pos (j : Nat) : 0 ≤ p128 j := by unfold p128; exact Int.pow_nonneg (by decide)
theorem gnum_back (m : Nat) : ∀ (d j : Nat) (n : Int) (rest : List Int), m < 128 ^ d → 0 ≤ n → n + (m : Int) * p128 j ≤ 1000000000 → (j = 0 ∨ 0 < m) → 0 < d → gnum d (putN m ++ rest) j n = some (n + (m : Int) * p128 j, j + (putN m).length) := by
 induction m using Nat.strongRecOn with
 | _ m ih =>
  intro d j n rest hm h0 h1 hj hd
  obtain ⟨d, rfl⟩ : ∃ e, d = e + 1 := ⟨d - 1, by omega⟩
  have hp := p128_pos j
  by_cases h : 127 < m
  ·rw [putN.eq_1 m, dif_pos h]
   have e1 : (((m % 128 + 128 : Nat) : Int)) % 128 = ((m % 128 : Nat) : Int) := by omega
   have e3 : n + ((m % 128 : Nat) : Int) * p128 j + ((m / 128 : Nat) : Int) * p128 (j + 1) = n + (m : Int) * p128 j := by
    rw [p128_s]
    have : (m : Int) = ((m % 128 : Nat) : Int) + 128 * ((m / 128 : Nat) : Int) := by omega
    rw [this, Int.add_mul, ← Int.mul_assoc, Int.mul_comm ((m / 128 : Nat) : Int) 128, Int.add_assoc]
   have hd2 : 0 < d := by
    rcases Nat.eq_zero_or_pos d with e | e
    ·subst e; rw [Nat.zero_add, Nat.pow_one] at hm; omega
    ·exact e
   have hi := ih (m / 128) (by omega) d (j + 1) (n + ((m % 128 : Nat) : Int) * p128 j) rest (by rw [Nat.pow_succ] at hm; exact Nat.div_lt_of_lt_mul (by rw [Nat.mul_comm]; exact hm)) (Int.add_nonneg h0 (Int.mul_nonneg (by omega) hp)) (by rw [e3]; exact h1) (Or.inr (by omega)) hd2
   rw [List.cons_append, gnum, if_pos (by omega), e1, hi, e3, List.length_cons]
   congr 2
   omega
  ·rw [putN.eq_1 m, dif_neg h]
   have e1 : (m : Int) % 128 = m := by omega
   rw [List.cons_append, gnum, if_neg (by omega), e1, if_neg (by omega), if_neg (by omega)]
   rfl
theorem putN_ne (m : Nat) : putN m ≠ [] := by
 rw [putN]; split <;> simp
theorem getNum_back (b rest : List Int) (m : Nat) (hm : m ≤ 1000000000) : getNum (b ++ putN m ++ rest) (b.length : Int) = ((m : Int), ((b.length + (putN m).length : Nat) : Int), true) := by
 have hl : 0 < (putN m).length := List.length_pos_iff.2 (putN_ne m)
 have e : (b ++ putN m ++ rest).drop ((b.length : Int)).toNat = putN m ++ rest := by
  rw [Int.toNat_natCast, List.append_assoc, List.drop_left]
 have g := gnum_back m 5 0 0 rest (by omega) (by omega) (by rw [p128_0]; omega) (Or.inl rfl) (by omega)
 rw [getNum, if_pos (by rw [List.length_append, List.length_append]; omega), e, g]
 simp only [p128_0]
 rw [show (0 : Int) + (m : Int) * 1 = m by omega, show ((b.length : Int) + ((0 + (putN m).length : Nat) : Int)) = ((b.length + (putN m).length : Nat) : Int) by omega]
theorem clip_nat (n : Nat) (h : n ≤ 1000000000) : clip (n : Int) = n := by
 unfold clip; rw [if_neg (by omega), if_neg (by omega), Int.toNat_natCast]
theorem getNum_pos (b : List Int) (p : Int) (hb : ∀ x ∈ b, 0 ≤ x ∧ x ≤ 255) : 0 ≤ (getNum b p).2.1 ∧ (getNum b p).2.1 ≤ b.length ∧ 0 ≤ (getNum b p).1 ∧ (getNum b p).1 ≤ 1000000000 := by
 by_cases h : (getNum b p).2.2 = true
 ·have := getNum_in b p hb h; omega
 ·unfold getNum at h ⊢
  by_cases hp : 0 ≤ p ∧ p < (b.length : Int)
  ·rw [if_pos hp] at h ⊢
   cases hg : gnum 5 (b.drop p.toNat) 0 0 with
   | none => simp only; omega
   | some vm => rw [hg] at h; exact absurd rfl h
  ·rw [if_neg hp]; simp only; omega
theorem getText_in (b : List Int) (p : Int) (hb : ∀ x ∈ b, 0 ≤ x ∧ x ≤ 255) : 0 ≤ (getText b p).2.1 ∧ (getText b p).2.1 ≤ b.length ∧ (getText b p).1.size ≤ b.length := by
 have hn := getNum_pos b p hb
 unfold getText
 split
 ·split
  ·simp only
   refine ⟨by omega, by omega, ?_⟩
   show (#[] : Array UInt8).size ≤ _
   simp
  ·simp only
   refine ⟨by omega, by omega, ?_⟩
   rw [strOf_len, List.length_drop, List.length_take]
   omega
 ·simp only
  refine ⟨by omega, by omega, ?_⟩
  show (#[] : Array UInt8).size ≤ _
  simp
theorem putFile_range (a b c : Int) (d : Bool) (l : List Int) (hb : ∀ x ∈ l, 0 ≤ x ∧ x ≤ 255) : ∀ x ∈ putFile a b c d l, 0 ≤ x ∧ x ≤ 255 := by
 intro x hx
 unfold putFile at hx
 split at hx
 ·rcases List.mem_append.1 hx with hx | hx
  ·exact fileBytes_range a b c d l hb x hx
  ·unfold crc4 at hx
   simp only [List.mem_cons, List.not_mem_nil, or_false] at hx
   omega
 ·cases hx
theorem str_iff (p b : List Int) (hp : ∀ x ∈ p, 0 ≤ x ∧ x ≤ 255) (hb : ∀ x ∈ b, 0 ≤ x ∧ x ≤ 255) : (strOfNums p).toList = (strOfNums b).toList ↔ p = b := by
 refine ⟨fun h => ?_, fun h => by rw [h]⟩
 have e := str_back2 h
 rw [← bytesOf_strOf p hp, ← bytesOf_strOf b hb, e]
def g1 (b : List Int) := getNum b 0
def g2 (b : List Int) := getNum b (g1 b).2.1
def g3 (b : List Int) := getNum b (g2 b).2.1
def g4 (b : List Int) := getNum b (g3 b).2.1
def tx (b : List Int) := getText b (g4 b).2.1
def theFile (b : List Int) : List Int := putFile (g1 b).1 (g2 b).1 (g3 b).1 ((g4 b).1 == 1) (bytesOf (tx b).1)
def goodB (b : List Int) : Bool := (g1 b).2.2 && ((g2 b).2.2 && ((g3 b).2.2 && ((g4 b).2.2 && ((tx b).2.2 && (decide ((g4 b).1 ≤ 1) && decide (theFile b = b))))))
def getFile (b : List Int) : Int × Int × Int × Bool × List Int × Bool := if goodB b = true then ((g1 b).1, (g2 b).1, (g3 b).1, ((g4 b).1 == 1), bytesOf (tx b).1, true) else (0, 0, 0, false, [], false)
theorem goodB_iff (b : List Int) : goodB b = true ↔ (g1 b).2.2 = true ∧ (g2 b).2.2 = true ∧ (g3 b).2.2 = true ∧ (g4 b).2.2 = true ∧ (tx b).2.2 = true ∧ (g4 b).1 ≤ 1 ∧ theFile b = b := by
 unfold goodB
 simp only [Bool.and_eq_true, decide_eq_true_eq]
theorem five (n1 n2 n3 n4 n5 : Nat) (h1 : n1 ≤ 1000000000) (h2 : n2 ≤ 1000000000) (h3 : n3 ≤ 1000000000) (h4 : n4 ≤ 1000000000) (h5 : n5 ≤ 1000000000) (rest b : List Int) (hb : b = putN n1 ++ putN n2 ++ putN n3 ++ putN n4 ++ putN n5 ++ rest) :
  g1 b = ((n1 : Int), ((putN n1).length : Int), true) ∧ g2 b = ((n2 : Int), ((putN n1 ++ putN n2).length : Int), true) ∧ g3 b = ((n3 : Int), ((putN n1 ++ putN n2 ++ putN n3).length : Int), true) ∧ g4 b = ((n4 : Int), ((putN n1 ++ putN n2 ++ putN n3 ++ putN n4).length : Int), true) ∧ getNum b (g4 b).2.1 = ((n5 : Int), ((putN n1 ++ putN n2 ++ putN n3 ++ putN n4 ++ putN n5).length : Int), true) := by
 have q1 := getNum_back [] (putN n2 ++ putN n3 ++ putN n4 ++ putN n5 ++ rest) n1 h1
 have q2 := getNum_back (putN n1) (putN n3 ++ putN n4 ++ putN n5 ++ rest) n2 h2
 have q3 := getNum_back (putN n1 ++ putN n2) (putN n4 ++ putN n5 ++ rest) n3 h3
 have q4 := getNum_back (putN n1 ++ putN n2 ++ putN n3) (putN n5 ++ rest) n4 h4
 have q5 := getNum_back (putN n1 ++ putN n2 ++ putN n3 ++ putN n4) rest n5 h5
 have e1 : [] ++ putN n1 ++ (putN n2 ++ putN n3 ++ putN n4 ++ putN n5 ++ rest) = b := by rw [hb]; simp only [List.nil_append, List.append_assoc]
 have e2 : putN n1 ++ putN n2 ++ (putN n3 ++ putN n4 ++ putN n5 ++ rest) = b := by rw [hb]; simp only [List.append_assoc]
 have e3 : putN n1 ++ putN n2 ++ putN n3 ++ (putN n4 ++ putN n5 ++ rest) = b := by rw [hb]; simp only [List.append_assoc]
 have e4 : putN n1 ++ putN n2 ++ putN n3 ++ putN n4 ++ (putN n5 ++ rest) = b := by rw [hb]; simp only [List.append_assoc]
 rw [e1] at q1
 rw [e2] at q2
 rw [e3] at q3
 rw [e4] at q4
 rw [← hb] at q5
 have f1 : g1 b = ((n1 : Int), ((putN n1).length : Int), true) := by unfold g1; exact q1.trans (by simp)
 have f2 : g2 b = ((n2 : Int), ((putN n1 ++ putN n2).length : Int), true) := by unfold g2; rw [f1]; exact q2.trans (by rw [List.length_append])
 have f3 : g3 b = ((n3 : Int), ((putN n1 ++ putN n2 ++ putN n3).length : Int), true) := by unfold g3; rw [f2]; exact q3.trans (by rw [List.length_append (bs := putN n3)])
 have f4 : g4 b = ((n4 : Int), ((putN n1 ++ putN n2 ++ putN n3 ++ putN n4).length : Int), true) := by unfold g4; rw [f3]; exact q4.trans (by rw [List.length_append (bs := putN n4)])
 exact ⟨f1, f2, f3, f4, by rw [f4]; exact q5.trans (by rw [List.length_append (bs := putN n5)])⟩
theorem getNum_nil (p : Int) : (getNum [] p).2.2 = false := by
 unfold getNum
 rw [if_neg (by simp only [List.length_nil]; omega)]
theorem good_file (b : List Int) (h : goodB b = true) : fileOk (g1 b).1 (g2 b).1 (g3 b).1 ((g4 b).1 == 1) (bytesOf (tx b).1) = true := by
 obtain ⟨h1, _, _, _, _, _, h7⟩ := (goodB_iff b).1 h
 unfold theFile at h7
 by_cases c : fileOk (g1 b).1 (g2 b).1 (g3 b).1 ((g4 b).1 == 1) (bytesOf (tx b).1) = true
 ·exact c
 ·have e : b = [] := by
   rw [← h7, putFile, if_neg c]
  rw [e] at h1
  unfold g1 at h1
  rw [getNum_nil] at h1
  cases h1
theorem good_len (b : List Int) (h : goodB b = true) : (tx b).2.1 + 4 = (b.length : Int) := by
 have hok := good_file b h
 obtain ⟨_, _, _, _, h5, _, h7⟩ := (goodB_iff b).1 h
 have hl := fileOk_le hok
 unfold theFile at h7
 rw [putFile, if_pos hok] at h7
 have h8 := h7
 rw [fileBytes, List.append_assoc _ (bytesOf (tx b).1)] at h8
 have hc : clip ((bytesOf (tx b).1).length : Int) = (bytesOf (tx b).1).length := clip_nat _ (by omega)
 obtain ⟨_, _, _, f4, f5⟩ := five _ _ _ _ _ (clip_le _) (clip_le _) (clip_le _) (clip_le _) (clip_le _) _ b h8.symm
 have e2 : (tx b).2.1 = (getNum b (g4 b).2.1).2.1 + (getNum b (g4 b).2.1).1 := by
  unfold tx getText at h5 ⊢
  split at h5
  ·split at h5
   ·cases h5
   ·rename_i c1 c2
    rw [if_pos c1, if_neg c2]
  ·cases h5
 have e3 := congrArg List.length h7
 rw [List.length_append, fileBytes, List.length_append] at e3
 have e4 : (crc4 (crcOf (fileBytes (g1 b).1 (g2 b).1 (g3 b).1 ((g4 b).1 == 1) (bytesOf (tx b).1)))).length = 4 := rfl
 rw [fileBytes] at e4
 rw [e2, f5]
 simp only
 rw [hc] at *
 omega
theorem l8Get_ev (b : List Int) (hN : b.length ≤ 100000000000) (hb : ∀ x ∈ b, 0 ≤ x ∧ x ≤ 255) : Ev (fun k => spec_l8GetStamp.f k b 0) ((g1 b).1, (g2 b).1, (g3 b).1, (g3 b).2.1, (g1 b).2.2 && ((g2 b).2.2 && (g3 b).2.2)) := by
 have p1 := getNum_pos b 0 hb
 have p2 := getNum_pos b (g1 b).2.1 hb
 simp only [spec_l8GetStamp.f]
 refine Ev.bind (getNum_ev b (by omega) hb 0 (by omega) (by omega)).1 ?_
 refine Ev.bind (getNum_ev b (by omega) hb (g1 b).2.1 (by unfold g1; omega) (by unfold g1; omega)).1 ?_
 refine Ev.bind (getNum_ev b (by omega) hb (g2 b).2.1 (by unfold g2; omega) (by unfold g2; omega)).1 ?_
 show Ev (fun k => if (g1 b).2.2 = true then (if (g2 b).2.2 = true then some ((g1 b).1, (g2 b).1, (g3 b).1, (g3 b).2.1, (g3 b).2.2) else some ((g1 b).1, (g2 b).1, (g3 b).1, (g3 b).2.1, false)) else some ((g1 b).1, (g2 b).1, (g3 b).1, (g3 b).2.1, false)) _
 by_cases c1 : (g1 b).2.2 = true
 ·rw [c1]
  by_cases c2 : (g2 b).2.2 = true
  ·rw [c2]
   exact Ev.pos rfl (Ev.pos rfl (Ev.now _))
  ·rw [Bool.eq_false_iff.mpr c2]
   exact Ev.pos rfl (Ev.neg (by simp) (Ev.now _))
 ·rw [Bool.eq_false_iff.mpr c1]
  exact Ev.neg (by simp) (Ev.now _)
theorem getFile_no (b : List Int) (h : ¬ goodB b = true) : getFile b = (0, 0, 0, false, [], false) := if_neg h
theorem spec_getFile_ev (b : List Int) (hN : b.length ≤ 100000000000) (hb : ∀ x ∈ b, 0 ≤ x ∧ x ≤ 255) : Ev (fun k => spec_GetFile.f k b) (getFile b) := by
 have p3 := getNum_pos b (g2 b).2.1 hb
 have p4 := getNum_pos b (g3 b).2.1 hb
 have p5 := getText_in b (g4 b).2.1 hb
 have iff := goodB_iff b
 simp only [spec_GetFile.f]
 refine Ev.bind (l8Get_ev b hN hb) ?_
 refine Ev.bind (getNum_ev b (by omega) hb (g3 b).2.1 (by unfold g3; omega) (by unfold g3; omega)).1 ?_
 refine Ev.bind (getText_ev b (by omega) hb (g4 b).2.1 (by unfold g4; omega) (by unfold g4; omega)).1 ?_
 have bad : ¬ goodB b = true → Ev (fun k => spec_GetFile.j0 k b (g4 b).1 (tx b).1 true (g1 b).1 (g2 b).1 (g3 b).1) (getFile b) := fun h => by
  rw [getFile_no b h]
  exact Ev.step (f := fun _ => some (0, 0, 0, false, [], false)) (fun k => by rw [spec_GetFile.j0, if_pos rfl]) (Ev.now _)
 show Ev (fun k => if ((g1 b).2.2 && ((g2 b).2.2 && (g3 b).2.2)) = true then (if (g4 b).2.2 = true then (if (tx b).2.2 = true then (if (g4 b).1 > 1 then spec_GetFile.j0 k b (g4 b).1 (tx b).1 true (g1 b).1 (g2 b).1 (g3 b).1 else spec_GetFile.j0 k b (g4 b).1 (tx b).1 ((wrap64 ((tx b).2.1 + 4)) != (b.length : Int)) (g1 b).1 (g2 b).1 (g3 b).1) else spec_GetFile.j0 k b (g4 b).1 (tx b).1 true (g1 b).1 (g2 b).1 (g3 b).1) else spec_GetFile.j0 k b (g4 b).1 (tx b).1 true (g1 b).1 (g2 b).1 (g3 b).1) else spec_GetFile.j0 k b (g4 b).1 (tx b).1 true (g1 b).1 (g2 b).1 (g3 b).1) _
 by_cases c1 : ((g1 b).2.2 && ((g2 b).2.2 && (g3 b).2.2)) = true
 case neg =>
  refine Ev.neg c1 (bad fun h => c1 ?_)
  obtain ⟨q1, q2, q3, _⟩ := iff.1 h
  rw [q1, q2, q3]; rfl
 refine Ev.pos c1 ?_
 by_cases c2 : (g4 b).2.2 = true
 case neg => exact Ev.neg c2 (bad fun h => c2 (iff.1 h).2.2.2.1)
 refine Ev.pos c2 ?_
 by_cases c3 : (tx b).2.2 = true
 case neg => exact Ev.neg c3 (bad fun h => c3 (iff.1 h).2.2.2.2.1)
 refine Ev.pos c3 ?_
 by_cases c4 : (g4 b).1 > 1
 ·exact Ev.pos c4 (bad fun h => by have := (iff.1 h).2.2.2.2.2.1; omega)
 refine Ev.neg c4 ?_
 have w : wrap64 ((tx b).2.1 + 4) = (tx b).2.1 + 4 := w64 (by unfold tx; omega) (by unfold tx; omega)
 rw [w]
 by_cases c5 : (tx b).2.1 + 4 = (b.length : Int)
 case neg =>
  have e : ((tx b).2.1 + 4 != (b.length : Int)) = true := bne_iff_ne.mpr c5
  rw [e]
  exact bad fun h => c5 (good_len b h)
 have e : ((tx b).2.1 + 4 != (b.length : Int)) = false := bne_eq_false_iff_eq.mpr c5
 rw [e]
 have hrl := bytesOf_range (tx b).1
 have hsz : (tx b).1.size ≤ b.length := p5.2.2
 refine Ev.step (f := fun k => (some (([] : List Int) : List Int)).bind fun y237 => (if y237.length + (tx b).1.size < 140737488355328 then ((some (y237 ++ bytesOf (tx b).1 : List Int)).bind fun y240 => ((spec_FileOk.f (g1 b).1 (g2 b).1 (g3 b).1 ((g4 b).1 == 1) y240).bind fun t244 => (if t244 = true then ((spec_PutFile.f k (g1 b).1 (g2 b).1 (g3 b).1 ((g4 b).1 == 1) y240).bind fun t245 => (if (strOfNums t245).toList = (strOfNums b).toList then (some ((g1 b).1, (g2 b).1, (g3 b).1, ((g4 b).1 == 1), y240, true)) else (some (0, 0, 0, false, ([] : List Int), false)))) else (some (0, 0, 0, false, ([] : List Int), false))))) else none)) (fun k => by rw [spec_GetFile.j0, if_neg (by decide)]) ?_
 refine Ev.some_bind (Ev.pos (by rw [List.length_nil]; omega) (Ev.some_bind ?_))
 rw [List.nil_append]
 refine Ev.got (fileOk_eq _ _ _ _ _).1 ?_
 simp only [Bool.and_eq_true] at c1
 by_cases c6 : fileOk (g1 b).1 (g2 b).1 (g3 b).1 ((g4 b).1 == 1) (bytesOf (tx b).1) = true
 ·refine Ev.pos c6 (Ev.bind (spec_putFile_ev _ _ _ _ _ hrl) ?_)
  have hs := str_iff (theFile b) b (putFile_range _ _ _ _ _ hrl) hb
  by_cases c7 : theFile b = b
  ·refine Ev.pos (hs.2 c7) ?_
   rw [getFile, if_pos (iff.2 ⟨c1.1, c1.2.1, c1.2.2, c2, c3, by omega, c7⟩)]
   exact Ev.now _
  ·refine Ev.neg (fun q => c7 (hs.1 q)) ?_
   rw [getFile_no b (fun q => c7 (iff.1 q).2.2.2.2.2.2)]
   exact Ev.now _
 ·refine Ev.neg c6 ?_
  rw [getFile_no b (fun q => c6 (good_file b q))]
  exact Ev.now _
def rdN (b : List Int) (p : Int) (bad : Bool) : Int × Int × Bool := if bad = true then (0, p, true) else if (getNum b p).2.2 = true then ((getNum b p).1, (getNum b p).2.1, false) else (0, p, true)
theorem rdN_bad (b : List Int) (p : Int) : rdN b p true = (0, p, true) := rfl
theorem rdN_ev (b : List Int) (hN : b.length ≤ 100000000000) (hb : ∀ x ∈ b, 0 ≤ x ∧ x ≤ 255) (p : Int) (h0 : 0 ≤ p) (h1 : p ≤ b.length) (bad : Bool) : Ev (fun k => impl_reader_num.f k b p bad) (rdN b p bad) ∧ 0 ≤ (rdN b p bad).2.1 ∧ (rdN b p bad).2.1 ≤ b.length := by
 have q := getNum_pos b p hb
 have e := (getNum_ev b (by omega) hb p (by omega) (by omega)).2
 simp only [impl_reader_num.f]
 cases bad with
 | true => exact ⟨Ev.bind e (Ev.pos rfl (Ev.now _)), h0, h1⟩
 | false =>
  unfold rdN
  rw [if_neg (by decide)]
  by_cases c : (getNum b p).2.2 = true
  ·rw [if_pos c]
   exact ⟨Ev.bind e (Ev.neg (by simp) (Ev.pos c (Ev.now _))), by simp only; omega, by simp only; omega⟩
  ·rw [if_neg c]
   exact ⟨Ev.bind e (Ev.neg (by simp) (Ev.neg c (Ev.now _))), h0, h1⟩
theorem rstamp_ev (b : List Int) (hN : b.length ≤ 100000000000) (hb : ∀ x ∈ b, 0 ≤ x ∧ x ≤ 255) : ∃ v1 v2 v3 d p bad, Ev (fun k => impl_reader_stamp.f k b 0 false) (v1, v2, v3, (d == 1), p, bad) ∧ 0 ≤ p ∧ p ≤ b.length ∧
  (bad = false → (g1 b).2.2 = true ∧ (g2 b).2.2 = true ∧ (g3 b).2.2 = true ∧ (g4 b).2.2 = true ∧ (g4 b).1 ≤ 1 ∧ v1 = (g1 b).1 ∧ v2 = (g2 b).1 ∧ v3 = (g3 b).1 ∧ d = (g4 b).1 ∧ p = (g4 b).2.1) ∧
  (bad = true → ¬ goodB b = true) := by
 have iff := goodB_iff b
 obtain ⟨e1, a1, b1⟩ := rdN_ev b hN hb 0 (by omega) (by omega) false
 obtain ⟨e2, a2, b2⟩ := rdN_ev b hN hb (rdN b 0 false).2.1 a1 b1 (rdN b 0 false).2.2
 obtain ⟨e3, a3, b3⟩ := rdN_ev b hN hb (rdN b (rdN b 0 false).2.1 (rdN b 0 false).2.2).2.1 a2 b2 (rdN b (rdN b 0 false).2.1 (rdN b 0 false).2.2).2.2
 obtain ⟨e4, a4, b4⟩ := rdN_ev b hN hb _ a3 b3 (rdN b (rdN b (rdN b 0 false).2.1 (rdN b 0 false).2.2).2.1 (rdN b (rdN b 0 false).2.1 (rdN b 0 false).2.2).2.2).2.2
 have c1 : rdN b 0 false = if (g1 b).2.2 = true then ((g1 b).1, (g1 b).2.1, false) else (0, 0, true) := by
  unfold rdN g1; rw [if_neg (by decide)]
 have step : ∀ (p : Int) (g : Int × Int × Bool), getNum b p = g → rdN b p false = if g.2.2 = true then (g.1, g.2.1, false) else (0, p, true) := fun p g e => by
  unfold rdN; rw [if_neg (by decide), e]
 simp only [impl_reader_stamp.f]
 by_cases k1 : (g1 b).2.2 = true
 case neg =>
  rw [if_neg k1] at c1
  rw [c1] at e1 e2 e3 e4
  simp only [rdN_bad] at e2 e3 e4
  refine ⟨0, 0, 0, 0, 0, true, Ev.bind e1 (Ev.bind e2 (Ev.bind e3 (Ev.bind e4 (Ev.pos rfl (Ev.now _))))), by omega, by omega, fun h => (by cases h), fun _ h => k1 (iff.1 h).1⟩
 rw [if_pos k1] at c1
 rw [c1] at e1 e2 e3 e4 a1 b1 a2 b2 a3 b3
 have c2 := step (g1 b).2.1 (g2 b) rfl
 by_cases k2 : (g2 b).2.2 = true
 case neg =>
  rw [if_neg k2] at c2
  simp only [c2] at e2 e3 e4
  simp only [rdN_bad] at e3 e4
  refine ⟨_, 0, 0, 0, _, true, Ev.bind e1 (Ev.bind e2 (Ev.bind e3 (Ev.bind e4 (Ev.pos rfl (Ev.now _))))), a1, b1, fun h => (by cases h), fun _ h => k2 (iff.1 h).2.1⟩
 rw [if_pos k2] at c2
 simp only [c2] at e2 e3 e4 a2 b2 a3 b3
 have c3 := step (g2 b).2.1 (g3 b) rfl
 by_cases k3 : (g3 b).2.2 = true
 case neg =>
  rw [if_neg k3] at c3
  simp only [c3] at e3 e4
  simp only [rdN_bad] at e4
  refine ⟨_, _, 0, 0, _, true, Ev.bind e1 (Ev.bind e2 (Ev.bind e3 (Ev.bind e4 (Ev.pos rfl (Ev.now _))))), a2, b2, fun h => (by cases h), fun _ h => k3 (iff.1 h).2.2.1⟩
 rw [if_pos k3] at c3
 simp only [c3] at e3 e4 a3 b3
 have c4 := step (g3 b).2.1 (g4 b) rfl
 by_cases k4 : (g4 b).2.2 = true
 case neg =>
  rw [if_neg k4] at c4
  simp only [c4] at e4
  refine ⟨_, _, _, 0, _, true, Ev.bind e1 (Ev.bind e2 (Ev.bind e3 (Ev.bind e4 (Ev.pos rfl (Ev.now _))))), a3, b3, fun h => (by cases h), fun _ h => k4 (iff.1 h).2.2.2.1⟩
 rw [if_pos k4] at c4
 simp only [c4] at e4
 have p4 := getNum_pos b (g3 b).2.1 hb
 by_cases k5 : (g4 b).1 > 1
 ·refine ⟨(g1 b).1, (g2 b).1, (g3 b).1, (g4 b).1, (g4 b).2.1, true, Ev.bind e1 (Ev.bind e2 (Ev.bind e3 (Ev.bind e4 (Ev.neg (by simp) ?_)))), by unfold g4; omega, by unfold g4; omega, fun h => (by cases h), fun _ h => by have := (iff.1 h).2.2.2.2.2.1; omega⟩
  rw [decide_eq_true k5]
  exact Ev.now _
 ·refine ⟨(g1 b).1, (g2 b).1, (g3 b).1, (g4 b).1, (g4 b).2.1, false, Ev.bind e1 (Ev.bind e2 (Ev.bind e3 (Ev.bind e4 (Ev.neg (by simp) ?_)))), by unfold g4; omega, by unfold g4; omega, fun _ => ⟨k1, k2, k3, k4, by omega, rfl, rfl, rfl, rfl, rfl⟩, fun h => (by cases h)⟩
  rw [decide_eq_false k5]
  exact Ev.now _
theorem impl_getFile_ev (b : List Int) (hN : b.length ≤ 100000000000) (hb : ∀ x ∈ b, 0 ≤ x ∧ x ≤ 255) : Ev (fun k => impl_GetFile.f k b) (getFile b) := by
 have iff := goodB_iff b
 obtain ⟨v1, v2, v3, d, p, bad, e1, h0, h1, hgood, hbad⟩ := rstamp_ev b hN hb
 have et := (getText_ev b (by omega) hb p (by omega) (by omega)).2
 have tin := getText_in b p hb
 have hfin : ∀ (s : ByteArray) (q : Int) (z : Bool), s.size ≤ b.length → Ev (fun k => impl_reader_text.f k b p bad) (s, q, z) → (z = true → ¬ goodB b = true) → (z = false → bad = false ∧ (getText b p).2.2 = true ∧ s = (getText b p).1) → Ev (fun k => impl_GetFile.f k b) (getFile b) := fun s q z hs e2 hz1 hz2 => by
  simp only [impl_GetFile.f]
  have hrl := bytesOf_range s
  refine Ev.bind e1 (Ev.bind e2 (Ev.pos (by show (bytesOf s).length ≤ 9223372036854775807; rw [bytesOf_length]; omega) (Ev.bind (impl_putFile_ev _ _ _ _ _ hrl) ?_)))
  cases z with
  | true =>
   rw [getFile_no b (hz1 rfl)]
   exact Ev.pos rfl (Ev.now _)
  | false =>
   obtain ⟨y1, y2, y3⟩ := hz2 rfl
   obtain ⟨k1, k2, k3, k4, k5, rfl, rfl, rfl, rfl, rfl⟩ := hgood y1
   subst y3
   have hs := str_iff (theFile b) b (putFile_range _ _ _ _ _ (bytesOf_range _)) hb
   refine Ev.neg (by simp) ?_
   show Ev (fun k => if ((theFile b).length : Int) = 0 then some (0, 0, 0, false, ([] : List Int), false) else if (strOfNums (theFile b)).toList = (strOfNums b).toList then some ((g1 b).1, (g2 b).1, (g3 b).1, ((g4 b).1 == 1), bytesOf (tx b).1, true) else some (0, 0, 0, false, ([] : List Int), false)) (getFile b)
   by_cases c7 : theFile b = b
   ·have hg : goodB b = true := iff.2 ⟨k1, k2, k3, k4, y2, k5, c7⟩
    have hne : ¬ ((theFile b).length : Int) = 0 := fun h => by
     rw [c7] at h
     have hbn : b = [] := List.length_eq_zero_iff.1 (by omega)
     rw [hbn] at k1
     unfold g1 at k1
     rw [getNum_nil] at k1
     cases k1
    refine Ev.neg hne (Ev.pos (hs.2 c7) ?_)
    rw [getFile, if_pos hg]
    exact Ev.now _
   ·rw [getFile_no b (fun q => c7 (iff.1 q).2.2.2.2.2.2)]
    by_cases c8 : ((theFile b).length : Int) = 0
    ·exact Ev.pos c8 (Ev.now _)
    ·exact Ev.neg c8 (Ev.neg (fun q => c7 (hs.1 q)) (Ev.now _))
 have hz0 : (⟨#[]⟩ : ByteArray).size ≤ b.length := by show (#[] : Array UInt8).size ≤ _; simp
 cases bad with
 | true =>
  refine hfin _ p true hz0 ?_ (fun _ => hbad rfl) (fun h => (by cases h))
  simp only [impl_reader_text.f]
  exact Ev.bind et (Ev.pos (by trivial) (Ev.now _))
 | false =>
  obtain ⟨k1, k2, k3, k4, k5, _, _, _, _, hp⟩ := hgood rfl
  by_cases c : (getText b p).2.2 = true
  ·refine hfin (getText b p).1 (getText b p).2.1 false tin.2.2 ?_ (fun h => (by cases h)) (fun _ => ⟨rfl, c, rfl⟩)
   simp only [impl_reader_text.f]
   exact Ev.bind et (Ev.neg (by simp) (Ev.pos c (Ev.now _)))
  ·refine hfin _ p true hz0 ?_ (fun _ h => c ?_) (fun h => (by cases h))
   ·simp only [impl_reader_text.f]
    exact Ev.bind et (Ev.neg (by simp) (Ev.neg c (Ev.now _)))
   ·rw [hp]; exact (iff.1 h).2.2.2.2.1
theorem toByteS_l0 (xs : List Int) (hN : xs.length ≤ 4611686018427387904) : ∀ (l : List Int) (i : Nat) (A acc : List Int), xs.drop i = l → A.length = i → acc = A ++ List.replicate l.length 0 → Ev (fun k => laws_toByteS.l0 k xs acc (i : Int)) (A ++ l)
 | [], i, A, acc, h, hA, ha => by
  have h1 := drop_nil' h
  subst ha
  refine Ev.step (f := fun _ => some (A ++ [])) (fun k => ?_) (Ev.now _)
  rw [laws_toByteS.l0, if_neg (by omega)]
  rfl
 | a :: t, i, A, acc, h, hA, ha => by
  obtain ⟨h1, _, h3⟩ := drop_cons' h 0
  have ih := toByteS_l0 xs hN t (i + 1) (A ++ [a]) _ h3 (by simp [hA]) rfl
  subst ha
  have e : (A ++ List.replicate (a :: t).length 0).set ((i : Int)).toNat (rd xs i) = (A ++ [a]) ++ List.replicate t.length 0 := by
   rw [rd_at h, Int.toNat_natCast, ← hA]; exact set_copy A 0 a t.length
  refine Ev.step (f := fun k => laws_toByteS.l0 k xs ((A ++ [a]) ++ List.replicate t.length 0) ((i + 1 : Nat) : Int)) (fun k => ?_) (Ev.eq ih (by simp))
  rw [laws_toByteS.l0, if_pos (by omega), if_pos (by omega), if_pos (by simp only [List.length_append, List.length_replicate, List.length_cons]; omega), e, w64s h1 hN]
theorem toByteS_ev (xs : List Int) (hN : xs.length ≤ 281474976710656) : Ev (fun k => laws_toByteS.f k xs) xs := by
 refine Ev.congr (f := fun k => laws_toByteS.l0 k xs (List.replicate xs.length 0) ((0 : Nat) : Int)) (fun k => ?_) (toByteS_l0 xs (by omega) xs 0 [] _ rfl rfl rfl)
 rw [laws_toByteS.f, if_pos (by omega), if_pos (by omega), Int.toNat_natCast]; rfl
theorem eqByteS_l0 (xs : List Int) (hN : xs.length ≤ 4611686018427387904) : ∀ (l : List Int) (i : Nat), xs.drop i = l → Ev (fun k => laws_eqByteS.l0 k xs xs (i : Int)) true
 | [], i, h => by
  have h1 := drop_nil' h
  refine Ev.step (f := fun _ => some true) (fun k => ?_) (Ev.now _)
  rw [laws_eqByteS.l0, if_neg (by omega)]
 | a :: t, i, h => by
  obtain ⟨h1, _, h3⟩ := drop_cons' h 0
  refine Ev.step (f := fun k => laws_eqByteS.l0 k xs xs ((i + 1 : Nat) : Int)) (fun k => ?_) (eqByteS_l0 xs hN t (i + 1) h3)
  rw [laws_eqByteS.l0, if_pos (by omega), if_pos (by omega), if_pos (by omega), if_pos rfl, w64s h1 hN]
theorem eqByteS_ev (xs : List Int) (hN : xs.length ≤ 4611686018427387904) : Ev (fun k => laws_eqByteS.f k xs xs) true := by
 refine Ev.congr (f := fun k => laws_eqByteS.l0 k xs xs ((0 : Nat) : Int)) (fun k => ?_) (eqByteS_l0 xs hN xs 0 rfl)
 rw [laws_eqByteS.f, if_pos rfl]; rfl
theorem eqFile_ev (a b c : Int) (d : Bool) (l : List Int) (hl : l.length ≤ 281474976710656) : Ev (fun k => laws_eqFile.f k a b c d l a b c d l) true := by
 simp only [laws_eqFile.f, laws_eqStamp.f, if_true, Option.bind_some]
 refine Ev.neg (by simp) ?_
 refine Ev.bind (eqByteS_ev l (by omega)) ?_
 exact Ev.pos rfl (Ev.now _)
def mkB : List Int → Int → List Int
 | [], _ => []
 | _ :: t, c => (c % 256) :: mkB t (c + 1)
theorem markByteS_l0 : ∀ (l : List Int) (i : Nat) (A xs : List Int) (c : Int), xs = A ++ l → A.length = i → 0 ≤ c → c + l.length ≤ 4611686018427387904 → i + l.length ≤ 4611686018427387904 → Ev (fun k => laws_markByteS.l0 k xs c (i : Int)) (c + l.length, A ++ mkB l c)
 | [], i, A, xs, c, h, hA, h0, h1, h2 => by
  subst h
  refine Ev.step (f := fun _ => some (c + ([] : List Int).length, A ++ mkB [] c)) (fun k => ?_) (Ev.now _)
  rw [laws_markByteS.l0, if_neg (by simp; omega)]
  simp [mkB]
 | a :: t, i, A, xs, c, h, hA, h0, h1, h2 => by
  simp only [List.length_cons] at h1 h2
  have ih := markByteS_l0 t (i + 1) (A ++ [c % 256]) _ (c + 1) rfl (by simp [hA]) (by omega) (by omega) (by omega)
  subst h
  have e : (A ++ a :: t).set ((i : Int)).toNat (c % 256) = (A ++ [c % 256]) ++ t := by
   rw [Int.toNat_natCast, ← hA]; exact set_mid A a _ t
  refine Ev.step (f := fun k => laws_markByteS.l0 k ((A ++ [c % 256]) ++ t) (c + 1) ((i + 1 : Nat) : Int)) (fun k => ?_) (Ev.eq ih (by simp [mkB]; omega))
  rw [laws_markByteS.l0, if_pos (by simp; omega), if_pos (by omega), e, w64 (by omega) (by omega), w64s (n := i + 1) (by omega) (by omega)]
theorem markByteS_ev (xs : List Int) (c : Int) (h0 : 0 ≤ c) (h1 : c + xs.length ≤ 4611686018427387904) : Ev (fun k => laws_markByteS.f k xs c) (c + xs.length, mkB xs c) := by
 refine Ev.congr (f := fun k => laws_markByteS.l0 k xs c ((0 : Nat) : Int)) (fun k => rfl) (markByteS_l0 xs 0 [] xs c rfl rfl h0 h1 (by omega))
theorem heldByteS_l0 : ∀ (l : List Int) (i : Nat) (A xs : List Int) (c : Int), xs = A ++ mkB l c → A.length = i → 0 ≤ c → c + l.length ≤ 4611686018427387904 → i + l.length ≤ 4611686018427387904 → Ev (fun k => laws_heldByteS.l0 k xs c (i : Int)) (c + l.length)
 | [], i, A, xs, c, h, hA, h0, h1, h2 => by
  subst h
  refine Ev.step (f := fun _ => some (c + ([] : List Int).length)) (fun k => ?_) (Ev.now _)
  rw [laws_heldByteS.l0, if_neg (by simp [mkB]; omega)]
  simp
 | a :: t, i, A, xs, c, h, hA, h0, h1, h2 => by
  simp only [List.length_cons] at h1 h2
  have ih := heldByteS_l0 t (i + 1) (A ++ [c % 256]) _ (c + 1) rfl (by simp [hA]) (by omega) (by omega) (by omega)
  rw [mkB] at h
  have e : A ++ (c % 256) :: mkB t (c + 1) = (A ++ [c % 256]) ++ mkB t (c + 1) := by simp
  have hr : rd (A ++ (c % 256) :: mkB t (c + 1)) (i : Int) = c % 256 := by rw [← hA]; exact rd_mid _ _ _
  refine Ev.step (f := fun k => laws_heldByteS.l0 k ((A ++ [c % 256]) ++ mkB t (c + 1)) (c + 1) ((i + 1 : Nat) : Int)) (fun k => ?_) (Ev.eq ih (by simp; omega))
  subst h
  rw [laws_heldByteS.l0, if_pos (by simp; omega), if_pos (by omega), if_pos hr, w64 (by omega) (by omega), w64s (n := i + 1) (by omega) (by omega), e]
theorem heldByteS_ev (xs : List Int) (c : Int) (h0 : 0 ≤ c) (h1 : c + xs.length ≤ 4611686018427387904) : Ev (fun k => laws_heldByteS.f k (mkB xs c) c) (c + xs.length) := by
 refine Ev.congr (f := fun k => laws_heldByteS.l0 k (mkB xs c) c ((0 : Nat) : Int)) (fun k => rfl) (heldByteS_l0 xs 0 [] _ c rfl rfl h0 h1 (by omega))
end Go.Proofs.Ytbhllgifciaepaa.PureFnExactGetFile
namespace Go.Proofs.Ytbhllgifciaepaa.Pure
open Go.RowKit Go.Proofs.Ytbhllgifciaepaa.PFnExactGetFile Go.Proofs.YtbhllgifciaepaaW.PrintWords Go.Proofs.YtbhllgifciaepaaW.PrintLast Go.Proofs.YtbhllgifciaepaaW.PrintMore Go.Proofs.Ytbhllgifciaepaa.Base Go.Proofs.Ytbhllgifciaepaa.PureFnExactGetFile
set_option linter.unusedVariables false
attribute [local irreducible] Go.bits IntKind.wrap shl shr
theorem FnExactGetFile (b : List Int) (hb0 : Bytes b) : ∃ k, laws_FnExactGetFile.f k b = some true := by
 by_cases h : (b.length : Int) > 1048576
 ·exact ⟨0, by rw [laws_FnExactGetFile.f, if_pos h]⟩
 have hb := bytes_of_wf hb0.2
 have s1 := spec_getFile_ev b (by omega) hb
 have s2 := impl_getFile_ev b (by omega) hb
 have hl : (getFile b).2.2.2.2.1.length ≤ b.length := by
  unfold getFile
  split
  ·simp only
   rw [bytesOf_length]
   exact (getText_in b _ hb).2.2
  ·simp
 generalize getFile b = F at s1 s2 hl
 obtain ⟨a1, a2, a3, d, l, ok⟩ := F
 simp only at hl
 have e1 := eqFile_ev a1 a2 a3 d l (by omega)
 have m1 : Ev (fun k => laws_markFile.f k a1 a2 a3 d l 1) (1 + l.length, mkB l 1) := by
  simp only [laws_markFile.f]
  exact Ev.bind (markByteS_ev l 1 (by omega) (by omega)) (Ev.now _)
 have q1 : Ev (fun k => laws_heldFile.f k a1 a2 a3 d (mkB l 1) 1) (1 + l.length) := by
  simp only [laws_heldFile.f]
  exact Ev.bind (heldByteS_ev l 1 (by omega) (by omega)) (Ev.neg (by omega) (Ev.now _))
 apply Ev.rounds (g := fun k => laws_FnExactGetFile.f k b)
 simp only [laws_FnExactGetFile.f]
 refine Ev.neg h ?_
 refine Ev.bind (toByteS_ev b (by omega)) (Ev.bind s1 (Ev.bind (toByteS_ev b (by omega)) (Ev.bind s2 (Ev.bind e1 (Ev.pos rfl ?_)))))
 refine Ev.step (fun k => by rw [laws_FnExactGetFile.j0, if_neg (by simp)]) ?_
 refine Ev.bind (toByteS_ev b (by omega)) (Ev.bind (eqByteS_ev b (by omega)) (Ev.pos rfl ?_))
 refine Ev.bind (markByteS_ev b 1 (by omega) (by omega)) (Ev.neg (by first | omega | (simp only; omega)) (Ev.bind e1 (Ev.pos rfl ?_)))
 refine Ev.step (fun k => by rw [laws_FnExactGetFile.j1, if_neg (by simp)]) ?_
 refine Ev.bind m1 (Ev.bind q1 (Ev.neg (by first | omega | (simp only; omega)) (Ev.pos rfl ?_)))
 refine Ev.bind (toByteS_ev b (by omega)) (Ev.bind s2 (Ev.bind e1 (Ev.pos rfl ?_)))
 refine Ev.step (fun k => by rw [laws_FnExactGetFile.j2, if_neg (by simp)]) ?_
 exact Ev.bind q1 (Ev.neg (by first | omega | (simp only; omega)) (Ev.pos rfl (Ev.now _)))
end Go.Proofs.Ytbhllgifciaepaa.Pure
