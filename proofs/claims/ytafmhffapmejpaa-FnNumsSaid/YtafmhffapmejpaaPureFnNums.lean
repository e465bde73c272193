/- The pure statement of the law FnNums: what the printed functions compute answers as the law says. -/
import Derived.Test.YtafmhffapmejpaaPFnNumsx3
import Derived.Test.YtafmhffapmejpaaBase
namespace Go.Proofs.Ytafmhffapmejpaa.PureFnNums
open Go.RowKit Go.Proofs.Ytafmhffapmejpaa.PFnNums Go.Proofs.YtafmhffapmejpaaW.PrintWords Go.Proofs.YtafmhffapmejpaaW.PrintLast Go.Proofs.YtafmhffapmejpaaW.PrintMore Go.Proofs.Ytafmhffapmejpaa.Base
set_option linter.unusedVariables false
attribute [local irreducible] Go.bits IntKind.wrap shl shr
/-! plain definitions of functions that the law does not reach, for lemmas shared with others -/
mutual
def spec_GetNum.l0 : Nat → List Int → Int → Int → Int → Option (Int × Int × Bool)
  | 0, _, _, _, _ => none
  | k + 1, x0, x1, x7, x8 => if x8 < 5 then (if x1 ≥ 0 then (if x1 < (x0.length : Int) then (spec_GetNum.j1 k x0 x1 x7 x8 (decide ((wrap64 (x1 + x8)) < (x0.length : Int)))) else (spec_GetNum.j1 k x0 x1 x7 x8 false)) else (spec_GetNum.j1 k x0 x1 x7 x8 false)) else (spec_GetNum.j1 k x0 x1 x7 x8 false)
def spec_GetNum.j1 : Nat → List Int → Int → Int → Int → Bool → Option (Int × Int × Bool)
  | 0, _, _, _, _, _ => none
  | k + 1, x0, x1, x7, x8, x29 => if x29 = true then (if 0 ≤ (wrap64 (x1 + x8)) then (if (wrap64 (x1 + x8)) < (x0.length : Int) then (if 0 ≤ (IntKind.u64.wrap (wrap64 (7 * x8))) then (if (wrap64 (rd x0 (wrap64 (x1 + x8)))) > 127 then (spec_GetNum.l0 k x0 x1 (Go.bits .or .i64 x7 (shl .i64 (Go.bits .and .i64 (wrap64 (rd x0 (wrap64 (x1 + x8)))) 127) (IntKind.u64.wrap (wrap64 (7 * x8))))) (wrap64 (x8 + 1))) else (if x8 > 0 then (if (wrap64 (rd x0 (wrap64 (x1 + x8)))) = 0 then (some (0, 0, false)) else (if (Go.bits .or .i64 x7 (shl .i64 (Go.bits .and .i64 (wrap64 (rd x0 (wrap64 (x1 + x8)))) 127) (IntKind.u64.wrap (wrap64 (7 * x8))))) > 1000000000 then (some (0, 0, false)) else (some (Go.bits .or .i64 x7 (shl .i64 (Go.bits .and .i64 (wrap64 (rd x0 (wrap64 (x1 + x8)))) 127) (IntKind.u64.wrap (wrap64 (7 * x8)))), wrap64 ((wrap64 (x1 + x8)) + 1), true)))) else (if (Go.bits .or .i64 x7 (shl .i64 (Go.bits .and .i64 (wrap64 (rd x0 (wrap64 (x1 + x8)))) 127) (IntKind.u64.wrap (wrap64 (7 * x8))))) > 1000000000 then (some (0, 0, false)) else (some (Go.bits .or .i64 x7 (shl .i64 (Go.bits .and .i64 (wrap64 (rd x0 (wrap64 (x1 + x8)))) 127) (IntKind.u64.wrap (wrap64 (7 * x8)))), wrap64 ((wrap64 (x1 + x8)) + 1), true))))) else (none)) else (none)) else (none)) else (some (0, 0, false))
end
def spec_GetNum.f (k : Nat) (l0 : List Int) (a1 : Int) : Option (Int × Int × Bool) := spec_GetNum.l0 k l0 a1 0 0
def spec_GetText.f (k : Nat) (l0 : List Int) (a1 : Int) : Option (ByteArray × Int × Bool) := (spec_GetNum.f k l0 a1).bind fun bt109 => (if bt109.2.2 = true then (if bt109.1 > (wrap64 ((l0.length : Int) - bt109.2.1)) then (some ((⟨#[]⟩ : ByteArray), 0, false)) else (if 0 ≤ bt109.2.1 then (if bt109.2.1 ≤ (wrap64 (bt109.2.1 + bt109.1)) then (if (wrap64 (bt109.2.1 + bt109.1)) ≤ (l0.length : Int) then (some (strOfNums ((l0.take ((wrap64 (bt109.2.1 + bt109.1)) : Int).toNat).drop (bt109.2.1 : Int).toNat), wrap64 (bt109.2.1 + bt109.1), true)) else (none)) else (none)) else (none))) else (some ((⟨#[]⟩ : ByteArray), 0, false)))
mutual
def spec_PutNum.j0 : Nat → Int → List Int → Option (List Int)
  | 0, _, _ => none
  | k + 1, x1, x5 => if x1 < 0 then (spec_PutNum.j1 k 0 x5) else (spec_PutNum.j1 k x1 x5)
def spec_PutNum.j1 : Nat → Int → List Int → Option (List Int)
  | 0, _, _ => none
  | k + 1, x1, x5 => spec_PutNum.l0 k x1 x5
def spec_PutNum.l0 : Nat → Int → List Int → Option (List Int)
  | 0, _, _ => none
  | k + 1, x1, x5 => if x1 > 127 then (if x5.length < 140737488355328 then (spec_PutNum.l0 k (x1 / 128) (x5 ++ [(Go.bits .or .i64 (Go.bits .and .i64 x1 127) 128) % 256])) else (none)) else (if x5.length < 140737488355328 then (some (x5 ++ [(x1) % 256])) else (none))
end
def spec_PutNum.f (k : Nat) (l0 : List Int) (a1 : Int) : Option (List Int) := (some (([] : List Int) : List Int)).bind fun y101 => (if y101.length + l0.length < 140737488355328 then ((some (y101 ++ l0 : List Int)).bind fun y104 => (if a1 > 1000000000 then (spec_PutNum.j0 k 1000000000 y104) else (spec_PutNum.j0 k a1 y104))) else (none))
def spec_PutText.f (k : Nat) (l0 : List Int) (a1 : ByteArray) : Option (List Int) := (spec_PutNum.f k l0 (a1.size : Int)).bind fun t113 => (if t113.length + a1.size < 140737488355328 then (some (t113 ++ bytesOf a1)) else (none))
def p128 (j : Nat) : Int := 128 ^ j
/-- The number whose groups of seven bits stand ahead in a list: it, and how many bytes it takes. -/
def gnum : Nat → List Int → Nat → Int → Option (Int × Nat)
  | 0, _, _, _ => none
  | _ + 1, [], _, _ => none
  | d + 1, c :: t, j, n =>
    if 128 ≤ c then gnum d t (j + 1) (n + c % 128 * p128 j)
    else if c = 0 ∧ 0 < j then none else if 1000000000 < n + c % 128 * p128 j then none else some (n + c % 128 * p128 j, j + 1)
def getNum (b : List Int) (p : Int) : Int × Int × Bool :=
  if 0 ≤ p ∧ p < (b.length : Int) then match gnum 5 (b.drop p.toNat) 0 0 with
    | none => (0, 0, false)
    | some (n, m) => (n, p + m, true)
  else (0, 0, false)
def gnumR (p : Int) : Option (Int × Nat) → Int × Int × Bool
  | none => (0, 0, false)
  | some (n, m) => (n, p + m, true)
theorem pow128 (j : Nat) (hj : j < 5) : p128 j = 2 ^ (7 * j) ∧ 1 ≤ p128 j ∧ p128 j ≤ 268435456 ∧ p128 (j + 1) = 128 * p128 j := by
  unfold p128
  obtain rfl | rfl | rfl | rfl | rfl : j = 0 ∨ j = 1 ∨ j = 2 ∨ j = 3 ∨ j = 4 := by omega
  all_goals decide
theorem p128_0 : p128 0 = 1 := rfl
theorem shl7 {v : Int} (j : Nat) (hj : j < 5) (h0 : 0 ≤ v) (h1 : v < 128) : shl .i64 v (7 * (j : Int)) = v * p128 j := by
  have e : min (7 * (j : Int)).toNat IntKind.i64.bits = 7 * j := by
    rw [show IntKind.i64.bits = 64 from rfl]; omega
  obtain ⟨p1, p2, p3, _⟩ := pow128 j hj
  have b1 : 0 ≤ v * p128 j := Int.mul_nonneg h0 (by omega)
  have b2 : v * p128 j ≤ 127 * 268435456 := Int.mul_le_mul (by omega) p3 (by omega) (by omega)
  rw [shl, e, ← p1, IntKind.wrap_i64]
  omega
theorem or7 {v n : Int} (j : Nat) (hj : j < 5) (h0 : 0 ≤ v) (h1 : v < 128) (n0 : 0 ≤ n) (n1 : n < p128 j) : Go.bits .or .i64 n (v * p128 j) = n + v * p128 j := by
  obtain ⟨p1, p2, p3, _⟩ := pow128 j hj
  have b1 : 0 ≤ v * p128 j := Int.mul_nonneg h0 (by omega)
  have b2 : v * p128 j ≤ 127 * 268435456 := Int.mul_le_mul (by omega) p3 (by omega) (by omega)
  exact orJoin (7 * j) n0 (by rw [← p1]; exact n1) b1 (by rw [← p1]; exact Int.mul_emod_left _ _) (by omega) (by omega)
theorem getNum_l0 (b : List Int) (hN : b.length ≤ 4611686018427387904) (hb : ∀ x ∈ b, 0 ≤ x ∧ x ≤ 255) (p : Nat) : ∀ (d j : Nat) (n : Int), j + d = 5 → 0 ≤ n → n < p128 j → (j = 0 ∨ p < b.length) →
    Ev (fun k => spec_GetNum.l0 k b p n (j : Int)) (gnumR p (gnum d (b.drop (p + j)) j n)) ∧ Ev (fun k => impl_GetNum.l0 k b p n (j : Int)) (gnumR p (gnum d (b.drop (p + j)) j n)) := by
  intro d
  induction d with
  | zero =>
    intro j n hd h0 h1 hp
    have hj : j = 5 := by omega
    subst hj
    refine ⟨Ev.step (f := fun k => spec_GetNum.j1 k b p n 5 false) (fun k => ?_) (Ev.step (f := fun _ => some (0, 0, false)) (fun k => ?_) (Ev.now _)), Ev.step (f := fun k => impl_GetNum.j1 k b p n 5 false) (fun k => ?_) (Ev.step (f := fun _ => some (0, 0, false)) (fun k => ?_) (Ev.now _))⟩
    · rw [spec_GetNum.l0, if_neg (by omega)]; rfl
    · rw [spec_GetNum.j1, if_neg (by simp)]
    · rw [impl_GetNum.l0, if_neg (by omega)]; rfl
    · rw [impl_GetNum.j1, if_neg (by simp)]
  | succ d ih =>
    intro j n hd h0 h1 hp
    cases hl : b.drop (p + j) with
    | nil =>
      have hlen := drop_nil' hl
      have hg : gnumR (p : Int) (gnum (d + 1) [] j n) = (0, 0, false) := rfl
      rw [hg]
      refine ⟨?_, ?_⟩
      · refine Ev.step (f := fun k => spec_GetNum.j1 k b p n j false) (fun k => ?_) (Ev.step (f := fun _ => some (0, 0, false)) (fun k => ?_) (Ev.now _))
        · rw [spec_GetNum.l0, if_pos (by omega), if_pos (by omega)]
          by_cases hpl : (p : Int) < (b.length : Int)
          · rw [if_pos hpl, w64 (by omega) (by omega), decide_eq_false (by omega)]
          · rw [if_neg hpl]
        · rw [spec_GetNum.j1, if_neg (by simp)]
      · refine Ev.step (f := fun k => impl_GetNum.j1 k b p n j false) (fun k => ?_) (Ev.step (f := fun _ => some (0, 0, false)) (fun k => ?_) (Ev.now _))
        · rw [impl_GetNum.l0, if_pos (by omega), if_pos (by omega), w64 (by omega) (by omega), decide_eq_false (by omega)]
        · rw [impl_GetNum.j1, if_neg (by simp)]
    | cons c t =>
      obtain ⟨hlt, _, h3⟩ := drop_cons' hl 0
      have hc : rd b ((p : Int) + (j : Int)) = c := by
        rw [show (p : Int) + (j : Int) = ((p + j : Nat) : Int) by omega]; exact rd_at hl
      have hcb : 0 ≤ c ∧ c ≤ 255 := hb c (by
        have : c ∈ b.drop (p + j) := by rw [hl]; exact List.mem_cons_self
        exact List.mem_of_mem_drop this)
      obtain ⟨-, p2, p3, p4⟩ := pow128 j (by omega)
      have b1 : 0 ≤ c % 128 * p128 j := Int.mul_nonneg (by omega) (by omega)
      have b2 : c % 128 * p128 j ≤ 127 * p128 j := Int.mul_le_mul_of_nonneg_right (by omega) (by omega)
      have s1 : Hd (shl .i64 (c % 128) (7 * (j : Int)) = c % 128 * p128 j) := ⟨shl7 j (by omega) (by omega) (by omega)⟩
      have o1 : Hd (Go.bits .or .i64 n (c % 128 * p128 j) = n + c % 128 * p128 j) := ⟨or7 j (by omega) (by omega) (by omega) h0 h1⟩
      obtain ⟨i1, i2⟩ := ih (j + 1) (n + c % 128 * p128 j) (by omega) (by omega) (by rw [p4]; omega) (Or.inr (by omega))
      rw [show p + (j + 1) = p + j + 1 by omega, h3] at i1 i2
      have eg : gnum (d + 1) (c :: t) j n = if 128 ≤ c then gnum d t (j + 1) (n + c % 128 * p128 j) else if c = 0 ∧ 0 < j then none else if 1000000000 < n + c % 128 * p128 j then none else some (n + c % 128 * p128 j, j + 1) := by rw [gnum]
      rw [eg]
      clear p4 eg
      generalize p128 j = P at *
      have hv : 0 ≤ c % 128 * P ∧ c % 128 * P ≤ 127 * 268435456 := ⟨b1, by omega⟩
      have hn : n < 268435456 := by omega
      clear h1 b1 b2 p2 p3
      generalize c % 128 * P = V at *
      have w1 : Hd (wrap64 ((p : Int) + (j : Int)) = (p : Int) + (j : Int)) := ⟨w64 (by omega) (by omega)⟩
      have w2 : Hd (wrap64 c = c) := ⟨w64 (by omega) (by omega)⟩
      have w3 : Hd (wrap64 (7 * (j : Int)) = 7 * (j : Int)) := ⟨w64 (by omega) (by omega)⟩
      have w4 : Hd (IntKind.u64.wrap (7 * (j : Int)) = 7 * (j : Int)) := ⟨u64_id (by omega) (by omega)⟩
      have w5 : Hd (wrap64 ((j : Int) + 1) = ((j + 1 : Nat) : Int)) := ⟨w64s (n := j + 1) (by omega) (by omega)⟩
      have w6 : Hd (wrap64 (n + V) = n + V) := ⟨w64 (by omega) (by omega)⟩
      have w7 : Hd (wrap64 ((p : Int) + (j : Int) + 1) = (p : Int) + ((j + 1 : Nat) : Int)) := ⟨by rw [w64 (by omega) (by omega)]; omega⟩
      have a1 : Hd (Go.bits .and .i64 c 127 = c % 128) := ⟨and127 (by omega) (by omega)⟩
      have t1 : Hd (Int.tmod c 128 = c % 128) := ⟨Int.tmod_eq_emod_of_nonneg hcb.1⟩
      refine ⟨?_, ?_⟩
      · refine Ev.step (f := fun k => spec_GetNum.j1 k b p n j true) (fun k => ?_) ?_
        · rw [spec_GetNum.l0, if_pos (by omega), if_pos (by omega), if_pos (by omega), w1.out, decide_eq_true (by omega)]
        · by_cases h128 : 128 ≤ c
          · rw [if_pos h128]
            refine Ev.step (fun k => ?_) i1
            rw [spec_GetNum.j1, if_pos rfl, w1.out, if_pos (by omega), if_pos (by omega), w3.out, w4.out, if_pos (by omega), hc, w2.out, if_pos (by omega), a1.out, s1.out, o1.out, w5.out]
          · refine Ev.step (f := fun _ => some _) (fun k => ?_) (Ev.now _)
            rw [spec_GetNum.j1, if_pos rfl, w1.out, if_pos (by omega), if_pos (by omega), w3.out, w4.out, if_pos (by omega), hc, w2.out, if_neg (by omega), a1.out, s1.out, o1.out, w7.out, if_neg h128]
            repeat' split
            all_goals first | rfl | (exfalso; omega)
      · refine Ev.step (f := fun k => impl_GetNum.j1 k b p n j true) (fun k => ?_) ?_
        · rw [impl_GetNum.l0, if_pos (by omega), if_pos (by omega), w64 (by omega) (by omega), decide_eq_true (by omega)]
        · by_cases h128 : 128 ≤ c
          · rw [if_pos h128]
            refine Ev.step (fun k => ?_) i2
            rw [impl_GetNum.j1, if_pos rfl, w1.out, if_pos (by omega), if_pos (by omega), w3.out, if_pos (by omega), hc, w2.out, if_pos (by omega), t1.out, s1.out, w6.out, w5.out]
          · refine Ev.step (f := fun _ => some _) (fun k => ?_) (Ev.now _)
            rw [impl_GetNum.j1, if_pos rfl, w1.out, if_pos (by omega), if_pos (by omega), w3.out, if_pos (by omega), hc, w2.out, if_neg (by omega), t1.out, s1.out, w6.out, w7.out, if_neg h128]
            repeat' split
            all_goals first | rfl | (exfalso; omega)
theorem getNum_ev (b : List Int) (hN : b.length ≤ 4611686018427387904) (hb : ∀ x ∈ b, 0 ≤ x ∧ x ≤ 255) (p : Int) (p0 : -9223372036854775808 ≤ p) (p1 : p < 9223372036854775808) :
    Ev (fun k => spec_GetNum.f k b p) (getNum b p) ∧ Ev (fun k => impl_GetNum.f k b p) (getNum b p) := by
  by_cases h : 0 ≤ p
  · obtain ⟨q, rfl⟩ := Int.eq_ofNat_of_zero_le h
    by_cases hq : (q : Int) < (b.length : Int)
    · have e : getNum b (q : Int) = gnumR q (gnum 5 (b.drop (q + 0)) 0 0) := by
        rw [getNum, if_pos ⟨h, hq⟩, Int.toNat_natCast]; rfl
      rw [e]
      exact getNum_l0 b hN hb q 5 0 0 rfl (by omega) (by rw [p128_0]; decide) (Or.inl rfl)
    · have e : getNum b (q : Int) = (0, 0, false) := by rw [getNum, if_neg (by omega)]
      have e2 : gnumR (q : Int) (gnum 5 (b.drop (q + 0)) 0 0) = (0, 0, false) := by
        rw [List.drop_eq_nil_of_le (by omega)]; rfl
      rw [e, ← e2]
      exact getNum_l0 b hN hb q 5 0 0 rfl (by omega) (by rw [p128_0]; decide) (Or.inl rfl)
  · have e : getNum b p = (0, 0, false) := by rw [getNum, if_neg (by omega)]
    rw [e]
    refine ⟨Ev.step (f := fun k => spec_GetNum.j1 k b p 0 0 false) (fun k => ?_) (Ev.step (f := fun _ => some (0, 0, false)) (fun k => ?_) (Ev.now _)), Ev.step (f := fun k => impl_GetNum.j1 k b p 0 0 false) (fun k => ?_) (Ev.step (f := fun _ => some (0, 0, false)) (fun k => ?_) (Ev.now _))⟩
    · rw [spec_GetNum.f, spec_GetNum.l0, if_pos (by omega), if_neg (by omega)]
    · rw [spec_GetNum.j1, if_neg (by simp)]
    · rw [impl_GetNum.f, impl_GetNum.l0, if_pos (by omega), if_neg (by omega)]
    · rw [impl_GetNum.j1, if_neg (by simp)]
/-- A number's groups of seven bits, the lowest first. -/
def putN (n : Nat) : List Int := if _h : 127 < n then (((n % 128 + 128 : Nat)) : Int) :: putN (n / 128) else [(n : Int)]
termination_by n
decreasing_by omega
def clip (n : Int) : Nat := if n < 0 then 0 else if 1000000000 < n then 1000000000 else n.toNat
theorem clip_le (n : Int) : clip n ≤ 1000000000 := by unfold clip; split; omega; split <;> omega
theorem putN_bytes (n : Nat) : ∀ x ∈ putN n, 0 ≤ x ∧ x ≤ 255 := by
  induction n using Nat.strongRecOn with
  | _ n ih =>
    intro x hx
    rw [putN] at hx
    split at hx
    · rcases List.mem_cons.1 hx with rfl | hx
      · omega
      · exact ih (n / 128) (by omega) x hx
    · rw [List.mem_singleton.1 hx]; omega
theorem putN_len (n : Nat) : (putN n).length ≤ n + 1 := by
  induction n using Nat.strongRecOn with
  | _ n ih =>
    rw [putN]
    split
    · have := ih (n / 128) (by omega)
      rw [List.length_cons]; omega
    · simp
theorem p128_s (j : Nat) : p128 (j + 1) = 128 * p128 j := by unfold p128; rw [Int.pow_succ, Int.mul_comm]
theorem p128_pos (j : Nat) : 0 ≤ p128 j := by unfold p128; exact Int.pow_nonneg (by decide)
theorem gnum_back (m : Nat) : ∀ (d j : Nat) (n : Int) (rest : List Int), m < 128 ^ d → 0 ≤ n → n + (m : Int) * p128 j ≤ 1000000000 → (j = 0 ∨ 0 < m) → 0 < d → gnum d (putN m ++ rest) j n = some (n + (m : Int) * p128 j, j + (putN m).length) := by
  induction m using Nat.strongRecOn with
  | _ m ih =>
    intro d j n rest hm h0 h1 hj hd
    obtain ⟨d, rfl⟩ : ∃ e, d = e + 1 := ⟨d - 1, by omega⟩
    have hp := p128_pos j
    by_cases h : 127 < m
    · rw [putN.eq_1 m, dif_pos h]
      have e1 : (((m % 128 + 128 : Nat) : Int)) % 128 = ((m % 128 : Nat) : Int) := by omega
      have e3 : n + ((m % 128 : Nat) : Int) * p128 j + ((m / 128 : Nat) : Int) * p128 (j + 1) = n + (m : Int) * p128 j := by
        rw [p128_s]
        have : (m : Int) = ((m % 128 : Nat) : Int) + 128 * ((m / 128 : Nat) : Int) := by omega
        rw [this, Int.add_mul, ← Int.mul_assoc, Int.mul_comm ((m / 128 : Nat) : Int) 128, Int.add_assoc]
      have hd2 : 0 < d := by
        rcases Nat.eq_zero_or_pos d with e | e
        · subst e; rw [Nat.zero_add, Nat.pow_one] at hm; omega
        · exact e
      have hi := ih (m / 128) (by omega) d (j + 1) (n + ((m % 128 : Nat) : Int) * p128 j) rest (by rw [Nat.pow_succ] at hm; exact Nat.div_lt_of_lt_mul (by rw [Nat.mul_comm]; exact hm)) (Int.add_nonneg h0 (Int.mul_nonneg (by omega) hp)) (by rw [e3]; exact h1) (Or.inr (by omega)) hd2
      rw [List.cons_append, gnum, if_pos (by omega), e1, hi, e3, List.length_cons]
      congr 2
      omega
    · rw [putN.eq_1 m, dif_neg h]
      have e1 : (m : Int) % 128 = m := by omega
      rw [List.cons_append, gnum, if_neg (by omega), e1, if_neg (by omega), if_neg (by omega)]
      rfl
theorem putN_ne (m : Nat) : putN m ≠ [] := by
  rw [putN]; split <;> simp
theorem gnum_cut (m : Nat) : ∀ (d j : Nat) (n : Int), gnum d ((putN m).dropLast) j n = none := by
  induction m using Nat.strongRecOn with
  | _ m ih =>
    intro d j n
    cases d with
    | zero => rfl
    | succ d =>
      by_cases h : 127 < m
      · rw [putN.eq_1 m, dif_pos h, List.dropLast_cons_of_ne_nil (putN_ne _), gnum, if_pos (by omega)]
        exact ih (m / 128) (by omega) d _ _
      · rw [putN.eq_1 m, dif_neg h]; rfl
theorem getNum_back (b rest : List Int) (m : Nat) (hm : m ≤ 1000000000) : getNum (b ++ putN m ++ rest) (b.length : Int) = ((m : Int), ((b.length + (putN m).length : Nat) : Int), true) := by
  have hl : 0 < (putN m).length := List.length_pos_iff.2 (putN_ne m)
  have e : (b ++ putN m ++ rest).drop ((b.length : Int)).toNat = putN m ++ rest := by
    rw [Int.toNat_natCast, List.append_assoc, List.drop_left]
  have g := gnum_back m 5 0 0 rest (by omega) (by omega) (by rw [p128_0]; omega) (Or.inl rfl) (by omega)
  rw [getNum, if_pos (by rw [List.length_append, List.length_append]; omega), e, g]
  simp only [p128_0]
  rw [show (0 : Int) + (m : Int) * 1 = m by omega, show ((b.length : Int) + ((0 + (putN m).length : Nat) : Int)) = ((b.length + (putN m).length : Nat) : Int) by omega]
theorem getNum_short (b : List Int) (m : Nat) : (getNum ((b ++ putN m).take ((b ++ putN m).length - 1)) (b.length : Int)).2.2 = false := by
  have hl : 0 < (putN m).length := List.length_pos_iff.2 (putN_ne m)
  have e : ((b ++ putN m).take ((b ++ putN m).length - 1)).drop ((b.length : Int)).toNat = (putN m).dropLast := by
    rw [Int.toNat_natCast, List.drop_take, List.drop_left, List.dropLast_eq_take, List.length_append]
    congr 1
    omega
  rw [getNum]
  by_cases c : 0 ≤ (b.length : Int) ∧ (b.length : Int) < (((b ++ putN m).take ((b ++ putN m).length - 1)).length : Int)
  · rw [if_pos c, e, gnum_cut]
  · rw [if_neg c]
def getText (b : List Int) (p : Int) : ByteArray × Int × Bool :=
  if (getNum b p).2.2 = true then
    if (getNum b p).1 > (b.length : Int) - (getNum b p).2.1 then (⟨#[]⟩, 0, false)
    else (strOfNums ((b.take ((getNum b p).2.1 + (getNum b p).1).toNat).drop (getNum b p).2.1.toNat), (getNum b p).2.1 + (getNum b p).1, true)
  else (⟨#[]⟩, 0, false)
theorem gnum_le : ∀ (d : Nat) (l : List Int) (j : Nat) (n : Int) (v : Int) (m : Nat), (∀ x ∈ l, 0 ≤ x ∧ x ≤ 255) → 0 ≤ n → gnum d l j n = some (v, m) → 0 ≤ v ∧ v ≤ 1000000000 ∧ j < m ∧ m ≤ j + l.length
  | 0, _, _, _, _, _, _, _, h => by cases h
  | _ + 1, [], _, _, _, _, _, _, h => by cases h
  | d + 1, c :: t, j, n, v, m, hb, h0, h => by
    have hc := hb c List.mem_cons_self
    have hp : 0 ≤ c % 128 * p128 j := Int.mul_nonneg (by omega) (by unfold p128; exact Int.pow_nonneg (by decide))
    rw [gnum] at h
    by_cases h1 : 128 ≤ c
    · rw [if_pos h1] at h
      have := gnum_le d t (j + 1) _ v m (fun x hx => hb x (List.mem_cons_of_mem _ hx)) (by omega) h
      simp only [List.length_cons]
      omega
    · rw [if_neg h1] at h
      by_cases h2 : c = 0 ∧ 0 < j
      · rw [if_pos h2] at h; cases h
      · rw [if_neg h2] at h
        by_cases h3 : 1000000000 < n + c % 128 * p128 j
        · rw [if_pos h3] at h; cases h
        · rw [if_neg h3] at h
          injection h with h
          injection h with e1 e2
          subst e1 e2
          simp only [List.length_cons]
          omega
theorem getNum_in (b : List Int) (p : Int) (hb : ∀ x ∈ b, 0 ≤ x ∧ x ≤ 255) (h : (getNum b p).2.2 = true) : 0 ≤ p ∧ 0 ≤ (getNum b p).1 ∧ (getNum b p).1 ≤ 1000000000 ∧ p < (getNum b p).2.1 ∧ (getNum b p).2.1 ≤ b.length := by
  unfold getNum at h ⊢
  by_cases hp : 0 ≤ p ∧ p < (b.length : Int)
  · rw [if_pos hp] at h ⊢
    cases hg : gnum 5 (b.drop p.toNat) 0 0 with
    | none => rw [hg] at h; cases h
    | some vm =>
      obtain ⟨v, m⟩ := vm
      have := gnum_le 5 _ 0 0 v m (fun x hx => hb x (List.mem_of_mem_drop hx)) (by omega) hg
      rw [List.length_drop] at this
      simp only
      omega
  · rw [if_neg hp] at h; cases h
theorem getText_ev (b : List Int) (hN : b.length ≤ 1000000000000) (hb : ∀ x ∈ b, 0 ≤ x ∧ x ≤ 255) (p : Int) (p0 : -9223372036854775808 ≤ p) (p1 : p < 9223372036854775808) :
    Ev (fun k => spec_GetText.f k b p) (getText b p) ∧ Ev (fun k => impl_GetText.f k b p) (getText b p) := by
  obtain ⟨r1, r2⟩ := getNum_ev b (by omega) hb p p0 p1
  have hin := getNum_in b p hb
  rw [getText]
  generalize getNum b p = g at r1 r2 hin
  obtain ⟨n, m, ok⟩ := g
  simp only [spec_GetText.f, impl_GetText.f]
  refine ⟨Ev.bind r1 ?_, Ev.bind r2 ?_⟩
  all_goals
    by_cases hk : ok = true
    · have hin' := hin hk
      simp only at hin'
      have w1 : Hd (wrap64 ((b.length : Int) - m) = (b.length : Int) - m) := ⟨w64 (by omega) (by omega)⟩
      have w2 : Hd (wrap64 (m + n) = m + n) := ⟨w64 (by omega) (by omega)⟩
      simp only [if_pos hk, w1.out, w2.out]
      by_cases h1 : n > (b.length : Int) - m
      · simp only [if_pos h1]
        exact Ev.now _
      · simp only [if_neg h1, if_pos (show 0 ≤ m by omega), if_pos (show m ≤ m + n by omega), if_pos (show m + n ≤ (b.length : Int) by omega)]
        exact Ev.now _
    · simp only [if_neg hk]
      exact Ev.now _
theorem clip_nat (n : Nat) (h : n ≤ 1000000000) : clip (n : Int) = n := by
  unfold clip; rw [if_neg (by omega), if_neg (by omega), Int.toNat_natCast]
theorem getText_back (b : List Int) (s : ByteArray) (hs : s.size ≤ 1000000000) : getText (b ++ putN s.size ++ bytesOf s) (b.length : Int) = (s, ((b ++ putN s.size ++ bytesOf s).length : Int), true) := by
  have g := getNum_back b (bytesOf s) s.size hs
  have hl : ((b ++ putN s.size ++ bytesOf s).length : Int) = ((b.length + (putN s.size).length : Nat) : Int) + (s.size : Int) := by
    rw [List.length_append, List.length_append, bytesOf_length]; omega
  rw [getText, g]
  simp only [if_true]
  rw [if_neg (by omega), hl]
  have e1 : (((b.length + (putN s.size).length : Nat) : Int) + (s.size : Int)).toNat = (b ++ putN s.size ++ bytesOf s).length := by omega
  rw [e1, List.take_length, Int.toNat_natCast, ← List.length_append, List.drop_left, strOf_bytesOf]
theorem spec_putNum_l0 (n : Nat) : ∀ (acc : List Int), n ≤ 1000000000 → acc.length + n < 140737488355328 → Ev (fun k => spec_PutNum.l0 k (n : Int) acc) (acc ++ putN n) := by
  induction n using Nat.strongRecOn with
  | _ n ih =>
    intro acc hn ha
    by_cases h : 127 < n
    · have i1 := ih (n / 128) (by omega) (acc ++ [((n % 128 + 128 : Nat) : Int)]) (by omega) (by simp; omega)
      have a1 : Hd (Go.bits .and .i64 (n : Int) 127 = ((n % 128 : Nat) : Int)) := ⟨by rw [and127 (by omega) (by omega)]; omega⟩
      have o1 : Hd (Go.bits .or .i64 ((n % 128 : Nat) : Int) 128 = ((n % 128 : Nat) : Int) + 128) := ⟨or128 (by omega) (by omega)⟩
      refine Ev.step (fun k => ?_) (Ev.eq i1 (by rw [putN.eq_1 n, dif_pos h]; simp))
      rw [spec_PutNum.l0, if_pos (by omega), if_pos (by omega), a1.out, o1.out, show (((n % 128 : Nat) : Int) + 128) % 256 = ((n % 128 + 128 : Nat) : Int) by omega, show (n : Int) / 128 = ((n / 128 : Nat) : Int) by omega]
    · refine Ev.step (f := fun _ => some (acc ++ putN n)) (fun k => ?_) (Ev.now _)
      rw [spec_PutNum.l0, if_neg (by omega), if_pos (by omega), putN.eq_1 n, dif_neg h, show (n : Int) % 256 = (n : Int) by omega]
theorem spec_putNum_ev (b : List Int) (n : Int) (hb : b.length ≤ 100000000000000) : Ev (fun k => spec_PutNum.f k b n) (b ++ putN (clip n)) := by
  have hc := clip_le n
  have i1 := spec_putNum_l0 (clip n) b hc (by omega)
  have j1 : Ev (fun k => spec_PutNum.j1 k ((clip n : Nat) : Int) b) (b ++ putN (clip n)) := Ev.step (fun k => by rw [spec_PutNum.j1]) i1
  simp only [spec_PutNum.f]
  refine Ev.some_bind ?_
  refine Ev.pos (by simp; omega) (Ev.some_bind ?_)
  rw [List.nil_append]
  by_cases h1 : n > 1000000000
  · refine Ev.pos h1 (Ev.step (fun k => ?_) j1)
    rw [spec_PutNum.j0, if_neg (by omega), show ((clip n : Nat) : Int) = 1000000000 by unfold clip; rw [if_neg (by omega), if_pos (by omega)]; rfl]
  · refine Ev.neg h1 (Ev.step (fun k => ?_) j1)
    by_cases h2 : n < 0
    · rw [spec_PutNum.j0, if_pos h2, show ((clip n : Nat) : Int) = 0 by unfold clip; rw [if_pos h2]; rfl]
    · rw [spec_PutNum.j0, if_neg h2, show ((clip n : Nat) : Int) = n by unfold clip; rw [if_neg h2, if_neg (by omega)]; omega]
theorem addNum_l0 (n : Nat) : ∀ (acc : List Int), n ≤ 1000000000 → acc.length + n < 140737488355328 → Ev (fun k => impl_addNum.l0 k acc (n : Int)) (acc ++ putN n) := by
  induction n using Nat.strongRecOn with
  | _ n ih =>
    intro acc hn ha
    by_cases h : 127 < n
    · have i1 := ih (n / 128) (by omega) (acc ++ [((n % 128 + 128 : Nat) : Int)]) (by omega) (by simp; omega)
      have t1 : Hd (Int.tmod (n : Int) 128 = ((n % 128 : Nat) : Int)) := ⟨by rw [Int.tmod_eq_emod_of_nonneg (by omega)]; omega⟩
      have t2 : Hd (Int.tdiv (n : Int) 128 = ((n / 128 : Nat) : Int)) := ⟨by rw [Int.tdiv_eq_ediv_of_nonneg (by omega)]; omega⟩
      have w1 : Hd (wrap64 (((n % 128 : Nat) : Int) + 128) = ((n % 128 : Nat) : Int) + 128) := ⟨w64 (by omega) (by omega)⟩
      have w2 : Hd (wrap64 ((n / 128 : Nat) : Int) = ((n / 128 : Nat) : Int)) := ⟨w64 (by omega) (by omega)⟩
      refine Ev.step (fun k => ?_) (Ev.eq i1 (by rw [putN.eq_1 n, dif_pos h]; simp))
      rw [impl_addNum.l0, if_pos (by omega), if_pos (by omega), t1.out, t2.out, w1.out, w2.out, show (((n % 128 : Nat) : Int) + 128) % 256 = ((n % 128 + 128 : Nat) : Int) by omega]
    · refine Ev.step (f := fun _ => some (acc ++ putN n)) (fun k => ?_) (Ev.now _)
      rw [impl_addNum.l0, if_neg (by omega), if_pos (by omega), putN.eq_1 n, dif_neg h, show (n : Int) % 256 = (n : Int) by omega]
theorem addNum_ev (b : List Int) (n : Int) (hb : b.length ≤ 100000000000000) : Ev (fun k => impl_addNum.f k b n) (b ++ putN (clip n)) := by
  have hc := clip_le n
  have i1 := addNum_l0 (clip n) b hc (by omega)
  simp only [impl_addNum.f]
  rw [show mx 0 (mn n 1000000000) = ((clip n : Nat) : Int) by
    unfold mx mn clip
    split <;> split <;> (first | omega | (split <;> omega) | (split <;> split <;> omega))]
  exact i1
theorem copyBytes_eq (b : List Int) (hb : b.length ≤ 100000000000000) : impl_copyBytes.f b = some b := by
  rw [impl_copyBytes.f, if_pos (by simp; omega), List.nil_append]
theorem putNum_ev (b : List Int) (n : Int) (hb : b.length ≤ 100000000000000) : Ev (fun k => impl_PutNum.f k b n) (b ++ putN (clip n)) := by
  simp only [impl_PutNum.f]
  refine Ev.got (copyBytes_eq b hb) ?_
  refine Ev.bind (addNum_ev b n hb) ?_
  exact Ev.now _
theorem addText_ev (b : List Int) (s : ByteArray) (hb : b.length ≤ 10000000000000) (hs : s.size ≤ 10000000000000) : Ev (fun k => impl_addText.f k b s) (b ++ putN (clip s.size) ++ bytesOf s) := by
  have hc := clip_le s.size
  have hp := putN_len (clip s.size)
  simp only [impl_addText.f]
  refine Ev.bind (addNum_ev b _ (by omega)) ?_
  refine Ev.pos (by rw [List.length_append]; omega) (Ev.now _)
theorem spec_putText_ev (b : List Int) (s : ByteArray) (hb : b.length ≤ 10000000000000) (hs : s.size ≤ 10000000000000) : Ev (fun k => spec_PutText.f k b s) (b ++ putN (clip s.size) ++ bytesOf s) := by
  have hc := clip_le s.size
  have hp := putN_len (clip s.size)
  simp only [spec_PutText.f]
  refine Ev.bind (spec_putNum_ev b _ (by omega)) ?_
  refine Ev.pos (by rw [List.length_append]; omega) (Ev.now _)
theorem putText_ev (b : List Int) (s : ByteArray) (hb : b.length ≤ 10000000000000) (hs : s.size ≤ 10000000000000) : Ev (fun k => impl_PutText.f k b s) (b ++ putN (clip s.size) ++ bytesOf s) := by
  simp only [impl_PutText.f]
  refine Ev.got (copyBytes_eq b (by omega)) ?_
  refine Ev.bind (addText_ev b s hb hs) ?_
  exact Ev.now _
/-- A cursor over the bytes of a draw: its place lies within them. -/
def Cur (b : List Int) (i : Int) : Prop := b.length ≤ 1048576 ∧ 0 ≤ i ∧ i ≤ b.length
theorem new_l0 (b : List Int) (hN : b.length ≤ 1048576) (d : Nat) : ∀ (i : Nat) (h : Int), i + d = b.length → ∃ h', Ev (fun k => spec_l1New.l0 k b h (i : Int)) (b, 0, h') := by
  induction d with
  | zero =>
    intro i h hd
    refine ⟨h, Ev.step (f := fun _ => some (b, 0, h)) (fun k => ?_) (Ev.now _)⟩
    rw [spec_l1New.l0, if_neg (by omega)]
  | succ d ih =>
    intro i h hd
    by_cases c : (i : Int) < 4000
    · obtain ⟨h', e⟩ := ih (i + 1) (Go.bits .and .i64 (wrap64 ((wrap64 ((wrap64 (h * 137)) + (wrap64 (rd b i)))) + 11)) 1073741823) (by omega)
      refine ⟨h', Ev.step (fun k => ?_) e⟩
      rw [spec_l1New.l0, if_pos (by omega), if_pos c, if_pos (by omega), w64s (i := i) (n := b.length) (by omega) (by omega)]
    · refine ⟨h, Ev.step (f := fun _ => some (b, 0, h)) (fun k => ?_) (Ev.now _)⟩
      rw [spec_l1New.l0, if_pos (by omega), if_neg c]
theorem new_ev (b : List Int) (hN : b.length ≤ 1048576) : ∃ h', Ev (fun k => spec_l1New.f k b) (b, 0, h') ∧ Cur b 0 := by
  obtain ⟨h', e⟩ := new_l0 b hN b.length 0 (wrap64 (378378 + (b.length : Int))) (by omega)
  exact ⟨h', e, hN, by omega, by omega⟩
theorem byte_ok (b : List Int) (i h : Int) (hc : Cur b i) : ∃ x i' h', spec_l1Byte.f b i h = some (x, i', h') ∧ 0 ≤ x ∧ x ≤ 255 ∧ Cur b i' := by
  obtain ⟨c1, c2, c3⟩ := hc
  unfold spec_l1Byte.f
  by_cases c : i < (b.length : Int)
  · rw [if_pos c, if_pos c2]
    refine ⟨_, _, _, rfl, (and255 _).1, (and255 _).2, c1, ?_⟩
    rw [w64 (by omega) (by omega)]
    omega
  · rw [if_neg c]
    exact ⟨_, _, _, rfl, (and255 _).1, (and255 _).2, c1, c2, c3⟩
theorem tmod_in {x n : Int} (h0 : 0 ≤ x) (hn : 0 < n) : 0 ≤ Int.tmod x n ∧ Int.tmod x n < n := by
  rw [Int.tmod_eq_emod_of_nonneg h0]
  exact ⟨Int.emod_nonneg _ (by omega), Int.emod_lt_of_pos _ hn⟩
theorem below_ok (b : List Int) (i h n : Int) (hc : Cur b i) : ∃ x i' h', spec_l1Below.f b i h n = some (x, i', h') ∧ 0 ≤ x ∧ (0 < n → x < n) ∧ (n ≤ 0 → x = 0) ∧ Cur b i' := by
  unfold spec_l1Below.f
  by_cases c0 : n ≤ 0
  · rw [if_pos c0]
    exact ⟨0, i, h, rfl, Int.le_refl _, fun h1 => absurd h1 (by omega), fun _ => rfl, hc⟩
  · rw [if_neg c0]
    obtain ⟨x, i1, h1, e1, x0, x1, hc1⟩ := byte_ok b i h hc
    by_cases c1 : n ≤ 256
    · rw [if_pos c1, e1, Option.bind_some, if_neg (by omega)]
      have ht := tmod_in x0 (show 0 < n by omega)
      exact ⟨_, _, _, rfl, ht.1, fun _ => ht.2, fun hq => absurd hq c0, hc1⟩
    · obtain ⟨y, i2, h2, e2, y0, y1, hc2⟩ := byte_ok b i1 h1 hc1
      obtain ⟨z, i3, h3, e3, z0, z1, hc3⟩ := byte_ok b i2 h2 hc2
      rw [if_neg c1, e1, Option.bind_some, e2, Option.bind_some, e3, Option.bind_some, if_neg (by omega)]
      have w : wrap64 (wrap64 (wrap64 (x * 65536) + wrap64 (y * 256)) + z) = x * 65536 + y * 256 + z := by
        rw [w64 (x := x * 65536) (by omega) (by omega), w64 (x := y * 256) (by omega) (by omega), w64 (x := x * 65536 + y * 256) (by omega) (by omega), w64 (by omega) (by omega)]
      have ht := tmod_in (x := x * 65536 + y * 256 + z) (by omega) (show 0 < n by omega)
      refine ⟨_, _, _, rfl, ?_, fun _ => ?_, fun hq => absurd hq c0, hc3⟩
      · simp only [w]; exact ht.1
      · simp only [w]; exact ht.2
theorem int_ok (b : List Int) (i h : Int) (l : List Int) (hl : 0 < l.length) (hc : Cur b i) : ∃ x i' h', spec_l1Int.f b i h l = some (x, i', h') ∧ x ∈ l ∧ Cur b i' := by
  obtain ⟨x, i1, h1, e1, x0, x1, _, hc1⟩ := below_ok b i h (l.length : Int) hc
  have x2 := x1 (by omega)
  unfold spec_l1Int.f
  rw [e1, Option.bind_some, if_pos x0, if_pos x2]
  exact ⟨_, _, _, rfl, rd_mem x0 x2, hc1⟩
theorem bytes_l0 (b : List Int) (n : Int) (hn : n ≤ 1048576) (d : Nat) : ∀ (i : Nat) (acc : List Int) (p h : Int), (i : Int) + d = n → Cur b p → acc.length = i → (∀ x ∈ acc, 0 ≤ x ∧ x ≤ 255) → ∃ l p' h', Ev (fun k => spec_l1Bytes.l0 k n acc (i : Int) b p h) (l, p', h') ∧ (l.length : Int) = n ∧ (∀ x ∈ l, 0 ≤ x ∧ x ≤ 255) ∧ Cur b p' := by
  induction d with
  | zero =>
    intro i acc p h hd hc ha hx
    refine ⟨acc, p, h, Ev.step (f := fun _ => some (acc, p, h)) (fun k => ?_) (Ev.now _), by omega, hx, hc⟩
    rw [spec_l1Bytes.l0, if_neg (by omega)]
  | succ d ih =>
    intro i acc p h hd hc ha hx
    obtain ⟨x, p1, h1, e1, x0, x1, hc1⟩ := byte_ok b p h hc
    obtain ⟨l, p', h', e, q⟩ := ih (i + 1) (acc ++ [x % 256]) p1 h1 (by omega) hc1 (by simp [ha]) (by
      intro y hy
      rcases List.mem_append.1 hy with hy | hy
      · exact hx y hy
      · rw [List.mem_singleton.1 hy]; omega)
    refine ⟨l, p', h', Ev.step (fun k => ?_) e, q⟩
    rw [spec_l1Bytes.l0, if_pos (by omega), e1, Option.bind_some, if_pos (by omega), w64s (i := i) (n := i + 1) (by omega) (by omega)]
theorem some_ok (b : List Int) (i h : Int) (hc : Cur b i) : ∃ l i' h', Ev (fun k => spec_l1Some.f k b i h) (l, i', h') ∧ l.length ≤ 9 ∧ (∀ x ∈ l, 0 ≤ x ∧ x ≤ 255) ∧ Cur b i' := by
  obtain ⟨n, i1, h1, e1, hn, hc1⟩ := int_ok b i h [0, 1, 2, 5, 9] (by decide) hc
  have hn2 : 0 ≤ n ∧ n ≤ 9 := by
    simp only [List.mem_cons, List.not_mem_nil, or_false] at hn
    omega
  obtain ⟨l, i2, h2, e2, q1, q2, q3⟩ := bytes_l0 b n (by omega) n.toNat 0 [] i1 h1 (by omega) hc1 rfl (by simp)
  refine ⟨l, i2, h2, ?_, by omega, q2, q3⟩
  simp only [spec_l1Some.f]
  refine Ev.got e1 ?_
  refine Ev.bind e2 ?_
  exact Ev.now _
end Go.Proofs.Ytafmhffapmejpaa.PureFnNums
namespace Go.Proofs.Ytafmhffapmejpaa.Pure
open Go.RowKit Go.Proofs.Ytafmhffapmejpaa.PFnNums Go.Proofs.YtafmhffapmejpaaW.PrintWords Go.Proofs.YtafmhffapmejpaaW.PrintLast Go.Proofs.YtafmhffapmejpaaW.PrintMore Go.Proofs.Ytafmhffapmejpaa.Base Go.Proofs.Ytafmhffapmejpaa.PureFnNums
set_option linter.unusedVariables false
attribute [local irreducible] Go.bits IntKind.wrap shl shr
theorem FnNums (x : List Int) (hb0 : Bytes x) : ∃ k, laws_FnNums.f k x = some true := by
  apply Ev.rounds (g := fun k => laws_FnNums.f k x)
  simp only [laws_FnNums.f, laws_big.f]
  refine Ev.some_bind ?_
  by_cases hN : (x.length : Int) > 1048576
  · exact Ev.pos (by simpa using hN) (Ev.now _)
  refine Ev.neg (by simpa using hN) ?_
  obtain ⟨h, e, hc⟩ := new_ev x (by omega)
  obtain ⟨b, i1, h1, e1, bl, bb, hc1⟩ := some_ok x 0 h hc
  obtain ⟨y, i2, h2, e2, _, _, _, hc2⟩ := below_ok x i1 h1 100000 hc1
  obtain ⟨n, i3, h3, e3, _, _⟩ := int_ok x i2 h2 [0, 1, 127, 128, 16383, 16384, 1000000000, 1000000001, (-1), 9223372036854775807, y] (by simp) hc2
  have d1 : Ev (fun k => spec_DrawPutNum.f k x) (b, n) := by
    simp only [spec_DrawPutNum.f]
    refine Ev.bind e ?_
    refine Ev.bind e1 ?_
    refine Ev.got e2 ?_
    refine Ev.got e3 ?_
    exact Ev.now _
  obtain ⟨c, j1, g1, f1, cl, cb, hc3⟩ := some_ok x 0 h hc
  obtain ⟨l, j2, g2, f2, ll, lb, hc4⟩ := some_ok x j1 g1 hc3
  have d2 : Ev (fun k => spec_DrawPutText.f k x) (c, strOfNums l) := by
    simp only [spec_DrawPutText.f]
    refine Ev.bind e ?_
    refine Ev.bind f1 ?_
    refine Ev.bind f2 ?_
    exact Ev.now _
  have hs : (strOfNums l).size ≤ 9 := by rw [strOfNums_size]; exact ll
  generalize strOfNums l = s at d2 hs
  have hcl := clip_le n
  have hpl := putN_len (clip n)
  have hpb := putN_bytes (clip n)
  have pb : ∀ z ∈ b ++ putN (clip n), 0 ≤ z ∧ z ≤ 255 := by
    intro z hz
    rcases List.mem_append.1 hz with hz | hz
    · exact bb z hz
    · exact hpb z hz
  have hlen : (b ++ putN (clip n)).length ≤ 1000000100 ∧ 0 < (b ++ putN (clip n)).length := by
    have := List.length_pos_iff.2 (putN_ne (clip n))
    rw [List.length_append]; omega
  have q1 := (getNum_ev (b ++ putN (clip n)) (by omega) pb (b.length : Int) (by omega) (by omega)).2
  have k1 := getNum_back b [] (clip n) hcl
  rw [List.append_nil] at k1
  rw [k1] at q1
  have kl : (((b.length + (putN (clip n)).length : Nat) : Int)) = ((b ++ putN (clip n)).length : Int) := by rw [List.length_append]
  have q2 := (getNum_ev ((b ++ putN (clip n)).take ((b ++ putN (clip n)).length - 1)) (by rw [List.length_take]; omega) (fun z hz => pb z (List.mem_of_mem_take hz)) (b.length : Int) (by omega) (by omega)).2
  have k2 := getNum_short b (clip n)
  have cs : clip (s.size : Int) = s.size := clip_nat s.size (by omega)
  have t1 := putText_ev c s (by omega) (by omega)
  rw [cs] at t1
  have tl : (c ++ putN s.size ++ bytesOf s).length ≤ 1000 := by
    have := putN_len s.size
    rw [List.length_append, List.length_append, bytesOf_length]; omega
  have tb : ∀ z ∈ c ++ putN s.size ++ bytesOf s, 0 ≤ z ∧ z ≤ 255 := by
    intro z hz
    rcases List.mem_append.1 hz with hz | hz
    · rcases List.mem_append.1 hz with hz | hz
      · exact cb z hz
      · exact putN_bytes _ z hz
    · exact bytesOf_range s z hz
  have t2 := (getText_ev (c ++ putN s.size ++ bytesOf s) (by omega) tb (c.length : Int) (by omega) (by omega)).2
  rw [getText_back c s (by omega)] at t2
  have key : Ev (fun k => laws_FnNums.j1 k x b ((clip n : Nat) : Int) (b ++ putN (clip n)) ((clip n : Nat) : Int) (((b.length + (putN (clip n)).length : Nat) : Int)) true) true := by
    have w : Hd (wrap64 (((b ++ putN (clip n)).length : Int) - 1) = (((b ++ putN (clip n)).length - 1 : Nat) : Int)) := ⟨by rw [w64 (by omega) (by omega)]; omega⟩
    refine Ev.step (fun k => by rw [laws_FnNums.j1, w.out, if_pos (by omega), if_pos (by omega), Int.toNat_natCast]) ?_
    refine Ev.bind q2 ?_
    refine Ev.bind d2 ?_
    refine Ev.bind t1 ?_
    refine Ev.bind t2 ?_
    refine Ev.pos rfl (Ev.pos rfl (Ev.pos kl ?_))
    refine Ev.neg (by rw [k2]; decide) ?_
    refine Ev.pos rfl (Ev.pos rfl ?_)
    exact Ev.eq (Ev.now _) (by simp)
  refine Ev.bind d1 ?_
  refine Ev.bind (putNum_ev b n (by omega)) ?_
  refine Ev.bind q1 ?_
  by_cases c1 : n > 1000000000
  · refine Ev.pos c1 (Ev.step (fun k => ?_) key)
    rw [laws_FnNums.j0, if_neg (by omega), show ((clip n : Nat) : Int) = 1000000000 by unfold clip; rw [if_neg (by omega), if_pos (by omega)]; rfl]
  · refine Ev.neg c1 (Ev.step (fun k => ?_) key)
    by_cases c2 : n < 0
    · rw [laws_FnNums.j0, if_pos c2, show ((clip n : Nat) : Int) = 0 by unfold clip; rw [if_pos c2]; rfl]
    · rw [laws_FnNums.j0, if_neg c2, show ((clip n : Nat) : Int) = n by unfold clip; rw [if_neg c2, if_neg (by omega)]; omega]
end Go.Proofs.Ytafmhffapmejpaa.Pure
