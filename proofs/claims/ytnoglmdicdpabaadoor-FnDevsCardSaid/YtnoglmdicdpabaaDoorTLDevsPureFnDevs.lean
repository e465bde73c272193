/- Trimmed by a program of this session (trim.py). Not trusted: Lean checks it. -/
import Derived.Test.YtnoglmdicdpabaaDoorTLDevsPFnDevsx7
import Derived.Test.YtnoglmdicdpabaaDoorTLDevsBase
namespace Go.Proofs.YtnoglmdicdpabaaDoor.PureFnDevs
open Go.RowKit Go.Proofs.YtnoglmdicdpabaaDoor.PFnDevs Go.Proofs.YtnoglmdicdpabaaDoorW.PrintWords Go.Proofs.YtnoglmdicdpabaaDoorW.PrintLast Go.Proofs.YtnoglmdicdpabaaDoorW.PrintMore Go.Proofs.YtnoglmdicdpabaaDoor.Base
set_option linter.unusedVariables false
attribute [local irreducible] Go.bits IntKind.wrap shl shr
def spec_l2Text.f : Nat → Int → Option (ByteArray)
 | 0, _ => none
 | k + 1, a0 => if a0 < 10 then (some (strOfNums (([(wrap64 (48 + a0)) % 256] : List Int)))) else ((spec_l2Text.f k (wrap64 (Int.tdiv a0 10))).bind fun t191 => ((some (([(wrap64 (48 + (Int.tmod a0 10))) % 256] : List Int) : List Int)).bind fun y192 => (if t191.size + (strOfNums y192).size ≤ 9223372036854775807 then (some (t191 ++ (strOfNums y192))) else (none))))
def spec_DevsText.l0 : Nat → List (S53) → ByteArray → Int → Option (ByteArray)
 | 0, _, _, _ => none
 | k + 1, x0, x3, x4 => if x4 < (x0.length : Int) then (if x4 > 0 then (if x3.size + 1 ≤ 9223372036854775807 then (if 0 ≤ x4 then ((spec_l2Text.f k ((rd_T53 x0 x4).f0)).bind fun t197 => (if (x3 ++ (⟨#[32]⟩ : ByteArray)).size + t197.size ≤ 9223372036854775807 then (if ((x3 ++ (⟨#[32]⟩ : ByteArray)) ++ t197).size + 1 ≤ 9223372036854775807 then ((spec_l2Text.f k ((rd_T53 x0 x4).f1)).bind fun t199 => (if (((x3 ++ (⟨#[32]⟩ : ByteArray)) ++ t197) ++ (⟨#[58]⟩ : ByteArray)).size + t199.size ≤ 9223372036854775807 then (if ((((x3 ++ (⟨#[32]⟩ : ByteArray)) ++ t197) ++ (⟨#[58]⟩ : ByteArray)) ++ t199).size + 1 ≤ 9223372036854775807 then ((spec_l2Text.f k ((rd_T53 x0 x4).f2)).bind fun t201 => (if (((((x3 ++ (⟨#[32]⟩ : ByteArray)) ++ t197) ++ (⟨#[58]⟩ : ByteArray)) ++ t199) ++ (⟨#[58]⟩ : ByteArray)).size + t201.size ≤ 9223372036854775807 then (spec_DevsText.l0 k x0 ((((((x3 ++ (⟨#[32]⟩ : ByteArray)) ++ t197) ++ (⟨#[58]⟩ : ByteArray)) ++ t199) ++ (⟨#[58]⟩ : ByteArray)) ++ t201) (wrap64 (x4 + 1))) else (none))) else (none)) else (none))) else (none)) else (none))) else (none)) else (none)) else (if 0 ≤ x4 then ((spec_l2Text.f k ((rd_T53 x0 x4).f0)).bind fun t203 => (if x3.size + t203.size ≤ 9223372036854775807 then (if (x3 ++ t203).size + 1 ≤ 9223372036854775807 then ((spec_l2Text.f k ((rd_T53 x0 x4).f1)).bind fun t205 => (if ((x3 ++ t203) ++ (⟨#[58]⟩ : ByteArray)).size + t205.size ≤ 9223372036854775807 then (if (((x3 ++ t203) ++ (⟨#[58]⟩ : ByteArray)) ++ t205).size + 1 ≤ 9223372036854775807 then ((spec_l2Text.f k ((rd_T53 x0 x4).f2)).bind fun t207 => (if ((((x3 ++ t203) ++ (⟨#[58]⟩ : ByteArray)) ++ t205) ++ (⟨#[58]⟩ : ByteArray)).size + t207.size ≤ 9223372036854775807 then (spec_DevsText.l0 k x0 (((((x3 ++ t203) ++ (⟨#[58]⟩ : ByteArray)) ++ t205) ++ (⟨#[58]⟩ : ByteArray)) ++ t207) (wrap64 (x4 + 1))) else (none))) else (none)) else (none))) else (none)) else (none))) else (none))) else (some x3)
def spec_DevsText.f (k : Nat) (l0 : List (S53)) : Option (ByteArray) := (spec_DevsOk.f k l0).bind fun t195 => (if t195 = true then (spec_DevsText.l0 k l0 (⟨#[]⟩ : ByteArray) 0) else (some (⟨#[]⟩ : ByteArray)))
mutual
def spec_l2Number.j0 : Nat → ByteArray → Bool → Option (Int)
 | 0, _, _ => none
 | k + 1, x0, x18 => if x18 = true then (some (-1)) else (spec_l2Number.l0 k x0 0 0)
def spec_l2Number.l0 : Nat → ByteArray → Int → Int → Option (Int)
 | 0, _, _, _ => none
 | k + 1, x0, x3, x4 => if x4 < (x0.size : Int) then (if 0 ≤ x4 then ((spec_l1In.f (wrap64 (bt x0 x4)) 48 57).bind fun t136 => (if t136 = true then (spec_l2Number.l0 k x0 (wrap64 ((wrap64 (x3 * 10)) + (((bt x0 x4) - 48) % 256))) (wrap64 (x4 + 1))) else (some (-1)))) else (none)) else (some x3)
end
def spec_l2Number.f (k : Nat) (a0 : ByteArray) : Option (Int) := (spec_l1In.f (a0.size : Int) 1 10).bind fun t135 => (if t135 = true then (if (a0.size : Int) > 1 then (if 0 < (a0.size : Int) then (spec_l2Number.j0 k a0 ((bt a0 0) == 48)) else (none)) else (spec_l2Number.j0 k a0 false)) else (spec_l2Number.j0 k a0 true))
def spec_l2Split.l0 : Nat → ByteArray → Int → List ByteArray → Int → Int → Option (List ByteArray)
 | 0, _, _, _, _, _ => none
 | k + 1, x0, x1, x5, x6, x7 => if x7 ≤ (x0.size : Int) then (if x7 = (x0.size : Int) then (if 0 ≤ x6 then (if x6 ≤ x7 then (if x5.length < 8796093022208 then (spec_l2Split.l0 k x0 x1 (x5 ++ [x0.extract (x6 : Int).toNat (x7 : Int).toNat]) (wrap64 (x7 + 1)) (wrap64 (x7 + 1))) else (none)) else (none)) else (none)) else (if 0 ≤ x7 then (if x7 < (x0.size : Int) then (if (bt x0 x7) = x1 then (if 0 ≤ x6 then (if x6 ≤ x7 then (if x5.length < 8796093022208 then (spec_l2Split.l0 k x0 x1 (x5 ++ [x0.extract (x6 : Int).toNat (x7 : Int).toNat]) (wrap64 (x7 + 1)) (wrap64 (x7 + 1))) else (none)) else (none)) else (none)) else (spec_l2Split.l0 k x0 x1 x5 x6 (wrap64 (x7 + 1)))) else (none)) else (none))) else (some x5)
def spec_l2Split.f (k : Nat) (a0 : ByteArray) (a1 : Int) : Option (List ByteArray) := spec_l2Split.l0 k a0 a1 (([] : List ByteArray)) 0 0
def spec_ParseDevs.l0 : Nat → List (S53) → List ByteArray → Int → Option ((List (S53)) × Bool)
 | 0, _, _, _ => none
 | k + 1, x4, x5, x6 => if x6 < (x5.length : Int) then (if 0 ≤ x6 then ((spec_l2Split.f k (rdOf ByteArray.empty x5 x6) 58).bind fun t148 => (if (t148.length : Int) = 3 then (if 0 < (t148.length : Int) then ((spec_l2Number.f k (rdOf ByteArray.empty t148 0)).bind fun t152 => (if 1 < (t148.length : Int) then ((spec_l2Number.f k (rdOf ByteArray.empty t148 1)).bind fun t154 => (if 2 < (t148.length : Int) then ((spec_l2Number.f k (rdOf ByteArray.empty t148 2)).bind fun t156 => (if x4.length < 5864062014805 then (spec_ParseDevs.l0 k (x4 ++ [(⟨t152, t154, t156⟩ : S53)]) x5 (wrap64 (x6 + 1))) else (none))) else (none))) else (none))) else (none)) else (some ((([] : List (S53))), false)))) else (none)) else ((spec_DevsOk.f k x4).bind fun t143 => (if t143 = true then (some (x4, true)) else (some ((([] : List (S53))), false))))
def spec_ParseDevs.f (k : Nat) (a0 : ByteArray) : Option ((List (S53)) × Bool) := (spec_l2Split.f k a0 32).bind fun t140 => (spec_ParseDevs.l0 k (([] : List (S53))) t140 0)
theorem l1In_eq (x a b : Int) : spec_l1In.f x a b = some (decide (a ≤ x ∧ x ≤ b)) := by
 unfold spec_l1In.f
 by_cases h : x ≥ a
 ·rw [if_pos h]; simp [show a ≤ x from h]
 ·rw [if_neg h]; simp [show ¬ a ≤ x from h]
def ba (l : List UInt8) : ByteArray := ⟨l.toArray⟩
theorem ba_data (l : List UInt8) : (ba l).data.toList = l := by simp [ba]
theorem ba_of (s : ByteArray) : ba s.data.toList = s := by
 apply ByteArray.ext
 apply Array.ext'
 simp [ba]
theorem str_back {a b : ByteArray} (h : a.toList = b.toList) : a = b := by
 rw [ByteArray.toList_eq, ByteArray.toList_eq] at h
 rw [← ba_of a, ← ba_of b, h]
theorem ba_size (l : List UInt8) : (ba l).size = l.length := by
 show l.toArray.size = _
 exact List.size_toArray
theorem bt_drop {s : ByteArray} {i : Nat} {b : UInt8} {t : List UInt8} (h : s.data.toList.drop i = b :: t) : i < s.size ∧ bt s (i : Int) = (b.toNat : Int) ∧ s.data.toList.drop (i + 1) = t := by
 obtain ⟨h1, h2, h3⟩ := drop_cons' h b
 have h1' : i < s.size := by rw [← data_length]; exact h1
 refine ⟨h1', ?_, h3⟩
 have e : s.data.toList[i] = b := by
  rw [List.getD_eq_getElem?_getD, List.getElem?_eq_getElem h1, Option.getD_some] at h2
  exact h2
 unfold bt
 rw [dif_pos (by simpa using h1')]
 have e2 : s[((i : Int)).toNat]'(by simpa using h1') = s.data.toList[i] := by simp; rfl
 rw [e2, e]
theorem extract_ba (s : ByteArray) (a b : Nat) : s.extract a b = ba ((s.data.toList.take b).drop a) := by
 apply ByteArray.ext
 apply Array.ext'
 rw [ba_data, ByteArray.data_extract, Array.toList_extract, List.drop_take]
theorem take_more {L : List UInt8} {i fr : Nat} {b : UInt8} {t : List UInt8} (h : L.drop i = b :: t) (hf : fr ≤ i) : (L.take (i + 1)).drop fr = (L.take i).drop fr ++ [b] := by
 obtain ⟨h1, h2, _⟩ := drop_cons' h b
 have e : L[i] = b := by
  rw [List.getD_eq_getElem?_getD, List.getElem?_eq_getElem h1, Option.getD_some] at h2
  exact h2
 rw [List.take_succ_eq_append_getElem h1, e, List.drop_append_of_le_length (by rw [List.length_take]; omega)]
def splitL (c : UInt8) : List UInt8 → List (List UInt8)
 | [] => [[]]
 | b :: t => if b = c then [] :: splitL c t else match splitL c t with
  | h :: r => (b :: h) :: r
  | [] => [[b]]
def glue (cur : List UInt8) : List (List UInt8) → List (List UInt8)
 | h :: r => (cur ++ h) :: r
 | [] => [cur]
theorem glue_eq (c : UInt8) (cur t : List UInt8) : glue cur (splitL c (c :: t)) = cur :: splitL c t := by
 rw [splitL, if_pos rfl, glue, List.append_nil]
theorem glue_ne {c b : UInt8} (h : b ≠ c) (cur t : List UInt8) : glue cur (splitL c (b :: t)) = glue (cur ++ [b]) (splitL c t) := by
 rw [splitL, if_neg h]
 cases splitL c t with
 | nil => simp [glue]
 | cons x r => simp [glue]
theorem glue_nil (c : UInt8) (t : List UInt8) : glue [] (splitL c t) = splitL c t := by
 have hne : splitL c t ≠ [] := by
  cases t with
  | nil => simp [splitL]
  | cons b t =>
   rw [splitL]
   split
   ·simp
   ·split <;> simp
 cases e : splitL c t with
 | nil => exact absurd e hne
 | cons x r => simp [glue]
theorem glue_part (c : UInt8) : ∀ (p cur t : List UInt8), c ∉ p → glue cur (splitL c (p ++ c :: t)) = (cur ++ p) :: splitL c t
 | [], cur, t, _ => by rw [List.nil_append, glue_eq, List.append_nil]
 | b :: p, cur, t, h => by
  rw [List.cons_append, glue_ne (fun e => h (by rw [e]; exact List.mem_cons_self)), glue_part c p _ t (fun hc => h (List.mem_cons_of_mem _ hc))]
  simp
theorem glue_last (c : UInt8) : ∀ (p cur : List UInt8), c ∉ p → glue cur (splitL c p) = [cur ++ p]
 | [], cur, _ => by simp [splitL, glue]
 | b :: p, cur, h => by
  rw [glue_ne (fun e => h (by rw [e]; exact List.mem_cons_self)), glue_last c p _ (fun hc => h (List.mem_cons_of_mem _ hc))]
  simp
theorem split_list (c : UInt8) : ∀ L : List UInt8, Lib.split L [c] = splitL c L
 | [] => by
  rw [Lib.split, Lib.count_one]
  rfl
 | b :: l => by
  have ih := split_list c l
  by_cases hb : b = c
  ·subst hb
   have hix : Lib.index (b :: l) [b] = 0 := by rw [Lib.index]; simp [List.isPrefixOf]
   rw [splitL, if_pos rfl, ← ih, Lib.split, Lib.count_cons_eq, Nat.add_comm, Lib.splitK, hix]
   rw [if_neg (by decide)]
   rfl
  ·have hp : ([c] : List UInt8).isPrefixOf (b :: l) = false := by simp [List.isPrefixOf, Ne.symm hb]
   have hix : Lib.index (b :: l) [c] = if Lib.index l [c] == -1 then -1 else Lib.index l [c] + 1 := by rw [Lib.index, hp]; simp
   rw [splitL, if_neg hb, ← ih, Lib.split, Lib.split, Lib.count_cons_ne b c l hb]
   by_cases hm : Lib.index l [c] = -1
   ·rw [Lib.count_miss hm]
    rfl
   ·have hge := Lib.index_ge l [c]
    obtain ⟨j, hj⟩ : ∃ j : Nat, Lib.index l [c] = j := ⟨(Lib.index l [c]).toNat, by omega⟩
    rw [Lib.count_hit (by simp) hj, Nat.add_comm, Lib.splitK, Lib.splitK, hix, if_neg (fun e => hm (beq_iff_eq.1 e)), if_neg (fun e => hm (beq_iff_eq.1 e)), if_neg (fun e => by have := beq_iff_eq.1 e; omega), hj]
    have e1 : ((j : Int) + 1).toNat = j + 1 := by omega
    have e2 : ((j : Int)).toNat = j := by omega
    rw [e1, e2]
    simp
theorem one_str (d : Nat) (h : d < 10) : strOfNums [((48 + d : Nat) : Int)] = (⟨#[UInt8.ofNat (48 + d)]⟩ : ByteArray) := by
 apply ByteArray.ext
 apply Array.ext'
 rw [strOfNums_data, List.map_cons, List.map_nil, Int.toNat_natCast]
theorem app_one (a : List UInt8) (x : UInt8) : (⟨a.toArray⟩ : ByteArray) ++ ⟨#[x]⟩ = ⟨(a ++ [x]).toArray⟩ := by
 apply ByteArray.ext
 apply Array.ext'
 rw [ByteArray.data_append]
 simp
theorem dec_len (u : Nat) : (Lib.decDigits u).length ≤ u + 1 := by
 rw [Lib.decDigits]
 by_cases h : u < 10
 ·rw [dif_pos h]; simp
 ·rw [dif_neg h]
  have := dec_len (u / 10)
  simp only [List.length_append, List.length_singleton]
  omega
termination_by u
theorem l2Text_ev (u : Nat) (hu : u ≤ 10000000000) : Ev (fun k => spec_l2Text.f k (u : Int)) (⟨(Lib.decDigits u).toArray⟩ : ByteArray) := by
 rw [Lib.decDigits]
 by_cases h : u < 10
 ·rw [dif_pos h]
  have e : wrap64 (48 + (u : Int)) % 256 = ((48 + u : Nat) : Int) := by rw [w64 (by omega) (by omega)]; omega
  refine Ev.step (f := fun _ => some (⟨#[UInt8.ofNat (48 + u)]⟩ : ByteArray)) (fun k => ?_) (Ev.now _)
  rw [spec_l2Text.f, if_pos (by omega), e, one_str u h]
 ·rw [dif_neg h]
  have ih := l2Text_ev (u / 10) (by omega)
  have hl := dec_len (u / 10)
  have ed : wrap64 (Int.tdiv (u : Int) 10) = ((u / 10 : Nat) : Int) := by
   rw [Int.tdiv_eq_ediv_of_nonneg (by omega), w64 (by omega) (by omega)]; omega
  have em : wrap64 (48 + Int.tmod (u : Int) 10) % 256 = ((48 + u % 10 : Nat) : Int) := by
   rw [Int.tmod_eq_emod_of_nonneg (by omega), w64 (by omega) (by omega)]; omega
  refine Ev.step (f := fun k => (spec_l2Text.f k ((u / 10 : Nat) : Int)).bind fun t => if t.size + (⟨#[UInt8.ofNat (48 + u % 10)]⟩ : ByteArray).size ≤ 9223372036854775807 then some (t ++ ⟨#[UInt8.ofNat (48 + u % 10)]⟩) else none) (fun k => ?_) ?_
  ·rw [spec_l2Text.f, if_neg (by omega), ed, em]
   simp only [Option.bind_some]
   rw [one_str (u % 10) (by omega)]
  ·refine Ev.bind ih (Ev.pos ?_ ?_)
   ·show (Lib.decDigits (u / 10)).toArray.size + 1 ≤ _
    rw [List.size_toArray]
    omega
   ·rw [app_one]
    exact Ev.now _
termination_by u
def dtxt (n : Int) : ByteArray := ⟨(Lib.itoa n).toArray⟩
theorem dtxt_size (n : Int) (h : 0 ≤ n) : (dtxt n).size ≤ n.toNat + 1 := by
 show (Lib.itoa n).toArray.size ≤ _
 rw [List.size_toArray, Lib.itoa, if_neg (by omega)]
 exact dec_len _
theorem dtxt_ev (n : Int) (h0 : 0 ≤ n) (h1 : n ≤ 10000000000) : Ev (fun k => spec_l2Text.f k n) (dtxt n) := by
 obtain ⟨u, rfl⟩ := Int.eq_ofNat_of_zero_le h0
 rw [dtxt, Lib.itoa_nonneg]
 exact l2Text_ev u (by omega)
theorem byte_digit (d : Nat) (h : d ≤ 9) : (UInt8.ofNat (48 + d)).toNat = 48 + d := by
 rw [UInt8.toNat_ofNat']
 omega
def digs : Nat → List UInt8 → Option Nat
 | a, [] => some a
 | a, b :: t => if 48 ≤ b.toNat ∧ b.toNat ≤ 57 then digs (a * 10 + (b.toNat - 48)) t else none
theorem digs_app : ∀ (p : List UInt8) (a : Nat) (q : List UInt8), digs a (p ++ q) = (digs a p).bind fun n => digs n q
 | [], a, q => rfl
 | b :: p, a, q => by
  rw [List.cons_append, digs, digs]
  split
  ·exact digs_app p _ q
  ·rfl
theorem digs_dec (u : Nat) : digs 0 (Lib.decDigits u) = some u := by
 rw [Lib.decDigits]
 by_cases h : u < 10
 ·rw [dif_pos h, digs, byte_digit u (by omega), if_pos (by omega), digs]
  congr 1
  omega
 ·rw [dif_neg h, digs_app, digs_dec (u / 10), Option.bind_some, digs, byte_digit (u % 10) (by omega), if_pos (by omega), digs]
  congr 1
  omega
termination_by u
theorem dec_digit (u : Nat) : ∀ x ∈ Lib.decDigits u, 48 ≤ x.toNat ∧ x.toNat ≤ 57 := by
 intro x hx
 rw [Lib.decDigits] at hx
 by_cases h : u < 10
 ·rw [dif_pos h, List.mem_singleton] at hx
  rw [hx, byte_digit u (by omega)]
  omega
 ·rw [dif_neg h, List.mem_append] at hx
  rcases hx with hx | hx
  ·exact dec_digit (u / 10) x hx
  ·rw [List.mem_singleton] at hx
   rw [hx, byte_digit (u % 10) (by omega)]
   omega
termination_by u
theorem dec_fit (k : Nat) : ∀ u : Nat, u < 10 ^ (k + 1) → (Lib.decDigits u).length ≤ k + 1 := by
 induction k with
 | zero =>
  intro u h
  rw [Lib.decDigits, dif_pos (by simpa using h)]
  simp
 | succ k ih =>
  intro u h
  rw [Lib.decDigits]
  by_cases c : u < 10
  ·rw [dif_pos c]; simp
  ·rw [dif_neg c]
   have := ih (u / 10) (by rw [Nat.pow_succ] at h; omega)
   simp only [List.length_append, List.length_singleton]
   omega
theorem dec_ne (u : Nat) : 1 ≤ (Lib.decDigits u).length := by
 rw [Lib.decDigits]
 split <;> simp
theorem dec_head (u : Nat) (hu : 1 ≤ u) : ∀ b t, Lib.decDigits u = b :: t → b.toNat ≠ 48 := by
 intro b t e
 rw [Lib.decDigits] at e
 by_cases h : u < 10
 ·rw [dif_pos h] at e
  injection e with e _
  rw [← e, byte_digit u (by omega)]
  omega
 ·rw [dif_neg h] at e
  cases e2 : Lib.decDigits (u / 10) with
  | nil => have := dec_ne (u / 10); rw [e2] at this; simp at this
  | cons x y =>
   rw [e2, List.cons_append] at e
   injection e with e _
   subst e
   exact dec_head (u / 10) (by omega) x y e2
termination_by u
def numL (p : List UInt8) : Int := if (1 ≤ p.length ∧ p.length ≤ 10) ∧ (2 ≤ p.length → p.head?.map (·.toNat) ≠ some 48) then (match digs 0 p with | some n => (n : Int) | none => -1) else -1
theorem numL_dec (u : Nat) (hu : u < 10000000000) : numL (Lib.decDigits u) = (u : Int) := by
 have h1 := dec_fit 9 u (by omega)
 have h2 := dec_ne u
 rw [numL, if_pos, digs_dec]
 refine ⟨⟨h2, h1⟩, fun h => ?_⟩
 cases e : Lib.decDigits u with
 | nil => rw [e] at h2; simp at h2
 | cons b t =>
  have hu1 : 1 ≤ u := by
   apply Classical.byContradiction
   intro hc
   have h0 : u = 0 := by omega
   rw [h0, Lib.decDigits, dif_pos (by omega)] at h
   simp at h
  have := dec_head u hu1 b t e
  simpa using this
theorem parse_app : ∀ (p : List UInt8) (a n : Nat) (q : List UInt8), Lib.parseUint10 a p = .ok n → Lib.parseUint10 a (p ++ q) = Lib.parseUint10 n q
 | [], a, n, q, h => by
  rw [Lib.parseUint10] at h
  injection h with h
  rw [h, List.nil_append]
 | b :: p, a, n, q, h => by
  rw [List.cons_append]
  rw [Lib.parseUint10] at h ⊢
  split at h
  ·split at h
   ·cases h
   ·split at h
    ·cases h
    ·rename_i c1 c2 c3
     rw [if_pos c1, if_neg c2, if_neg c3]
     exact parse_app p _ n q h
  ·cases h
theorem parse_dec (u : Nat) (hu : u < 10000000000) : Lib.parseUint10 0 (Lib.decDigits u) = .ok u := by
 rw [Lib.decDigits]
 by_cases h : u < 10
 ·rw [dif_pos h, Lib.parseUint10, byte_digit u (by omega), if_pos (by omega), if_neg (by omega), if_neg (by omega), Lib.parseUint10]
  congr 1
  omega
 ·rw [dif_neg h, parse_app _ 0 (u / 10) _ (parse_dec (u / 10) (by omega)), Lib.parseUint10, byte_digit (u % 10) (by omega), if_pos (by omega), if_neg (by omega), if_neg (by omega), Lib.parseUint10]
  congr 1
  omega
termination_by u
theorem atoi_dec (u : Nat) (hu : u < 10000000000) : Lib.atoiAll (Lib.decDigits u) = .ok (u : Int) := by
 have hp := parse_dec u hu
 have hd := dec_digit u
 cases e : Lib.decDigits u with
 | nil => have := dec_ne u; rw [e] at this; simp at this
 | cons b t =>
  have hb := hd b (by rw [e]; exact List.mem_cons_self)
  rw [e] at hp
  have h1 : ¬ (b.toNat = 43 ∨ b.toNat = 45) := by omega
  have h2 : ¬ b.toNat = 45 := by omega
  have hm : Lib.parseMag (if b.toNat = 43 ∨ b.toNat = 45 then t else b :: t) = .ok u := by
   rw [if_neg h1, Lib.parseMag, if_neg (by simp)]
   exact hp
  rw [Lib.atoiAll]
  simp only [hm]
  rw [if_neg (by omega), if_neg (by omega), if_neg h2]
theorem l2Number_l0 (p : List UInt8) (hp : p.length ≤ 10) : ∀ (t : List UInt8) (i a : Nat), p.drop i = t → a < 10 ^ i → i ≤ p.length → Ev (fun k => spec_l2Number.l0 k (ba p) (a : Int) (i : Int)) (match digs a t with | some n => (n : Int) | none => -1)
 | [], i, a, h, ha, hi => by
  have h1 := drop_nil' h
  refine Ev.step (f := fun _ => some (a : Int)) (fun k => ?_) (Ev.now _)
  rw [spec_l2Number.l0, if_neg (by rw [ba_size]; omega)]
 | b :: t, i, a, h, ha, hi => by
  obtain ⟨h1, hb, h3⟩ := bt_drop (s := ba p) (i := i) (b := b) (t := t) (by rw [ba_data]; exact h)
  rw [ba_data] at h3
  have h1' := h1
  rw [ba_size] at h1'
  have h10 : (10 : Nat) ^ i ≤ 10 ^ 9 := Nat.pow_le_pow_right (by omega) (by omega)
  have hbl := b.toNat_lt
  have w : wrap64 ((i : Int) + 1) = ((i + 1 : Nat) : Int) := w64s h1' (by omega)
  have wb : wrap64 ((b.toNat : Nat) : Int) = ((b.toNat : Nat) : Int) := w64 (by omega) (by omega)
  by_cases c : 48 ≤ b.toNat ∧ b.toNat ≤ 57
  ·have ih := l2Number_l0 p hp t (i + 1) (a * 10 + (b.toNat - 48)) h3 (by rw [Nat.pow_succ]; omega) (by omega)
   have wa : wrap64 (wrap64 ((a : Int) * 10) + (((b.toNat : Nat) : Int) - 48) % 256) = ((a * 10 + (b.toNat - 48) : Nat) : Int) := by
    rw [w64 (x := (a : Int) * 10) (by omega) (by omega), w64 (by omega) (by omega)]
    omega
   refine Ev.step (fun k => ?_) (Ev.eq ih (by rw [digs, if_pos c]))
   rw [spec_l2Number.l0, if_pos (by omega), if_pos (by omega), hb, wb, l1In_eq, Option.bind_some, if_pos (by rw [decide_eq_true_eq]; omega), wa, w]
  ·refine Ev.step (f := fun _ => some (-1)) (fun k => ?_) (Ev.eq (Ev.now _) (by rw [digs, if_neg c]))
   rw [spec_l2Number.l0, if_pos (by omega), if_pos (by omega), hb, wb, l1In_eq, Option.bind_some, if_neg (by rw [decide_eq_true_eq]; omega)]
theorem l2Number_ev (p : List UInt8) (hp : p.length ≤ 1048576) : Ev (fun k => spec_l2Number.f k (ba p)) (numL p) := by
 have bad : Ev (fun k => spec_l2Number.j0 k (ba p) true) (-1) := Ev.step (f := fun _ => some (-1)) (fun k => by rw [spec_l2Number.j0, if_pos rfl]) (Ev.now _)
 simp only [spec_l2Number.f, l1In_eq, Option.bind_some, decide_eq_true_eq, ba_size]
 by_cases c : 1 ≤ p.length ∧ p.length ≤ 10
 ·have go : Ev (fun k => spec_l2Number.j0 k (ba p) false) (match digs 0 p with | some n => (n : Int) | none => -1) :=
   Ev.step (fun k => by rw [spec_l2Number.j0, if_neg (by decide)]; rfl) (l2Number_l0 p c.2 p 0 0 rfl (by simp) (Nat.zero_le _))
  refine Ev.pos (by omega) ?_
  cases p with
  | nil => simp at c
  | cons b t =>
   obtain ⟨_, hb, _⟩ := bt_drop (s := ba (b :: t)) (i := 0) (b := b) (t := t) (by rw [ba_data]; rfl)
   by_cases c2 : 2 ≤ (b :: t).length
   ·refine Ev.pos (by omega) (Ev.pos (by omega) ?_)
    rw [show bt (ba (b :: t)) 0 = (b.toNat : Int) from hb]
    by_cases c3 : b.toNat = 48
    ·rw [numL, if_neg (fun h => h.2 c2 (by simp [c3]))]
     rw [c3]
     exact bad
    ·rw [numL, if_pos ⟨c, fun _ => by simpa using c3⟩, show ((b.toNat : Int) == 48) = false by rw [beq_eq_false_iff_ne]; omega]
     exact go
   ·rw [numL, if_pos ⟨c, fun h => absurd h c2⟩]
    exact Ev.neg (by omega) go
 ·rw [numL, if_neg (fun h => c h.1)]
  exact Ev.neg (by omega) bad
theorem map_ba : ∀ l : List ByteArray, (l.map (·.data.toList)).map ba = l
 | [] => rfl
 | a :: t => by rw [List.map_cons, List.map_cons, map_ba t, ba_of]
theorem libSplit_eq (s : ByteArray) (hN : s.size ≤ 1048576) (c : UInt8) : strings_Split.f s (⟨#[c]⟩ : ByteArray) = some ((splitL c s.data.toList).map ba) := by
 have h1 : (⟨#[c]⟩ : ByteArray).size = 1 := rfl
 rw [strings_Split.f, if_pos ⟨by omega, by omega⟩, ← split_list, ← map_ba (Lib.splitB _ _ _ _), Lib.splitB_data]
 rfl
def numsOf (cnt : Nat) : List Int → List (List UInt8) → List Int × Bool
 | acc, [] => (acc, (acc.length : Int) == (cnt : Int))
 | acc, p :: t => match atoiRes p with
  | (v, none) => if (acc.length : Int) ≥ (cnt : Int) then ([], false) else numsOf cnt (acc ++ [v]) t
  | (_, some _) => ([], false)
theorem rdOf_ba {ps : List (List UInt8)} {i : Nat} {p : List UInt8} {t : List (List UInt8)} (h : ps.drop i = p :: t) : rdOf ByteArray.empty (ps.map ba) (i : Int) = ba p := by
 unfold rdOf
 rw [Int.toNat_natCast, List.getD_eq_getElem?_getD, List.getElem?_map]
 obtain ⟨h1, h2, _⟩ := drop_cons' h p
 rw [List.getD_eq_getElem?_getD, List.getElem?_eq_getElem h1, Option.getD_some] at h2
 rw [List.getElem?_eq_getElem h1, h2]
 rfl
theorem nums_l0 (ps : List (List UInt8)) (hN : ps.length ≤ 1048577) (hs : ∀ p ∈ ps, p.length ≤ 1048576) (cnt : Nat) (hc : cnt ≤ 100) : ∀ (t : List (List UInt8)) (i : Nat) (acc : List Int), ps.drop i = t → acc.length ≤ cnt → Ev (fun k => impl_numbersOf.l0 k (cnt : Int) acc (ps.map ba) ((ps.map ba).length : Int) (i : Int)) (numsOf cnt acc t)
 | [], i, acc, h, ha => by
  have h1 := drop_nil' h
  refine Ev.step (f := fun _ => some (acc, (acc.length : Int) == (cnt : Int))) (fun k => ?_) (Ev.now _)
  rw [impl_numbersOf.l0, if_neg (by rw [List.length_map]; omega)]
 | p :: t, i, acc, h, ha => by
  obtain ⟨h1, _, h3⟩ := drop_cons' h []
  have hp := hs p (List.mem_of_mem_drop (by rw [h]; exact List.mem_cons_self))
  have w : wrap64 ((i : Int) + 1) = ((i + 1 : Nat) : Int) := w64s h1 (by omega)
  have ea : strconv_Atoi.f (ba p) = some (atoiRes p) := by
   rw [strconv_Atoi.f, if_pos (by rw [ba_size]; omega), ba_data]
  refine Ev.step (fun k => by rw [impl_numbersOf.l0, if_pos (by rw [List.length_map]; omega), if_pos (by omega), if_pos (by rw [List.length_map]; omega), rdOf_ba h, ea, w]) ?_
  refine Ev.some_bind ?_
  rw [numsOf]
  cases e : atoiRes p with
  | mk v o =>
   cases o with
   | none =>
    dsimp only
    refine Ev.pos rfl ?_
    by_cases c : (acc.length : Int) ≥ (cnt : Int)
    ·rw [if_pos c]; exact Ev.pos c (Ev.now _)
    ·rw [if_neg c]
     exact Ev.neg c (Ev.pos (by omega) (nums_l0 ps hN hs cnt hc t (i + 1) (acc ++ [v]) h3 (by simp; omega)))
   | some q =>
    dsimp only
    exact Ev.neg (by simp) (Ev.now _)
theorem numsOf_len (cnt : Nat) : ∀ (t : List (List UInt8)) (acc : List Int), (numsOf cnt acc t).2 = true → (numsOf cnt acc t).1.length = cnt
 | [], acc, h => by
  rw [numsOf] at h ⊢
  dsimp only at h ⊢
  have := eq_of_beq h
  omega
 | p :: t, acc, h => by
  rw [numsOf] at h ⊢
  cases e : atoiRes p with
  | mk v o =>
   rw [e] at h
   cases o with
   | none =>
    dsimp only at h ⊢
    by_cases c : (acc.length : Int) ≥ (cnt : Int)
    ·rw [if_pos c] at h; cases h
    ·rw [if_neg c] at h ⊢
     exact numsOf_len cnt t _ h
   | some q => dsimp only at h; cases h
theorem splitL_len (c : UInt8) : ∀ L : List UInt8, (splitL c L).length ≤ L.length + 1 ∧ ∀ p ∈ splitL c L, p.length ≤ L.length
 | [] => by simp [splitL]
 | b :: t => by
  obtain ⟨h1, h2⟩ := splitL_len c t
  rw [splitL]
  split
  ·refine ⟨by simp; omega, fun p hp => ?_⟩
   rcases List.mem_cons.1 hp with rfl | hp
   ·simp
   ·have := h2 p hp; simp; omega
  ·split
   ·rename_i h r e
    rw [e] at h1 h2
    refine ⟨by simp at h1 ⊢; omega, fun p hp => ?_⟩
    rcases List.mem_cons.1 hp with rfl | hp
    ·have := h2 h List.mem_cons_self; simp; omega
    ·have := h2 p (List.mem_cons_of_mem _ hp); simp; omega
   ·simp
theorem numbersOf_ev (s : ByteArray) (hN : s.size ≤ 1048576) (c : UInt8) (cnt : Nat) (hc : cnt ≤ 100) : Ev (fun k => impl_numbersOf.f k s (⟨#[c]⟩ : ByteArray) (cnt : Int)) (numsOf cnt [] (splitL c s.data.toList)) := by
 obtain ⟨h1, h2⟩ := splitL_len c s.data.toList
 rw [data_length] at h1 h2
 simp only [impl_numbersOf.f]
 rw [libSplit_eq s hN c]
 refine Ev.some_bind ?_
 exact nums_l0 (splitL c s.data.toList) (by omega) (fun p hp => Nat.le_trans (h2 p hp) hN) cnt hc _ 0 [] rfl (Nat.zero_le _)
theorem atoiRes_dec (u : Nat) (hu : u < 10000000000) : atoiRes (Lib.decDigits u) = ((u : Int), none) := by
 rw [atoiRes, atoi_dec u hu]
theorem l2Split_l0 (s : ByteArray) (hN : s.size ≤ 1048576) (c : UInt8) : ∀ (t : List UInt8) (i fr : Nat) (acc : List ByteArray), s.data.toList.drop i = t → i ≤ s.size → fr ≤ i → acc.length ≤ i →
  Ev (fun k => spec_l2Split.l0 k s (c.toNat : Int) acc (fr : Int) (i : Int)) (acc ++ (glue ((s.data.toList.take i).drop fr) (splitL c t)).map ba)
 | [], i, fr, acc, h, hi, hf, ha => by
  have h1 := drop_nil' h
  rw [data_length] at h1
  have w : wrap64 ((i : Int) + 1) = (i : Int) + 1 := w64 (by omega) (by omega)
  refine Ev.step (f := fun k => spec_l2Split.l0 k s (c.toNat : Int) (acc ++ [s.extract fr i]) ((i : Int) + 1) ((i : Int) + 1)) (fun k => ?_) (Ev.step (f := fun _ => some (acc ++ [s.extract fr i])) (fun k => ?_) (Ev.eq (Ev.now _) ?_))
  ·rw [spec_l2Split.l0, if_pos (by omega), if_pos (by omega), if_pos (by omega), if_pos (by omega), if_pos (by omega), w]
   rfl
  ·rw [spec_l2Split.l0, if_neg (by omega)]
  ·rw [extract_ba]; simp [splitL, glue]
 | b :: t, i, fr, acc, h, hi, hf, ha => by
  obtain ⟨h1, hb, h3⟩ := bt_drop h
  have w : wrap64 ((i : Int) + 1) = ((i + 1 : Nat) : Int) := w64s h1 (by omega)
  by_cases hc : b = c
  ·subst hc
   have ih := l2Split_l0 s hN b t (i + 1) (i + 1) (acc ++ [s.extract fr i]) h3 (by omega) (Nat.le_refl _) (by simp; omega)
   refine Ev.step (fun k => ?_) (Ev.eq ih ?_)
   ·rw [spec_l2Split.l0, if_pos (by omega), if_neg (by omega), if_pos (by omega), if_pos (by omega), if_pos hb, if_pos (by omega), if_pos (by omega), if_pos (by omega), w]
    rfl
   ·have ed : (s.data.toList.take (i + 1)).drop (i + 1) = [] := List.drop_eq_nil_of_le (by rw [List.length_take]; omega)
    rw [glue_eq, extract_ba, ed, glue_nil]
    simp
  ·have ih := l2Split_l0 s hN c t (i + 1) fr acc h3 (by omega) (by omega) (by omega)
   refine Ev.step (fun k => ?_) (Ev.eq ih ?_)
   ·rw [spec_l2Split.l0, if_pos (by omega), if_neg (by omega), if_pos (by omega), if_pos (by omega), if_neg (fun e => hc (UInt8.toNat_inj.1 (by rw [hb] at e; omega))), w]
   ·rw [glue_ne hc, take_more h hf]
theorem l2Split_ev (s : ByteArray) (hN : s.size ≤ 1048576) (c : UInt8) : Ev (fun k => spec_l2Split.f k s (c.toNat : Int)) ((splitL c s.data.toList).map ba) := by
 have h := l2Split_l0 s hN c s.data.toList 0 0 [] rfl (Nat.zero_le _) (Nat.le_refl _) (Nat.le_refl _)
 rw [List.take_zero, List.drop_nil, glue_nil, List.nil_append] at h
 exact h
def three (c : UInt8) (x y z : Nat) : List UInt8 := Lib.decDigits x ++ c :: (Lib.decDigits y ++ c :: Lib.decDigits z)
theorem dec_no (c : UInt8) (hc : c.toNat < 48 ∨ 57 < c.toNat) (u : Nat) : c ∉ Lib.decDigits u := fun h => by
 have := dec_digit u c h
 omega
theorem three_split (c : UInt8) (hc : c.toNat < 48 ∨ 57 < c.toNat) (x y z : Nat) : splitL c (three c x y z) = [Lib.decDigits x, Lib.decDigits y, Lib.decDigits z] := by
 rw [three, ← glue_nil, glue_part c _ [] _ (dec_no c hc x), List.nil_append, ← glue_nil c (_ ++ _), glue_part c _ [] _ (dec_no c hc y), List.nil_append, ← glue_nil c (Lib.decDigits z), glue_last c _ [] (dec_no c hc z), List.nil_append]
theorem three_nums (x y z : Nat) (hx : x < 10000000000) (hy : y < 10000000000) (hz : z < 10000000000) : numsOf 3 [] [Lib.decDigits x, Lib.decDigits y, Lib.decDigits z] = ([(x : Int), (y : Int), (z : Int)], true) := by
 rw [numsOf, atoiRes_dec x hx]
 dsimp only
 rw [if_neg (by simp), numsOf, atoiRes_dec y hy]
 dsimp only
 rw [if_neg (by simp), numsOf, atoiRes_dec z hz]
 dsimp only
 rw [if_neg (by simp), numsOf]
 rfl
theorem in_eq (x a b : Int) : impl_in.f x a b = some (decide (a ≤ x ∧ x ≤ b)) := by
 unfold impl_in.f
 by_cases h : x ≥ a
 ·rw [if_pos h]; simp [show a ≤ x from h]
 ·rw [if_neg h]; simp [show ¬ a ≤ x from h]
theorem rdT_at53 {xs : List S53} {i : Nat} {a : S53} {t : List S53} (h : xs.drop i = a :: t) : rd_T53 xs (i : Int) = a := by
 unfold rd_T53; rw [Int.toNat_natCast]; exact (drop_cons' h _).2.1
def devsFrom (len : Nat) : Option S53 → List S53 → Bool
 | _, [] => decide (1 ≤ (len : Int) ∧ (len : Int) ≤ 12)
 | pr, d :: t => if (0 ≤ d.f0 ∧ d.f0 ≤ 20) ∧ (0 ≤ d.f1 ∧ d.f1 ≤ 20) ∧ (1 ≤ d.f2 ∧ d.f2 ≤ 1000) ∧ (∀ q, pr = some q → q.f0 < d.f0) then devsFrom len (some d) t else false
def devsOk (l : List S53) : Bool := devsFrom l.length none l
theorem devsOk_l0 (xs : List S53) (hN : xs.length ≤ 4611686018427387904) : ∀ (l : List S53) (i : Nat) (pr : Option S53), xs.drop i = l → (∀ q, pr = some q ↔ ∃ j, i = j + 1 ∧ xs[j]? = some q) →
  Ev (fun k => spec_DevsOk.l0 k xs (i : Int)) (devsFrom xs.length pr l) ∧ Ev (fun k => impl_DevsOk.l0 k xs xs (xs.length : Int) (i : Int)) (devsFrom xs.length pr l)
 | [], i, pr, h, hp => by
  have h1 := drop_nil' h
  refine ⟨Ev.step (f := fun _ => some (devsFrom xs.length pr [])) (fun k => ?_) (Ev.now _), Ev.step (f := fun _ => some (devsFrom xs.length pr [])) (fun k => ?_) (Ev.now _)⟩
  ·rw [spec_DevsOk.l0, if_neg (by omega), l1In_eq]; rfl
  ·rw [impl_DevsOk.l0, if_neg (by omega), in_eq]; rfl
 | d :: t, i, pr, h, hp => by
  obtain ⟨h1, hd, h3⟩ := drop_cons' h z53
  have hdi : xs[i]? = some d := by
   rw [List.getElem?_eq_getElem h1]; rw [List.getD_eq_getElem?_getD, List.getElem?_eq_getElem h1] at hd; exact congrArg some hd
  have hr : Hd (rd_T53 xs (i : Int) = d) := ⟨rdT_at53 h⟩
  have w : Hd (wrap64 ((i : Int) + 1) = ((i + 1 : Nat) : Int)) := ⟨w64s h1 hN⟩
  obtain ⟨i1, i2⟩ := devsOk_l0 xs hN t (i + 1) (some d) h3 (fun q => ⟨fun e => ⟨i, rfl, by rw [← e]; exact hdi⟩, fun ⟨j, e1, e2⟩ => by
   have : j = i := by omega
   subst this
   rw [hdi] at e2; exact e2⟩)
  rw [devsFrom]
  by_cases c0 : 0 ≤ d.f0 ∧ d.f0 ≤ 20
  ·by_cases c1 : 0 ≤ d.f1 ∧ d.f1 ≤ 20
   ·by_cases c2 : 1 ≤ d.f2 ∧ d.f2 ≤ 1000
    ·rcases Nat.eq_zero_or_pos i with hi | hi
     ·have hn : pr = none := by
       cases pr with
       | none => rfl
       | some q => obtain ⟨j, e1, _⟩ := (hp q).1 rfl; omega
      rw [if_pos ⟨c0, c1, c2, fun q e => by rw [hn] at e; cases e⟩]
      refine ⟨Ev.step (fun k => ?_) i1, Ev.step (fun k => ?_) i2⟩
      ·rw [spec_DevsOk.l0, if_pos (by omega), if_pos (by omega), hr.out, l1In_eq, Option.bind_some, decide_eq_true c0, if_pos rfl, l1In_eq, Option.bind_some, decide_eq_true c1, if_pos rfl, l1In_eq, Option.bind_some, decide_eq_true c2, if_pos rfl, if_neg (by omega), w.out]
      ·rw [impl_DevsOk.l0, if_pos (by omega), if_pos (by omega), if_pos (by omega), hr.out, in_eq, Option.bind_some, decide_eq_true c0, if_pos rfl, in_eq, Option.bind_some, decide_eq_true c1, if_pos rfl, in_eq, Option.bind_some, decide_eq_true c2, if_pos rfl, if_neg (by omega), w.out]
     ·obtain ⟨j, rfl⟩ : ∃ j, i = j + 1 := ⟨i - 1, by omega⟩
      have hj : j < xs.length := by omega
      have hq : pr = some xs[j] := (hp xs[j]).2 ⟨j, rfl, List.getElem?_eq_getElem hj⟩
      have wm : Hd (wrap64 (((j + 1 : Nat) : Int) - 1) = (j : Int)) := ⟨by rw [w64 (by omega) (by omega)]; omega⟩
      have hrj : Hd (rd_T53 xs (j : Int) = xs[j]) := ⟨by
       unfold rd_T53; rw [Int.toNat_natCast, List.getD_eq_getElem?_getD, List.getElem?_eq_getElem hj]; rfl⟩
      by_cases c3 : xs[j].f0 < d.f0
      ·rw [if_pos ⟨c0, c1, c2, fun q e => by rw [hq] at e; injection e with e; rw [← e]; exact c3⟩]
       refine ⟨Ev.step (fun k => ?_) i1, Ev.step (fun k => ?_) i2⟩
       ·rw [spec_DevsOk.l0, if_pos (by omega), if_pos (by omega), hr.out, l1In_eq, Option.bind_some, decide_eq_true c0, if_pos rfl, l1In_eq, Option.bind_some, decide_eq_true c1, if_pos rfl, l1In_eq, Option.bind_some, decide_eq_true c2, if_pos rfl, if_pos (by omega), wm.out, if_pos (by omega), if_pos (by omega), hrj.out, if_neg (by omega), w.out]
       ·rw [impl_DevsOk.l0, if_pos (by omega), if_pos (by omega), if_pos (by omega), hr.out, in_eq, Option.bind_some, decide_eq_true c0, if_pos rfl, in_eq, Option.bind_some, decide_eq_true c1, if_pos rfl, in_eq, Option.bind_some, decide_eq_true c2, if_pos rfl, if_pos (by omega), wm.out, if_pos (by omega), if_pos (by omega), hrj.out, if_neg (by omega), w.out]
      ·rw [if_neg (fun hc => c3 (hc.2.2.2 _ hq))]
       refine ⟨Ev.step (f := fun _ => some false) (fun k => ?_) (Ev.now _), Ev.step (f := fun _ => some false) (fun k => ?_) (Ev.now _)⟩
       ·rw [spec_DevsOk.l0, if_pos (by omega), if_pos (by omega), hr.out, l1In_eq, Option.bind_some, decide_eq_true c0, if_pos rfl, l1In_eq, Option.bind_some, decide_eq_true c1, if_pos rfl, l1In_eq, Option.bind_some, decide_eq_true c2, if_pos rfl, if_pos (by omega), wm.out, if_pos (by omega), if_pos (by omega), hrj.out, if_pos (by omega)]
       ·rw [impl_DevsOk.l0, if_pos (by omega), if_pos (by omega), if_pos (by omega), hr.out, in_eq, Option.bind_some, decide_eq_true c0, if_pos rfl, in_eq, Option.bind_some, decide_eq_true c1, if_pos rfl, in_eq, Option.bind_some, decide_eq_true c2, if_pos rfl, if_pos (by omega), wm.out, if_pos (by omega), if_pos (by omega), hrj.out, if_pos (by omega)]
    ·rw [if_neg (fun hc => c2 hc.2.2.1)]
     refine ⟨Ev.step (f := fun _ => some false) (fun k => ?_) (Ev.now _), Ev.step (f := fun _ => some false) (fun k => ?_) (Ev.now _)⟩
     ·rw [spec_DevsOk.l0, if_pos (by omega), if_pos (by omega), hr.out, l1In_eq, Option.bind_some, decide_eq_true c0, if_pos rfl, l1In_eq, Option.bind_some, decide_eq_true c1, if_pos rfl, l1In_eq, Option.bind_some, decide_eq_false c2, if_neg (by decide)]
     ·rw [impl_DevsOk.l0, if_pos (by omega), if_pos (by omega), if_pos (by omega), hr.out, in_eq, Option.bind_some, decide_eq_true c0, if_pos rfl, in_eq, Option.bind_some, decide_eq_true c1, if_pos rfl, in_eq, Option.bind_some, decide_eq_false c2, if_neg (by decide)]
   ·rw [if_neg (fun hc => c1 hc.2.1)]
    refine ⟨Ev.step (f := fun _ => some false) (fun k => ?_) (Ev.now _), Ev.step (f := fun _ => some false) (fun k => ?_) (Ev.now _)⟩
    ·rw [spec_DevsOk.l0, if_pos (by omega), if_pos (by omega), hr.out, l1In_eq, Option.bind_some, decide_eq_true c0, if_pos rfl, l1In_eq, Option.bind_some, decide_eq_false c1, if_neg (by decide)]
    ·rw [impl_DevsOk.l0, if_pos (by omega), if_pos (by omega), if_pos (by omega), hr.out, in_eq, Option.bind_some, decide_eq_true c0, if_pos rfl, in_eq, Option.bind_some, decide_eq_false c1, if_neg (by decide)]
  ·rw [if_neg (fun hc => c0 hc.1)]
   refine ⟨Ev.step (f := fun _ => some false) (fun k => ?_) (Ev.now _), Ev.step (f := fun _ => some false) (fun k => ?_) (Ev.now _)⟩
   ·rw [spec_DevsOk.l0, if_pos (by omega), if_pos (by omega), hr.out, l1In_eq, Option.bind_some, decide_eq_false c0, if_neg (by decide)]
   ·rw [impl_DevsOk.l0, if_pos (by omega), if_pos (by omega), if_pos (by omega), hr.out, in_eq, Option.bind_some, decide_eq_false c0, if_neg (by decide)]
theorem devsOk_ev (xs : List S53) (hN : xs.length ≤ 4611686018427387904) : Ev (fun k => spec_DevsOk.f k xs) (devsOk xs) ∧ Ev (fun k => impl_DevsOk.f k xs) (devsOk xs) :=
 devsOk_l0 xs hN xs 0 none rfl (fun q => ⟨fun e => (by cases e), fun ⟨j, e, _⟩ => (by omega)⟩)
theorem devsFrom_mem (n : Nat) : ∀ (l : List S53) (pr : Option S53), devsFrom n pr l = true → ∀ d ∈ l, (0 ≤ d.f0 ∧ d.f0 ≤ 20) ∧ (0 ≤ d.f1 ∧ d.f1 ≤ 20) ∧ (1 ≤ d.f2 ∧ d.f2 ≤ 1000)
 | [], _, _, d, hd => by cases hd
 | a :: t, pr, h, d, hd => by
  rw [devsFrom] at h
  by_cases c : (0 ≤ a.f0 ∧ a.f0 ≤ 20) ∧ (0 ≤ a.f1 ∧ a.f1 ≤ 20) ∧ (1 ≤ a.f2 ∧ a.f2 ≤ 1000) ∧ (∀ q, pr = some q → q.f0 < a.f0)
  ·rw [if_pos c] at h
   rcases List.mem_cons.1 hd with rfl | hd
   ·exact ⟨c.1, c.2.1, c.2.2.1⟩
   ·exact devsFrom_mem n t (some a) h d hd
  ·rw [if_neg c] at h
   cases h
theorem itoa_eq (n : Int) (h0 : 0 ≤ n) (h1 : n ≤ 10000000000) : strconv_Itoa.f n = some (dtxt n) := by
 rw [strconv_Itoa.f, if_pos (by omega)]; rfl
theorem devsFrom_num (n : Nat) : ∀ (l : List S53) (pr : Option S53), devsFrom n pr l = true → n ≤ 12
 | [], _, h => by
  rw [devsFrom] at h
  have := of_decide_eq_true h
  omega
 | a :: t, pr, h => by
  rw [devsFrom] at h
  split at h
  ·exact devsFrom_num n t _ h
  ·cases h
abbrev sp : ByteArray := ⟨#[32]⟩
abbrev co : ByteArray := ⟨#[58]⟩
def devTxt (d : S53) : ByteArray := (((dtxt d.f0 ++ co) ++ dtxt d.f1) ++ co) ++ dtxt d.f2
abbrev Small3 (d : S53) : Prop := (0 ≤ d.f0 ∧ d.f0 ≤ 20) ∧ (0 ≤ d.f1 ∧ d.f1 ≤ 20) ∧ (1 ≤ d.f2 ∧ d.f2 ≤ 1000)
theorem sz_app (a b : ByteArray) : (a ++ b).size = a.size + b.size := ByteArray.size_append
theorem devTxt_size (d : S53) (h : Small3 d) : (devTxt d).size ≤ 1100 := by
 have s1 := dtxt_size d.f0 h.1.1
 have s2 := dtxt_size d.f1 h.2.1.1
 have s3 := dtxt_size d.f2 (by omega)
 have d1 : co.size = 1 := rfl
 simp only [devTxt, sz_app, d1]
 omega
def devsTail : List S53 → ByteArray → ByteArray
 | [], s => s
 | d :: t, s => devsTail t ((((((s ++ sp) ++ dtxt d.f0) ++ co) ++ dtxt d.f1) ++ co) ++ dtxt d.f2)
def devsJoin : List S53 → ByteArray
 | [] => ⟨#[]⟩
 | d :: t => devsTail t ((((((⟨#[]⟩ : ByteArray) ++ dtxt d.f0) ++ co) ++ dtxt d.f1) ++ co) ++ dtxt d.f2)
theorem devsTail_data : ∀ (t : List S53) (s : ByteArray), (devsTail t s).data.toList = s.data.toList ++ Lib.joinTail [32] (t.map fun d => (devTxt d).data.toList)
 | [], s => by simp [devsTail, Lib.joinTail]
 | d :: t, s => by
  rw [devsTail, devsTail_data t]
  simp [Lib.joinTail, devTxt, ByteArray.data_append]
def joinB (xs : List ByteArray) : ByteArray := ⟨(Lib.join (xs.map (·.data.toList)) [32]).toArray⟩
theorem joinB_devs (l : List S53) : joinB (l.map devTxt) = devsJoin l := by
 apply ByteArray.ext
 apply Array.ext'
 cases l with
 | nil => rfl
 | cons d t =>
  rw [devsJoin, devsTail_data]
  simp [joinB, Lib.join_cons, devTxt, ByteArray.data_append, Function.comp_def]
theorem joinTail_len (m : Nat) : ∀ r : List ByteArray, (∀ x ∈ r, x.size ≤ m) → (Lib.joinTail [32] (r.map (·.data.toList))).length ≤ r.length * (m + 1)
 | [], _ => by simp [Lib.joinTail]
 | x :: r, h => by
  have h1 := joinTail_len m r (fun y hy => h y (List.mem_cons_of_mem _ hy))
  have h2 := h x List.mem_cons_self
  have h3 : x.data.toList.length = x.size := Array.length_toList
  simp only [Lib.joinTail, List.map_cons, List.flatten_cons, List.length_append, List.length_cons, List.length_nil] at h1 ⊢
  rw [Nat.succ_mul, h3]
  omega
theorem join_fits (xs : List ByteArray) (hx : xs.length ≤ 12) (hs : ∀ x ∈ xs, x.size ≤ 1100) : strings_Join.f xs sp = some (joinB xs, xs) := by
 rw [strings_Join.f, if_pos]
 ·rfl
 ·refine ⟨by omega, ?_⟩
  cases xs with
  | nil => exact Nat.zero_le _
  | cons x r =>
   have h1 := joinTail_len 1100 r (fun y hy => hs y (List.mem_cons_of_mem _ hy))
   have h2 := hs x List.mem_cons_self
   have h3 : x.data.toList.length = x.size := Array.length_toList
   rw [List.map_cons, Lib.join_cons, List.length_append, h3]
   rw [List.length_cons] at hx
   have h4 : r.length * (1100 + 1) ≤ 12 * 1101 := Nat.mul_le_mul (by omega) (by omega)
   show x.size + (Lib.joinTail [32] (r.map (·.data.toList))).length ≤ _
   omega
theorem devsText_l0 (ds : List S53) (hb : ∀ d ∈ ds, Small3 d) (hn : ds.length ≤ 12) : ∀ (t : List S53) (i : Nat) (s : ByteArray), ds.drop i = t → 1 ≤ i → s.size ≤ i * 1200 → Ev (fun k => spec_DevsText.l0 k ds s (i : Int)) (devsTail t s)
 | [], i, s, h, hi, hs => by
  have h1 := drop_nil' h
  refine Ev.step (f := fun _ => some s) (fun k => ?_) (Ev.now _)
  rw [spec_DevsText.l0, if_neg (by omega)]
 | d :: t, i, s, h, hi, hs => by
  obtain ⟨h1, _, h3⟩ := drop_cons' h z53
  have hr : Hd (rd_T53 ds (i : Int) = d) := ⟨rdT_at53 h⟩
  have w : Hd (wrap64 ((i : Int) + 1) = ((i + 1 : Nat) : Int)) := ⟨w64s h1 (by omega)⟩
  have hd := hb d (List.mem_of_mem_drop (by rw [h]; exact List.mem_cons_self))
  have s1 := dtxt_size d.f0 hd.1.1
  have s2 := dtxt_size d.f1 hd.2.1.1
  have s3 := dtxt_size d.f2 (by omega)
  have d1 : co.size = 1 := rfl
  have d2 : sp.size = 1 := rfl
  have ih := devsText_l0 ds hb hn t (i + 1) ((((((s ++ sp) ++ dtxt d.f0) ++ co) ++ dtxt d.f1) ++ co) ++ dtxt d.f2) h3 (by omega) (by simp only [sz_app, d1, d2]; omega)
  rw [devsTail]
  refine Ev.step (fun k => by rw [spec_DevsText.l0, if_pos (by omega), if_pos (by omega), if_pos (by omega), if_pos (by omega), hr.out, w.out]) ?_
  refine Ev.bind (dtxt_ev d.f0 (by omega) (by omega)) (Ev.pos ?_ (Ev.pos ?_ (Ev.bind (dtxt_ev d.f1 (by omega) (by omega)) (Ev.pos ?_ (Ev.pos ?_ (Ev.bind (dtxt_ev d.f2 (by omega) (by omega)) (Ev.pos ?_ ih)))))))
  all_goals simp only [sz_app, d1, d2]; omega
theorem devsText_spec (ds : List S53) (hb : ∀ d ∈ ds, Small3 d) (hn : ds.length ≤ 12) : Ev (fun k => spec_DevsText.l0 k ds (⟨#[]⟩ : ByteArray) ((0 : Nat) : Int)) (devsJoin ds) := by
 cases hds : ds with
 | nil =>
  refine Ev.step (f := fun _ => some (⟨#[]⟩ : ByteArray)) (fun k => ?_) (Ev.now _)
  rw [spec_DevsText.l0, if_neg (by simp)]
 | cons d t =>
  rw [← hds]
  have h : ds.drop 0 = d :: t := hds
  obtain ⟨h1, _, h3⟩ := drop_cons' h z53
  have hr : Hd (rd_T53 ds ((0 : Nat) : Int) = d) := ⟨rdT_at53 h⟩
  have w : Hd (wrap64 (((0 : Nat) : Int) + 1) = ((0 + 1 : Nat) : Int)) := ⟨w64s h1 (by omega)⟩
  have hd := hb d (by rw [hds]; exact List.mem_cons_self)
  have s1 := dtxt_size d.f0 hd.1.1
  have s2 := dtxt_size d.f1 hd.2.1.1
  have s3 := dtxt_size d.f2 (by omega)
  have d1 : co.size = 1 := rfl
  have d0 : (⟨#[]⟩ : ByteArray).size = 0 := rfl
  have ih := devsText_l0 ds hb hn t (0 + 1) ((((((⟨#[]⟩ : ByteArray) ++ dtxt d.f0) ++ co) ++ dtxt d.f1) ++ co) ++ dtxt d.f2) h3 (by omega) (by simp only [sz_app, d1, d0]; omega)
  have e : devsJoin ds = devsTail t ((((((⟨#[]⟩ : ByteArray) ++ dtxt d.f0) ++ co) ++ dtxt d.f1) ++ co) ++ dtxt d.f2) := by rw [hds, devsJoin]
  rw [e]
  refine Ev.step (fun k => by rw [spec_DevsText.l0, if_pos (by omega), if_neg (by omega), if_pos (by omega), hr.out, w.out]) ?_
  refine Ev.bind (dtxt_ev d.f0 (by omega) (by omega)) (Ev.pos ?_ (Ev.pos ?_ (Ev.bind (dtxt_ev d.f1 (by omega) (by omega)) (Ev.pos ?_ (Ev.pos ?_ (Ev.bind (dtxt_ev d.f2 (by omega) (by omega)) (Ev.pos ?_ ih)))))))
  all_goals simp only [sz_app, d1, d0]; omega
theorem devsText_impl (ds : List S53) (hb : ∀ d ∈ ds, Small3 d) (hn : ds.length ≤ 12) : ∀ (t : List S53) (i : Nat) (A : List ByteArray), ds.drop i = t → A.length = i → i ≤ ds.length → (∀ x ∈ A, x.size ≤ 1100) → Ev (fun k => impl_DevsText.l0 k A ds (ds.length : Int) (i : Int)) (joinB (A ++ t.map devTxt))
 | [], i, A, h, hA, hi, hs => by
  have h1 := drop_nil' h
  refine Ev.step (f := fun _ => some (joinB A)) (fun k => ?_) (Ev.eq (Ev.now _) (by simp))
  rw [impl_DevsText.l0, if_neg (by omega), join_fits A (by omega) hs]
  rfl
 | d :: t, i, A, h, hA, hi, hs => by
  obtain ⟨h1, _, h3⟩ := drop_cons' h z53
  have hr : Hd (rd_T53 ds (i : Int) = d) := ⟨rdT_at53 h⟩
  have w : Hd (wrap64 ((i : Int) + 1) = ((i + 1 : Nat) : Int)) := ⟨w64s h1 (by omega)⟩
  have hd := hb d (List.mem_of_mem_drop (by rw [h]; exact List.mem_cons_self))
  have s1 := dtxt_size d.f0 hd.1.1
  have s2 := dtxt_size d.f1 hd.2.1.1
  have s3 := dtxt_size d.f2 (by omega)
  have d1 : co.size = 1 := rfl
  have ih := devsText_impl ds hb hn t (i + 1) (A ++ [devTxt d]) h3 (by simp [hA]) (by omega) (fun x hx => by
   rcases List.mem_append.1 hx with hx | hx
   ·exact hs x hx
   ·rw [List.mem_singleton.1 hx]; exact devTxt_size d hd)
  refine Ev.step (fun k => by rw [impl_DevsText.l0, if_pos (by omega), if_pos (by omega), if_pos (by omega), hr.out, w.out, itoa_eq d.f0 (by omega) (by omega), itoa_eq d.f1 (by omega) (by omega), itoa_eq d.f2 (by omega) (by omega)]) (Ev.eq ?_ (by simp : joinB ((A ++ [devTxt d]) ++ t.map devTxt) = _))
  refine Ev.got rfl (Ev.pos ?_ (Ev.got rfl (Ev.pos ?_ (Ev.pos ?_ (Ev.got rfl (Ev.pos ?_ (Ev.pos (by omega) ih)))))))
  all_goals (try simp only [sz_app, d1]); omega
def devsText (l : List S53) : ByteArray := if devsOk l = true then devsJoin l else ⟨#[]⟩
theorem devsText_ev (l : List S53) (hl : l.length ≤ 1048576) : Ev (fun k => spec_DevsText.f k l) (devsText l) ∧ Ev (fun k => impl_DevsText.f k l) (devsText l) := by
 obtain ⟨d1, d2⟩ := devsOk_ev l (by omega)
 simp only [spec_DevsText.f, impl_DevsText.f]
 rw [devsText]
 refine ⟨Ev.bind d1 ?_, Ev.bind d2 ?_⟩
 ·by_cases c : devsOk l = true
  ·rw [if_pos c]
   exact Ev.pos c (devsText_spec l (devsFrom_mem l.length l none c) (devsFrom_num l.length l none c))
  ·rw [if_neg c]
   exact Ev.neg c (Ev.now _)
 ·by_cases c : devsOk l = true
  ·rw [if_pos c, ← joinB_devs]
   exact Ev.pos c (devsText_impl l (devsFrom_mem l.length l none c) (devsFrom_num l.length l none c) l 0 [] rfl rfl (Nat.zero_le _) (by simp))
  ·rw [if_neg c]
   exact Ev.neg c (Ev.now _)
theorem joinTail_cons (c : UInt8) (y : List UInt8) (ys : List (List UInt8)) : Lib.joinTail [c] (y :: ys) = c :: (y ++ Lib.joinTail [c] ys) := by
 simp [Lib.joinTail]
theorem splitL_join (c : UInt8) : ∀ (xs : List (List UInt8)) (x : List UInt8), (∀ y ∈ x :: xs, c ∉ y) → splitL c (x ++ Lib.joinTail [c] xs) = x :: xs
 | [], x, h => by
  have := glue_last c x [] (h x List.mem_cons_self)
  rw [glue_nil, List.nil_append] at this
  simpa [Lib.joinTail] using this
 | y :: ys, x, h => by
  rw [joinTail_cons, ← glue_nil, glue_part c x [] _ (h x List.mem_cons_self), List.nil_append, splitL_join c ys y (fun z hz => h z (List.mem_cons_of_mem _ hz))]
def devW (d : S53) : List UInt8 := three 58 d.f0.toNat d.f1.toNat d.f2.toNat
theorem devTxt_data (d : S53) (h : Small3 d) : (devTxt d).data.toList = devW d := by
 simp [devTxt, dtxt, co, ByteArray.data_append, devW, three, Lib.itoa, if_neg (show ¬ d.f0 < 0 by omega), if_neg (show ¬ d.f1 < 0 by omega), if_neg (show ¬ d.f2 < 0 by omega)]
theorem devW_no (d : S53) : (32 : UInt8) ∉ devW d := by
 intro h
 rw [devW, three, List.mem_append, List.mem_cons, List.mem_append, List.mem_cons] at h
 rcases h with h | h | h | h | h
 ·exact dec_no 32 (by decide) _ h
 ·revert h; decide
 ·exact dec_no 32 (by decide) _ h
 ·revert h; decide
 ·exact dec_no 32 (by decide) _ h
theorem devsText_data (d : S53) (t : List S53) (h : devsOk (d :: t) = true) : (devsText (d :: t)).data.toList = devW d ++ Lib.joinTail [32] (t.map devW) := by
 have hb : ∀ x ∈ d :: t, Small3 x := devsFrom_mem _ (d :: t) none h
 rw [devsText, if_pos h, ← joinB_devs, joinB, ← ba, ba_data, List.map_map, List.map_cons, Lib.join_cons]
 have e : ∀ x ∈ d :: t, ((fun b : ByteArray => b.data.toList) ∘ devTxt) x = devW x := fun x hx => devTxt_data x (hb x hx)
 rw [e d List.mem_cons_self, List.map_congr_left (fun x hx => e x (List.mem_cons_of_mem _ hx))]
theorem devs_ne (l : List S53) (h : devsOk l = true) : ∃ d t, l = d :: t := by
 cases l with
 | nil => exact absurd h (by decide)
 | cons d t => exact ⟨d, t, rfl⟩
theorem devsText_split (l : List S53) (h : devsOk l = true) : splitL 32 (devsText l).data.toList = l.map devW := by
 obtain ⟨d, t, rfl⟩ := devs_ne l h
 rw [devsText_data d t h, List.map_cons]
 refine splitL_join 32 _ _ (fun y hy => ?_)
 rw [← List.map_cons] at hy
 obtain ⟨x, _, rfl⟩ := List.mem_map.1 hy
 exact devW_no x
def parseS : List S53 → List (List UInt8) → List S53 × Bool
 | acc, [] => if devsOk acc = true then (acc, true) else ([], false)
 | acc, w :: t => match splitL 58 w with
  | [p, q, r] => parseS (acc ++ [⟨numL p, numL q, numL r⟩]) t
  | _ => ([], false)
def parseI (s : ByteArray) : List S53 → List (List UInt8) → List S53 × Bool
 | acc, [] => if (devsText acc).toList = [] then ([], false) else if devsText acc = s then (acc, true) else ([], false)
 | acc, w :: t => match numsOf 3 [] (splitL 58 w) with
  | (l, true) => if (acc.length : Int) ≥ 12 then ([], false) else parseI s (acc ++ [⟨rd l 0, rd l 1, rd l 2⟩]) t
  | (_, false) => ([], false)
theorem parseS_yes : ∀ (t acc : List S53), devsOk (acc ++ t) = true → (∀ d ∈ t, Small3 d) → parseS acc (t.map devW) = (acc ++ t, true)
 | [], acc, h, _ => by
  rw [List.append_nil] at h ⊢
  rw [List.map_nil, parseS, if_pos h]
 | d :: t, acc, h, hb => by
  have hd := hb d List.mem_cons_self
  have ih := parseS_yes t (acc ++ [d]) (by simpa using h) (fun x hx => hb x (List.mem_cons_of_mem _ hx))
  rw [List.map_cons, parseS, devW, three_split 58 (by decide)]
  dsimp only
  rw [numL_dec _ (by omega), numL_dec _ (by omega), numL_dec _ (by omega), show ((d.f0.toNat : Nat) : Int) = d.f0 by omega, show ((d.f1.toNat : Nat) : Int) = d.f1 by omega, show ((d.f2.toNat : Nat) : Int) = d.f2 by omega]
  rw [show (⟨d.f0, d.f1, d.f2⟩ : S53) = d from rfl, ih]
  simp
theorem parseI_yes (s : ByteArray) : ∀ (t acc : List S53), devsOk (acc ++ t) = true → s = devsText (acc ++ t) → (devsText (acc ++ t)).toList ≠ [] → (∀ d ∈ t, Small3 d) → (acc ++ t).length ≤ 12 → parseI s acc (t.map devW) = (acc ++ t, true)
 | [], acc, h, hs, hn, _, _ => by
  rw [List.append_nil] at h hs hn ⊢
  rw [List.map_nil, parseI, if_neg hn, if_pos hs.symm]
 | d :: t, acc, h, hs, hn, hb, hl => by
  have hd := hb d List.mem_cons_self
  have ih := parseI_yes s t (acc ++ [d]) (by simpa using h) (by simpa using hs) (by simpa using hn) (fun x hx => hb x (List.mem_cons_of_mem _ hx)) (by simpa using hl)
  rw [List.length_append, List.length_cons] at hl
  rw [List.map_cons, parseI, devW, three_split 58 (by decide), three_nums _ _ _ (by omega) (by omega) (by omega)]
  dsimp only
  rw [if_neg (by omega), show ((d.f0.toNat : Nat) : Int) = d.f0 by omega, show ((d.f1.toNat : Nat) : Int) = d.f1 by omega, show ((d.f2.toNat : Nat) : Int) = d.f2 by omega]
  rw [show (⟨rd [d.f0, d.f1, d.f2] 0, rd [d.f0, d.f1, d.f2] 1, rd [d.f0, d.f1, d.f2] 2⟩ : S53) = d from rfl, ih]
  simp
def specDevs (s : ByteArray) : List S53 × Bool := parseS [] (splitL 32 s.data.toList)
def implDevs (s : ByteArray) : List S53 × Bool := parseI s [] (splitL 32 s.data.toList)
theorem devs_yes (l : List S53) (h : devsOk l = true) (s : ByteArray) (hs : s = devsText l) : specDevs s = (l, true) ∧ implDevs s = (l, true) := by
 have hb : ∀ x ∈ l, Small3 x := devsFrom_mem _ l none h
 have hn := devsFrom_num l.length l none h
 refine ⟨?_, ?_⟩
 ·rw [specDevs, hs, devsText_split l h, parseS_yes l [] h hb]
  rfl
 ·rw [implDevs, show splitL 32 s.data.toList = l.map devW by rw [hs]; exact devsText_split l h, parseI_yes s l [] h hs ?_ hb hn]
  ·rfl
  ·rw [List.nil_append, ByteArray.toList_eq]
   obtain ⟨d, t, rfl⟩ := devs_ne l h
   rw [devsText_data d t h]
   simp [devW, three]
theorem specDevs_l0 (ps : List (List UInt8)) (hN : ps.length ≤ 1048577) (hs : ∀ p ∈ ps, p.length ≤ 1048576) : ∀ (t : List (List UInt8)) (i : Nat) (acc : List S53), ps.drop i = t → acc.length ≤ i → i ≤ ps.length → Ev (fun k => spec_ParseDevs.l0 k acc (ps.map ba) (i : Int)) (parseS acc t)
 | [], i, acc, h, ha, hi => by
  have h1 := drop_nil' h
  refine Ev.step (f := fun k => (spec_DevsOk.f k acc).bind fun t130 => if t130 = true then some (acc, true) else some (([] : List S53), false)) (fun k => by rw [spec_ParseDevs.l0, if_neg (by rw [List.length_map]; omega)]) ?_
  refine Ev.bind (devsOk_ev acc (by omega)).1 ?_
  rw [parseS]
  by_cases c : devsOk acc = true
  ·refine Ev.eq ?_ (if_pos c).symm
   exact Ev.pos c (Ev.now _)
  ·refine Ev.eq ?_ (if_neg c).symm
   exact Ev.neg c (Ev.now _)
 | w :: t, i, acc, h, ha, hi => by
  obtain ⟨h1, _, h3⟩ := drop_cons' h []
  have hw := hs w (List.mem_of_mem_drop (by rw [h]; exact List.mem_cons_self))
  have wi : wrap64 ((i : Int) + 1) = ((i + 1 : Nat) : Int) := w64s h1 (by omega)
  have e0 : Ev (fun k => spec_l2Split.f k (ba w) 58) ((splitL 58 w).map ba) := by
   have := l2Split_ev (ba w) (by rw [ba_size]; exact hw) 58
   rw [ba_data] at this
   exact this
  obtain ⟨l1, l2⟩ := splitL_len 58 w
  refine Ev.step (fun k => by rw [spec_ParseDevs.l0, if_pos (by rw [List.length_map]; omega), if_pos (by omega), rdOf_ba h, wi]) (Ev.bind e0 ?_)
  rw [parseS]
  generalize splitL 58 w = P at l1 l2
  match P, l2 with
  | [], _ => exact Ev.neg (by simp) (Ev.now _)
  | [_], _ => exact Ev.neg (by simp) (Ev.now _)
  | [_, _], _ => exact Ev.neg (by simp) (Ev.now _)
  | _ :: _ :: _ :: _ :: _, _ => exact Ev.neg (by simp; omega) (Ev.now _)
  | [p, q, r], l2 =>
   have q1 := l2 p (by simp)
   have q2 := l2 q (by simp)
   have q3 := l2 r (by simp)
   have ih := specDevs_l0 ps hN hs t (i + 1) (acc ++ [⟨numL p, numL q, numL r⟩]) h3 (by simp; omega) (by omega)
   exact Ev.pos (by simp) (Ev.pos (by simp) (Ev.bind (l2Number_ev p (by omega)) (Ev.pos (by simp) (Ev.bind (l2Number_ev q (by omega)) (Ev.pos (by simp) (Ev.bind (l2Number_ev r (by omega)) (Ev.pos (by omega) ih)))))))
theorem implDevs_l0 (s : ByteArray) (ps : List (List UInt8)) (hN : ps.length ≤ 1048577) (hs : ∀ p ∈ ps, p.length ≤ 1048576) : ∀ (t : List (List UInt8)) (i : Nat) (acc : List S53), ps.drop i = t → acc.length ≤ 12 → Ev (fun k => impl_ParseDevs.l0 k s acc (ps.map ba) ((ps.map ba).length : Int) (i : Int)) (parseI s acc t)
 | [], i, acc, h, ha => by
  have h1 := drop_nil' h
  refine Ev.step (f := fun k => (impl_DevsText.f k acc).bind fun t192 => if t192.toList = ([] : List UInt8) then some (([] : List S53), false) else if t192.toList = s.toList then some (acc, true) else some (([] : List S53), false)) (fun k => by rw [impl_ParseDevs.l0, if_neg (by rw [List.length_map]; omega)]) ?_
  refine Ev.bind (devsText_ev acc (by omega)).2 ?_
  rw [parseI]
  by_cases c : (devsText acc).toList = []
  ·refine Ev.eq ?_ (if_pos c).symm
   exact Ev.pos c (Ev.now _)
  ·refine Ev.eq ?_ (if_neg c).symm
   refine Ev.neg c ?_
   by_cases c2 : devsText acc = s
   ·refine Ev.eq ?_ (if_pos c2).symm
    exact Ev.pos (by rw [c2]) (Ev.now _)
   ·refine Ev.eq ?_ (if_neg c2).symm
    exact Ev.neg (fun h => c2 (str_back h)) (Ev.now _)
 | w :: t, i, acc, h, ha => by
  obtain ⟨h1, _, h3⟩ := drop_cons' h []
  have hw := hs w (List.mem_of_mem_drop (by rw [h]; exact List.mem_cons_self))
  have wi : wrap64 ((i : Int) + 1) = ((i + 1 : Nat) : Int) := w64s h1 (by omega)
  have e0 : Ev (fun k => impl_numbersOf.f k (ba w) (⟨#[58]⟩ : ByteArray) 3) (numsOf 3 [] (splitL 58 w)) := by
   have := numbersOf_ev (ba w) (by rw [ba_size]; exact hw) 58 3 (by omega)
   rw [ba_data] at this
   exact this
  have hl := numsOf_len 3 (splitL 58 w) []
  refine Ev.step (fun k => by rw [impl_ParseDevs.l0, if_pos (by rw [List.length_map]; omega), if_pos (by omega), if_pos (by rw [List.length_map]; omega), rdOf_ba h, wi]) (Ev.bind e0 ?_)
  rw [parseI]
  generalize numsOf 3 [] (splitL 58 w) = N at hl
  obtain ⟨l, b⟩ := N
  cases b with
  | false => exact Ev.neg (by simp) (Ev.now _)
  | true =>
   have hl := hl rfl
   dsimp only at hl ⊢
   refine Ev.pos rfl ?_
   by_cases c : (acc.length : Int) ≥ 12
   ·refine Ev.eq ?_ (if_pos c).symm
    exact Ev.pos c (Ev.now _)
   ·refine Ev.eq ?_ (if_neg c).symm
    exact Ev.neg c (Ev.pos (by omega) (Ev.pos (by omega) (Ev.pos (by omega) (Ev.pos (by omega) (implDevs_l0 s ps hN hs t (i + 1) _ h3 (by simp; omega))))))
theorem parseDevs_ev (s : ByteArray) (hN : s.size ≤ 1048576) : Ev (fun k => spec_ParseDevs.f k s) (specDevs s) ∧ Ev (fun k => impl_ParseDevs.f k s) (implDevs s) := by
 obtain ⟨h1, h2⟩ := splitL_len 32 s.data.toList
 rw [data_length] at h1 h2
 have hs : ∀ p ∈ splitL 32 s.data.toList, p.length ≤ 1048576 := fun p hp => Nat.le_trans (h2 p hp) hN
 simp only [spec_ParseDevs.f, impl_ParseDevs.f]
 rw [libSplit_eq s hN 32]
 exact ⟨Ev.bind (l2Split_ev s hN 32) (specDevs_l0 _ (by omega) hs _ 0 [] rfl (Nat.le_refl _) (Nat.zero_le _)), Ev.some_bind (implDevs_l0 s _ (by omega) hs _ 0 [] rfl (by simp))⟩
def Cur (b : List Int) (i : Int) : Prop := b.length ≤ 1048576 ∧ 0 ≤ i ∧ i ≤ b.length
theorem new_l0 (b : List Int) (hN : b.length ≤ 1048576) (d : Nat) : ∀ (i : Nat) (h : Int), i + d = b.length → ∃ h', Ev (fun k => spec_l1New.l0 k b h (i : Int)) (b, 0, h') := by
 induction d with
 | zero =>
  intro i h hd
  refine ⟨h, Ev.step (f := fun _ => some (b, 0, h)) (fun k => ?_) (Ev.now _)⟩
  rw [spec_l1New.l0, if_neg (by omega)]
 | succ d ih =>
  intro i h hd
  by_cases c : (i : Int) < 4000
  ·obtain ⟨h', e⟩ := ih (i + 1) (Go.bits .and .i64 (wrap64 ((wrap64 ((wrap64 (h * 137)) + (wrap64 (rd b i)))) + 11)) 1073741823) (by omega)
   refine ⟨h', Ev.step (fun k => ?_) e⟩
   rw [spec_l1New.l0, if_pos (by omega), if_pos c, if_pos (by omega), w64s (i := i) (n := b.length) (by omega) (by omega)]
  ·refine ⟨h, Ev.step (f := fun _ => some (b, 0, h)) (fun k => ?_) (Ev.now _)⟩
   rw [spec_l1New.l0, if_pos (by omega), if_neg c]
theorem new_ev (b : List Int) (hN : b.length ≤ 1048576) : ∃ h', Ev (fun k => spec_l1New.f k b) (b, 0, h') ∧ Cur b 0 := by
 obtain ⟨h', e⟩ := new_l0 b hN b.length 0 (wrap64 (378378 + (b.length : Int))) (by omega)
 exact ⟨h', e, hN, by omega, by omega⟩
theorem byte_ok (b : List Int) (i h : Int) (hc : Cur b i) : ∃ x i' h', spec_l1Byte.f b i h = some (x, i', h') ∧ 0 ≤ x ∧ x ≤ 255 ∧ Cur b i' := by
 obtain ⟨c1, c2, c3⟩ := hc
 unfold spec_l1Byte.f
 by_cases c : i < (b.length : Int)
 ·rw [if_pos c, if_pos c2]
  refine ⟨_, _, _, rfl, (and255 _).1, (and255 _).2, c1, ?_⟩
  rw [w64 (by omega) (by omega)]
  omega
 ·rw [if_neg c]
  exact ⟨_, _, _, rfl, (and255 _).1, (and255 _).2, c1, c2, c3⟩
theorem tmod_in {x n : Int} (h0 : 0 ≤ x) (hn : 0 < n) : 0 ≤ Int.tmod x n ∧ Int.tmod x n < n := by
 rw [Int.tmod_eq_emod_of_nonneg h0]
 exact ⟨Int.emod_nonneg _ (by omega), Int.emod_lt_of_pos _ hn⟩
theorem below_ok (b : List Int) (i h n : Int) (hc : Cur b i) : ∃ x i' h', spec_l1Below.f b i h n = some (x, i', h') ∧ 0 ≤ x ∧ (0 < n → x < n) ∧ (n ≤ 0 → x = 0) ∧ Cur b i' := by
 unfold spec_l1Below.f
 by_cases c0 : n ≤ 0
 ·rw [if_pos c0]
  exact ⟨0, i, h, rfl, Int.le_refl _, fun h1 => absurd h1 (by omega), fun _ => rfl, hc⟩
 ·rw [if_neg c0]
  obtain ⟨x, i1, h1, e1, x0, x1, hc1⟩ := byte_ok b i h hc
  by_cases c1 : n ≤ 256
  ·rw [if_pos c1, e1, Option.bind_some, if_neg (by omega)]
   have ht := tmod_in x0 (show 0 < n by omega)
   exact ⟨_, _, _, rfl, ht.1, fun _ => ht.2, fun hq => absurd hq c0, hc1⟩
  ·obtain ⟨y, i2, h2, e2, y0, y1, hc2⟩ := byte_ok b i1 h1 hc1
   obtain ⟨z, i3, h3, e3, z0, z1, hc3⟩ := byte_ok b i2 h2 hc2
   rw [if_neg c1, e1, Option.bind_some, e2, Option.bind_some, e3, Option.bind_some, if_neg (by omega)]
   have w : wrap64 (wrap64 (wrap64 (x * 65536) + wrap64 (y * 256)) + z) = x * 65536 + y * 256 + z := by
    rw [w64 (x := x * 65536) (by omega) (by omega), w64 (x := y * 256) (by omega) (by omega), w64 (x := x * 65536 + y * 256) (by omega) (by omega), w64 (by omega) (by omega)]
   have ht := tmod_in (x := x * 65536 + y * 256 + z) (by omega) (show 0 < n by omega)
   refine ⟨_, _, _, rfl, ?_, fun _ => ?_, fun hq => absurd hq c0, hc3⟩
   ·simp only [w]; exact ht.1
   ·simp only [w]; exact ht.2
theorem int_ok (b : List Int) (i h : Int) (l : List Int) (hl : 0 < l.length) (hc : Cur b i) : ∃ x i' h', spec_l1Int.f b i h l = some (x, i', h') ∧ x ∈ l ∧ Cur b i' := by
 obtain ⟨x, i1, h1, e1, x0, x1, _, hc1⟩ := below_ok b i h (l.length : Int) hc
 have x2 := x1 (by omega)
 unfold spec_l1Int.f
 rw [e1, Option.bind_some, if_pos x0, if_pos x2]
 exact ⟨_, _, _, rfl, rd_mem x0 x2, hc1⟩
theorem devsFrom_ok (n : Nat) (h1 : 1 ≤ n) (h2 : n ≤ 12) : ∀ (l : List S53) (pr : Option S53), (∀ d ∈ l, (0 ≤ d.f0 ∧ d.f0 ≤ 20) ∧ (0 ≤ d.f1 ∧ d.f1 ≤ 20) ∧ (1 ≤ d.f2 ∧ d.f2 ≤ 1000)) → l.Pairwise (fun a b => a.f0 < b.f0) → (∀ q, pr = some q → ∀ d ∈ l, q.f0 < d.f0) → devsFrom n pr l = true
 | [], _, _, _, _ => by rw [devsFrom]; exact decide_eq_true (by omega)
 | d :: t, pr, hb, hp, hq => by
  rw [List.pairwise_cons] at hp
  have hd := hb d List.mem_cons_self
  rw [devsFrom, if_pos ⟨hd.1, hd.2.1, hd.2.2, fun q e => hq q e d List.mem_cons_self⟩]
  exact devsFrom_ok n h1 h2 t (some d) (fun x hx => hb x (List.mem_cons_of_mem _ hx)) hp.2 (fun q e x hx => by injection e with e; subst e; exact hp.1 x hx)
theorem draw4_l0 (b : List Int) (zones : Int) (hz : 1 ≤ zones ∧ zones ≤ 4) : ∀ (m : Nat) (acc : List S53) (id p h : Int), acc.length + m ≤ 6 → Cur b p → (id ≤ 2 * (acc.length : Int) ∧ 0 ≤ id) → (∀ d ∈ acc, (0 ≤ d.f0 ∧ d.f0 ≤ id) ∧ (0 ≤ d.f1 ∧ d.f1 ≤ 20) ∧ (1 ≤ d.f2 ∧ d.f2 ≤ 1000)) → acc.Pairwise (fun a b => a.f0 < b.f0) →
  ∃ (l : List S53) (p' h' : Int), Ev (fun k => spec_l4Draw.l0 k acc zones id (m : Int) b p h) (l, p', h') ∧ l.length = acc.length + m ∧ (∀ d ∈ l, (0 ≤ d.f0 ∧ d.f0 ≤ 20) ∧ (0 ≤ d.f1 ∧ d.f1 ≤ 20) ∧ (1 ≤ d.f2 ∧ d.f2 ≤ 1000)) ∧ l.Pairwise (fun a b => a.f0 < b.f0) ∧ Cur b p'
 | 0, acc, id, p, h, hm, hc, hi, ha, hp => by
  refine ⟨acc, p, h, Ev.step (f := fun _ => some (acc, p, h)) (fun k => ?_) (Ev.now _), rfl, fun d hd => ?_, hp, hc⟩
  ·rw [spec_l4Draw.l0, if_neg (by omega)]
  ·have := ha d hd
   omega
 | m + 1, acc, id, p, h, hm, hc, hi, ha, hp => by
  obtain ⟨x, p1, h1, e1, hx, hc1⟩ := int_ok b p h [1, 1, 2] (by decide) hc
  obtain ⟨y, p2, h2, e2, y0, y1, _, hc2⟩ := below_ok b p1 h1 zones hc1
  obtain ⟨z, p3, h3, e3, hz3, hc3⟩ := int_ok b p2 h2 [1, 1, 1, 2, 10, 100] (by decide) hc2
  have hx2 : 1 ≤ x ∧ x ≤ 2 := by
   simp only [List.mem_cons, List.not_mem_nil, or_false] at hx
   omega
  have hz2 : 1 ≤ z ∧ z ≤ 100 := by
   simp only [List.mem_cons, List.not_mem_nil, or_false] at hz3
   omega
  have y2 := y1 (by omega)
  have w : Hd (wrap64 (id + x) = id + x) := ⟨w64 (by omega) (by omega)⟩
  have wm : Hd (wrap64 (((m + 1 : Nat) : Int) - 1) = (m : Int)) := ⟨by rw [w64 (by omega) (by omega)]; omega⟩
  obtain ⟨l, p', h', e, q1, q2, q3, q4⟩ := draw4_l0 b zones hz m (acc ++ [⟨id + x, y, z⟩]) (id + x) p3 h3 (by simp; omega) hc3 (by simp; omega) (fun d hd => by
   rcases List.mem_append.1 hd with hd | hd
   ·have := ha d hd; omega
   ·rw [List.mem_singleton.1 hd]; dsimp only; omega) (by
   rw [List.pairwise_append]
   refine ⟨hp, List.pairwise_singleton _ _, fun a ha' c hc' => ?_⟩
   have := ha a ha'
   rw [List.mem_singleton.1 hc']; dsimp only; omega)
  refine ⟨l, p', h', Ev.step (fun k => ?_) e, by rw [q1]; simp; omega, q2, q3, q4⟩
  rw [spec_l4Draw.l0, if_pos (by omega), e1, Option.bind_some, e2, Option.bind_some, e3, Option.bind_some, if_pos (by omega), w.out, wm.out]
theorem draw4_ok (b : List Int) (i h : Int) (hc : Cur b i) : ∃ (l : List S53) (i' h' : Int), Ev (fun k => spec_l4Draw.f k b i h) (l, i', h') ∧ 2 ≤ l.length ∧ l.length ≤ 6 ∧ devsOk l = true ∧ Cur b i' := by
 obtain ⟨x, p1, h1, e1, x0, x1, _, hc1⟩ := below_ok b i h 4 hc
 obtain ⟨y, p2, h2, e2, y0, y1, _, hc2⟩ := below_ok b p1 h1 5 hc1
 have x2 := x1 (by omega)
 have y2 := y1 (by omega)
 obtain ⟨l, p', h', e, q1, q2, q3, q4⟩ := draw4_l0 b (1 + x) (by omega) (2 + y).toNat [] 0 p2 h2 (by simp; omega) hc2 (by simp) (by simp) (by simp)
 rw [List.length_nil, Nat.zero_add] at q1
 refine ⟨l, p', h', ?_, by omega, by omega, ?_, q4⟩
 ·simp only [spec_l4Draw.f]
  refine Ev.got e1 (Ev.got e2 ?_)
  dsimp only
  rw [w64 (x := 1 + x) (by omega) (by omega), w64 (x := 2 + y) (by omega) (by omega)]
  rw [show ((2 + y).toNat : Int) = 2 + y by omega] at e
  exact e
 ·exact devsFrom_ok l.length (by omega) (by omega) l none q2 q3 (fun q e => by cases e)
theorem any4_ok (b : List Int) (i h : Int) (hc : Cur b i) : ∃ (l : List S53) (i' h' : Int), Ev (fun k => spec_l4Any.f k b i h) (l, i', h') ∧ l.length ≤ 6 ∧ Cur b i' := by
 obtain ⟨l, p1, h1, e1, l0, l1, _, hc1⟩ := draw4_ok b i h hc
 obtain ⟨x, p2, h2, e2, x0, x1, _, hc2⟩ := below_ok b p1 h1 (l.length : Int) hc1
 obtain ⟨y, p3, h3, e3, y0, y1, _, hc3⟩ := below_ok b p2 h2 12 hc2
 have x2 := x1 (by omega)
 simp only [spec_l4Any.f]
 by_cases c0 : y = 0
 ·obtain ⟨z, p4, h4, e4, _, hc4⟩ := int_ok b p3 h3 [(-1), 0, 20, 21] (by decide) hc3
  exact ⟨_, _, _, Ev.bind e1 (Ev.got e2 (Ev.got e3 (Ev.pos c0 (Ev.got e4 (Ev.pos x0 (Ev.pos x2 (Ev.now _))))))), by rw [List.length_set]; exact l1, hc4⟩
 by_cases c1 : y = 1
 ·obtain ⟨z, p4, h4, e4, _, hc4⟩ := int_ok b p3 h3 [(-1), 20, 21] (by decide) hc3
  exact ⟨_, _, _, Ev.bind e1 (Ev.got e2 (Ev.got e3 (Ev.neg c0 (Ev.pos c1 (Ev.got e4 (Ev.pos x0 (Ev.pos x2 (Ev.now _)))))))), by rw [List.length_set]; exact l1, hc4⟩
 by_cases c2 : y = 2
 ·obtain ⟨z, p4, h4, e4, _, hc4⟩ := int_ok b p3 h3 [0, 1000, 1001] (by decide) hc3
  exact ⟨_, _, _, Ev.bind e1 (Ev.got e2 (Ev.got e3 (Ev.neg c0 (Ev.neg c1 (Ev.pos c2 (Ev.got e4 (Ev.pos x0 (Ev.pos x2 (Ev.now _))))))))), by rw [List.length_set]; exact l1, hc4⟩
 by_cases c3 : y = 3
 ·exact ⟨_, _, _, Ev.bind e1 (Ev.got e2 (Ev.got e3 (Ev.neg c0 (Ev.neg c1 (Ev.neg c2 (Ev.pos c3 (Ev.pos (Int.natCast_nonneg _) (Ev.now _)))))))), by rw [List.length_take]; omega, hc3⟩
 ·exact ⟨_, _, _, Ev.bind e1 (Ev.got e2 (Ev.got e3 (Ev.neg c0 (Ev.neg c1 (Ev.neg c2 (Ev.neg c3 (Ev.now _))))))), l1, hc3⟩
theorem big_eq (l : List Int) : laws_big.f l = some (decide ((l.length : Int) > 1048576)) := rfl
def hasI : List Int → Int → Bool
 | [], _ => false
 | a :: t, x => if a = x then true else hasI t x
theorem hasI_iff (l : List Int) (x : Int) : hasI l x = true ↔ x ∈ l := by
 induction l with
 | nil => simp [hasI]
 | cons a t ih =>
  rw [hasI, List.mem_cons]
  by_cases h : a = x
  ·rw [if_pos h]; simp [h]
  ·rw [if_neg h, ih]
   exact ⟨Or.inr, fun hc => hc.elim (fun e => absurd e.symm h) id⟩
def insR : List Int → Int → List Int → List Int
 | [], z, B => z :: B
 | a :: r, z, B => if a > z then insR r z (a :: B) else (r.reverse ++ [a]) ++ z :: B
theorem insR_perm : ∀ (A : List Int) (z : Int) (B : List Int), (insR A z B).Perm (z :: (A ++ B))
 | [], z, B => List.Perm.refl _
 | a :: r, z, B => by
  rw [insR]
  split
  ·refine (insR_perm r z (a :: B)).trans (List.Perm.cons z ?_)
   exact List.perm_middle
  ·refine List.perm_middle.trans (List.Perm.cons z ?_)
   refine List.Perm.append_right B ?_
   refine (List.perm_append_singleton a r.reverse).trans (List.Perm.cons a (List.reverse_perm r))
theorem insR_sorted : ∀ (A : List Int) (z : Int) (B : List Int), (A.reverse ++ B).Pairwise (· < ·) → (∀ b ∈ B, z < b) → z ∉ A → (insR A z B).Pairwise (· < ·)
 | [], z, B, h, hB, _ => by
  rw [insR]
  exact List.pairwise_cons.2 ⟨hB, by simpa using h⟩
 | a :: r, z, B, h, hB, hz => by
  rw [insR]
  rw [List.reverse_cons] at h
  split
  ·rename_i c
   exact insR_sorted r z (a :: B) (by simpa using h) (fun b hb => by rcases List.mem_cons.1 hb with rfl | hb; exact c; exact hB b hb) (fun hc => hz (List.mem_cons_of_mem _ hc))
  ·rename_i c
   rw [List.pairwise_append] at h ⊢
   obtain ⟨h1, h2, h3⟩ := h
   refine ⟨h1, List.pairwise_cons.2 ⟨hB, h2⟩, fun x hx y hy => ?_⟩
   have hxz : x < z := by
    have ne : a ≠ z := fun e => hz (by rw [e]; exact List.mem_cons_self)
    have : x ≤ a := by
     rcases List.mem_append.1 hx with hx | hx
     ·rw [List.pairwise_append] at h1
      have := h1.2.2 x hx a (by simp)
      omega
     ·simp at hx; omega
    omega
   rcases List.mem_cons.1 hy with rfl | hy
   ·exact hxz
   ·exact h3 x hx y hy
def zsS : List Int → List S53 → List Int
 | acc, [] => acc
 | acc, d :: t => if hasI acc d.f1 = true then zsS acc t else zsS (insR acc.reverse d.f1 []) t
def zsI : List Int → List S53 → List Int
 | acc, [] => acc
 | acc, d :: t => if hasI acc d.f1 = true then zsI acc t else zsI (acc ++ [d.f1]) t
theorem zs_perm : ∀ (l : List S53) (a b : List Int), a.Perm b → (zsS a l).Perm (zsI b l)
 | [], a, b, h => h
 | d :: t, a, b, h => by
  have e : hasI a d.f1 = hasI b d.f1 := by
   rw [Bool.eq_iff_iff, hasI_iff, hasI_iff]; exact h.mem_iff
  rw [zsS, zsI, e]
  split
  ·exact zs_perm t a b h
  ·refine zs_perm t _ _ ((insR_perm _ _ _).trans ?_)
   rw [List.append_nil]
   exact ((List.Perm.cons _ (List.reverse_perm a)).trans (List.Perm.cons _ h)).trans (List.perm_append_singleton _ _).symm
theorem zsS_sorted : ∀ (l : List S53) (a : List Int), a.Pairwise (· < ·) → (zsS a l).Pairwise (· < ·)
 | [], a, h => h
 | d :: t, a, h => by
  rw [zsS]
  split
  ·exact zsS_sorted t a h
  ·rename_i c
   refine zsS_sorted t _ (insR_sorted _ _ _ (by simpa using h) (by simp) ?_)
   intro hc
   exact c ((hasI_iff _ _).2 (by simpa using hc))
theorem zsI_len : ∀ (l : List S53) (a : List Int), (zsI a l).length ≤ a.length + l.length
 | [], a => by simp [zsI]
 | d :: t, a => by
  rw [zsI]
  split
  ·have := zsI_len t a; simp; omega
  ·have := zsI_len t (a ++ [d.f1]); simp at this ⊢; omega
def zonesAll (l : List S53) : List Int := zsS [] l
theorem zonesAll_sort (l : List S53) : (zsI [] l).mergeSort (fun x y => decide (x ≤ y)) = zonesAll l := by
 refine List.Perm.eq_of_pairwise (le := fun a b => decide (a ≤ b) = true) ?_ ?_ ?_ ?_
 ·intro a b _ _ h1 h2
  have h1 := of_decide_eq_true h1
  have h2 := of_decide_eq_true h2
  omega
 ·refine List.pairwise_mergeSort ?_ ?_ _
  ·intro a b c h1 h2
   have h1 := of_decide_eq_true h1
   have h2 := of_decide_eq_true h2
   exact decide_eq_true (by omega)
  ·intro a b
   rw [Bool.or_eq_true, decide_eq_true_eq, decide_eq_true_eq]
   omega
 ·refine (zsS_sorted l [] List.Pairwise.nil).imp ?_
  intro a b h
  exact decide_eq_true (by omega)
 ·exact (List.mergeSort_perm _ _).trans (zs_perm l [] [] (List.Perm.refl _)).symm
theorem zonesAll_len (l : List S53) : (zonesAll l).length ≤ l.length := by
 rw [← zonesAll_sort, List.length_mergeSort]
 have := zsI_len l []
 simpa using this
theorem hasInt_l0 (xs : List Int) (x : Int) (hN : xs.length ≤ 4611686018427387904) : ∀ (l : List Int) (i : Nat), xs.drop i = l → Ev (fun k => impl_hasInt.l0 k x xs (xs.length : Int) (i : Int)) (hasI l x)
 | [], i, h => by
  have h1 := drop_nil' h
  refine Ev.step (f := fun _ => some false) (fun k => ?_) (Ev.now _)
  rw [impl_hasInt.l0, if_neg (by omega)]
 | a :: t, i, h => by
  obtain ⟨h1, _, h3⟩ := drop_cons' h 0
  refine Ev.step (f := fun k => if a = x then some true else impl_hasInt.l0 k x xs (xs.length : Int) ((i + 1 : Nat) : Int)) (fun k => ?_) ?_
  ·rw [impl_hasInt.l0, if_pos (by omega), if_pos (by omega), if_pos (by omega), rd_at h, w64s h1 hN]
  ·by_cases c : a = x
   ·rw [hasI, if_pos c]; exact Ev.pos c (Ev.now _)
   ·rw [hasI, if_neg c]; exact Ev.neg c (hasInt_l0 xs x hN t (i + 1) h3)
theorem hasInt_ev (xs : List Int) (x : Int) (hN : xs.length ≤ 4611686018427387904) : Ev (fun k => impl_hasInt.f k xs x) (hasI xs x) := hasInt_l0 xs x hN xs 0 rfl
theorem zsi_l0 (ds : List S53) (hd : ds.length ≤ 1048576) : ∀ (t : List S53) (i : Nat) (a : List Int), ds.drop i = t → a.length ≤ i → i ≤ ds.length → Ev (fun k => impl_ZonesOf.l0 k a ds (ds.length : Int) (i : Int)) ((zsI a t).mergeSort (fun x y => decide (x ≤ y)))
 | [], i, a, h, ha, hil => by
  have h1 := drop_nil' h
  refine Ev.step (f := fun _ => some ((zsI a []).mergeSort (fun x y => decide (x ≤ y)))) (fun k => ?_) (Ev.now _)
  rw [impl_ZonesOf.l0, if_neg (by omega), sort_Ints.f, if_pos (by omega)]
  rfl
 | d :: t, i, a, h, ha, hil => by
  obtain ⟨h1, _, h3⟩ := drop_cons' h z53
  have hr : Hd (rd_T53 ds (i : Int) = d) := ⟨rdT_at53 h⟩
  have w : wrap64 ((i : Int) + 1) = ((i + 1 : Nat) : Int) := w64s h1 (by omega)
  refine Ev.step (fun k => by rw [impl_ZonesOf.l0, if_pos (by omega), if_pos (by omega), if_pos (by omega), hr.out, w]) ?_
  refine Ev.bind (hasInt_ev a d.f1 (by omega)) ?_
  rw [zsI]
  by_cases c : hasI a d.f1 = true
  ·rw [if_pos c]
   exact Ev.pos c (zsi_l0 ds hd t (i + 1) a h3 (by omega) (by omega))
  ·rw [if_neg c]
   exact Ev.neg c (Ev.pos (by omega) (zsi_l0 ds hd t (i + 1) _ h3 (by simp; omega) (by omega)))
theorem zonesImpl_ev (l : List S53) (hl : l.length ≤ 1048576) : Ev (fun k => impl_ZonesOf.f k l) (zonesAll l) := by
 rw [← zonesAll_sort]
 exact zsi_l0 l hl l 0 [] rfl (Nat.le_refl _) (Nat.zero_le _)
theorem zsI_mem (x : Int) : ∀ (l : List S53) (a : List Int), x ∈ zsI a l ↔ x ∈ a ∨ ∃ d ∈ l, d.f1 = x
 | [], a => by rw [zsI]; simp
 | d :: t, a => by
  rw [zsI]
  split
  ·rename_i c
   rw [zsI_mem x t a]
   have hc := (hasI_iff _ _).1 c
   constructor
   ·rintro (h | ⟨e, he, rfl⟩)
    ·exact Or.inl h
    ·exact Or.inr ⟨e, List.mem_cons_of_mem _ he, rfl⟩
   ·rintro (h | ⟨e, he, rfl⟩)
    ·exact Or.inl h
    ·rcases List.mem_cons.1 he with rfl | he
     ·exact Or.inl hc
     ·exact Or.inr ⟨e, he, rfl⟩
  ·rw [zsI_mem x t _, List.mem_append, List.mem_singleton]
   constructor
   ·rintro ((h | rfl) | ⟨e, he, rfl⟩)
    ·exact Or.inl h
    ·exact Or.inr ⟨d, List.mem_cons_self, rfl⟩
    ·exact Or.inr ⟨e, List.mem_cons_of_mem _ he, rfl⟩
   ·rintro (h | ⟨e, he, rfl⟩)
    ·exact Or.inl (Or.inl h)
    ·rcases List.mem_cons.1 he with rfl | he
     ·exact Or.inl (Or.inr rfl)
     ·exact Or.inr ⟨e, he, rfl⟩
theorem zonesAll_mem (x : Int) (l : List S53) : x ∈ zonesAll l ↔ ∃ d ∈ l, d.f1 = x := by
 rw [← zonesAll_sort, (List.mergeSort_perm _ _).mem_iff, zsI_mem]
 simp
def devAt (id : Int) : List S53 → Int × Int × Int × Bool
 | [] => (0, 0, 0, false)
 | d :: t => if d.f0 = id then (d.f0, d.f1, d.f2, true) else devAt id t
theorem devAt_l0i (xs : List S53) (id : Int) (hN : xs.length ≤ 4611686018427387904) : ∀ (l : List S53) (i : Nat), xs.drop i = l → Ev (fun k => impl_DevAt.l0 k id xs (xs.length : Int) (i : Int)) (devAt id l)
 | [], i, h => by
  have h1 := drop_nil' h
  refine Ev.step (f := fun _ => some (0, 0, 0, false)) (fun k => ?_) (Ev.now _)
  rw [impl_DevAt.l0, if_neg (by omega)]
 | a :: t, i, h => by
  obtain ⟨h1, _, h3⟩ := drop_cons' h z53
  have ih := devAt_l0i xs id hN t (i + 1) h3
  refine Ev.step (f := fun k => if a.f0 = id then some (a.f0, a.f1, a.f2, true) else impl_DevAt.l0 k id xs (xs.length : Int) ((i + 1 : Nat) : Int)) (fun k => ?_) ?_
  ·rw [impl_DevAt.l0, if_pos (by omega), if_pos (by omega), if_pos (by omega), rdT_at53 h, w64s h1 hN]
  ·by_cases c : a.f0 = id
   ·rw [devAt, if_pos c]; exact Ev.pos c (Ev.now _)
   ·rw [devAt, if_neg c]; exact Ev.neg c ih
theorem devAt_is (id : Int) : ∀ (l : List S53), (∃ d ∈ l, d.f0 = id) → ∃ d ∈ l, d.f0 = id ∧ devAt id l = (d.f0, d.f1, d.f2, true)
 | [], h => by obtain ⟨d, hd, _⟩ := h; cases hd
 | d :: t, h => by
  by_cases c : d.f0 = id
  ·exact ⟨d, List.mem_cons_self, c, by rw [devAt, if_pos c]⟩
  ·obtain ⟨e, he, ee⟩ := h
   obtain ⟨x, hx, h1, h2⟩ := devAt_is id t ⟨e, by
    rcases List.mem_cons.1 he with rfl | he
    ·exact absurd ee c
    ·exact he, ee⟩
   exact ⟨x, List.mem_cons_of_mem _ hx, h1, by rw [devAt, if_neg c]; exact h2⟩
theorem ids_inj : ∀ (l : List S53), l.Pairwise (fun x y => x.f0 < y.f0) → ∀ d ∈ l, ∀ e ∈ l, d.f0 = e.f0 → d = e
 | [], _, d, hd, _, _, _ => by cases hd
 | a :: t, hp, d, hd, e, he, h => by
  rw [List.pairwise_cons] at hp
  rcases List.mem_cons.1 hd with rfl | hd'
  ·rcases List.mem_cons.1 he with rfl | he'
   ·rfl
   ·have := hp.1 e he'; omega
  ·rcases List.mem_cons.1 he with rfl | he'
   ·have := hp.1 d hd'; omega
   ·exact ids_inj t hp.2 d hd' e he' h
theorem devsFrom_lt (n : Nat) : ∀ (l : List S53) (pr : Option S53), devsFrom n pr l = true → (∀ q, pr = some q → ∀ d ∈ l, q.f0 < d.f0) ∧ l.Pairwise (fun a b => a.f0 < b.f0)
 | [], _, _ => ⟨fun _ _ _ hd => (by cases hd), List.Pairwise.nil⟩
 | a :: t, pr, h => by
  rw [devsFrom] at h
  by_cases c : (0 ≤ a.f0 ∧ a.f0 ≤ 20) ∧ (0 ≤ a.f1 ∧ a.f1 ≤ 20) ∧ (1 ≤ a.f2 ∧ a.f2 ≤ 1000) ∧ (∀ q, pr = some q → q.f0 < a.f0)
  ·rw [if_pos c] at h
   obtain ⟨h1, h2⟩ := devsFrom_lt n t (some a) h
   have h3 := h1 a rfl
   refine ⟨fun q e d hd => ?_, List.pairwise_cons.2 ⟨h3, h2⟩⟩
   have hq := c.2.2.2 q e
   rcases List.mem_cons.1 hd with rfl | hd
   ·exact hq
   ·have := h3 d hd; omega
  ·rw [if_neg c] at h
   cases h
theorem lawHas_l0 (xs : List Int) (x : Int) (hN : xs.length ≤ 4611686018427387904) : ∀ (l : List Int) (i : Nat), xs.drop i = l → Ev (fun k => laws_has.l0 k xs x (i : Int)) (hasI l x)
 | [], i, h => by
  have h1 := drop_nil' h
  refine Ev.step (f := fun _ => some false) (fun k => ?_) (Ev.now _)
  rw [laws_has.l0, if_neg (by omega)]
 | a :: t, i, h => by
  obtain ⟨h1, _, h3⟩ := drop_cons' h 0
  refine Ev.step (f := fun k => if a = x then some true else laws_has.l0 k xs x ((i + 1 : Nat) : Int)) (fun k => ?_) ?_
  ·rw [laws_has.l0, if_pos (by omega), if_pos (by omega), rd_at h, w64s h1 hN]
  ·by_cases c : a = x
   ·rw [hasI, if_pos c]; exact Ev.pos c (Ev.now _)
   ·rw [hasI, if_neg c]; exact Ev.neg c (lawHas_l0 xs x hN t (i + 1) h3)
theorem lawHas_ev (xs : List Int) (x : Int) (hN : xs.length ≤ 4611686018427387904) : Ev (fun k => laws_has.f k xs x) (hasI xs x) := lawHas_l0 xs x hN xs 0 rfl
theorem sameDevs_l0 (xs : List S53) (hN : xs.length ≤ 4611686018427387904) : ∀ (l : List S53) (i : Nat), xs.drop i = l → Ev (fun k => laws_sameDevs.l0 k xs xs (i : Int)) true
 | [], i, h => by
  have h1 := drop_nil' h
  refine Ev.step (f := fun _ => some true) (fun k => ?_) (Ev.now _)
  rw [laws_sameDevs.l0, if_neg (by omega)]
 | a :: t, i, h => by
  obtain ⟨h1, _, h3⟩ := drop_cons' h z53
  refine Ev.step (f := fun k => laws_sameDevs.l0 k xs xs ((i + 1 : Nat) : Int)) (fun k => ?_) (sameDevs_l0 xs hN t (i + 1) h3)
  rw [laws_sameDevs.l0, if_pos (by omega), if_pos (by omega), if_pos (by omega), if_neg (by simp), w64s h1 hN]
theorem sameDevs_ev (xs : List S53) (hN : xs.length ≤ 4611686018427387904) : Ev (fun k => laws_sameDevs.f k xs xs) true := by
 refine Ev.congr (f := fun k => laws_sameDevs.l0 k xs xs ((0 : Nat) : Int)) (fun k => ?_) (sameDevs_l0 xs hN xs 0 rfl)
 rw [laws_sameDevs.f, if_pos rfl]; rfl
end Go.Proofs.YtnoglmdicdpabaaDoor.PureFnDevs
namespace Go.Proofs.YtnoglmdicdpabaaDoor.Pure
open Go.RowKit Go.Proofs.YtnoglmdicdpabaaDoor.PFnDevs Go.Proofs.YtnoglmdicdpabaaDoorW.PrintWords Go.Proofs.YtnoglmdicdpabaaDoorW.PrintLast Go.Proofs.YtnoglmdicdpabaaDoorW.PrintMore Go.Proofs.YtnoglmdicdpabaaDoor.Base Go.Proofs.YtnoglmdicdpabaaDoor.PureFnDevs
set_option linter.unusedVariables false
attribute [local irreducible] Go.bits IntKind.wrap shl shr
theorem devs_l1 (xs : List S53) (zs : List Int) (hz : zs.Pairwise (· < ·)) (h1 : 1 ≤ zs.length) (h2 : zs.length ≤ xs.length) (h3 : xs.length ≤ 1048576) (d : Nat) : ∀ i : Nat, 1 ≤ i → i + d = zs.length → Ev (fun k => laws_FnDevs.l1 k xs zs (i : Int)) true := by
 induction d with
 | zero =>
  intro i hi hd
  refine Ev.step (f := fun _ => some true) (fun k => ?_) (Ev.now _)
  rw [laws_FnDevs.l1, if_neg (by omega), if_pos (by omega), decide_eq_true (by omega)]
 | succ d ih =>
  intro i hi hd
  have w1 : wrap64 ((i : Int) - 1) = ((i - 1 : Nat) : Int) := by rw [w64 (by omega) (by omega)]; omega
  have w2 : wrap64 ((i : Int) + 1) = ((i + 1 : Nat) : Int) := w64 (by omega) (by omega)
  have hlt : rd zs ((i - 1 : Nat) : Int) < rd zs (i : Int) := by
   have := List.pairwise_iff_getElem.1 hz (i - 1) i (by omega) (by omega) (by omega)
   unfold rd
   rw [Int.toNat_natCast, Int.toNat_natCast, List.getD_eq_getElem?_getD, List.getD_eq_getElem?_getD, List.getElem?_eq_getElem (by omega), List.getElem?_eq_getElem (by omega)]
   exact this
  refine Ev.step (fun k => ?_) (ih (i + 1) (by omega) (by omega))
  rw [laws_FnDevs.l1, w1, w2, if_pos (by omega), if_pos (by omega), if_pos (by omega), if_pos (by omega), if_neg (by omega)]
theorem devs_l0 (xs : List S53) (hok : devsOk xs = true) (hN : xs.length ≤ 1048576) (hr : Ev (fun k => laws_FnDevs.l1 k xs (zonesAll xs) ((1 : Nat) : Int)) true) : ∀ (t : List S53) (i : Nat), xs.drop i = t → Ev (fun k => laws_FnDevs.l0 k xs (zonesAll xs) (i : Int)) true
 | [], i, h => by
  have h1 := drop_nil' h
  refine Ev.step (fun k => ?_) hr
  rw [laws_FnDevs.l0, if_neg (by omega)]
  rfl
 | d :: t, i, h => by
  obtain ⟨h1, _, h3⟩ := drop_cons' h z53
  have hd : d ∈ xs := List.mem_of_mem_drop (by rw [h]; exact List.mem_cons_self)
  have hrd : Hd (rd_T53 xs (i : Int) = d) := ⟨rdT_at53 h⟩
  have w : Hd (wrap64 ((i : Int) + 1) = ((i + 1 : Nat) : Int)) := ⟨w64s h1 (by omega)⟩
  obtain ⟨e, he, e1, e2⟩ := devAt_is d.f0 xs ⟨d, hd, rfl⟩
  have := ids_inj xs (devsFrom_lt xs.length xs none hok).2 e he d hd e1
  subst this
  have hz : hasI (zonesAll xs) e.f1 = true := (hasI_iff _ _).2 ((zonesAll_mem _ xs).2 ⟨e, hd, rfl⟩)
  have hlz := zonesAll_len xs
  have da : Ev (fun k => impl_DevAt.f k xs e.f0) (devAt e.f0 xs) := devAt_l0i xs e.f0 (by omega) xs 0 rfl
  rw [e2] at da
  refine Ev.step (fun k => by rw [laws_FnDevs.l0, if_pos (by omega), if_pos (by omega), hrd.out, w.out]) (Ev.bind da ?_)
  refine Ev.pos rfl (Ev.neg (by simp) (Ev.bind (lawHas_ev (zonesAll xs) e.f1 (by omega)) (Ev.pos hz ?_)))
  exact devs_l0 xs hok hN hr t (i + 1) h3
theorem FnDevs (code : List Int) (h0 : Bytes code) : ∃ k, laws_FnDevs.f k code = some true := by
 apply Ev.rounds (g := fun k => laws_FnDevs.f k code)
 simp only [laws_FnDevs.f]
 refine Ev.got (big_eq code) ?_
 by_cases hb : (code.length : Int) > 1048576
 ·exact Ev.pos (decide_eq_true hb) (Ev.now _)
 refine Ev.neg (by rw [decide_eq_true_eq]; exact hb) ?_
 obtain ⟨g, e0, hc0⟩ := new_ev code (by omega)
 obtain ⟨l, i1, g1, e1, hl, _⟩ := any4_ok code 0 g hc0
 have ed : Ev (fun k => spec_DrawDevsText.f k code) l := by
  simp only [spec_DrawDevsText.f]
  exact Ev.bind e0 (Ev.bind e1 (Ev.now _))
 obtain ⟨d1, d2⟩ := devsOk_ev l (by omega)
 refine Ev.bind ed (Ev.bind (devsText_ev l (by omega)).2 (Ev.bind d1 ?_))
 by_cases c : devsOk l = true
 ·have hts : (devsText l).size ≤ 1048576 := by
   have hbb : ∀ x ∈ l, Small3 x := devsFrom_mem _ l none c
   rw [devsText, if_pos c, ← joinB_devs]
   obtain ⟨d, t, rfl⟩ := devs_ne l c
   have h1 := joinTail_len 1100 (t.map devTxt) (fun x hx => by
    obtain ⟨y, hy, rfl⟩ := List.mem_map.1 hx
    exact devTxt_size y (hbb y (List.mem_cons_of_mem _ hy)))
   have h2 := devTxt_size d (hbb d List.mem_cons_self)
   have h3 : (devTxt d).data.toList.length = (devTxt d).size := Array.length_toList
   rw [← data_length, joinB, ← ba, ba_data, List.map_cons, List.map_cons, Lib.join_cons, List.length_append, h3]
   rw [List.length_cons] at hl
   rw [List.length_map] at h1
   have h4 : t.length * (1100 + 1) ≤ 6 * 1101 := Nat.mul_le_mul (by omega) (by omega)
   omega
  have q := (parseDevs_ev (devsText l) hts).2
  rw [(devs_yes l c _ rfl).2] at q
  refine Ev.pos c (Ev.bind q (Ev.pos rfl (Ev.bind (sameDevs_ev l (by omega)) (Ev.pos rfl (Ev.bind d2 ?_)))))
  rw [c]
  refine Ev.step (f := fun k => (impl_ZonesOf.f k l).bind fun t269 => laws_FnDevs.l0 k l t269 0) (fun k => by rw [laws_FnDevs.j0, if_neg (by decide)]) (Ev.bind (zonesImpl_ev l (by omega)) ?_)
  have hz1 : 1 ≤ (zonesAll l).length := by
   obtain ⟨d, t, e⟩ := devs_ne l c
   have := List.length_pos_of_mem ((zonesAll_mem d.f1 l).2 ⟨d, by rw [e]; exact List.mem_cons_self, rfl⟩)
   omega
  exact devs_l0 l c (by omega) (devs_l1 l (zonesAll l) (zsS_sorted l [] List.Pairwise.nil) hz1 (zonesAll_len l) (by omega) ((zonesAll l).length - 1) 1 (Nat.le_refl _) (by omega)) l 0 rfl
 ·refine Ev.neg c (Ev.pos ?_ (Ev.bind d2 ?_))
  ·rw [devsText, if_neg c, ByteArray.toList_eq]
  ·rw [Bool.eq_false_iff.mpr c]
   exact Ev.now _
end Go.Proofs.YtnoglmdicdpabaaDoor.Pure
