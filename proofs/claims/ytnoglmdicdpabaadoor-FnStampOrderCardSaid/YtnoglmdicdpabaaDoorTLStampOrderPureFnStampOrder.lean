/- Trimmed by a program of this session (trim.py). Not trusted: Lean checks it. -/
import Derived.Test.YtnoglmdicdpabaaDoorTLStampOrderPFnStampOrderx5
import Derived.Test.YtnoglmdicdpabaaDoorTLStampOrderBase
namespace Go.Proofs.YtnoglmdicdpabaaDoor.PureFnStampOrder
open Go.RowKit Go.Proofs.YtnoglmdicdpabaaDoor.PFnStampOrder Go.Proofs.YtnoglmdicdpabaaDoorW.PrintWords Go.Proofs.YtnoglmdicdpabaaDoorW.PrintLast Go.Proofs.YtnoglmdicdpabaaDoorW.PrintMore Go.Proofs.YtnoglmdicdpabaaDoor.Base
set_option linter.unusedVariables false
attribute [local irreducible] Go.bits IntKind.wrap shl shr
def spec_l2Text.f : Nat → Int → Option (ByteArray)
 | 0, _ => none
 | k + 1, a0 => if a0 < 10 then (some (strOfNums (([(wrap64 (48 + a0)) % 256] : List Int)))) else ((spec_l2Text.f k (wrap64 (Int.tdiv a0 10))).bind fun t191 => ((some (([(wrap64 (48 + (Int.tmod a0 10))) % 256] : List Int) : List Int)).bind fun y192 => (if t191.size + (strOfNums y192).size ≤ 9223372036854775807 then (some (t191 ++ (strOfNums y192))) else (none))))
def spec_StampText.f (k : Nat) (a0_0 : Int) (a0_1 : Int) (a0_2 : Int) : Option (ByteArray) := (spec_StampOk.f a0_0 a0_1 a0_2).bind fun t113 => (if t113 = true then ((spec_l2Text.f k a0_0).bind fun t114 => (if t114.size + 1 ≤ 9223372036854775807 then ((spec_l2Text.f k a0_1).bind fun t115 => (if (t114 ++ (⟨#[46]⟩ : ByteArray)).size + t115.size ≤ 9223372036854775807 then (if ((t114 ++ (⟨#[46]⟩ : ByteArray)) ++ t115).size + 1 ≤ 9223372036854775807 then ((spec_l2Text.f k a0_2).bind fun t116 => (if (((t114 ++ (⟨#[46]⟩ : ByteArray)) ++ t115) ++ (⟨#[46]⟩ : ByteArray)).size + t116.size ≤ 9223372036854775807 then (some ((((t114 ++ (⟨#[46]⟩ : ByteArray)) ++ t115) ++ (⟨#[46]⟩ : ByteArray)) ++ t116)) else (none))) else (none)) else (none))) else (none))) else (some (⟨#[]⟩ : ByteArray)))
theorem l1In_eq (x a b : Int) : spec_l1In.f x a b = some (decide (a ≤ x ∧ x ≤ b)) := by
 unfold spec_l1In.f
 by_cases h : x ≥ a
 ·rw [if_pos h]; simp [show a ≤ x from h]
 ·rw [if_neg h]; simp [show ¬ a ≤ x from h]
def ba (l : List UInt8) : ByteArray := ⟨l.toArray⟩
theorem ba_data (l : List UInt8) : (ba l).data.toList = l := by simp [ba]
theorem ba_of (s : ByteArray) : ba s.data.toList = s := by
 apply ByteArray.ext
 apply Array.ext'
 simp [ba]
theorem ba_size (l : List UInt8) : (ba l).size = l.length := by
 show l.toArray.size = _
 exact List.size_toArray
def splitL (c : UInt8) : List UInt8 → List (List UInt8)
 | [] => [[]]
 | b :: t => if b = c then [] :: splitL c t else match splitL c t with
  | h :: r => (b :: h) :: r
  | [] => [[b]]
def glue (cur : List UInt8) : List (List UInt8) → List (List UInt8)
 | h :: r => (cur ++ h) :: r
 | [] => [cur]
theorem glue_eq (c : UInt8) (cur t : List UInt8) : glue cur (splitL c (c :: t)) = cur :: splitL c t := by
 rw [splitL, if_pos rfl, glue, List.append_nil]
theorem glue_ne {c b : UInt8} (h : b ≠ c) (cur t : List UInt8) : glue cur (splitL c (b :: t)) = glue (cur ++ [b]) (splitL c t) := by
 rw [splitL, if_neg h]
 cases splitL c t with
 | nil => simp [glue]
 | cons x r => simp [glue]
theorem glue_nil (c : UInt8) (t : List UInt8) : glue [] (splitL c t) = splitL c t := by
 have hne : splitL c t ≠ [] := by
  cases t with
  | nil => simp [splitL]
  | cons b t =>
   rw [splitL]
   split
   ·simp
   ·split <;> simp
 cases e : splitL c t with
 | nil => exact absurd e hne
 | cons x r => simp [glue]
theorem glue_part (c : UInt8) : ∀ (p cur t : List UInt8), c ∉ p → glue cur (splitL c (p ++ c :: t)) = (cur ++ p) :: splitL c t
 | [], cur, t, _ => by rw [List.nil_append, glue_eq, List.append_nil]
 | b :: p, cur, t, h => by
  rw [List.cons_append, glue_ne (fun e => h (by rw [e]; exact List.mem_cons_self)), glue_part c p _ t (fun hc => h (List.mem_cons_of_mem _ hc))]
  simp
theorem glue_last (c : UInt8) : ∀ (p cur : List UInt8), c ∉ p → glue cur (splitL c p) = [cur ++ p]
 | [], cur, _ => by simp [splitL, glue]
 | b :: p, cur, h => by
  rw [glue_ne (fun e => h (by rw [e]; exact List.mem_cons_self)), glue_last c p _ (fun hc => h (List.mem_cons_of_mem _ hc))]
  simp
theorem split_list (c : UInt8) : ∀ L : List UInt8, Lib.split L [c] = splitL c L
 | [] => by
  rw [Lib.split, Lib.count_one]
  rfl
 | b :: l => by
  have ih := split_list c l
  by_cases hb : b = c
  ·subst hb
   have hix : Lib.index (b :: l) [b] = 0 := by rw [Lib.index]; simp [List.isPrefixOf]
   rw [splitL, if_pos rfl, ← ih, Lib.split, Lib.count_cons_eq, Nat.add_comm, Lib.splitK, hix]
   rw [if_neg (by decide)]
   rfl
  ·have hp : ([c] : List UInt8).isPrefixOf (b :: l) = false := by simp [List.isPrefixOf, Ne.symm hb]
   have hix : Lib.index (b :: l) [c] = if Lib.index l [c] == -1 then -1 else Lib.index l [c] + 1 := by rw [Lib.index, hp]; simp
   rw [splitL, if_neg hb, ← ih, Lib.split, Lib.split, Lib.count_cons_ne b c l hb]
   by_cases hm : Lib.index l [c] = -1
   ·rw [Lib.count_miss hm]
    rfl
   ·have hge := Lib.index_ge l [c]
    obtain ⟨j, hj⟩ : ∃ j : Nat, Lib.index l [c] = j := ⟨(Lib.index l [c]).toNat, by omega⟩
    rw [Lib.count_hit (by simp) hj, Nat.add_comm, Lib.splitK, Lib.splitK, hix, if_neg (fun e => hm (beq_iff_eq.1 e)), if_neg (fun e => hm (beq_iff_eq.1 e)), if_neg (fun e => by have := beq_iff_eq.1 e; omega), hj]
    have e1 : ((j : Int) + 1).toNat = j + 1 := by omega
    have e2 : ((j : Int)).toNat = j := by omega
    rw [e1, e2]
    simp
theorem one_str (d : Nat) (h : d < 10) : strOfNums [((48 + d : Nat) : Int)] = (⟨#[UInt8.ofNat (48 + d)]⟩ : ByteArray) := by
 apply ByteArray.ext
 apply Array.ext'
 rw [strOfNums_data, List.map_cons, List.map_nil, Int.toNat_natCast]
theorem app_one (a : List UInt8) (x : UInt8) : (⟨a.toArray⟩ : ByteArray) ++ ⟨#[x]⟩ = ⟨(a ++ [x]).toArray⟩ := by
 apply ByteArray.ext
 apply Array.ext'
 rw [ByteArray.data_append]
 simp
theorem dec_len (u : Nat) : (Lib.decDigits u).length ≤ u + 1 := by
 rw [Lib.decDigits]
 by_cases h : u < 10
 ·rw [dif_pos h]; simp
 ·rw [dif_neg h]
  have := dec_len (u / 10)
  simp only [List.length_append, List.length_singleton]
  omega
termination_by u
theorem l2Text_ev (u : Nat) (hu : u ≤ 10000000000) : Ev (fun k => spec_l2Text.f k (u : Int)) (⟨(Lib.decDigits u).toArray⟩ : ByteArray) := by
 rw [Lib.decDigits]
 by_cases h : u < 10
 ·rw [dif_pos h]
  have e : wrap64 (48 + (u : Int)) % 256 = ((48 + u : Nat) : Int) := by rw [w64 (by omega) (by omega)]; omega
  refine Ev.step (f := fun _ => some (⟨#[UInt8.ofNat (48 + u)]⟩ : ByteArray)) (fun k => ?_) (Ev.now _)
  rw [spec_l2Text.f, if_pos (by omega), e, one_str u h]
 ·rw [dif_neg h]
  have ih := l2Text_ev (u / 10) (by omega)
  have hl := dec_len (u / 10)
  have ed : wrap64 (Int.tdiv (u : Int) 10) = ((u / 10 : Nat) : Int) := by
   rw [Int.tdiv_eq_ediv_of_nonneg (by omega), w64 (by omega) (by omega)]; omega
  have em : wrap64 (48 + Int.tmod (u : Int) 10) % 256 = ((48 + u % 10 : Nat) : Int) := by
   rw [Int.tmod_eq_emod_of_nonneg (by omega), w64 (by omega) (by omega)]; omega
  refine Ev.step (f := fun k => (spec_l2Text.f k ((u / 10 : Nat) : Int)).bind fun t => if t.size + (⟨#[UInt8.ofNat (48 + u % 10)]⟩ : ByteArray).size ≤ 9223372036854775807 then some (t ++ ⟨#[UInt8.ofNat (48 + u % 10)]⟩) else none) (fun k => ?_) ?_
  ·rw [spec_l2Text.f, if_neg (by omega), ed, em]
   simp only [Option.bind_some]
   rw [one_str (u % 10) (by omega)]
  ·refine Ev.bind ih (Ev.pos ?_ ?_)
   ·show (Lib.decDigits (u / 10)).toArray.size + 1 ≤ _
    rw [List.size_toArray]
    omega
   ·rw [app_one]
    exact Ev.now _
termination_by u
def dtxt (n : Int) : ByteArray := ⟨(Lib.itoa n).toArray⟩
theorem dtxt_size (n : Int) (h : 0 ≤ n) : (dtxt n).size ≤ n.toNat + 1 := by
 show (Lib.itoa n).toArray.size ≤ _
 rw [List.size_toArray, Lib.itoa, if_neg (by omega)]
 exact dec_len _
theorem dtxt_ev (n : Int) (h0 : 0 ≤ n) (h1 : n ≤ 10000000000) : Ev (fun k => spec_l2Text.f k n) (dtxt n) := by
 obtain ⟨u, rfl⟩ := Int.eq_ofNat_of_zero_le h0
 rw [dtxt, Lib.itoa_nonneg]
 exact l2Text_ev u (by omega)
theorem byte_digit (d : Nat) (h : d ≤ 9) : (UInt8.ofNat (48 + d)).toNat = 48 + d := by
 rw [UInt8.toNat_ofNat']
 omega
theorem dec_digit (u : Nat) : ∀ x ∈ Lib.decDigits u, 48 ≤ x.toNat ∧ x.toNat ≤ 57 := by
 intro x hx
 rw [Lib.decDigits] at hx
 by_cases h : u < 10
 ·rw [dif_pos h, List.mem_singleton] at hx
  rw [hx, byte_digit u (by omega)]
  omega
 ·rw [dif_neg h, List.mem_append] at hx
  rcases hx with hx | hx
  ·exact dec_digit (u / 10) x hx
  ·rw [List.mem_singleton] at hx
   rw [hx, byte_digit (u % 10) (by omega)]
   omega
termination_by u
theorem dec_fit (k : Nat) : ∀ u : Nat, u < 10 ^ (k + 1) → (Lib.decDigits u).length ≤ k + 1 := by
 induction k with
 | zero =>
  intro u h
  rw [Lib.decDigits, dif_pos (by simpa using h)]
  simp
 | succ k ih =>
  intro u h
  rw [Lib.decDigits]
  by_cases c : u < 10
  ·rw [dif_pos c]; simp
  ·rw [dif_neg c]
   have := ih (u / 10) (by rw [Nat.pow_succ] at h; omega)
   simp only [List.length_append, List.length_singleton]
   omega
theorem dec_ne (u : Nat) : 1 ≤ (Lib.decDigits u).length := by
 rw [Lib.decDigits]
 split <;> simp
theorem parse_app : ∀ (p : List UInt8) (a n : Nat) (q : List UInt8), Lib.parseUint10 a p = .ok n → Lib.parseUint10 a (p ++ q) = Lib.parseUint10 n q
 | [], a, n, q, h => by
  rw [Lib.parseUint10] at h
  injection h with h
  rw [h, List.nil_append]
 | b :: p, a, n, q, h => by
  rw [List.cons_append]
  rw [Lib.parseUint10] at h ⊢
  split at h
  ·split at h
   ·cases h
   ·split at h
    ·cases h
    ·rename_i c1 c2 c3
     rw [if_pos c1, if_neg c2, if_neg c3]
     exact parse_app p _ n q h
  ·cases h
theorem parse_dec (u : Nat) (hu : u < 10000000000) : Lib.parseUint10 0 (Lib.decDigits u) = .ok u := by
 rw [Lib.decDigits]
 by_cases h : u < 10
 ·rw [dif_pos h, Lib.parseUint10, byte_digit u (by omega), if_pos (by omega), if_neg (by omega), if_neg (by omega), Lib.parseUint10]
  congr 1
  omega
 ·rw [dif_neg h, parse_app _ 0 (u / 10) _ (parse_dec (u / 10) (by omega)), Lib.parseUint10, byte_digit (u % 10) (by omega), if_pos (by omega), if_neg (by omega), if_neg (by omega), Lib.parseUint10]
  congr 1
  omega
termination_by u
theorem atoi_dec (u : Nat) (hu : u < 10000000000) : Lib.atoiAll (Lib.decDigits u) = .ok (u : Int) := by
 have hp := parse_dec u hu
 have hd := dec_digit u
 cases e : Lib.decDigits u with
 | nil => have := dec_ne u; rw [e] at this; simp at this
 | cons b t =>
  have hb := hd b (by rw [e]; exact List.mem_cons_self)
  rw [e] at hp
  have h1 : ¬ (b.toNat = 43 ∨ b.toNat = 45) := by omega
  have h2 : ¬ b.toNat = 45 := by omega
  have hm : Lib.parseMag (if b.toNat = 43 ∨ b.toNat = 45 then t else b :: t) = .ok u := by
   rw [if_neg h1, Lib.parseMag, if_neg (by simp)]
   exact hp
  rw [Lib.atoiAll]
  simp only [hm]
  rw [if_neg (by omega), if_neg (by omega), if_neg h2]
theorem map_ba : ∀ l : List ByteArray, (l.map (·.data.toList)).map ba = l
 | [] => rfl
 | a :: t => by rw [List.map_cons, List.map_cons, map_ba t, ba_of]
theorem libSplit_eq (s : ByteArray) (hN : s.size ≤ 1048576) (c : UInt8) : strings_Split.f s (⟨#[c]⟩ : ByteArray) = some ((splitL c s.data.toList).map ba) := by
 have h1 : (⟨#[c]⟩ : ByteArray).size = 1 := rfl
 rw [strings_Split.f, if_pos ⟨by omega, by omega⟩, ← split_list, ← map_ba (Lib.splitB _ _ _ _), Lib.splitB_data]
 rfl
def numsOf (cnt : Nat) : List Int → List (List UInt8) → List Int × Bool
 | acc, [] => (acc, (acc.length : Int) == (cnt : Int))
 | acc, p :: t => match atoiRes p with
  | (v, none) => if (acc.length : Int) ≥ (cnt : Int) then ([], false) else numsOf cnt (acc ++ [v]) t
  | (_, some _) => ([], false)
theorem rdOf_ba {ps : List (List UInt8)} {i : Nat} {p : List UInt8} {t : List (List UInt8)} (h : ps.drop i = p :: t) : rdOf ByteArray.empty (ps.map ba) (i : Int) = ba p := by
 unfold rdOf
 rw [Int.toNat_natCast, List.getD_eq_getElem?_getD, List.getElem?_map]
 obtain ⟨h1, h2, _⟩ := drop_cons' h p
 rw [List.getD_eq_getElem?_getD, List.getElem?_eq_getElem h1, Option.getD_some] at h2
 rw [List.getElem?_eq_getElem h1, h2]
 rfl
theorem nums_l0 (ps : List (List UInt8)) (hN : ps.length ≤ 1048577) (hs : ∀ p ∈ ps, p.length ≤ 1048576) (cnt : Nat) (hc : cnt ≤ 100) : ∀ (t : List (List UInt8)) (i : Nat) (acc : List Int), ps.drop i = t → acc.length ≤ cnt → Ev (fun k => impl_numbersOf.l0 k (cnt : Int) acc (ps.map ba) ((ps.map ba).length : Int) (i : Int)) (numsOf cnt acc t)
 | [], i, acc, h, ha => by
  have h1 := drop_nil' h
  refine Ev.step (f := fun _ => some (acc, (acc.length : Int) == (cnt : Int))) (fun k => ?_) (Ev.now _)
  rw [impl_numbersOf.l0, if_neg (by rw [List.length_map]; omega)]
 | p :: t, i, acc, h, ha => by
  obtain ⟨h1, _, h3⟩ := drop_cons' h []
  have hp := hs p (List.mem_of_mem_drop (by rw [h]; exact List.mem_cons_self))
  have w : wrap64 ((i : Int) + 1) = ((i + 1 : Nat) : Int) := w64s h1 (by omega)
  have ea : strconv_Atoi.f (ba p) = some (atoiRes p) := by
   rw [strconv_Atoi.f, if_pos (by rw [ba_size]; omega), ba_data]
  refine Ev.step (fun k => by rw [impl_numbersOf.l0, if_pos (by rw [List.length_map]; omega), if_pos (by omega), if_pos (by rw [List.length_map]; omega), rdOf_ba h, ea, w]) ?_
  refine Ev.some_bind ?_
  rw [numsOf]
  cases e : atoiRes p with
  | mk v o =>
   cases o with
   | none =>
    dsimp only
    refine Ev.pos rfl ?_
    by_cases c : (acc.length : Int) ≥ (cnt : Int)
    ·rw [if_pos c]; exact Ev.pos c (Ev.now _)
    ·rw [if_neg c]
     exact Ev.neg c (Ev.pos (by omega) (nums_l0 ps hN hs cnt hc t (i + 1) (acc ++ [v]) h3 (by simp; omega)))
   | some q =>
    dsimp only
    exact Ev.neg (by simp) (Ev.now _)
theorem numsOf_len (cnt : Nat) : ∀ (t : List (List UInt8)) (acc : List Int), (numsOf cnt acc t).2 = true → (numsOf cnt acc t).1.length = cnt
 | [], acc, h => by
  rw [numsOf] at h ⊢
  dsimp only at h ⊢
  have := eq_of_beq h
  omega
 | p :: t, acc, h => by
  rw [numsOf] at h ⊢
  cases e : atoiRes p with
  | mk v o =>
   rw [e] at h
   cases o with
   | none =>
    dsimp only at h ⊢
    by_cases c : (acc.length : Int) ≥ (cnt : Int)
    ·rw [if_pos c] at h; cases h
    ·rw [if_neg c] at h ⊢
     exact numsOf_len cnt t _ h
   | some q => dsimp only at h; cases h
theorem splitL_len (c : UInt8) : ∀ L : List UInt8, (splitL c L).length ≤ L.length + 1 ∧ ∀ p ∈ splitL c L, p.length ≤ L.length
 | [] => by simp [splitL]
 | b :: t => by
  obtain ⟨h1, h2⟩ := splitL_len c t
  rw [splitL]
  split
  ·refine ⟨by simp; omega, fun p hp => ?_⟩
   rcases List.mem_cons.1 hp with rfl | hp
   ·simp
   ·have := h2 p hp; simp; omega
  ·split
   ·rename_i h r e
    rw [e] at h1 h2
    refine ⟨by simp at h1 ⊢; omega, fun p hp => ?_⟩
    rcases List.mem_cons.1 hp with rfl | hp
    ·have := h2 h List.mem_cons_self; simp; omega
    ·have := h2 p (List.mem_cons_of_mem _ hp); simp; omega
   ·simp
theorem numbersOf_ev (s : ByteArray) (hN : s.size ≤ 1048576) (c : UInt8) (cnt : Nat) (hc : cnt ≤ 100) : Ev (fun k => impl_numbersOf.f k s (⟨#[c]⟩ : ByteArray) (cnt : Int)) (numsOf cnt [] (splitL c s.data.toList)) := by
 obtain ⟨h1, h2⟩ := splitL_len c s.data.toList
 rw [data_length] at h1 h2
 simp only [impl_numbersOf.f]
 rw [libSplit_eq s hN c]
 refine Ev.some_bind ?_
 exact nums_l0 (splitL c s.data.toList) (by omega) (fun p hp => Nat.le_trans (h2 p hp) hN) cnt hc _ 0 [] rfl (Nat.zero_le _)
theorem atoiRes_dec (u : Nat) (hu : u < 10000000000) : atoiRes (Lib.decDigits u) = ((u : Int), none) := by
 rw [atoiRes, atoi_dec u hu]
def three (c : UInt8) (x y z : Nat) : List UInt8 := Lib.decDigits x ++ c :: (Lib.decDigits y ++ c :: Lib.decDigits z)
theorem dec_no (c : UInt8) (hc : c.toNat < 48 ∨ 57 < c.toNat) (u : Nat) : c ∉ Lib.decDigits u := fun h => by
 have := dec_digit u c h
 omega
theorem three_split (c : UInt8) (hc : c.toNat < 48 ∨ 57 < c.toNat) (x y z : Nat) : splitL c (three c x y z) = [Lib.decDigits x, Lib.decDigits y, Lib.decDigits z] := by
 rw [three, ← glue_nil, glue_part c _ [] _ (dec_no c hc x), List.nil_append, ← glue_nil c (_ ++ _), glue_part c _ [] _ (dec_no c hc y), List.nil_append, ← glue_nil c (Lib.decDigits z), glue_last c _ [] (dec_no c hc z), List.nil_append]
theorem three_nums (x y z : Nat) (hx : x < 10000000000) (hy : y < 10000000000) (hz : z < 10000000000) : numsOf 3 [] [Lib.decDigits x, Lib.decDigits y, Lib.decDigits z] = ([(x : Int), (y : Int), (z : Int)], true) := by
 rw [numsOf, atoiRes_dec x hx]
 dsimp only
 rw [if_neg (by simp), numsOf, atoiRes_dec y hy]
 dsimp only
 rw [if_neg (by simp), numsOf, atoiRes_dec z hz]
 dsimp only
 rw [if_neg (by simp), numsOf]
 rfl
theorem in_eq (x a b : Int) : impl_in.f x a b = some (decide (a ≤ x ∧ x ≤ b)) := by
 unfold impl_in.f
 by_cases h : x ≥ a
 ·rw [if_pos h]; simp [show a ≤ x from h]
 ·rw [if_neg h]; simp [show ¬ a ≤ x from h]
def stOk (a b c : Int) : Bool := decide (0 ≤ a ∧ a ≤ 1000000000) && (decide (0 ≤ b ∧ b ≤ 1000000) && decide (0 ≤ c ∧ c ≤ 20))
theorem stampOk_eq (a b c : Int) : spec_StampOk.f a b c = some (stOk a b c) ∧ impl_StampOk.f a b c = some (stOk a b c) := by
 unfold spec_StampOk.f impl_StampOk.f stOk
 simp only [l1In_eq, in_eq, Option.bind_some]
 cases decide (0 ≤ a ∧ a ≤ 1000000000) <;> cases decide (0 ≤ b ∧ b ≤ 1000000) <;> simp
theorem itoa_eq (n : Int) (h0 : 0 ≤ n) (h1 : n ≤ 10000000000) : strconv_Itoa.f n = some (dtxt n) := by
 rw [strconv_Itoa.f, if_pos (by omega)]; rfl
def dot : ByteArray := ⟨#[46]⟩
def stampText (a b c : Int) : ByteArray := if stOk a b c = true then dtxt a ++ dot ++ dtxt b ++ dot ++ dtxt c else ⟨#[]⟩
theorem stOk_iff (a b c : Int) : stOk a b c = true ↔ (0 ≤ a ∧ a ≤ 1000000000) ∧ (0 ≤ b ∧ b ≤ 1000000) ∧ (0 ≤ c ∧ c ≤ 20) := by
 rw [stOk, Bool.and_eq_true, Bool.and_eq_true, decide_eq_true_eq, decide_eq_true_eq, decide_eq_true_eq]
theorem stampText_ev (a b c : Int) : Ev (fun k => spec_StampText.f k a b c) (stampText a b c) ∧ impl_StampText.f a b c = some (stampText a b c) := by
 obtain ⟨o1, o2⟩ := stampOk_eq a b c
 rw [impl_StampText.f, o2]
 simp only [spec_StampText.f]
 rw [o1, stampText]
 by_cases h : stOk a b c = true
 ·rw [if_pos h, h]
  obtain ⟨h1, h2, h3⟩ := (stOk_iff a b c).1 h
  have s1 := dtxt_size a h1.1
  have s2 := dtxt_size b h2.1
  have s3 := dtxt_size c h3.1
  have d1 : (⟨#[46]⟩ : ByteArray).size = 1 := rfl
  refine ⟨Ev.got rfl (Ev.pos rfl ?_), ?_⟩
  ·refine Ev.bind (dtxt_ev a (by omega) (by omega)) (Ev.pos (by omega) (Ev.bind (dtxt_ev b (by omega) (by omega)) (Ev.pos ?_ (Ev.pos ?_ (Ev.bind (dtxt_ev c (by omega) (by omega)) (Ev.pos ?_ (Ev.now _)))))))
   all_goals simp only [ByteArray.size_append, d1]; omega
  ·rw [Option.bind_some, if_pos rfl, itoa_eq a (by omega) (by omega), Option.bind_some, if_pos (by omega), itoa_eq b (by omega) (by omega), Option.bind_some, if_pos (by simp only [ByteArray.size_append, d1]; omega), if_pos (by simp only [ByteArray.size_append, d1]; omega), itoa_eq c (by omega) (by omega), Option.bind_some, if_pos (by simp only [ByteArray.size_append, d1]; omega)]
   rfl
 ·rw [if_neg h, Bool.eq_false_iff.mpr h]
  exact ⟨Ev.got rfl (Ev.neg (by decide) (Ev.now _)), rfl⟩
theorem str_back {a b : ByteArray} (h : a.toList = b.toList) : a = b := by
 rw [ByteArray.toList_eq, ByteArray.toList_eq] at h
 rw [← ba_of a, ← ba_of b, h]
theorem stampText_data (a b c : Int) (h : stOk a b c = true) : (stampText a b c).data.toList = three 46 a.toNat b.toNat c.toNat := by
 obtain ⟨h1, h2, h3⟩ := (stOk_iff a b c).1 h
 rw [stampText, if_pos h]
 simp [dot, dtxt, ByteArray.data_append, three, Lib.itoa, if_neg (show ¬ a < 0 by omega), if_neg (show ¬ b < 0 by omega), if_neg (show ¬ c < 0 by omega)]
def implStamp (s : ByteArray) : Int × Int × Int × Bool := match numsOf 3 [] (splitL 46 s.data.toList) with
 | (l, true) => if stOk (rd l 0) (rd l 1) (rd l 2) = true then (if stampText (rd l 0) (rd l 1) (rd l 2) = s then (rd l 0, rd l 1, rd l 2, true) else (0, 0, 0, false)) else (0, 0, 0, false)
 | (_, false) => (0, 0, 0, false)
theorem implStamp_ev (s : ByteArray) (hN : s.size ≤ 1048576) : Ev (fun k => impl_ParseStamp.f k s) (implStamp s) := by
 have e0 := numbersOf_ev s hN 46 3 (by omega)
 have hl := numsOf_len 3 (splitL 46 s.data.toList) []
 simp only [impl_ParseStamp.f]
 refine Ev.bind e0 ?_
 rw [implStamp]
 generalize numsOf 3 [] (splitL 46 s.data.toList) = N at hl
 obtain ⟨l, b⟩ := N
 cases b with
 | false => exact Ev.neg (by simp) (Ev.now _)
 | true =>
  have hl := hl rfl
  dsimp only at hl ⊢
  refine Ev.pos rfl (Ev.pos (by omega) (Ev.pos (by omega) (Ev.pos (by omega) (Ev.got (stampOk_eq _ _ _).2 ?_))))
  by_cases c : stOk (rd l 0) (rd l 1) (rd l 2) = true
  ·refine Ev.eq ?_ (if_pos c).symm
   refine Ev.pos c (Ev.got (stampText_ev _ _ _).2 ?_)
   by_cases c2 : stampText (rd l 0) (rd l 1) (rd l 2) = s
   ·refine Ev.eq ?_ (if_pos c2).symm
    exact Ev.pos (by rw [c2]) (Ev.now _)
   ·refine Ev.eq ?_ (if_neg c2).symm
    exact Ev.neg (fun h => c2 (str_back h)) (Ev.now _)
  ·refine Ev.eq ?_ (if_neg c).symm
   exact Ev.neg c (Ev.now _)
theorem implStamp_yes (a b c : Int) (h : stOk a b c = true) (s : ByteArray) (hs : s = stampText a b c) : implStamp s = (a, b, c, true) := by
 obtain ⟨h1, h2, h3⟩ := (stOk_iff a b c).1 h
 rw [implStamp, hs, stampText_data a b c h, three_split 46 (by decide), three_nums _ _ _ (by omega) (by omega) (by omega)]
 have ea : ((a.toNat : Nat) : Int) = a := by omega
 have eb : ((b.toNat : Nat) : Int) = b := by omega
 have ec : ((c.toNat : Nat) : Int) = c := by omega
 rw [ea, eb, ec]
 show (if stOk a b c = true then (if stampText a b c = stampText a b c then (a, b, c, true) else (0, 0, 0, false)) else (0, 0, 0, false)) = (a, b, c, true)
 rw [if_pos h, if_pos rfl]
theorem stampText_size (a b c : Int) : (stampText a b c).size ≤ 32 := by
 by_cases h : stOk a b c = true
 ·obtain ⟨h1, h2, h3⟩ := (stOk_iff a b c).1 h
  have l1 := dec_fit 9 a.toNat (by omega)
  have l2 := dec_fit 9 b.toNat (by omega)
  have l3 := dec_fit 9 c.toNat (by omega)
  rw [← data_length, stampText_data a b c h, three]
  simp only [List.length_append, List.length_cons]
  omega
 ·rw [stampText, if_neg h]
  exact Nat.zero_le _
def Cur (b : List Int) (i : Int) : Prop := b.length ≤ 1048576 ∧ 0 ≤ i ∧ i ≤ b.length
theorem new_l0 (b : List Int) (hN : b.length ≤ 1048576) (d : Nat) : ∀ (i : Nat) (h : Int), i + d = b.length → ∃ h', Ev (fun k => spec_l1New.l0 k b h (i : Int)) (b, 0, h') := by
 induction d with
 | zero =>
  intro i h hd
  refine ⟨h, Ev.step (f := fun _ => some (b, 0, h)) (fun k => ?_) (Ev.now _)⟩
  rw [spec_l1New.l0, if_neg (by omega)]
 | succ d ih =>
  intro i h hd
  by_cases c : (i : Int) < 4000
  ·obtain ⟨h', e⟩ := ih (i + 1) (Go.bits .and .i64 (wrap64 ((wrap64 ((wrap64 (h * 137)) + (wrap64 (rd b i)))) + 11)) 1073741823) (by omega)
   refine ⟨h', Ev.step (fun k => ?_) e⟩
   rw [spec_l1New.l0, if_pos (by omega), if_pos c, if_pos (by omega), w64s (i := i) (n := b.length) (by omega) (by omega)]
  ·refine ⟨h, Ev.step (f := fun _ => some (b, 0, h)) (fun k => ?_) (Ev.now _)⟩
   rw [spec_l1New.l0, if_pos (by omega), if_neg c]
theorem new_ev (b : List Int) (hN : b.length ≤ 1048576) : ∃ h', Ev (fun k => spec_l1New.f k b) (b, 0, h') ∧ Cur b 0 := by
 obtain ⟨h', e⟩ := new_l0 b hN b.length 0 (wrap64 (378378 + (b.length : Int))) (by omega)
 exact ⟨h', e, hN, by omega, by omega⟩
theorem byte_ok (b : List Int) (i h : Int) (hc : Cur b i) : ∃ x i' h', spec_l1Byte.f b i h = some (x, i', h') ∧ 0 ≤ x ∧ x ≤ 255 ∧ Cur b i' := by
 obtain ⟨c1, c2, c3⟩ := hc
 unfold spec_l1Byte.f
 by_cases c : i < (b.length : Int)
 ·rw [if_pos c, if_pos c2]
  refine ⟨_, _, _, rfl, (and255 _).1, (and255 _).2, c1, ?_⟩
  rw [w64 (by omega) (by omega)]
  omega
 ·rw [if_neg c]
  exact ⟨_, _, _, rfl, (and255 _).1, (and255 _).2, c1, c2, c3⟩
theorem tmod_in {x n : Int} (h0 : 0 ≤ x) (hn : 0 < n) : 0 ≤ Int.tmod x n ∧ Int.tmod x n < n := by
 rw [Int.tmod_eq_emod_of_nonneg h0]
 exact ⟨Int.emod_nonneg _ (by omega), Int.emod_lt_of_pos _ hn⟩
theorem below_ok (b : List Int) (i h n : Int) (hc : Cur b i) : ∃ x i' h', spec_l1Below.f b i h n = some (x, i', h') ∧ 0 ≤ x ∧ (0 < n → x < n) ∧ (n ≤ 0 → x = 0) ∧ Cur b i' := by
 unfold spec_l1Below.f
 by_cases c0 : n ≤ 0
 ·rw [if_pos c0]
  exact ⟨0, i, h, rfl, Int.le_refl _, fun h1 => absurd h1 (by omega), fun _ => rfl, hc⟩
 ·rw [if_neg c0]
  obtain ⟨x, i1, h1, e1, x0, x1, hc1⟩ := byte_ok b i h hc
  by_cases c1 : n ≤ 256
  ·rw [if_pos c1, e1, Option.bind_some, if_neg (by omega)]
   have ht := tmod_in x0 (show 0 < n by omega)
   exact ⟨_, _, _, rfl, ht.1, fun _ => ht.2, fun hq => absurd hq c0, hc1⟩
  ·obtain ⟨y, i2, h2, e2, y0, y1, hc2⟩ := byte_ok b i1 h1 hc1
   obtain ⟨z, i3, h3, e3, z0, z1, hc3⟩ := byte_ok b i2 h2 hc2
   rw [if_neg c1, e1, Option.bind_some, e2, Option.bind_some, e3, Option.bind_some, if_neg (by omega)]
   have w : wrap64 (wrap64 (wrap64 (x * 65536) + wrap64 (y * 256)) + z) = x * 65536 + y * 256 + z := by
    rw [w64 (x := x * 65536) (by omega) (by omega), w64 (x := y * 256) (by omega) (by omega), w64 (x := x * 65536 + y * 256) (by omega) (by omega), w64 (by omega) (by omega)]
   have ht := tmod_in (x := x * 65536 + y * 256 + z) (by omega) (show 0 < n by omega)
   refine ⟨_, _, _, rfl, ?_, fun _ => ?_, fun hq => absurd hq c0, hc3⟩
   ·simp only [w]; exact ht.1
   ·simp only [w]; exact ht.2
theorem int_ok (b : List Int) (i h : Int) (l : List Int) (hl : 0 < l.length) (hc : Cur b i) : ∃ x i' h', spec_l1Int.f b i h l = some (x, i', h') ∧ x ∈ l ∧ Cur b i' := by
 obtain ⟨x, i1, h1, e1, x0, x1, _, hc1⟩ := below_ok b i h (l.length : Int) hc
 have x2 := x1 (by omega)
 unfold spec_l1Int.f
 rw [e1, Option.bind_some, if_pos x0, if_pos x2]
 exact ⟨_, _, _, rfl, rd_mem x0 x2, hc1⟩
theorem stamp_ok (b : List Int) (i h : Int) (hc : Cur b i) : ∃ x y z i' h', spec_l2Draw.f b i h = some (x, y, z, i', h') ∧ Cur b i' ∧ (0 ≤ y ∧ y < 3) := by
 obtain ⟨x, i1, h1, e1, _, hc1⟩ := int_ok b i h [0, 1, 2, 3, 1000000000] (by decide) hc
 obtain ⟨y, i2, h2, e2, y0, y1, _, hc2⟩ := below_ok b i1 h1 3 hc1
 obtain ⟨z, i3, h3, e3, _, _, _, hc3⟩ := below_ok b i2 h2 3 hc2
 unfold spec_l2Draw.f
 rw [e1, Option.bind_some, e2, Option.bind_some, e3, Option.bind_some]
 exact ⟨_, _, _, _, _, rfl, hc3, y0, y1 (by omega)⟩
theorem anyB_ok (b : List Int) (i h : Int) (hc : Cur b i) : ∃ x y z i' h', spec_l2Any.f b i h = some (x, y, z, i', h') ∧ Cur b i' ∧ (y < 9223372036854775807 ∧ -9223372036854775808 ≤ y) := by
 obtain ⟨x, y, z, i1, h1, e1, hc1, hy⟩ := stamp_ok b i h hc
 obtain ⟨n, i2, h2, e2, _, _, _, hc2⟩ := below_ok b i1 h1 10 hc1
 unfold spec_l2Any.f
 rw [e1, Option.bind_some, e2, Option.bind_some]
 by_cases c0 : n = 0
 ·obtain ⟨v, i3, h3, e3, _, hc3⟩ := int_ok b i2 h2 [(-1), 1000000001] (by decide) hc2
  rw [if_pos c0, e3, Option.bind_some]
  exact ⟨_, _, _, _, _, rfl, hc3, by dsimp only; omega⟩
 rw [if_neg c0]
 by_cases c1 : n = 1
 ·obtain ⟨v, i3, h3, e3, hv, hc3⟩ := int_ok b i2 h2 [(-1), 1000000, 1000001] (by decide) hc2
  simp only [List.mem_cons, List.not_mem_nil, or_false] at hv
  rw [if_pos c1, e3, Option.bind_some]
  exact ⟨_, _, _, _, _, rfl, hc3, by dsimp only; omega⟩
 rw [if_neg c1]
 by_cases c2 : n = 2
 ·obtain ⟨v, i3, h3, e3, _, hc3⟩ := int_ok b i2 h2 [(-1), 20, 21] (by decide) hc2
  rw [if_pos c2, e3, Option.bind_some]
  exact ⟨_, _, _, _, _, rfl, hc3, by dsimp only; omega⟩
 ·rw [if_neg c2]
  exact ⟨_, _, _, _, _, rfl, hc2, by dsimp only; omega⟩
theorem once_ok (b : List Int) (i h n : Int) (hc : Cur b i) : ∃ x i' h', spec_l1Once.f b i h n = some (x, i', h') ∧ Cur b i' := by
 obtain ⟨x, i1, h1, e1, _, _, _, hc1⟩ := below_ok b i h n hc
 unfold spec_l1Once.f
 rw [e1, Option.bind_some]
 exact ⟨_, _, _, rfl, hc1⟩
theorem big_eq (l : List Int) : laws_big.f l = some (decide ((l.length : Int) > 1048576)) := rfl
def less6 (x y z u v w : Int) : Bool := if x = u then (if y = v then decide (z < w) else decide (y < v)) else decide (x < u)
theorem less6_eq (x y z u v w : Int) : spec_LessStamp.f x y z u v w = some (less6 x y z u v w) ∧ impl_LessStamp.f x y z u v w = some (less6 x y z u v w) := by
 unfold spec_LessStamp.f impl_LessStamp.f less6
 constructor <;> (repeat' split) <;> rfl
end Go.Proofs.YtnoglmdicdpabaaDoor.PureFnStampOrder
namespace Go.Proofs.YtnoglmdicdpabaaDoor.Pure
open Go.RowKit Go.Proofs.YtnoglmdicdpabaaDoor.PFnStampOrder Go.Proofs.YtnoglmdicdpabaaDoorW.PrintWords Go.Proofs.YtnoglmdicdpabaaDoorW.PrintLast Go.Proofs.YtnoglmdicdpabaaDoorW.PrintMore Go.Proofs.YtnoglmdicdpabaaDoor.Base Go.Proofs.YtnoglmdicdpabaaDoor.PureFnStampOrder
set_option linter.unusedVariables false
attribute [local irreducible] Go.bits IntKind.wrap shl shr
theorem stamps_drawn (b : List Int) (hN : b.length ≤ 1048576) : ∃ x y z u v w, Ev (fun k => spec_DrawLessStamp.f k b) (x, y, z, u, v, w) := by
 obtain ⟨g, e0, hc0⟩ := new_ev b hN
 obtain ⟨x, y, z, i1, g1, e1, hc1, _⟩ := anyB_ok b 0 g hc0
 obtain ⟨o, i2, g2, e2, hc2⟩ := once_ok b i1 g1 4 hc1
 simp only [spec_DrawLessStamp.f]
 by_cases c : o = true
 ·exact ⟨_, _, _, _, _, _, Ev.bind e0 (Ev.got e1 (Ev.got e2 (Ev.pos c (Ev.now _))))⟩
 ·obtain ⟨u, v, w, i3, g3, e3, hc3, _⟩ := anyB_ok b i2 g2 hc2
  exact ⟨_, _, _, _, _, _, Ev.bind e0 (Ev.got e1 (Ev.got e2 (Ev.neg c (Ev.got e3 (Ev.now _)))))⟩
theorem order_j0 (x y z : Int) : Ev (fun k => laws_FnStampOrder.j0 k false x y z) true := by
 have hz := stampText_size x y z
 have e2 := implStamp_ev (stampText x y z) (by omega)
 obtain ⟨o1, o2⟩ := stampOk_eq x y z
 refine Ev.step (f := fun k => (impl_StampText.f x y z).bind fun t236 => ((impl_ParseStamp.f k t236).bind fun bt237 => ((spec_StampOk.f x y z).bind fun t242 => (if t242 = true then (if bt237.2.2.2 = true then (if (bt237.1 == x && (bt237.2.1 == y && (bt237.2.2.1 == z))) = true then ((impl_StampOk.f x y z).bind fun t243 => (some t243)) else (some false)) else (some false)) else (if t236.toList = ([] : List UInt8) then ((impl_StampOk.f x y z).bind fun t244 => (some (!t244))) else (some false)))))) (fun k => by rw [laws_FnStampOrder.j0, if_neg (by decide)]) ?_
 refine Ev.got (stampText_ev x y z).2 (Ev.bind e2 (Ev.got o1 ?_))
 by_cases c : stOk x y z = true
 ·rw [implStamp_yes x y z c _ rfl]
  exact Ev.pos c (Ev.pos rfl (Ev.pos (by simp) (Ev.eq (Ev.got o2 (Ev.now _)) c)))
 ·refine Ev.neg c (Ev.pos ?_ (Ev.eq (Ev.got o2 (Ev.now _)) (by rw [Bool.eq_false_iff.mpr c]; rfl)))
  rw [stampText, if_neg c, ByteArray.toList_eq]
theorem FnStampOrder (code : List Int) (h0 : Bytes code) : ∃ k, laws_FnStampOrder.f k code = some true := by
 apply Ev.rounds (g := fun k => laws_FnStampOrder.f k code)
 simp only [laws_FnStampOrder.f]
 refine Ev.got (big_eq code) ?_
 by_cases hb : (code.length : Int) > 1048576
 ·exact Ev.pos (decide_eq_true hb) (Ev.now _)
 refine Ev.neg (by rw [decide_eq_true_eq]; exact hb) ?_
 obtain ⟨x, y, z, u, v, w, e1⟩ := stamps_drawn code (by omega)
 obtain ⟨s1, s2⟩ := less6_eq x y z u v w
 obtain ⟨_, s4⟩ := less6_eq u v w x y z
 refine Ev.bind e1 (Ev.got s2 (Ev.got s4 ?_))
 have hself : ∀ t : Bool, (t != t) = false := fun t => by cases t <;> rfl
 have f1 : less6 x y z u v w = true → less6 u v w x y z = false ∧ (!(x == u) || (!(y == v) || (!(z == w)))) = true := by
  intro h
  simp only [less6] at h ⊢
  repeat' split at h
  all_goals simp at h
  all_goals (constructor; (repeat' split) <;> simp <;> omega; simp; omega)
 have f2 : less6 x y z u v w = false → less6 u v w x y z = (!(x == u) || (!(y == v) || (!(z == w)))) := by
  intro h
  simp only [less6] at h ⊢
  rw [Bool.eq_iff_iff]
  repeat' split at h
  all_goals simp at h
  all_goals ((repeat' split) <;> simp <;> omega)
 by_cases c : less6 x y z u v w = true
 ·obtain ⟨g1, g2⟩ := f1 c
  refine Ev.pos c (Ev.neg (by rw [g1]; decide) (Ev.neg (by dsimp only; rw [g2]; decide) (Ev.got s1 ?_)))
  rw [hself]
  exact order_j0 x y z
 ·have g := f2 (Bool.eq_false_iff.mpr c)
  refine Ev.neg c (Ev.neg (by dsimp only; rw [g, hself]; decide) (Ev.got s1 ?_))
  rw [hself]
  exact order_j0 x y z
end Go.Proofs.YtnoglmdicdpabaaDoor.Pure
