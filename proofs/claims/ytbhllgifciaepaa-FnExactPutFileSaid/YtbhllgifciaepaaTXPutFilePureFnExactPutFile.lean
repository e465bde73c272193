/- Trimmed by a program of this session (trim.py). Not trusted: Lean checks it. -/
import Derived.Test.YtbhllgifciaepaaTXPutFilePFnExactPutFilex4
import Derived.Test.YtbhllgifciaepaaTXPutFileBase
namespace Go.Proofs.Ytbhllgifciaepaa.PureFnExactPutFile
open Go.RowKit Go.Proofs.Ytbhllgifciaepaa.PFnExactPutFile Go.Proofs.YtbhllgifciaepaaW.PrintWords Go.Proofs.YtbhllgifciaepaaW.PrintLast Go.Proofs.YtbhllgifciaepaaW.PrintMore Go.Proofs.Ytbhllgifciaepaa.Base
set_option linter.unusedVariables false
attribute [local irreducible] Go.bits IntKind.wrap shl shr
theorem l1In_eq (x a b : Int) : spec_l1In.f x a b = some (decide (a ≤ x ∧ x ≤ b)) := by
 unfold spec_l1In.f
 by_cases h : x ≥ a
 ·rw [if_pos h]; simp [show a ≤ x from h]
 ·rw [if_neg h]; simp [show ¬ a ≤ x from h]
theorem in_eq (x a b : Int) : impl_in.f x a b = some (decide (a ≤ x ∧ x ≤ b)) := by
 unfold impl_in.f
 by_cases h : x ≥ a
 ·rw [if_pos h]; simp [show a ≤ x from h]
 ·rw [if_neg h]; simp [show ¬ a ≤ x from h]
def stOk (a b c : Int) : Bool := decide (0 ≤ a ∧ a ≤ 1000000000) && (decide (0 ≤ b ∧ b ≤ 1000000) && decide (0 ≤ c ∧ c ≤ 20))
theorem stampOk_eq (a b c : Int) : spec_StampOk.f a b c = some (stOk a b c) ∧ impl_StampOk.f a b c = some (stOk a b c) := by
 unfold spec_StampOk.f impl_StampOk.f stOk
 simp only [l1In_eq, in_eq, Option.bind_some]
 cases decide (0 ≤ a ∧ a ≤ 1000000000) <;> cases decide (0 ≤ b ∧ b ≤ 1000000) <;> simp
def fileOk (a b c : Int) (d : Bool) (l : List Int) : Bool := stOk a b c && (decide ((l.length : Int) ≤ 200) && (!d || ((l.length : Int) == 0)))
theorem fileOk_eq (a b c : Int) (d : Bool) (l : List Int) : spec_FileOk.f a b c d l = some (fileOk a b c d l) ∧ impl_FileOk.f a b c d l = some (fileOk a b c d l) := by
 unfold spec_FileOk.f impl_FileOk.f fileOk
 rw [(stampOk_eq a b c).1, (stampOk_eq a b c).2]
 simp only [Option.bind_some]
 cases stOk a b c <;> cases d <;> by_cases h : (l.length : Int) ≤ 200 <;> simp [h]
def putN (n : Nat) : List Int := if _h : 127 < n then (((n % 128 + 128 : Nat)) : Int) :: putN (n / 128) else [(n : Int)]
termination_by n
decreasing_by omega
def clip (n : Int) : Nat := if n < 0 then 0 else if 1000000000 < n then 1000000000 else n.toNat
theorem clip_le (n : Int) : clip n ≤ 1000000000 := by unfold clip; split; omega; split <;> omega
theorem putN_bytes (n : Nat) : ∀ x ∈ putN n, 0 ≤ x ∧ x ≤ 255 := by
 induction n using Nat.strongRecOn with
 | _ n ih =>
  intro x hx
  rw [putN] at hx
  split at hx
  ·rcases List.mem_cons.1 hx with rfl | hx
   ·omega
   ·exact ih (n / 128) (by omega) x hx
  ·rw [List.mem_singleton.1 hx]; omega
theorem putN_len (n : Nat) : (putN n).length ≤ n + 1 := by
 induction n using Nat.strongRecOn with
 | _ n ih =>
  rw [putN]
  split
  ·have := ih (n / 128) (by omega)
   rw [List.length_cons]; omega
  ·simp
theorem spec_putNum_l0 (n : Nat) : ∀ (acc : List Int), n ≤ 1000000000 → acc.length + n < 140737488355328 → Ev (fun k => spec_PutNum.l0 k (n : Int) acc) (acc ++ putN n) := by
 induction n using Nat.strongRecOn with
 | _ n ih =>
  intro acc hn ha
  by_cases h : 127 < n
  ·have i1 := ih (n / 128) (by omega) (acc ++ [((n % 128 + 128 : Nat) : Int)]) (by omega) (by simp; omega)
   have a1 : Hd (Go.bits .and .i64 (n : Int) 127 = ((n % 128 : Nat) : Int)) := ⟨by rw [and127 (by omega) (by omega)]; omega⟩
   have o1 : Hd (Go.bits .or .i64 ((n % 128 : Nat) : Int) 128 = ((n % 128 : Nat) : Int) + 128) := ⟨or128 (by omega) (by omega)⟩
   refine Ev.step (fun k => ?_) (Ev.eq i1 (by rw [putN.eq_1 n, dif_pos h]; simp))
   rw [spec_PutNum.l0, if_pos (by omega), if_pos (by omega), a1.out, o1.out, show (((n % 128 : Nat) : Int) + 128) % 256 = ((n % 128 + 128 : Nat) : Int) by omega, show (n : Int) / 128 = ((n / 128 : Nat) : Int) by omega]
  ·refine Ev.step (f := fun _ => some (acc ++ putN n)) (fun k => ?_) (Ev.now _)
   rw [spec_PutNum.l0, if_neg (by omega), if_pos (by omega), putN.eq_1 n, dif_neg h, show (n : Int) % 256 = (n : Int) by omega]
theorem spec_putNum_ev (b : List Int) (n : Int) (hb : b.length ≤ 100000000000000) : Ev (fun k => spec_PutNum.f k b n) (b ++ putN (clip n)) := by
 have hc := clip_le n
 have i1 := spec_putNum_l0 (clip n) b hc (by omega)
 have j1 : Ev (fun k => spec_PutNum.j1 k ((clip n : Nat) : Int) b) (b ++ putN (clip n)) := Ev.step (fun k => by rw [spec_PutNum.j1]) i1
 simp only [spec_PutNum.f]
 refine Ev.some_bind ?_
 refine Ev.pos (by simp; omega) (Ev.some_bind ?_)
 rw [List.nil_append]
 by_cases h1 : n > 1000000000
 ·refine Ev.pos h1 (Ev.step (fun k => ?_) j1)
  rw [spec_PutNum.j0, if_neg (by omega), show ((clip n : Nat) : Int) = 1000000000 by unfold clip; rw [if_neg (by omega), if_pos (by omega)]; rfl]
 ·refine Ev.neg h1 (Ev.step (fun k => ?_) j1)
  by_cases h2 : n < 0
  ·rw [spec_PutNum.j0, if_pos h2, show ((clip n : Nat) : Int) = 0 by unfold clip; rw [if_pos h2]; rfl]
  ·rw [spec_PutNum.j0, if_neg h2, show ((clip n : Nat) : Int) = n by unfold clip; rw [if_neg h2, if_neg (by omega)]; omega]
theorem spec_putText_ev (b : List Int) (s : ByteArray) (hb : b.length ≤ 10000000000000) (hs : s.size ≤ 10000000000000) : Ev (fun k => spec_PutText.f k b s) (b ++ putN (clip s.size) ++ bytesOf s) := by
 have hc := clip_le s.size
 have hp := putN_len (clip s.size)
 simp only [spec_PutText.f]
 refine Ev.bind (spec_putNum_ev b _ (by omega)) ?_
 refine Ev.pos (by rw [List.length_append]; omega) (Ev.now _)
theorem addNum_l0 (n : Nat) : ∀ (acc : List Int), n ≤ 1000000000 → acc.length + n < 140737488355328 → Ev (fun k => impl_addNum.l0 k acc (n : Int)) (acc ++ putN n) := by
 induction n using Nat.strongRecOn with
 | _ n ih =>
  intro acc hn ha
  by_cases h : 127 < n
  ·have i1 := ih (n / 128) (by omega) (acc ++ [((n % 128 + 128 : Nat) : Int)]) (by omega) (by simp; omega)
   have t1 : Hd (Int.tmod (n : Int) 128 = ((n % 128 : Nat) : Int)) := ⟨by rw [Int.tmod_eq_emod_of_nonneg (by omega)]; omega⟩
   have t2 : Hd (Int.tdiv (n : Int) 128 = ((n / 128 : Nat) : Int)) := ⟨by rw [Int.tdiv_eq_ediv_of_nonneg (by omega)]; omega⟩
   have w1 : Hd (wrap64 (((n % 128 : Nat) : Int) + 128) = ((n % 128 : Nat) : Int) + 128) := ⟨w64 (by omega) (by omega)⟩
   have w2 : Hd (wrap64 ((n / 128 : Nat) : Int) = ((n / 128 : Nat) : Int)) := ⟨w64 (by omega) (by omega)⟩
   refine Ev.step (fun k => ?_) (Ev.eq i1 (by rw [putN.eq_1 n, dif_pos h]; simp))
   rw [impl_addNum.l0, if_pos (by omega), if_pos (by omega), t1.out, t2.out, w1.out, w2.out, show (((n % 128 : Nat) : Int) + 128) % 256 = ((n % 128 + 128 : Nat) : Int) by omega]
  ·refine Ev.step (f := fun _ => some (acc ++ putN n)) (fun k => ?_) (Ev.now _)
   rw [impl_addNum.l0, if_neg (by omega), if_pos (by omega), putN.eq_1 n, dif_neg h, show (n : Int) % 256 = (n : Int) by omega]
theorem addNum_ev (b : List Int) (n : Int) (hb : b.length ≤ 100000000000000) : Ev (fun k => impl_addNum.f k b n) (b ++ putN (clip n)) := by
 have hc := clip_le n
 have i1 := addNum_l0 (clip n) b hc (by omega)
 simp only [impl_addNum.f]
 rw [show mx 0 (mn n 1000000000) = ((clip n : Nat) : Int) by
  unfold mx mn clip
  split <;> split <;> (first | omega | (split <;> omega) | (split <;> split <;> omega))]
 exact i1
theorem addText_ev (b : List Int) (s : ByteArray) (hb : b.length ≤ 10000000000000) (hs : s.size ≤ 10000000000000) : Ev (fun k => impl_addText.f k b s) (b ++ putN (clip s.size) ++ bytesOf s) := by
 have hc := clip_le s.size
 have hp := putN_len (clip s.size)
 simp only [impl_addText.f]
 refine Ev.bind (addNum_ev b _ (by omega)) ?_
 refine Ev.pos (by rw [List.length_append]; omega) (Ev.now _)
def crcBit (x : Int) : Int := if x % 2 = 1 then Go.bits .xor .u32 (x / 2) 2197175160 else x / 2
def crcN : Nat → Int → Int
 | 0, x => x
 | d + 1, x => crcN d (crcBit x)
def crcL : List Int → Int → Int
 | [], x => x
 | b :: t, x => crcL t (crcN 8 (Go.bits .xor .u32 x b))
def crcOf (l : List Int) : Int := Go.bits .xor .u32 (crcL l 4294967295) 4294967295
theorem crcBit_in {x : Int} (h0 : 0 ≤ x) (h1 : x < 4294967296) : 0 ≤ crcBit x ∧ crcBit x < 4294967296 := by
 unfold crcBit
 split
 ·have h := xorSame (x := x / 2) (y := 2197175160) (by omega) (by omega) (by omega) (by omega)
  exact ⟨h.2.1, h.2.2⟩
 ·omega
theorem crcN_in : ∀ (d : Nat) (x : Int), 0 ≤ x → x < 4294967296 → 0 ≤ crcN d x ∧ crcN d x < 4294967296
 | 0, x, h0, h1 => ⟨h0, h1⟩
 | d + 1, x, h0, h1 => crcN_in d (crcBit x) (crcBit_in h0 h1).1 (crcBit_in h0 h1).2
theorem crc_l1s (xs : List Int) (i : Int) (r : Int) : ∀ (d j : Nat) (x : Int), j + d = 8 → 0 ≤ x → x < 4294967296 → Ev (fun k => spec_Crc.l0 k xs (crcN d x) (wrap64 (i + 1))) r → Ev (fun k => spec_Crc.l1 k xs x i (j : Int)) r
 | 0, j, x, hd, h0, h1, h => by
  refine Ev.step (fun k => ?_) h
  rw [spec_Crc.l1, if_neg (by omega)]
  rfl
 | d + 1, j, x, hd, h0, h1, h => by
  have ih := crc_l1s xs i r d (j + 1) (crcBit x) (by omega) (crcBit_in h0 h1).1 (crcBit_in h0 h1).2 h
  have w : Hd (wrap64 ((j : Int) + 1) = ((j + 1 : Nat) : Int)) := ⟨w64s (n := j + 1) (by omega) (by omega)⟩
  by_cases c : x % 2 = 1
  ·have e : Hd (crcBit x = Go.bits .xor .i64 (x / 2) 2197175160) := ⟨by
    rw [crcBit, if_pos c, (xorSame (x := x / 2) (y := 2197175160) (by omega) (by omega) (by omega) (by omega)).1]⟩
   refine Ev.step (fun k => ?_) ih
   rw [spec_Crc.l1, if_pos (by omega), andOne h0 (by omega), if_pos c, w.out, e.out]
  ·have e : Hd (crcBit x = x / 2) := ⟨by rw [crcBit, if_neg c]⟩
   refine Ev.step (fun k => ?_) ih
   rw [spec_Crc.l1, if_pos (by omega), andOne h0 (by omega), if_neg c, w.out, e.out]
theorem crc_l1i (xs : List Int) (n i : Int) (r : Int) : ∀ (d j : Nat) (x : Int), j + d = 8 → 0 ≤ x → x < 4294967296 → Ev (fun k => impl_Crc.l0 k (crcN d x) xs n (wrap64 (i + 1))) r → Ev (fun k => impl_Crc.l1 k x xs n i (j : Int)) r
 | 0, j, x, hd, h0, h1, h => by
  refine Ev.step (fun k => ?_) h
  rw [impl_Crc.l1, if_neg (by omega)]
  rfl
 | d + 1, j, x, hd, h0, h1, h => by
  have ih := crc_l1i xs n i r d (j + 1) (crcBit x) (by omega) (crcBit_in h0 h1).1 (crcBit_in h0 h1).2 h
  have w : Hd (wrap64 ((j : Int) + 1) = ((j + 1 : Nat) : Int)) := ⟨w64s (n := j + 1) (by omega) (by omega)⟩
  by_cases c : x % 2 = 1
  ·have e : Hd (crcBit x = Go.bits .xor .u32 (x / 2) 2197175160) := ⟨by rw [crcBit, if_pos c]⟩
   refine Ev.step (fun k => ?_) ih
   rw [impl_Crc.l1, if_pos (by omega), andOneU h0 h1, if_pos c, w.out, e.out]
  ·have e : Hd (crcBit x = x / 2) := ⟨by rw [crcBit, if_neg c]⟩
   refine Ev.step (fun k => ?_) ih
   rw [impl_Crc.l1, if_pos (by omega), andOneU h0 h1, if_neg c, w.out, e.out]
theorem crc_l0 (xs : List Int) (hN : xs.length ≤ 4611686018427387904) (hb : ∀ x ∈ xs, 0 ≤ x ∧ x ≤ 255) : ∀ (l : List Int) (i : Nat) (x : Int), xs.drop i = l → 0 ≤ x → x < 4294967296 →
  Ev (fun k => spec_Crc.l0 k xs x (i : Int)) (Go.bits .xor .u32 (crcL l x) 4294967295) ∧ Ev (fun k => impl_Crc.l0 k x xs (xs.length : Int) (i : Int)) (Go.bits .xor .u32 (crcL l x) 4294967295)
 | [], i, x, h, h0, h1 => by
  have hl := drop_nil' h
  have q := xorSame (x := x) (y := 4294967295) h0 h1 (by omega) (by omega)
  refine ⟨Ev.step (f := fun _ => some _) (fun k => ?_) (Ev.now _), Ev.step (f := fun _ => some _) (fun k => ?_) (Ev.now _)⟩
  ·rw [spec_Crc.l0, if_neg (by omega), q.1]; rfl
  ·rw [impl_Crc.l0, if_neg (by omega), bits_xor_comm, w64 (by omega) (by omega)]; rfl
 | b :: t, i, x, h, h0, h1 => by
  obtain ⟨hl, _, h3⟩ := drop_cons' h 0
  have hbb : 0 ≤ b ∧ b ≤ 255 := hb b (List.mem_of_mem_drop (by rw [h]; exact List.mem_cons_self))
  have q := xorSame (x := x) (y := b) h0 h1 (by omega) (by omega)
  have q8 := crcN_in 8 _ q.2.1 q.2.2
  obtain ⟨i1, i2⟩ := crc_l0 xs hN hb t (i + 1) _ h3 q8.1 q8.2
  have w : Hd (wrap64 ((i : Int) + 1) = ((i + 1 : Nat) : Int)) := ⟨w64s hl hN⟩
  have hr : Hd (rd xs (i : Int) = b) := ⟨rd_at h⟩
  have wb : Hd (wrap64 b = b) := ⟨w64 (by omega) (by omega)⟩
  have q1 : Hd (Go.bits .xor .i64 x b = Go.bits .xor .u32 x b) := ⟨q.1⟩
  refine ⟨Ev.step (fun k => ?_) (crc_l1s xs (i : Int) _ 8 0 (Go.bits .xor .u32 x b) rfl q.2.1 q.2.2 (by rw [w.out]; exact i1)), Ev.step (fun k => ?_) (crc_l1i xs (xs.length : Int) (i : Int) _ 8 0 (Go.bits .xor .u32 x b) rfl q.2.1 q.2.2 (by rw [w.out]; exact i2))⟩
  ·rw [spec_Crc.l0, if_pos (by omega), if_pos (by omega), hr.out, wb.out, q1.out]; rfl
  ·rw [impl_Crc.l0, if_pos (by omega), if_pos (by omega), if_pos (by omega), hr.out, show b % 4294967296 = b by omega]; rfl
theorem crc_ev (xs : List Int) (hN : xs.length ≤ 4611686018427387904) (hb : ∀ x ∈ xs, 0 ≤ x ∧ x ≤ 255) : Ev (fun k => spec_Crc.f k xs) (crcOf xs) ∧ Ev (fun k => impl_Crc.f k xs) (crcOf xs) :=
 crc_l0 xs hN hb xs 0 4294967295 rfl (by omega) (by omega)
theorem strOf_len (l : List Int) : (strOfNums l).size = l.length := by
 have h := bytesOf_length (strOfNums l)
 rw [← h, bytesOf, List.length_map, strOfNums_data, List.length_map]
theorem bytesOf_strOf (l : List Int) (hb : ∀ x ∈ l, 0 ≤ x ∧ x ≤ 255) : bytesOf (strOfNums l) = l := by
 rw [bytesOf, strOfNums_data, List.map_map]
 conv => rhs; rw [← List.map_id l]
 refine List.map_congr_left (fun x hx => ?_)
 have := hb x hx
 simp only [Function.comp, id]
 rw [UInt8.toNat_ofNat']
 omega
def dead (d : Bool) : Int := if d = true then 1 else 0
def fileBytes (a b c : Int) (d : Bool) (l : List Int) : List Int := putN (clip a) ++ putN (clip b) ++ putN (clip c) ++ putN (clip (dead d)) ++ putN (clip l.length) ++ l
def crc4 (x : Int) : List Int := [(x / 16777216) % 256, (x / 65536) % 256, (x / 256) % 256, x % 256]
def putFile (a b c : Int) (d : Bool) (l : List Int) : List Int := if fileOk a b c d l = true then fileBytes a b c d l ++ crc4 (crcOf (fileBytes a b c d l)) else []
theorem putFile_len (a b c : Int) (d : Bool) (l : List Int) : (putFile a b c d l).length ≤ 10000000000 := by
 unfold putFile fileBytes crc4
 have h1 := putN_len (clip a)
 have h2 := putN_len (clip b)
 have h3 := putN_len (clip c)
 have h4 := putN_len (clip (dead d))
 have h5 := putN_len (clip l.length)
 have g1 := clip_le a
 have g2 := clip_le b
 have g3 := clip_le c
 have g4 := clip_le (dead d)
 have g5 := clip_le l.length
 split
 ·rename_i h
  have hl : (l.length : Int) ≤ 200 := by
   unfold fileOk at h
   simp only [Bool.and_eq_true, decide_eq_true_eq] at h
   exact h.2.1
  simp only [List.length_append, List.length_cons, List.length_nil]
  omega
 ·simp
theorem fileBytes_range (a b c : Int) (d : Bool) (l : List Int) (hb : ∀ x ∈ l, 0 ≤ x ∧ x ≤ 255) : ∀ x ∈ fileBytes a b c d l, 0 ≤ x ∧ x ≤ 255 := by
 intro x hx
 unfold fileBytes at hx
 simp only [List.mem_append] at hx
 rcases hx with ((((hx | hx) | hx) | hx) | hx) | hx
 ·exact putN_bytes _ x hx
 ·exact putN_bytes _ x hx
 ·exact putN_bytes _ x hx
 ·exact putN_bytes _ x hx
 ·exact putN_bytes _ x hx
 ·exact hb x hx
theorem l8Stamp_ev (l : List Int) (a b c : Int) (hl : l.length ≤ 1000) : Ev (fun k => spec_l8Stamp.f k l a b c) (l ++ putN (clip a) ++ putN (clip b) ++ putN (clip c)) := by
 have h1 := putN_len (clip a)
 have h2 := putN_len (clip b)
 have g1 := clip_le a
 have g2 := clip_le b
 simp only [spec_l8Stamp.f]
 refine Ev.bind (spec_putNum_ev l a (by omega)) ?_
 refine Ev.bind (spec_putNum_ev _ b (by rw [List.length_append]; omega)) ?_
 refine Ev.bind (spec_putNum_ev _ c (by rw [List.length_append, List.length_append]; omega)) ?_
 exact Ev.now _
theorem fileOk_le {a b c : Int} {d : Bool} {l : List Int} (h : fileOk a b c d l = true) : l.length ≤ 200 := by
 unfold fileOk at h
 simp only [Bool.and_eq_true, decide_eq_true_eq] at h
 have := h.2.1
 omega
theorem spec_putFile_ev (a b c : Int) (d : Bool) (l : List Int) (hb : ∀ x ∈ l, 0 ≤ x ∧ x ≤ 255) : Ev (fun k => spec_PutFile.f k a b c d l) (putFile a b c d l) := by
 have hlen := putFile_len a b c d l
 simp only [spec_PutFile.f]
 refine Ev.got (fileOk_eq a b c d l).1 ?_
 by_cases h : fileOk a b c d l = true
 ·have hl := fileOk_le h
  have e1 : putFile a b c d l = fileBytes a b c d l ++ crc4 (crcOf (fileBytes a b c d l)) := by unfold putFile; rw [if_pos h]
  rw [e1] at hlen ⊢
  have h1 := putN_len (clip a)
  have h2 := putN_len (clip b)
  have h3 := putN_len (clip c)
  have h4 := putN_len (clip (dead d))
  have g1 := clip_le a
  have g2 := clip_le b
  have g3 := clip_le c
  have g4 := clip_le (dead d)
  refine Ev.pos h ?_
  refine Ev.bind (l8Stamp_ev [] a b c (by simp)) ?_
  refine Ev.got (a := dead d) (by unfold spec_l8Bool.f dead; cases d <;> rfl) ?_
  refine Ev.bind (spec_putNum_ev _ (dead d) (by simp only [List.length_append, List.length_nil]; omega)) ?_
  refine Ev.bind (spec_putText_ev _ (strOfNums l) (by simp only [List.length_append, List.length_nil]; omega) (by rw [strOf_len]; omega)) ?_
  have e2 : ([] ++ putN (clip a) ++ putN (clip b) ++ putN (clip c) ++ putN (clip (dead d)) ++ putN (clip (strOfNums l).size) ++ bytesOf (strOfNums l)) = fileBytes a b c d l := by
   rw [strOf_len, bytesOf_strOf l hb, fileBytes, List.nil_append]
  rw [e2]
  refine Ev.bind (crc_ev _ (by rw [List.length_append] at hlen; omega) (fileBytes_range a b c d l hb)).1 ?_
  refine Ev.some_bind ?_
  refine Ev.pos (by unfold crc4 at hlen; rw [List.length_append] at hlen; omega) (Ev.now _)
 ·refine Ev.neg h ?_
  unfold putFile
  rw [if_neg h]
  exact Ev.now _
theorem addStamp_ev (l : List Int) (a b c : Int) (d : Bool) (hl : l.length ≤ 1000) : Ev (fun k => impl_addStamp.f k l a b c d) (l ++ putN (clip a) ++ putN (clip b) ++ putN (clip c) ++ putN (clip (dead d))) := by
 have h1 := putN_len (clip a)
 have h2 := putN_len (clip b)
 have h3 := putN_len (clip c)
 have g1 := clip_le a
 have g2 := clip_le b
 have g3 := clip_le c
 simp only [impl_addStamp.f]
 refine Ev.bind (addNum_ev l a (by omega)) ?_
 refine Ev.bind (addNum_ev _ b (by rw [List.length_append]; omega)) ?_
 refine Ev.bind (addNum_ev _ c (by rw [List.length_append, List.length_append]; omega)) ?_
 refine Ev.got (a := dead d) (by unfold impl_bit.f dead; cases d <;> rfl) ?_
 refine Ev.bind (addNum_ev _ (dead d) (by simp only [List.length_append]; omega)) ?_
 exact Ev.now _
theorem impl_putFile_ev (a b c : Int) (d : Bool) (l : List Int) (hb : ∀ x ∈ l, 0 ≤ x ∧ x ≤ 255) : Ev (fun k => impl_PutFile.f k a b c d l) (putFile a b c d l) := by
 have hlen := putFile_len a b c d l
 simp only [impl_PutFile.f]
 refine Ev.got (fileOk_eq a b c d l).2 ?_
 by_cases h : fileOk a b c d l = true
 ·have hl := fileOk_le h
  have e1 : putFile a b c d l = fileBytes a b c d l ++ crc4 (crcOf (fileBytes a b c d l)) := by unfold putFile; rw [if_pos h]
  rw [e1] at hlen ⊢
  have h1 := putN_len (clip a)
  have h2 := putN_len (clip b)
  have h3 := putN_len (clip c)
  have h4 := putN_len (clip (dead d))
  have g1 := clip_le a
  have g2 := clip_le b
  have g3 := clip_le c
  have g4 := clip_le (dead d)
  refine Ev.pos h ?_
  refine Ev.bind (addStamp_ev [] a b c d (by simp)) ?_
  refine Ev.bind (addText_ev _ (strOfNums l) (by simp only [List.length_append, List.length_nil]; omega) (by rw [strOf_len]; omega)) ?_
  have e2 : ([] ++ putN (clip a) ++ putN (clip b) ++ putN (clip c) ++ putN (clip (dead d)) ++ putN (clip (strOfNums l).size) ++ bytesOf (strOfNums l)) = fileBytes a b c d l := by
   rw [strOf_len, bytesOf_strOf l hb, fileBytes, List.nil_append]
  rw [e2]
  refine Ev.bind (crc_ev _ (by rw [List.length_append] at hlen; omega) (fileBytes_range a b c d l hb)).2 ?_
  refine Ev.some_bind ?_
  refine Ev.pos (by unfold crc4 at hlen; rw [List.length_append] at hlen; omega) (Ev.now _)
 ·refine Ev.neg h ?_
  unfold putFile
  rw [if_neg h]
  exact Ev.now _
theorem szFile_eq (a b c : Int) (d : Bool) (l : List Int) (n : Int) (hl : l.length ≤ 9223372036854775807) (h0 : 0 ≤ n) (h1 : n ≤ 1048576) : laws_szFile.f a b c d l n = some (if n < l.length then -1 else n - l.length) := by
 unfold laws_szFile.f laws_szByteS.f
 rw [w64 (by omega) (by omega)]
 by_cases h : n < l.length
 ·rw [if_pos (by omega), Option.bind_some, if_pos (by omega), if_pos h]
 ·rw [if_neg (by omega), Option.bind_some, if_neg (by omega), if_neg h]
theorem toByteS_l0 (xs : List Int) (hN : xs.length ≤ 4611686018427387904) : ∀ (l : List Int) (i : Nat) (A acc : List Int), xs.drop i = l → A.length = i → acc = A ++ List.replicate l.length 0 → Ev (fun k => laws_toByteS.l0 k xs acc (i : Int)) (A ++ l)
 | [], i, A, acc, h, hA, ha => by
  have h1 := drop_nil' h
  subst ha
  refine Ev.step (f := fun _ => some (A ++ [])) (fun k => ?_) (Ev.now _)
  rw [laws_toByteS.l0, if_neg (by omega)]
  rfl
 | a :: t, i, A, acc, h, hA, ha => by
  obtain ⟨h1, _, h3⟩ := drop_cons' h 0
  have ih := toByteS_l0 xs hN t (i + 1) (A ++ [a]) _ h3 (by simp [hA]) rfl
  subst ha
  have e : (A ++ List.replicate (a :: t).length 0).set ((i : Int)).toNat (rd xs i) = (A ++ [a]) ++ List.replicate t.length 0 := by
   rw [rd_at h, Int.toNat_natCast, ← hA]; exact set_copy A 0 a t.length
  refine Ev.step (f := fun k => laws_toByteS.l0 k xs ((A ++ [a]) ++ List.replicate t.length 0) ((i + 1 : Nat) : Int)) (fun k => ?_) (Ev.eq ih (by simp))
  rw [laws_toByteS.l0, if_pos (by omega), if_pos (by omega), if_pos (by simp only [List.length_append, List.length_replicate, List.length_cons]; omega), e, w64s h1 hN]
theorem toByteS_ev (xs : List Int) (hN : xs.length ≤ 281474976710656) : Ev (fun k => laws_toByteS.f k xs) xs := by
 refine Ev.congr (f := fun k => laws_toByteS.l0 k xs (List.replicate xs.length 0) ((0 : Nat) : Int)) (fun k => ?_) (toByteS_l0 xs (by omega) xs 0 [] _ rfl rfl rfl)
 rw [laws_toByteS.f, if_pos (by omega), if_pos (by omega), Int.toNat_natCast]; rfl
theorem toFile_ev (a b c : Int) (d : Bool) (l : List Int) (hl : l.length ≤ 281474976710656) : Ev (fun k => laws_toFile.f k a b c d l) (a, b, c, d, l) := by
 simp only [laws_toFile.f, laws_toStamp.f, Option.bind_some]
 refine Ev.bind (toByteS_ev l hl) ?_
 exact Ev.now _
theorem eqByteS_l0 (xs : List Int) (hN : xs.length ≤ 4611686018427387904) : ∀ (l : List Int) (i : Nat), xs.drop i = l → Ev (fun k => laws_eqByteS.l0 k xs xs (i : Int)) true
 | [], i, h => by
  have h1 := drop_nil' h
  refine Ev.step (f := fun _ => some true) (fun k => ?_) (Ev.now _)
  rw [laws_eqByteS.l0, if_neg (by omega)]
 | a :: t, i, h => by
  obtain ⟨h1, _, h3⟩ := drop_cons' h 0
  refine Ev.step (f := fun k => laws_eqByteS.l0 k xs xs ((i + 1 : Nat) : Int)) (fun k => ?_) (eqByteS_l0 xs hN t (i + 1) h3)
  rw [laws_eqByteS.l0, if_pos (by omega), if_pos (by omega), if_pos (by omega), if_pos rfl, w64s h1 hN]
theorem eqByteS_ev (xs : List Int) (hN : xs.length ≤ 4611686018427387904) : Ev (fun k => laws_eqByteS.f k xs xs) true := by
 refine Ev.congr (f := fun k => laws_eqByteS.l0 k xs xs ((0 : Nat) : Int)) (fun k => ?_) (eqByteS_l0 xs hN xs 0 rfl)
 rw [laws_eqByteS.f, if_pos rfl]; rfl
theorem eqFile_ev (a b c : Int) (d : Bool) (l : List Int) (hl : l.length ≤ 281474976710656) : Ev (fun k => laws_eqFile.f k a b c d l a b c d l) true := by
 simp only [laws_eqFile.f, laws_eqStamp.f, if_true, Option.bind_some]
 refine Ev.neg (by simp) ?_
 refine Ev.bind (eqByteS_ev l (by omega)) ?_
 exact Ev.pos rfl (Ev.now _)
def mkB : List Int → Int → List Int
 | [], _ => []
 | _ :: t, c => (c % 256) :: mkB t (c + 1)
theorem markByteS_l0 : ∀ (l : List Int) (i : Nat) (A xs : List Int) (c : Int), xs = A ++ l → A.length = i → 0 ≤ c → c + l.length ≤ 4611686018427387904 → i + l.length ≤ 4611686018427387904 → Ev (fun k => laws_markByteS.l0 k xs c (i : Int)) (c + l.length, A ++ mkB l c)
 | [], i, A, xs, c, h, hA, h0, h1, h2 => by
  subst h
  refine Ev.step (f := fun _ => some (c + ([] : List Int).length, A ++ mkB [] c)) (fun k => ?_) (Ev.now _)
  rw [laws_markByteS.l0, if_neg (by simp; omega)]
  simp [mkB]
 | a :: t, i, A, xs, c, h, hA, h0, h1, h2 => by
  simp only [List.length_cons] at h1 h2
  have ih := markByteS_l0 t (i + 1) (A ++ [c % 256]) _ (c + 1) rfl (by simp [hA]) (by omega) (by omega) (by omega)
  subst h
  have e : (A ++ a :: t).set ((i : Int)).toNat (c % 256) = (A ++ [c % 256]) ++ t := by
   rw [Int.toNat_natCast, ← hA]; exact set_mid A a _ t
  refine Ev.step (f := fun k => laws_markByteS.l0 k ((A ++ [c % 256]) ++ t) (c + 1) ((i + 1 : Nat) : Int)) (fun k => ?_) (Ev.eq ih (by simp [mkB]; omega))
  rw [laws_markByteS.l0, if_pos (by simp; omega), if_pos (by omega), e, w64 (by omega) (by omega), w64s (n := i + 1) (by omega) (by omega)]
theorem markByteS_ev (xs : List Int) (c : Int) (h0 : 0 ≤ c) (h1 : c + xs.length ≤ 4611686018427387904) : Ev (fun k => laws_markByteS.f k xs c) (c + xs.length, mkB xs c) := by
 refine Ev.congr (f := fun k => laws_markByteS.l0 k xs c ((0 : Nat) : Int)) (fun k => rfl) (markByteS_l0 xs 0 [] xs c rfl rfl h0 h1 (by omega))
theorem heldByteS_l0 : ∀ (l : List Int) (i : Nat) (A xs : List Int) (c : Int), xs = A ++ mkB l c → A.length = i → 0 ≤ c → c + l.length ≤ 4611686018427387904 → i + l.length ≤ 4611686018427387904 → Ev (fun k => laws_heldByteS.l0 k xs c (i : Int)) (c + l.length)
 | [], i, A, xs, c, h, hA, h0, h1, h2 => by
  subst h
  refine Ev.step (f := fun _ => some (c + ([] : List Int).length)) (fun k => ?_) (Ev.now _)
  rw [laws_heldByteS.l0, if_neg (by simp [mkB]; omega)]
  simp
 | a :: t, i, A, xs, c, h, hA, h0, h1, h2 => by
  simp only [List.length_cons] at h1 h2
  have ih := heldByteS_l0 t (i + 1) (A ++ [c % 256]) _ (c + 1) rfl (by simp [hA]) (by omega) (by omega) (by omega)
  rw [mkB] at h
  have e : A ++ (c % 256) :: mkB t (c + 1) = (A ++ [c % 256]) ++ mkB t (c + 1) := by simp
  have hr : rd (A ++ (c % 256) :: mkB t (c + 1)) (i : Int) = c % 256 := by rw [← hA]; exact rd_mid _ _ _
  refine Ev.step (f := fun k => laws_heldByteS.l0 k ((A ++ [c % 256]) ++ mkB t (c + 1)) (c + 1) ((i + 1 : Nat) : Int)) (fun k => ?_) (Ev.eq ih (by simp; omega))
  subst h
  rw [laws_heldByteS.l0, if_pos (by simp; omega), if_pos (by omega), if_pos hr, w64 (by omega) (by omega), w64s (n := i + 1) (by omega) (by omega), e]
theorem heldByteS_ev (xs : List Int) (c : Int) (h0 : 0 ≤ c) (h1 : c + xs.length ≤ 4611686018427387904) : Ev (fun k => laws_heldByteS.f k (mkB xs c) c) (c + xs.length) := by
 refine Ev.congr (f := fun k => laws_heldByteS.l0 k (mkB xs c) c ((0 : Nat) : Int)) (fun k => rfl) (heldByteS_l0 xs 0 [] _ c rfl rfl h0 h1 (by omega))
end Go.Proofs.Ytbhllgifciaepaa.PureFnExactPutFile
namespace Go.Proofs.Ytbhllgifciaepaa.Pure
open Go.RowKit Go.Proofs.Ytbhllgifciaepaa.PFnExactPutFile Go.Proofs.YtbhllgifciaepaaW.PrintWords Go.Proofs.YtbhllgifciaepaaW.PrintLast Go.Proofs.YtbhllgifciaepaaW.PrintMore Go.Proofs.Ytbhllgifciaepaa.Base Go.Proofs.Ytbhllgifciaepaa.PureFnExactPutFile
set_option linter.unusedVariables false
attribute [local irreducible] Go.bits IntKind.wrap shl shr
theorem FnExactPutFile (a b c : Int) (d : Bool) (l : List Int) (h0 : (I64 a ∧ I64 b ∧ I64 c) ∧ True ∧ Bytes l) : ∃ k, laws_FnExactPutFile.f k a b c d l = some true := by
 apply Ev.rounds (g := fun k => laws_FnExactPutFile.f k a b c d l)
 simp only [laws_FnExactPutFile.f]
 refine Ev.got (szFile_eq a b c d l 1048576 h0.2.2.1 (by omega) (by omega)) ?_
 by_cases h : (1048576 : Int) < l.length
 ·exact Ev.pos (by rw [if_pos h]; omega) (Ev.now _)
 ·refine Ev.neg (by rw [if_neg h]; omega) ?_
  have hb := bytes_of_wf h0.2.2.2
  have s1 := spec_putFile_ev a b c d l hb
  have s2 := impl_putFile_ev a b c d l hb
  have hl := putFile_len a b c d l
  generalize putFile a b c d l = r at s1 s2 hl
  refine Ev.bind (toFile_ev a b c d l (by omega)) ?_
  refine Ev.bind s1 ?_
  refine Ev.bind (toFile_ev a b c d l (by omega)) ?_
  refine Ev.bind s2 ?_
  refine Ev.bind (eqByteS_ev r (by omega)) ?_
  refine Ev.pos rfl ?_
  refine Ev.bind (toFile_ev a b c d l (by omega)) ?_
  refine Ev.bind (eqFile_ev a b c d l (by omega)) ?_
  refine Ev.pos rfl ?_
  have m1 : Ev (fun k => laws_markFile.f k a b c d l 1) (1 + l.length, mkB l 1) := by
   simp only [laws_markFile.f]
   exact Ev.bind (markByteS_ev l 1 (by omega) (by omega)) (Ev.now _)
  refine Ev.bind m1 ?_
  refine Ev.neg (by simp only; omega) ?_
  refine Ev.bind (eqByteS_ev r (by omega)) ?_
  refine Ev.step (fun k => by rw [laws_FnExactPutFile.j0, if_neg (by simp)]) ?_
  refine Ev.bind (markByteS_ev r 1 (by omega) (by omega)) ?_
  refine Ev.bind (heldByteS_ev r 1 (by omega) (by omega)) ?_
  refine Ev.neg (by omega) (Ev.pos rfl ?_)
  refine Ev.bind (toFile_ev a b c d l (by omega)) ?_
  refine Ev.bind s2 ?_
  refine Ev.bind (eqByteS_ev r (by omega)) ?_
  refine Ev.pos rfl ?_
  refine Ev.bind (heldByteS_ev r 1 (by omega) (by omega)) ?_
  exact Ev.neg (by omega) (Ev.pos rfl (Ev.now _))
end Go.Proofs.Ytbhllgifciaepaa.Pure
