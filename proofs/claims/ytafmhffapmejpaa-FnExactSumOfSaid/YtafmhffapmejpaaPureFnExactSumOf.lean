/- The pure statement of the law FnExactSumOf: what the printed functions compute answers as the law says. -/
import Derived.Test.YtafmhffapmejpaaPFnExactSumOfx2
import Derived.Test.YtafmhffapmejpaaBase
namespace Go.Proofs.Ytafmhffapmejpaa.PureFnExactSumOf
open Go.RowKit Go.Proofs.Ytafmhffapmejpaa.PFnExactSumOf Go.Proofs.YtafmhffapmejpaaW.PrintWords Go.Proofs.YtafmhffapmejpaaW.PrintLast Go.Proofs.YtafmhffapmejpaaW.PrintMore Go.Proofs.Ytafmhffapmejpaa.Base
set_option linter.unusedVariables false
attribute [local irreducible] Go.bits IntKind.wrap shl shr
def crcBit (x : Int) : Int := if x % 2 = 1 then Go.bits .xor .u32 (x / 2) 2197175160 else x / 2
def crcN : Nat → Int → Int
  | 0, x => x
  | d + 1, x => crcN d (crcBit x)
def crcL : List Int → Int → Int
  | [], x => x
  | b :: t, x => crcL t (crcN 8 (Go.bits .xor .u32 x b))
def crcOf (l : List Int) : Int := Go.bits .xor .u32 (crcL l 4294967295) 4294967295
theorem crcBit_in {x : Int} (h0 : 0 ≤ x) (h1 : x < 4294967296) : 0 ≤ crcBit x ∧ crcBit x < 4294967296 := by
  unfold crcBit
  split
  · have h := xorSame (x := x / 2) (y := 2197175160) (by omega) (by omega) (by omega) (by omega)
    exact ⟨h.2.1, h.2.2⟩
  · omega
theorem crcN_in : ∀ (d : Nat) (x : Int), 0 ≤ x → x < 4294967296 → 0 ≤ crcN d x ∧ crcN d x < 4294967296
  | 0, x, h0, h1 => ⟨h0, h1⟩
  | d + 1, x, h0, h1 => crcN_in d (crcBit x) (crcBit_in h0 h1).1 (crcBit_in h0 h1).2
theorem crc_l1s (xs : List Int) (i : Int) (r : Int) : ∀ (d j : Nat) (x : Int), j + d = 8 → 0 ≤ x → x < 4294967296 → Ev (fun k => spec_Crc.l0 k xs (crcN d x) (wrap64 (i + 1))) r → Ev (fun k => spec_Crc.l1 k xs x i (j : Int)) r
  | 0, j, x, hd, h0, h1, h => by
    refine Ev.step (fun k => ?_) h
    rw [spec_Crc.l1, if_neg (by omega)]
    rfl
  | d + 1, j, x, hd, h0, h1, h => by
    have ih := crc_l1s xs i r d (j + 1) (crcBit x) (by omega) (crcBit_in h0 h1).1 (crcBit_in h0 h1).2 h
    have w : Hd (wrap64 ((j : Int) + 1) = ((j + 1 : Nat) : Int)) := ⟨w64s (n := j + 1) (by omega) (by omega)⟩
    by_cases c : x % 2 = 1
    · have e : Hd (crcBit x = Go.bits .xor .i64 (x / 2) 2197175160) := ⟨by
        rw [crcBit, if_pos c, (xorSame (x := x / 2) (y := 2197175160) (by omega) (by omega) (by omega) (by omega)).1]⟩
      refine Ev.step (fun k => ?_) ih
      rw [spec_Crc.l1, if_pos (by omega), andOne h0 (by omega), if_pos c, w.out, e.out]
    · have e : Hd (crcBit x = x / 2) := ⟨by rw [crcBit, if_neg c]⟩
      refine Ev.step (fun k => ?_) ih
      rw [spec_Crc.l1, if_pos (by omega), andOne h0 (by omega), if_neg c, w.out, e.out]
theorem crc_l1i (xs : List Int) (n i : Int) (r : Int) : ∀ (d j : Nat) (x : Int), j + d = 8 → 0 ≤ x → x < 4294967296 → Ev (fun k => impl_Crc.l0 k (crcN d x) xs n (wrap64 (i + 1))) r → Ev (fun k => impl_Crc.l1 k x xs n i (j : Int)) r
  | 0, j, x, hd, h0, h1, h => by
    refine Ev.step (fun k => ?_) h
    rw [impl_Crc.l1, if_neg (by omega)]
    rfl
  | d + 1, j, x, hd, h0, h1, h => by
    have ih := crc_l1i xs n i r d (j + 1) (crcBit x) (by omega) (crcBit_in h0 h1).1 (crcBit_in h0 h1).2 h
    have w : Hd (wrap64 ((j : Int) + 1) = ((j + 1 : Nat) : Int)) := ⟨w64s (n := j + 1) (by omega) (by omega)⟩
    by_cases c : x % 2 = 1
    · have e : Hd (crcBit x = Go.bits .xor .u32 (x / 2) 2197175160) := ⟨by rw [crcBit, if_pos c]⟩
      refine Ev.step (fun k => ?_) ih
      rw [impl_Crc.l1, if_pos (by omega), andOneU h0 h1, if_pos c, w.out, e.out]
    · have e : Hd (crcBit x = x / 2) := ⟨by rw [crcBit, if_neg c]⟩
      refine Ev.step (fun k => ?_) ih
      rw [impl_Crc.l1, if_pos (by omega), andOneU h0 h1, if_neg c, w.out, e.out]
theorem crc_l0 (xs : List Int) (hN : xs.length ≤ 4611686018427387904) (hb : ∀ x ∈ xs, 0 ≤ x ∧ x ≤ 255) : ∀ (l : List Int) (i : Nat) (x : Int), xs.drop i = l → 0 ≤ x → x < 4294967296 →
    Ev (fun k => spec_Crc.l0 k xs x (i : Int)) (Go.bits .xor .u32 (crcL l x) 4294967295) ∧ Ev (fun k => impl_Crc.l0 k x xs (xs.length : Int) (i : Int)) (Go.bits .xor .u32 (crcL l x) 4294967295)
  | [], i, x, h, h0, h1 => by
    have hl := drop_nil' h
    have q := xorSame (x := x) (y := 4294967295) h0 h1 (by omega) (by omega)
    refine ⟨Ev.step (f := fun _ => some _) (fun k => ?_) (Ev.now _), Ev.step (f := fun _ => some _) (fun k => ?_) (Ev.now _)⟩
    · rw [spec_Crc.l0, if_neg (by omega), q.1]; rfl
    · rw [impl_Crc.l0, if_neg (by omega), bits_xor_comm, w64 (by omega) (by omega)]; rfl
  | b :: t, i, x, h, h0, h1 => by
    obtain ⟨hl, _, h3⟩ := drop_cons' h 0
    have hbb : 0 ≤ b ∧ b ≤ 255 := hb b (List.mem_of_mem_drop (by rw [h]; exact List.mem_cons_self))
    have q := xorSame (x := x) (y := b) h0 h1 (by omega) (by omega)
    have q8 := crcN_in 8 _ q.2.1 q.2.2
    obtain ⟨i1, i2⟩ := crc_l0 xs hN hb t (i + 1) _ h3 q8.1 q8.2
    have w : Hd (wrap64 ((i : Int) + 1) = ((i + 1 : Nat) : Int)) := ⟨w64s hl hN⟩
    have hr : Hd (rd xs (i : Int) = b) := ⟨rd_at h⟩
    have wb : Hd (wrap64 b = b) := ⟨w64 (by omega) (by omega)⟩
    have q1 : Hd (Go.bits .xor .i64 x b = Go.bits .xor .u32 x b) := ⟨q.1⟩
    refine ⟨Ev.step (fun k => ?_) (crc_l1s xs (i : Int) _ 8 0 (Go.bits .xor .u32 x b) rfl q.2.1 q.2.2 (by rw [w.out]; exact i1)), Ev.step (fun k => ?_) (crc_l1i xs (xs.length : Int) (i : Int) _ 8 0 (Go.bits .xor .u32 x b) rfl q.2.1 q.2.2 (by rw [w.out]; exact i2))⟩
    · rw [spec_Crc.l0, if_pos (by omega), if_pos (by omega), hr.out, wb.out, q1.out]; rfl
    · rw [impl_Crc.l0, if_pos (by omega), if_pos (by omega), if_pos (by omega), hr.out, show b % 4294967296 = b by omega]; rfl
theorem crc_ev (xs : List Int) (hN : xs.length ≤ 4611686018427387904) (hb : ∀ x ∈ xs, 0 ≤ x ∧ x ≤ 255) : Ev (fun k => spec_Crc.f k xs) (crcOf xs) ∧ Ev (fun k => impl_Crc.f k xs) (crcOf xs) :=
  crc_l0 xs hN hb xs 0 4294967295 rfl (by omega) (by omega)
theorem szFile_eq (a b c : Int) (d : Bool) (l : List Int) (n : Int) (hl : l.length ≤ 9223372036854775807) (h0 : 0 ≤ n) (h1 : n ≤ 1048576) : laws_szFile.f a b c d l n = some (if n < l.length then -1 else n - l.length) := by
  unfold laws_szFile.f laws_szByteS.f
  rw [w64 (by omega) (by omega)]
  by_cases h : n < l.length
  · rw [if_pos (by omega), Option.bind_some, if_pos (by omega), if_pos h]
  · rw [if_neg (by omega), Option.bind_some, if_neg (by omega), if_neg h]
theorem toByteS_l0 (xs : List Int) (hN : xs.length ≤ 4611686018427387904) : ∀ (l : List Int) (i : Nat) (A acc : List Int), xs.drop i = l → A.length = i → acc = A ++ List.replicate l.length 0 → Ev (fun k => laws_toByteS.l0 k xs acc (i : Int)) (A ++ l)
  | [], i, A, acc, h, hA, ha => by
    have h1 := drop_nil' h
    subst ha
    refine Ev.step (f := fun _ => some (A ++ [])) (fun k => ?_) (Ev.now _)
    rw [laws_toByteS.l0, if_neg (by omega)]
    rfl
  | a :: t, i, A, acc, h, hA, ha => by
    obtain ⟨h1, _, h3⟩ := drop_cons' h 0
    have ih := toByteS_l0 xs hN t (i + 1) (A ++ [a]) _ h3 (by simp [hA]) rfl
    subst ha
    have e : (A ++ List.replicate (a :: t).length 0).set ((i : Int)).toNat (rd xs i) = (A ++ [a]) ++ List.replicate t.length 0 := by
      rw [rd_at h, Int.toNat_natCast, ← hA]; exact set_copy A 0 a t.length
    refine Ev.step (f := fun k => laws_toByteS.l0 k xs ((A ++ [a]) ++ List.replicate t.length 0) ((i + 1 : Nat) : Int)) (fun k => ?_) (Ev.eq ih (by simp))
    rw [laws_toByteS.l0, if_pos (by omega), if_pos (by omega), if_pos (by simp only [List.length_append, List.length_replicate, List.length_cons]; omega), e, w64s h1 hN]
theorem toByteS_ev (xs : List Int) (hN : xs.length ≤ 281474976710656) : Ev (fun k => laws_toByteS.f k xs) xs := by
  refine Ev.congr (f := fun k => laws_toByteS.l0 k xs (List.replicate xs.length 0) ((0 : Nat) : Int)) (fun k => ?_) (toByteS_l0 xs (by omega) xs 0 [] _ rfl rfl rfl)
  rw [laws_toByteS.f, if_pos (by omega), if_pos (by omega), Int.toNat_natCast]; rfl
theorem toFile_ev (a b c : Int) (d : Bool) (l : List Int) (hl : l.length ≤ 281474976710656) : Ev (fun k => laws_toFile.f k a b c d l) (a, b, c, d, l) := by
  simp only [laws_toFile.f, laws_toStamp.f, Option.bind_some]
  refine Ev.bind (toByteS_ev l hl) ?_
  exact Ev.now _
theorem eqByteS_l0 (xs : List Int) (hN : xs.length ≤ 4611686018427387904) : ∀ (l : List Int) (i : Nat), xs.drop i = l → Ev (fun k => laws_eqByteS.l0 k xs xs (i : Int)) true
  | [], i, h => by
    have h1 := drop_nil' h
    refine Ev.step (f := fun _ => some true) (fun k => ?_) (Ev.now _)
    rw [laws_eqByteS.l0, if_neg (by omega)]
  | a :: t, i, h => by
    obtain ⟨h1, _, h3⟩ := drop_cons' h 0
    refine Ev.step (f := fun k => laws_eqByteS.l0 k xs xs ((i + 1 : Nat) : Int)) (fun k => ?_) (eqByteS_l0 xs hN t (i + 1) h3)
    rw [laws_eqByteS.l0, if_pos (by omega), if_pos (by omega), if_pos (by omega), if_pos rfl, w64s h1 hN]
theorem eqByteS_ev (xs : List Int) (hN : xs.length ≤ 4611686018427387904) : Ev (fun k => laws_eqByteS.f k xs xs) true := by
  refine Ev.congr (f := fun k => laws_eqByteS.l0 k xs xs ((0 : Nat) : Int)) (fun k => ?_) (eqByteS_l0 xs hN xs 0 rfl)
  rw [laws_eqByteS.f, if_pos rfl]; rfl
theorem eqFile_ev (a b c : Int) (d : Bool) (l : List Int) (hl : l.length ≤ 281474976710656) : Ev (fun k => laws_eqFile.f k a b c d l a b c d l) true := by
  simp only [laws_eqFile.f, laws_eqStamp.f, if_true, Option.bind_some]
  refine Ev.neg (by simp) ?_
  refine Ev.bind (eqByteS_ev l (by omega)) ?_
  exact Ev.pos rfl (Ev.now _)
end Go.Proofs.Ytafmhffapmejpaa.PureFnExactSumOf
namespace Go.Proofs.Ytafmhffapmejpaa.Pure
open Go.RowKit Go.Proofs.Ytafmhffapmejpaa.PFnExactSumOf Go.Proofs.YtafmhffapmejpaaW.PrintWords Go.Proofs.YtafmhffapmejpaaW.PrintLast Go.Proofs.YtafmhffapmejpaaW.PrintMore Go.Proofs.Ytafmhffapmejpaa.Base Go.Proofs.Ytafmhffapmejpaa.PureFnExactSumOf
set_option linter.unusedVariables false
attribute [local irreducible] Go.bits IntKind.wrap shl shr
theorem FnExactSumOf (a b c : Int) (d : Bool) (l : List Int) (h0 : (I64 a ∧ I64 b ∧ I64 c) ∧ True ∧ Bytes l) : ∃ k, laws_FnExactSumOf.f k a b c d l = some true := by
  apply Ev.rounds (g := fun k => laws_FnExactSumOf.f k a b c d l)
  simp only [laws_FnExactSumOf.f]
  refine Ev.got (szFile_eq a b c d l 1048576 h0.2.2.1 (by omega) (by omega)) ?_
  by_cases h : (1048576 : Int) < l.length
  · exact Ev.pos (by rw [if_pos h]; omega) (Ev.now _)
  · refine Ev.neg (by rw [if_neg h]; omega) ?_
    obtain ⟨r1, r2⟩ := crc_ev l (by omega) (bytes_of_wf h0.2.2.2)
    refine Ev.bind (toFile_ev a b c d l (by omega)) ?_
    refine Ev.bind (a := crcOf l) (by simp only [spec_SumOf.f]; exact Ev.bind r1 (Ev.now _)) ?_
    refine Ev.bind (toFile_ev a b c d l (by omega)) ?_
    refine Ev.bind (a := crcOf l) (by simp only [impl_SumOf.f]; exact Ev.bind r2 (Ev.now _)) ?_
    refine Ev.pos rfl ?_
    refine Ev.bind (toFile_ev a b c d l (by omega)) ?_
    refine Ev.bind (eqFile_ev a b c d l (by omega)) ?_
    exact Ev.pos rfl (Ev.now _)
end Go.Proofs.Ytafmhffapmejpaa.Pure
