/- Trimmed by a program of this session (trim.py). Not trusted: Lean checks it. -/
import Derived.Test.YtbhllgifciaepaaTXPrimariesPFnExactPrimariesx4
import Derived.Test.YtbhllgifciaepaaTXPrimariesBase
namespace Go.Proofs.Ytbhllgifciaepaa.PureFnExactPrimaries
open Go.RowKit Go.Proofs.Ytbhllgifciaepaa.PFnExactPrimaries Go.Proofs.YtbhllgifciaepaaW.PrintWords Go.Proofs.YtbhllgifciaepaaW.PrintLast Go.Proofs.YtbhllgifciaepaaW.PrintMore Go.Proofs.Ytbhllgifciaepaa.Base
set_option linter.unusedVariables false
attribute [local irreducible] Go.bits IntKind.wrap shl shr
theorem hash_l0 (s : ByteArray) (hN : s.size ≤ 4611686018427387904) (d : Nat) : ∀ (i : Nat) (x : Int), s.size - i = d → 0 ≤ x → x < 4294967296 → ∃ r, Ev (fun k => spec_Hash.l0 k s x (i : Int)) r ∧ Ev (fun k => impl_Hash.l0 k s x (i : Int)) r ∧ 0 ≤ r ∧ r < 4294967296 := by
 induction d with
 | zero =>
  intro i x hd h0 h1
  refine ⟨x, Ev.step (f := fun _ => some x) (fun k => ?_) (Ev.now _), Ev.step (f := fun _ => some x) (fun k => ?_) (Ev.now _), h0, h1⟩
  ·rw [spec_Hash.l0, if_neg (by omega)]
  ·rw [impl_Hash.l0, if_neg (by omega), w64 (by omega) (by omega)]
 | succ d ih =>
  intro i x hd h0 h1
  have hb := bt_range s i
  obtain ⟨e1, e2, e3⟩ := xorSame h0 h1 hb.1 (y := bt s i) (by omega)
  obtain ⟨r, r1, r2, r3⟩ := ih (i + 1) ((Go.bits .xor .u32 x (bt s i) * 16777619) % 4294967296) (by omega) (by omega) (by omega)
  refine ⟨r, Ev.step (fun k => ?_) r1, Ev.step (fun k => ?_) r2, r3⟩
  ·rw [spec_Hash.l0, if_pos (by omega), if_pos (by omega), w64 (x := bt s i) (by omega) (by omega), e1, w64 (by omega) (by omega), andLow32 (by omega) (by omega), w64s (n := i + 1) (by omega) (by omega)]
  ·rw [impl_Hash.l0, if_pos (by omega), if_pos (by omega), show bt s i % 4294967296 = bt s i by omega, w64s (n := i + 1) (by omega) (by omega)]
theorem hash_ev (s : ByteArray) (hN : s.size ≤ 4611686018427387904) : ∃ r, Ev (fun k => spec_Hash.f k s) r ∧ Ev (fun k => impl_Hash.f k s) r ∧ 0 ≤ r ∧ r < 4294967296 :=
 hash_l0 s hN s.size 0 2166136261 (by omega) (by omega) (by omega)
theorem partOf_ev (s : ByteArray) (n : Int) (hN : s.size ≤ 4611686018427387904) : ∃ r, Ev (fun k => spec_PartOf.f k s n) r ∧ Ev (fun k => impl_PartOf.f k s n) r ∧ 0 ≤ r ∧ (1 ≤ n → r < n) := by
 obtain ⟨r, r1, r2, r3, r4⟩ := hash_ev s hN
 by_cases h : n < 1
 ·refine ⟨0, Ev.congr (f := fun _ => some 0) (fun k => ?_) (Ev.now _), Ev.congr (f := fun _ => some 0) (fun k => ?_) (Ev.now _), by omega, by omega⟩
  ·rw [spec_PartOf.f, if_pos h]
  ·rw [impl_PartOf.f, if_pos h]
 ·refine ⟨Int.tmod r n, Ev.congr (fun k => ?_) (Ev.bind (f := fun _ t => some (Int.tmod t n)) r1 (Ev.now _)), Ev.congr (fun k => ?_) (Ev.bind (f := fun _ t => some (Int.tmod t n)) r2 (Ev.now _)), ?_, ?_⟩
  ·simp only [spec_PartOf.f, if_neg h, if_neg (show ¬ n = 0 by omega)]
  ·simp only [impl_PartOf.f, if_neg h, if_neg (show ¬ n = 0 by omega)]
  ·rw [Int.tmod_eq_emod_of_nonneg r3]; exact Int.emod_nonneg _ (by omega)
  ·intro _; rw [Int.tmod_eq_emod_of_nonneg r3]; exact Int.emod_lt_of_pos _ (by omega)
theorem rdT_at29 {xs : List S29} {i : Nat} {a : S29} {t : List S29} (h : xs.drop i = a :: t) : rd_T29 xs (i : Int) = a := by
 unfold rd_T29; rw [Int.toNat_natCast]; exact (drop_cons' h _).2.1
def pick (ps : List S29) (i : Int) : List Int := if ps.length = 0 then [] else (rd_T29 ps i).f0
theorem rdT_mem29 {xs : List S29} {i : Int} (h0 : 0 ≤ i) (h1 : i < xs.length) : rd_T29 xs i ∈ xs := by
 unfold rd_T29
 rw [List.getD_eq_getElem?_getD, List.getElem?_eq_getElem (by omega), Option.getD_some]
 exact List.getElem_mem _
theorem prim_ev (a : Int) (ps : List S29) (s : ByteArray) (hs : s.size ≤ 4611686018427387904) (hN : ps.length ≤ 1048576) (hx : ∀ x ∈ ps, x.f0.length ≤ 1048576) :
  ∃ i, Ev (fun k => spec_Primaries.f k a ps s) (pick ps i) ∧ Ev (fun k => impl_Primaries.f k a ps s) (pick ps i) ∧ (ps.length ≠ 0 → 0 ≤ i ∧ i < ps.length) ∧ (pick ps i).length ≤ 1048576 := by
 by_cases c : (ps.length : Int) = 0
 ·refine ⟨0, ?_, ?_, fun h => absurd (by omega) h, ?_⟩
  ·refine Ev.congr (f := fun _ => some []) (fun k => ?_) (Ev.eq (Ev.now _) ?_)
   ·rw [spec_Primaries.f, if_pos c]
   ·rw [pick, if_pos (by omega)]
  ·refine Ev.congr (f := fun _ => some []) (fun k => ?_) (Ev.eq (Ev.now _) ?_)
   ·rw [impl_Primaries.f, if_pos c]
   ·rw [pick, if_pos (by omega)]
  ·rw [pick, if_pos (by omega)]; exact Nat.zero_le _
 ·obtain ⟨i, p1, p2, i0, i1⟩ := partOf_ev s (ps.length : Int) hs
  have i2 := i1 (by omega)
  have hl := hx _ (rdT_mem29 i0 i2)
  have e : pick ps i = (rd_T29 ps i).f0 := by rw [pick, if_neg (by omega)]
  refine ⟨i, ?_, ?_, fun _ => ⟨i0, i2⟩, by rw [e]; exact hl⟩
  ·rw [e]
   simp only [spec_Primaries.f]
   refine Ev.neg c (Ev.some_bind (Ev.bind p1 (Ev.pos i0 (Ev.pos i2 (Ev.pos (by simp; omega) ?_)))))
   rw [List.nil_append]
   exact Ev.now _
  ·rw [e]
   simp only [impl_Primaries.f]
   refine Ev.neg c (Ev.bind p2 (Ev.pos i0 (Ev.pos i2 ?_)))
   refine Ev.got (a := (rd_T29 ps i).f0) ?_ (Ev.now _)
   rw [impl_copyInts.f, if_pos (by simp; omega), List.nil_append]
theorem szPart_eq (l : List Int) (n : Int) (hl : l.length ≤ 9223372036854775807) (h0 : 0 ≤ n) (h1 : n ≤ 1048576) : laws_szPart.f l n = some (if n < l.length then -1 else n - l.length) := by
 unfold laws_szPart.f laws_szIntS.f
 rw [w64 (by omega) (by omega)]
 by_cases h : n < l.length
 ·rw [if_pos (by omega), Option.bind_some, if_pos (by omega), if_pos h]
 ·rw [if_neg (by omega), Option.bind_some, if_neg (by omega), if_neg h]
def Fits (l : List S24) : Prop := l.length ≤ 1048576 ∧ ∀ x ∈ l, x.f0.length ≤ 1048576
theorem rdT_at24 {xs : List S24} {i : Nat} {a : S24} {t : List S24} (h : xs.drop i = a :: t) : rd_T24 xs (i : Int) = a := by
 unfold rd_T24; rw [Int.toNat_natCast]; exact (drop_cons' h _).2.1
theorem szPartS_l0 (xs : List S24) (hN : xs.length ≤ 4611686018427387904) (hx : ∀ x ∈ xs, x.f0.length ≤ 9223372036854775807) : ∀ (l : List S24) (i : Nat) (n : Int), xs.drop i = l → 0 ≤ n → n ≤ 1048576 → ∃ r, Ev (fun k => laws_szPartS.l0 k xs n (i : Int)) r ∧ (r < 0 ∨ (0 ≤ r ∧ r ≤ n ∧ ∀ x ∈ l, x.f0.length ≤ 1048576))
 | [], i, n, h, h0, h1 => by
  have hl := drop_nil' h
  refine ⟨n, Ev.step (f := fun _ => some n) (fun k => ?_) (Ev.now _), Or.inr ⟨h0, Int.le_refl _, by simp⟩⟩
  rw [laws_szPartS.l0, if_neg (by omega)]
 | a :: t, i, n, h, h0, h1 => by
  obtain ⟨hl, _, h3⟩ := drop_cons' h z24
  have ha : a.f0.length ≤ 9223372036854775807 := hx a (List.mem_of_mem_drop (by rw [h]; exact List.mem_cons_self))
  have hz := szPart_eq a.f0 n ha h0 h1
  have w : Hd (wrap64 ((i : Int) + 1) = ((i + 1 : Nat) : Int)) := ⟨w64s hl hN⟩
  have hr : Hd (rd_T24 xs (i : Int) = a) := ⟨rdT_at24 h⟩
  by_cases c : n < a.f0.length
  ·rw [if_pos c] at hz
   refine ⟨-1, Ev.step (f := fun _ => some (-1)) (fun k => ?_) (Ev.now _), Or.inl (by omega)⟩
   rw [laws_szPartS.l0, if_pos (by omega), if_pos (by omega), hr.out, hz, Option.bind_some, if_pos (by omega)]
  ·rw [if_neg c] at hz
   obtain ⟨r, r1, r2⟩ := szPartS_l0 xs hN hx t (i + 1) (n - a.f0.length) h3 (by omega) (by omega)
   refine ⟨r, Ev.step (fun k => ?_) r1, r2.imp id (fun ⟨q0, q1, q2⟩ => ⟨q0, by omega, fun x hm => ?_⟩)⟩
   ·rw [laws_szPartS.l0, if_pos (by omega), if_pos (by omega), hr.out, hz, Option.bind_some, if_neg (by omega), w.out]
   ·rcases List.mem_cons.1 hm with rfl | hm
    ·omega
    ·exact q2 x hm
theorem szRing_ev (a : Int) (l : List S24) (n : Int) (hl : l.length ≤ 9223372036854775807) (hx : ∀ x ∈ l, x.f0.length ≤ 9223372036854775807) (h0 : 0 ≤ n) (h1 : n ≤ 1048576) : ∃ r, Ev (fun k => laws_szRing.f k a l n) r ∧ (r < 0 ∨ (0 ≤ r ∧ r ≤ n ∧ Fits l)) := by
 simp only [laws_szRing.f, laws_szPartS.f]
 have w : Hd (wrap64 (n - (l.length : Int)) = n - l.length) := ⟨w64 (by omega) (by omega)⟩
 simp only [w.out]
 by_cases c : n - (l.length : Int) < 0
 ·simp only [if_pos c]
  refine ⟨-1, Ev.some_bind (Ev.pos (by omega) (Ev.now _)), Or.inl (by omega)⟩
 ·simp only [if_neg c]
  obtain ⟨r, r1, r2⟩ := szPartS_l0 l (by omega) hx l 0 (n - l.length) rfl (by omega) (by omega)
  by_cases c2 : r < 0
  ·exact ⟨-1, Ev.bind r1 (Ev.pos c2 (Ev.now _)), Or.inl (by omega)⟩
  ·refine ⟨r, Ev.bind r1 (Ev.neg c2 (Ev.now _)), Or.inr ?_⟩
   rcases r2 with r2 | ⟨q0, q1, q2⟩
   ·exact absurd r2 c2
   ·exact ⟨q0, by omega, by omega, q2⟩
theorem toIntS_l0 (xs : List Int) (hN : xs.length ≤ 4611686018427387904) : ∀ (l : List Int) (i : Nat) (A acc : List Int), xs.drop i = l → A.length = i → acc = A ++ List.replicate l.length 0 → Ev (fun k => laws_toIntS.l0 k xs acc (i : Int)) (A ++ l)
 | [], i, A, acc, h, hA, ha => by
  have h1 := drop_nil' h
  subst ha
  refine Ev.step (f := fun _ => some (A ++ [])) (fun k => ?_) (Ev.now _)
  rw [laws_toIntS.l0, if_neg (by omega)]
  rfl
 | a :: t, i, A, acc, h, hA, ha => by
  obtain ⟨h1, _, h3⟩ := drop_cons' h 0
  have ih := toIntS_l0 xs hN t (i + 1) (A ++ [a]) _ h3 (by simp [hA]) rfl
  subst ha
  have e : (A ++ List.replicate (a :: t).length 0).set ((i : Int)).toNat (rd xs i) = (A ++ [a]) ++ List.replicate t.length 0 := by
   rw [rd_at h, Int.toNat_natCast, ← hA]; exact set_copy A 0 a t.length
  refine Ev.step (f := fun k => laws_toIntS.l0 k xs ((A ++ [a]) ++ List.replicate t.length 0) ((i + 1 : Nat) : Int)) (fun k => ?_) (Ev.eq ih (by simp))
  rw [laws_toIntS.l0, if_pos (by omega), if_pos (by omega), if_pos (by simp only [List.length_append, List.length_replicate, List.length_cons]; omega), e, w64s h1 hN]
theorem toIntS_ev (xs : List Int) (hN : xs.length ≤ 1048576) : Ev (fun k => laws_toIntS.f k xs) xs := by
 refine Ev.congr (f := fun k => laws_toIntS.l0 k xs (List.replicate xs.length 0) ((0 : Nat) : Int)) (fun k => ?_) (toIntS_l0 xs (by omega) xs 0 [] _ rfl rfl rfl)
 rw [laws_toIntS.f, if_pos (by omega), if_pos (by omega), Int.toNat_natCast]; rfl
theorem toPart_ev (xs : List Int) (hN : xs.length ≤ 1048576) : Ev (fun k => laws_toPart.f k xs) xs := by
 simp only [laws_toPart.f]
 refine Ev.bind (toIntS_ev xs hN) ?_
 exact Ev.now _
def toPart (x : S24) : S29 := ⟨x.f0⟩
theorem toPartS_l0 (xs : List S24) (hN : xs.length ≤ 4611686018427387904) (hx : ∀ x ∈ xs, x.f0.length ≤ 1048576) : ∀ (l : List S24) (i : Nat) (A acc : List S29), xs.drop i = l → A.length = i → acc = A ++ List.replicate l.length z29 → Ev (fun k => laws_toPartS.l0 k xs acc (i : Int)) (A ++ l.map toPart)
 | [], i, A, acc, h, hA, ha => by
  have h1 := drop_nil' h
  subst ha
  refine Ev.step (f := fun _ => some (A ++ [])) (fun k => ?_) (Ev.now _)
  rw [laws_toPartS.l0, if_neg (by omega)]
  rfl
 | a :: t, i, A, acc, h, hA, ha => by
  obtain ⟨h1, _, h3⟩ := drop_cons' h z24
  have hal : a.f0.length ≤ 1048576 := hx a (List.mem_of_mem_drop (by rw [h]; exact List.mem_cons_self))
  have ih := toPartS_l0 xs hN hx t (i + 1) (A ++ [toPart a]) _ h3 (by simp [hA]) rfl
  subst ha
  have e : (A ++ List.replicate (a :: t).length z29).set ((i : Int)).toNat (toPart a) = (A ++ [toPart a]) ++ List.replicate t.length z29 := by
   rw [Int.toNat_natCast, ← hA]; exact set_copy A _ (toPart a) t.length
  have hacc : ((i : Int)) < ((A ++ List.replicate (a :: t).length z29).length : Int) := by
   simp only [List.length_append, List.length_replicate, List.length_cons]; omega
  refine Ev.step (f := fun k => (laws_toPart.f k a.f0).bind fun t1 => if ((i : Int)) < ((A ++ List.replicate (a :: t).length z29).length : Int) then laws_toPartS.l0 k xs ((A ++ List.replicate (a :: t).length z29).set ((i : Int)).toNat ⟨t1⟩) (wrap64 ((i : Int) + 1)) else none) (fun k => ?_) ?_
  ·rw [laws_toPartS.l0, if_pos (by omega), if_pos (by omega), rdT_at24 h]
  ·refine Ev.bind (toPart_ev a.f0 hal) ?_
   refine Ev.pos hacc ?_
   rw [w64s h1 hN, show (⟨a.f0⟩ : S29) = toPart a from rfl, e]
   exact Ev.eq ih (by simp)
theorem toRing_ev (a : Int) (l : List S24) (hf : Fits l) : Ev (fun k => laws_toRing.f k a l) (a, l.map toPart) := by
 have hf1 := hf.1
 simp only [laws_toRing.f]
 refine Ev.bind (a := l.map toPart) ?_ (Ev.now _)
 refine Ev.congr (f := fun k => laws_toPartS.l0 k l (List.replicate l.length z29) ((0 : Nat) : Int)) (fun k => ?_) (toPartS_l0 l (by omega) hf.2 l 0 [] _ rfl rfl rfl)
 rw [laws_toPartS.f, if_pos (by omega), if_pos (by omega), Int.toNat_natCast]; rfl
theorem eqIntS_l0 (xs : List Int) (hN : xs.length ≤ 4611686018427387904) : ∀ (l : List Int) (i : Nat), xs.drop i = l → Ev (fun k => laws_eqIntS.l0 k xs xs (i : Int)) true
 | [], i, h => by
  have h1 := drop_nil' h
  refine Ev.step (f := fun _ => some true) (fun k => ?_) (Ev.now _)
  rw [laws_eqIntS.l0, if_neg (by omega)]
 | a :: t, i, h => by
  obtain ⟨h1, _, h3⟩ := drop_cons' h 0
  refine Ev.step (f := fun k => laws_eqIntS.l0 k xs xs ((i + 1 : Nat) : Int)) (fun k => ?_) (eqIntS_l0 xs hN t (i + 1) h3)
  rw [laws_eqIntS.l0, if_pos (by omega), if_pos (by omega), if_pos (by omega), if_pos rfl, w64s h1 hN]
theorem eqIntS_ev (xs : List Int) (hN : xs.length ≤ 4611686018427387904) : Ev (fun k => laws_eqIntS.f k xs xs) true := by
 refine Ev.congr (f := fun k => laws_eqIntS.l0 k xs xs ((0 : Nat) : Int)) (fun k => ?_) (eqIntS_l0 xs hN xs 0 rfl)
 rw [laws_eqIntS.f, if_pos rfl]; rfl
theorem eqPart_ev (xs : List Int) (hN : xs.length ≤ 4611686018427387904) : Ev (fun k => laws_eqPart.f k xs xs) true := by
 simp only [laws_eqPart.f]
 refine Ev.bind (eqIntS_ev xs hN) ?_
 exact Ev.pos rfl (Ev.now _)
theorem eqPartS_l0 (xs : List S29) (hN : xs.length ≤ 4611686018427387904) (hx : ∀ x ∈ xs, x.f0.length ≤ 4611686018427387904) : ∀ (l : List S29) (i : Nat), xs.drop i = l → Ev (fun k => laws_eqPartS.l0 k xs xs (i : Int)) true
 | [], i, h => by
  have h1 := drop_nil' h
  refine Ev.step (f := fun _ => some true) (fun k => ?_) (Ev.now _)
  rw [laws_eqPartS.l0, if_neg (by omega)]
 | a :: t, i, h => by
  obtain ⟨h1, _, h3⟩ := drop_cons' h z29
  have hal : a.f0.length ≤ 4611686018427387904 := hx a (List.mem_of_mem_drop (by rw [h]; exact List.mem_cons_self))
  refine Ev.step (f := fun k => (laws_eqPart.f k a.f0 a.f0).bind fun t1 => if t1 = true then laws_eqPartS.l0 k xs xs ((i + 1 : Nat) : Int) else some false) (fun k => ?_) ?_
  ·rw [laws_eqPartS.l0, if_pos (by omega), if_pos (by omega), if_pos (by omega), rdT_at29 h, w64s h1 hN]
  ·refine Ev.bind (eqPart_ev a.f0 hal) ?_
   exact Ev.pos rfl (eqPartS_l0 xs hN hx t (i + 1) h3)
theorem eqRing_ev (a : Int) (xs : List S29) (hN : xs.length ≤ 4611686018427387904) (hx : ∀ x ∈ xs, x.f0.length ≤ 4611686018427387904) : Ev (fun k => laws_eqRing.f k a xs a xs) true := by
 simp only [laws_eqRing.f, laws_eqPartS.f, if_true]
 refine Ev.bind (a := true) (eqPartS_l0 xs hN hx xs 0 rfl) ?_
 exact Ev.pos rfl (Ev.now _)
def lens : List S29 → Nat
 | [] => 0
 | p :: t => p.f0.length + lens t
theorem lens_le (m : Nat) : ∀ l : List S29, (∀ x ∈ l, x.f0.length ≤ m) → lens l ≤ l.length * m
 | [], _ => Nat.zero_le _
 | p :: t, h => by
  have h1 := lens_le m t (fun x hx => h x (List.mem_cons_of_mem _ hx))
  have h2 := h p List.mem_cons_self
  rw [lens, List.length_cons, Nat.succ_mul]
  omega
theorem fits_map {l : List S24} (hf : Fits l) : (l.map toPart).length ≤ 1048576 ∧ (∀ x ∈ l.map toPart, x.f0.length ≤ 1048576) ∧ lens (l.map toPart) ≤ 1099511627776 := by
 have h1 : ∀ x ∈ l.map toPart, x.f0.length ≤ 1048576 := by
  intro x hx
  obtain ⟨y, hy, rfl⟩ := List.mem_map.1 hx
  exact hf.2 y hy
 have h2 := lens_le 1048576 _ h1
 have h3 : (l.map toPart).length ≤ 1048576 := by rw [List.length_map]; exact hf.1
 have h4 := Nat.mul_le_mul_right 1048576 h3
 exact ⟨h3, h1, by omega⟩
def mkI : List Int → Int → List Int
 | [], _ => []
 | _ :: t, c => c :: mkI t (c + 1)
theorem markIntS_l0 : ∀ (l : List Int) (i : Nat) (A xs : List Int) (c : Int), xs = A ++ l → A.length = i → 0 ≤ c → c + l.length ≤ 4611686018427387904 → i + l.length ≤ 4611686018427387904 → Ev (fun k => laws_markIntS.l0 k xs c (i : Int)) (c + l.length, A ++ mkI l c)
 | [], i, A, xs, c, h, hA, h0, h1, h2 => by
  subst h
  refine Ev.step (f := fun _ => some (c + ([] : List Int).length, A ++ mkI [] c)) (fun k => ?_) (Ev.now _)
  rw [laws_markIntS.l0, if_neg (by simp; omega)]
  simp [mkI]
 | a :: t, i, A, xs, c, h, hA, h0, h1, h2 => by
  simp only [List.length_cons] at h1 h2
  have ih := markIntS_l0 t (i + 1) (A ++ [c]) _ (c + 1) rfl (by simp [hA]) (by omega) (by omega) (by omega)
  subst h
  have e : (A ++ a :: t).set ((i : Int)).toNat c = (A ++ [c]) ++ t := by
   rw [Int.toNat_natCast, ← hA]; exact set_mid A a _ t
  refine Ev.step (f := fun k => laws_markIntS.l0 k ((A ++ [c]) ++ t) (c + 1) ((i + 1 : Nat) : Int)) (fun k => ?_) (Ev.eq ih (by simp [mkI]; omega))
  rw [laws_markIntS.l0, if_pos (by simp; omega), if_pos (by omega), e, w64 (by omega) (by omega), w64s (n := i + 1) (by omega) (by omega)]
theorem markIntS_ev (xs : List Int) (c : Int) (h0 : 0 ≤ c) (h1 : c + xs.length ≤ 4611686018427387904) : Ev (fun k => laws_markIntS.f k xs c) (c + xs.length, mkI xs c) := by
 refine Ev.congr (f := fun k => laws_markIntS.l0 k xs c ((0 : Nat) : Int)) (fun k => rfl) (markIntS_l0 xs 0 [] xs c rfl rfl h0 h1 (by omega))
theorem heldIntS_l0 : ∀ (l : List Int) (i : Nat) (A xs : List Int) (c : Int), xs = A ++ mkI l c → A.length = i → 0 ≤ c → c + l.length ≤ 4611686018427387904 → i + l.length ≤ 4611686018427387904 → Ev (fun k => laws_heldIntS.l0 k xs c (i : Int)) (c + l.length)
 | [], i, A, xs, c, h, hA, h0, h1, h2 => by
  subst h
  refine Ev.step (f := fun _ => some (c + ([] : List Int).length)) (fun k => ?_) (Ev.now _)
  rw [laws_heldIntS.l0, if_neg (by simp [mkI]; omega)]
  simp
 | a :: t, i, A, xs, c, h, hA, h0, h1, h2 => by
  simp only [List.length_cons] at h1 h2
  have ih := heldIntS_l0 t (i + 1) (A ++ [c]) _ (c + 1) rfl (by simp [hA]) (by omega) (by omega) (by omega)
  rw [mkI] at h
  have e : A ++ c :: mkI t (c + 1) = (A ++ [c]) ++ mkI t (c + 1) := by simp
  have hr : rd (A ++ c :: mkI t (c + 1)) (i : Int) = c := by rw [← hA]; exact rd_mid _ _ _
  refine Ev.step (f := fun k => laws_heldIntS.l0 k ((A ++ [c]) ++ mkI t (c + 1)) (c + 1) ((i + 1 : Nat) : Int)) (fun k => ?_) (Ev.eq ih (by simp; omega))
  subst h
  rw [laws_heldIntS.l0, if_pos (by simp; omega), if_pos (by omega), if_pos hr, w64 (by omega) (by omega), w64s (n := i + 1) (by omega) (by omega), e]
theorem heldIntS_ev (xs : List Int) (c : Int) (h0 : 0 ≤ c) (h1 : c + xs.length ≤ 4611686018427387904) : Ev (fun k => laws_heldIntS.f k (mkI xs c) c) (c + xs.length) := by
 refine Ev.congr (f := fun k => laws_heldIntS.l0 k (mkI xs c) c ((0 : Nat) : Int)) (fun k => rfl) (heldIntS_l0 xs 0 [] _ c rfl rfl h0 h1 (by omega))
def mkP : List S29 → Int → List S29
 | [], _ => []
 | p :: t, c => ⟨mkI p.f0 c⟩ :: mkP t (c + p.f0.length)
theorem rdT_mid29 (A : List S29) (x : S29) (t : List S29) : rd_T29 (A ++ x :: t) (A.length : Int) = x := by
 unfold rd_T29; rw [Int.toNat_natCast, List.getD_eq_getElem?_getD, List.getElem?_append_right (Nat.le_refl _), Nat.sub_self]; rfl
theorem markPartS_l0 : ∀ (l : List S29) (i : Nat) (A xs : List S29) (c : Int), xs = A ++ l → A.length = i → 0 ≤ c → c + lens l ≤ 4611686018427387904 → i + l.length ≤ 4611686018427387904 → Ev (fun k => laws_markPartS.l0 k xs c (i : Int)) (c + lens l, A ++ mkP l c)
 | [], i, A, xs, c, h, hA, h0, h1, h2 => by
  subst h
  refine Ev.step (f := fun _ => some (c + (lens [] : Nat), A ++ mkP [] c)) (fun k => ?_) (Ev.now _)
  rw [laws_markPartS.l0, if_neg (by simp; omega)]
  simp [mkP, lens]
 | a :: t, i, A, xs, c, h, hA, h0, h1, h2 => by
  simp only [List.length_cons, lens] at h1 h2
  have ih := markPartS_l0 t (i + 1) (A ++ [⟨mkI a.f0 c⟩]) _ (c + a.f0.length) rfl (by simp [hA]) (by omega) (by omega) (by omega)
  subst h
  have e : (A ++ a :: t).set ((i : Int)).toNat (⟨mkI a.f0 c⟩ : S29) = (A ++ [⟨mkI a.f0 c⟩]) ++ t := by
   rw [Int.toNat_natCast, ← hA]; exact set_mid A a _ t
  have hr : rd_T29 (A ++ a :: t) (i : Int) = a := by rw [← hA]; exact rdT_mid29 _ _ _
  refine Ev.step (f := fun k => (laws_markIntS.f k a.f0 c).bind fun q => laws_markPartS.l0 k ((A ++ a :: t).set ((i : Int)).toNat (⟨q.2⟩ : S29)) q.1 ((i + 1 : Nat) : Int)) (fun k => ?_) ?_
  ·rw [laws_markPartS.l0, if_pos (by simp; omega), if_pos (by omega), hr, w64s (n := i + 1) (by omega) (by omega)]
  ·refine Ev.bind (markIntS_ev a.f0 c h0 (by omega)) ?_
   simp only [e]
   exact Ev.eq ih (by simp [mkP, lens]; omega)
theorem markRing_ev (a : Int) (xs : List S29) (c : Int) (h0 : 0 ≤ c) (h1 : c + lens xs ≤ 4611686018427387904) (h2 : xs.length ≤ 4611686018427387904) : Ev (fun k => laws_markRing.f k a xs c) (c + lens xs, mkP xs c) := by
 refine Ev.congr (f := fun k => laws_markPartS.l0 k xs c ((0 : Nat) : Int)) (fun k => rfl) (markPartS_l0 xs 0 [] xs c rfl rfl h0 h1 (by omega))
end Go.Proofs.Ytbhllgifciaepaa.PureFnExactPrimaries
namespace Go.Proofs.Ytbhllgifciaepaa.Pure
open Go.RowKit Go.Proofs.Ytbhllgifciaepaa.PFnExactPrimaries Go.Proofs.YtbhllgifciaepaaW.PrintWords Go.Proofs.YtbhllgifciaepaaW.PrintLast Go.Proofs.YtbhllgifciaepaaW.PrintMore Go.Proofs.Ytbhllgifciaepaa.Base Go.Proofs.Ytbhllgifciaepaa.PureFnExactPrimaries
set_option linter.unusedVariables false
attribute [local irreducible] Go.bits IntKind.wrap shl shr
theorem FnExactPrimaries (a : Int) (l : List S24) (s : ByteArray) (h0 : I64 a ∧ l.length ≤ 9223372036854775807 ∧ ∀ x ∈ l, x.f0.length ≤ 9223372036854775807 ∧ ∀ y ∈ x.f0, I64 y)
  (_ : s.size ≤ 9223372036854775807) : ∃ k, laws_FnExactPrimaries.f k a l s = some true := by
 by_cases hs : (s.size : Int) > 1048576
 ·exact ⟨0, by rw [laws_FnExactPrimaries.f, if_pos hs]⟩
 apply Ev.rounds (g := fun k => laws_FnExactPrimaries.f k a l s)
 simp only [laws_FnExactPrimaries.f]
 refine Ev.neg hs ?_
 obtain ⟨r, r1, r2⟩ := szRing_ev a l 1048576 h0.2.1 (fun x hx => (h0.2.2 x hx).1) (by omega) (by omega)
 refine Ev.bind r1 ?_
 by_cases hr : r < 0
 ·exact Ev.pos hr (Ev.now _)
 rcases r2 with r2 | ⟨hr0, hr1, hf⟩
 ·exact absurd r2 hr
 refine Ev.neg hr ?_
 obtain ⟨f1, f2, f3⟩ := fits_map hf
 obtain ⟨i, p1, p2, _, p3⟩ := prim_ev a (l.map toPart) s (by omega) (by omega) f2
 have t1 := toRing_ev a l hf
 have e1 := eqRing_ev a (l.map toPart) (by omega) (fun x hx => Nat.le_trans (f2 x hx) (by omega))
 generalize pick (l.map toPart) i = q at *
 have e2 := eqIntS_ev q (by omega)
 refine Ev.bind t1 (Ev.bind p1 (Ev.bind t1 (Ev.bind p2 (Ev.bind e2 (Ev.pos rfl (Ev.bind t1 (Ev.bind e1 (Ev.pos rfl ?_))))))))
 refine Ev.bind (markRing_ev a (l.map toPart) 1 (by omega) (by omega) (by omega)) ?_
 refine Ev.neg (by simp only; omega) (Ev.bind e2 (Ev.pos rfl ?_))
 refine Ev.bind (markIntS_ev q 1 (by omega) (by omega)) ?_
 refine Ev.bind (heldIntS_ev q 1 (by omega) (by omega)) ?_
 refine Ev.neg (by omega) (Ev.pos rfl (Ev.bind t1 (Ev.bind p2 (Ev.bind e2 (Ev.pos rfl ?_)))))
 refine Ev.bind (heldIntS_ev q 1 (by omega) (by omega)) ?_
 exact Ev.neg (by omega) (Ev.pos rfl (Ev.now _))
end Go.Proofs.Ytbhllgifciaepaa.Pure
