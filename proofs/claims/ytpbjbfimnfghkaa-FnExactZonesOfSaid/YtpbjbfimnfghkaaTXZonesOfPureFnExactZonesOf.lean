/- Trimmed by a program of this session (trim.py). Not trusted: Lean checks it. -/
import Derived.Test.YtpbjbfimnfghkaaTXZonesOfPFnExactZonesOfx3
import Derived.Test.YtpbjbfimnfghkaaTXZonesOfBase
namespace Go.Proofs.Ytpbjbfimnfghkaa.PureFnExactZonesOf
open Go.RowKit Go.Proofs.Ytpbjbfimnfghkaa.PFnExactZonesOf Go.Proofs.YtpbjbfimnfghkaaW.PrintWords Go.Proofs.YtpbjbfimnfghkaaW.PrintLast Go.Proofs.YtpbjbfimnfghkaaW.PrintMore Go.Proofs.Ytpbjbfimnfghkaa.Base
set_option linter.unusedVariables false
attribute [local irreducible] Go.bits IntKind.wrap shl shr
def hasI : List Int → Int → Bool
 | [], _ => false
 | a :: t, x => if a = x then true else hasI t x
theorem hasI_iff (l : List Int) (x : Int) : hasI l x = true ↔ x ∈ l := by
 induction l with
 | nil => simp [hasI]
 | cons a t ih =>
  rw [hasI, List.mem_cons]
  by_cases h : a = x
  ·rw [if_pos h]; simp [h]
  ·rw [if_neg h, ih]
   exact ⟨Or.inr, fun hc => hc.elim (fun e => absurd e.symm h) id⟩
theorem l4Has_l0 (xs : List Int) (x : Int) (hN : xs.length ≤ 4611686018427387904) : ∀ (l : List Int) (i : Nat), xs.drop i = l → Ev (fun k => spec_l4Has.l0 k xs x (i : Int)) (hasI l x)
 | [], i, h => by
  have h1 := drop_nil' h
  refine Ev.step (f := fun _ => some false) (fun k => ?_) (Ev.now _)
  rw [spec_l4Has.l0, if_neg (by omega)]
 | a :: t, i, h => by
  obtain ⟨h1, _, h3⟩ := drop_cons' h 0
  refine Ev.step (f := fun k => if a = x then some true else spec_l4Has.l0 k xs x ((i + 1 : Nat) : Int)) (fun k => ?_) ?_
  ·rw [spec_l4Has.l0, if_pos (by omega), if_pos (by omega), rd_at h, w64s h1 hN]
  ·by_cases c : a = x
   ·rw [hasI, if_pos c]; exact Ev.pos c (Ev.now _)
   ·rw [hasI, if_neg c]; exact Ev.neg c (l4Has_l0 xs x hN t (i + 1) h3)
theorem l4Has_ev (xs : List Int) (x : Int) (hN : xs.length ≤ 4611686018427387904) : Ev (fun k => spec_l4Has.f k xs x) (hasI xs x) := l4Has_l0 xs x hN xs 0 rfl
theorem hasInt_l0 (xs : List Int) (x : Int) (hN : xs.length ≤ 4611686018427387904) : ∀ (l : List Int) (i : Nat), xs.drop i = l → Ev (fun k => impl_hasInt.l0 k x xs (xs.length : Int) (i : Int)) (hasI l x)
 | [], i, h => by
  have h1 := drop_nil' h
  refine Ev.step (f := fun _ => some false) (fun k => ?_) (Ev.now _)
  rw [impl_hasInt.l0, if_neg (by omega)]
 | a :: t, i, h => by
  obtain ⟨h1, _, h3⟩ := drop_cons' h 0
  refine Ev.step (f := fun k => if a = x then some true else impl_hasInt.l0 k x xs (xs.length : Int) ((i + 1 : Nat) : Int)) (fun k => ?_) ?_
  ·rw [impl_hasInt.l0, if_pos (by omega), if_pos (by omega), if_pos (by omega), rd_at h, w64s h1 hN]
  ·by_cases c : a = x
   ·rw [hasI, if_pos c]; exact Ev.pos c (Ev.now _)
   ·rw [hasI, if_neg c]; exact Ev.neg c (hasInt_l0 xs x hN t (i + 1) h3)
theorem hasInt_ev (xs : List Int) (x : Int) (hN : xs.length ≤ 4611686018427387904) : Ev (fun k => impl_hasInt.f k xs x) (hasI xs x) := hasInt_l0 xs x hN xs 0 rfl
theorem rdT_at61 {xs : List S61} {i : Nat} {a : S61} {t : List S61} (h : xs.drop i = a :: t) : rd_T61 xs (i : Int) = a := by
 unfold rd_T61; rw [Int.toNat_natCast]; exact (drop_cons' h _).2.1
def insR : List Int → Int → List Int → List Int
 | [], z, B => z :: B
 | a :: r, z, B => if a > z then insR r z (a :: B) else (r.reverse ++ [a]) ++ z :: B
theorem insR_perm : ∀ (A : List Int) (z : Int) (B : List Int), (insR A z B).Perm (z :: (A ++ B))
 | [], z, B => List.Perm.refl _
 | a :: r, z, B => by
  rw [insR]
  split
  ·refine (insR_perm r z (a :: B)).trans (List.Perm.cons z ?_)
   exact List.perm_middle
  ·refine List.perm_middle.trans (List.Perm.cons z ?_)
   refine List.Perm.append_right B ?_
   refine (List.perm_append_singleton a r.reverse).trans (List.Perm.cons a (List.reverse_perm r))
theorem insR_sorted : ∀ (A : List Int) (z : Int) (B : List Int), (A.reverse ++ B).Pairwise (· < ·) → (∀ b ∈ B, z < b) → z ∉ A → (insR A z B).Pairwise (· < ·)
 | [], z, B, h, hB, _ => by
  rw [insR]
  exact List.pairwise_cons.2 ⟨hB, by simpa using h⟩
 | a :: r, z, B, h, hB, hz => by
  rw [insR]
  rw [List.reverse_cons] at h
  split
  ·rename_i c
   exact insR_sorted r z (a :: B) (by simpa using h) (fun b hb => by rcases List.mem_cons.1 hb with rfl | hb; exact c; exact hB b hb) (fun hc => hz (List.mem_cons_of_mem _ hc))
  ·rename_i c
   rw [List.pairwise_append] at h ⊢
   obtain ⟨h1, h2, h3⟩ := h
   refine ⟨h1, List.pairwise_cons.2 ⟨hB, h2⟩, fun x hx y hy => ?_⟩
   have hxz : x < z := by
    have ne : a ≠ z := fun e => hz (by rw [e]; exact List.mem_cons_self)
    have : x ≤ a := by
     rcases List.mem_append.1 hx with hx | hx
     ·rw [List.pairwise_append] at h1
      have := h1.2.2 x hx a (by simp)
      omega
     ·simp at hx; omega
    omega
   rcases List.mem_cons.1 hy with rfl | hy
   ·exact hxz
   ·exact h3 x hx y hy
theorem insR_len (A : List Int) (z : Int) (B : List Int) : (insR A z B).length = A.length + B.length + 1 := by
 rw [(insR_perm A z B).length_eq]; simp
def zsS : List Int → List S61 → List Int
 | acc, [] => acc
 | acc, d :: t => if hasI acc d.f1 = true then zsS acc t else zsS (insR acc.reverse d.f1 []) t
def zsI : List Int → List S61 → List Int
 | acc, [] => acc
 | acc, d :: t => if hasI acc d.f1 = true then zsI acc t else zsI (acc ++ [d.f1]) t
theorem zs_perm : ∀ (l : List S61) (a b : List Int), a.Perm b → (zsS a l).Perm (zsI b l)
 | [], a, b, h => h
 | d :: t, a, b, h => by
  have e : hasI a d.f1 = hasI b d.f1 := by
   rw [Bool.eq_iff_iff, hasI_iff, hasI_iff]; exact h.mem_iff
  rw [zsS, zsI, e]
  split
  ·exact zs_perm t a b h
  ·refine zs_perm t _ _ ((insR_perm _ _ _).trans ?_)
   rw [List.append_nil]
   exact ((List.Perm.cons _ (List.reverse_perm a)).trans (List.Perm.cons _ h)).trans (List.perm_append_singleton _ _).symm
theorem zsS_sorted : ∀ (l : List S61) (a : List Int), a.Pairwise (· < ·) → (zsS a l).Pairwise (· < ·)
 | [], a, h => h
 | d :: t, a, h => by
  rw [zsS]
  split
  ·exact zsS_sorted t a h
  ·rename_i c
   refine zsS_sorted t _ (insR_sorted _ _ _ (by simpa using h) (by simp) ?_)
   intro hc
   exact c ((hasI_iff _ _).2 (by simpa using hc))
theorem zsI_len : ∀ (l : List S61) (a : List Int), (zsI a l).length ≤ a.length + l.length
 | [], a => by simp [zsI]
 | d :: t, a => by
  rw [zsI]
  split
  ·have := zsI_len t a; simp; omega
  ·have := zsI_len t (a ++ [d.f1]); simp at this ⊢; omega
def zonesAll (l : List S61) : List Int := zsS [] l
theorem zonesAll_sort (l : List S61) : (zsI [] l).mergeSort (fun x y => decide (x ≤ y)) = zonesAll l := by
 refine List.Perm.eq_of_pairwise (le := fun a b => decide (a ≤ b) = true) ?_ ?_ ?_ ?_
 ·intro a b _ _ h1 h2
  have h1 := of_decide_eq_true h1
  have h2 := of_decide_eq_true h2
  omega
 ·refine List.pairwise_mergeSort ?_ ?_ _
  ·intro a b c h1 h2
   have h1 := of_decide_eq_true h1
   have h2 := of_decide_eq_true h2
   exact decide_eq_true (by omega)
  ·intro a b
   rw [Bool.or_eq_true, decide_eq_true_eq, decide_eq_true_eq]
   omega
 ·refine (zsS_sorted l [] List.Pairwise.nil).imp ?_
  intro a b h
  exact decide_eq_true (by omega)
 ·exact (List.mergeSort_perm _ _).trans (zs_perm l [] [] (List.Perm.refl _)).symm
theorem zs_l1 (ds : List S61) (j : Int) (z : Int) (r : List Int) : ∀ (A : List Int) (hd : Int) (B xs : List Int), xs = A.reverse ++ hd :: B → xs.length ≤ 4611686018427387904 → Ev (fun k => spec_ZonesOf.l0 k ds (insR A z B) (wrap64 (j + 1))) r → Ev (fun k => spec_ZonesOf.l1 k ds xs j z (A.length : Int)) r
 | [], hd, B, xs, h, hx, e => by
  subst h
  refine Ev.step (fun k => ?_) e
  rw [spec_ZonesOf.l1, if_neg (by simp), if_pos (by simp), if_pos (by simp)]
  rfl
 | a :: t, hd, B, xs, h, hx, e => by
  rw [List.reverse_cons] at h
  have hl : xs.length = t.length + 1 + 1 + B.length := by rw [h]; simp; omega
  have w : wrap64 (((a :: t).length : Int) - 1) = (t.length : Int) := by rw [w64 (by simp only [List.length_cons]; omega) (by simp only [List.length_cons]; omega)]; simp
  have hr : rd xs (t.length : Int) = a := by
   have := rd_mid t.reverse a (hd :: B)
   rw [List.length_reverse] at this
   rw [h, List.append_assoc]
   exact this
  have hs : ∀ v, xs.set (((a :: t).length : Int)).toNat v = (t.reverse ++ [a]) ++ v :: B := by
   intro v
   rw [h, Int.toNat_natCast, show (a :: t).length = (t.reverse ++ [a]).length by simp]
   rw [List.set_append_right _ _ (Nat.le_refl _), Nat.sub_self, List.set_cons_zero]
  rw [insR] at e
  by_cases c : a > z
  ·rw [if_pos c] at e
   refine Ev.step (f := fun k => spec_ZonesOf.l1 k ds (xs.set (((a :: t).length : Int)).toNat a) j z (t.length : Int)) (fun k => ?_) (zs_l1 ds j z r t a (a :: B) _ (by rw [hs]; simp) (by rw [List.length_set]; exact hx) e)
   rw [spec_ZonesOf.l1, w, hr, if_pos (by simp), if_pos (by omega), if_pos (by omega), if_pos c, if_pos (by omega), if_pos (by simp only [List.length_cons]; omega)]
  ·rw [if_neg c, ← hs] at e
   refine Ev.step (f := fun k => spec_ZonesOf.l0 k ds (xs.set (((a :: t).length : Int)).toNat z) (wrap64 (j + 1))) (fun k => ?_) e
   rw [spec_ZonesOf.l1, w, hr, if_pos (by simp), if_pos (by omega), if_pos (by omega), if_neg c, if_pos (by omega), if_pos (by simp only [List.length_cons]; omega)]
theorem zs_l0 (ds : List S61) (hd : ds.length ≤ 1048576) : ∀ (t : List S61) (i : Nat) (a : List Int), ds.drop i = t → a.length ≤ i → Ev (fun k => spec_ZonesOf.l0 k ds a (i : Int)) (zsS a t)
 | [], i, a, h, ha => by
  have h1 := drop_nil' h
  refine Ev.step (f := fun _ => some a) (fun k => ?_) (Ev.now _)
  rw [spec_ZonesOf.l0, if_neg (by omega)]
 | d :: t, i, a, h, ha => by
  obtain ⟨h1, _, h3⟩ := drop_cons' h z61
  have hr : Hd (rd_T61 ds (i : Int) = d) := ⟨rdT_at61 h⟩
  have w : wrap64 ((i : Int) + 1) = ((i + 1 : Nat) : Int) := w64s h1 (by omega)
  refine Ev.step (fun k => by rw [spec_ZonesOf.l0, if_pos (by omega), if_pos (by omega), hr.out]) ?_
  refine Ev.bind (l4Has_ev a d.f1 (by omega)) ?_
  rw [zsS]
  by_cases c : hasI a d.f1 = true
  ·rw [if_pos c]
   refine Ev.pos c ?_
   rw [w]
   exact zs_l0 ds hd t (i + 1) a h3 (by omega)
  ·rw [if_neg c]
   refine Ev.neg c (Ev.pos (by omega) ?_)
   have e := zs_l1 ds (i : Int) d.f1 (zsS (insR a.reverse d.f1 []) t) a.reverse d.f1 [] (a ++ [d.f1]) (by simp) (by simp; omega) (by
    rw [w]
    exact zs_l0 ds hd t (i + 1) _ h3 (by rw [insR_len]; simp; omega))
   rw [List.length_reverse] at e
   exact e
theorem zsi_l0 (ds : List S61) (hd : ds.length ≤ 1048576) : ∀ (t : List S61) (i : Nat) (a : List Int), ds.drop i = t → a.length ≤ i → i ≤ ds.length → Ev (fun k => impl_ZonesOf.l0 k a ds (ds.length : Int) (i : Int)) ((zsI a t).mergeSort (fun x y => decide (x ≤ y)))
 | [], i, a, h, ha, hil => by
  have h1 := drop_nil' h
  refine Ev.step (f := fun _ => some ((zsI a []).mergeSort (fun x y => decide (x ≤ y)))) (fun k => ?_) (Ev.now _)
  rw [impl_ZonesOf.l0, if_neg (by omega), sort_Ints.f, if_pos (by omega)]
  rfl
 | d :: t, i, a, h, ha, hil => by
  obtain ⟨h1, _, h3⟩ := drop_cons' h z61
  have hr : Hd (rd_T61 ds (i : Int) = d) := ⟨rdT_at61 h⟩
  have w : wrap64 ((i : Int) + 1) = ((i + 1 : Nat) : Int) := w64s h1 (by omega)
  refine Ev.step (fun k => by rw [impl_ZonesOf.l0, if_pos (by omega), if_pos (by omega), if_pos (by omega), hr.out, w]) ?_
  refine Ev.bind (hasInt_ev a d.f1 (by omega)) ?_
  rw [zsI]
  by_cases c : hasI a d.f1 = true
  ·rw [if_pos c]
   exact Ev.pos c (zsi_l0 ds hd t (i + 1) a h3 (by omega) (by omega))
  ·rw [if_neg c]
   exact Ev.neg c (Ev.pos (by omega) (zsi_l0 ds hd t (i + 1) _ h3 (by simp; omega) (by omega)))
theorem zonesAll_len (l : List S61) : (zonesAll l).length ≤ l.length := by
 rw [← zonesAll_sort, List.length_mergeSort]
 have := zsI_len l []
 simpa using this
theorem zonesAll_ev (l : List S61) (hl : l.length ≤ 1048576) : Ev (fun k => spec_ZonesOf.f k l) (zonesAll l) ∧ Ev (fun k => impl_ZonesOf.f k l) (zonesAll l) := by
 refine ⟨zs_l0 l hl l 0 [] rfl (Nat.le_refl _), ?_⟩
 rw [← zonesAll_sort]
 exact zsi_l0 l hl l 0 [] rfl (Nat.le_refl _) (Nat.zero_le _)
theorem szDevS_eq (l : List S83) (n : Int) (hl : l.length ≤ 9223372036854775807) (h0 : 0 ≤ n) (h1 : n ≤ 1048576) : laws_szDevS.f l n = some (if n < l.length then -1 else n - l.length) := by
 unfold laws_szDevS.f
 rw [w64 (by omega) (by omega)]
 by_cases h : n < l.length
 ·rw [if_pos (by omega), if_pos h]
 ·rw [if_neg (by omega), if_neg h]
def toDev (x : S83) : S61 := ⟨x.f0, x.f1, x.f2⟩
theorem rdT_at83 {xs : List S83} {i : Nat} {a : S83} {t : List S83} (h : xs.drop i = a :: t) : rd_T83 xs (i : Int) = a := by
 unfold rd_T83; rw [Int.toNat_natCast]; exact (drop_cons' h _).2.1
theorem toDevS_l0 (xs : List S83) (hN : xs.length ≤ 4611686018427387904) : ∀ (l : List S83) (i : Nat) (A acc : List S61), xs.drop i = l → A.length = i → acc = A ++ List.replicate l.length z61 → Ev (fun k => laws_toDevS.l0 k xs acc (i : Int)) (A ++ l.map toDev)
 | [], i, A, acc, h, hA, ha => by
  have h1 := drop_nil' h
  subst ha
  refine Ev.step (f := fun _ => some (A ++ [])) (fun k => ?_) (Ev.now _)
  rw [laws_toDevS.l0, if_neg (by omega)]
  rfl
 | a :: t, i, A, acc, h, hA, ha => by
  obtain ⟨h1, _, h3⟩ := drop_cons' h z83
  have ih := toDevS_l0 xs hN t (i + 1) (A ++ [toDev a]) _ h3 (by simp [hA]) rfl
  subst ha
  have e : (A ++ List.replicate (a :: t).length z61).set ((i : Int)).toNat (toDev a) = (A ++ [toDev a]) ++ List.replicate t.length z61 := by
   rw [Int.toNat_natCast, ← hA]; exact set_copy A _ (toDev a) t.length
  refine Ev.step (f := fun k => laws_toDevS.l0 k xs ((A ++ [toDev a]) ++ List.replicate t.length z61) ((i + 1 : Nat) : Int)) (fun k => ?_) (Ev.eq ih (by simp))
  rw [laws_toDevS.l0, if_pos (by omega), if_pos (by omega), rdT_at83 h, laws_toDev.f, Option.bind_some, if_pos (by simp only [List.length_append, List.length_replicate, List.length_cons]; omega), w64s h1 hN, ← e]
  rfl
theorem toDevS_ev (xs : List S83) (hN : xs.length ≤ 1048576) : Ev (fun k => laws_toDevS.f k xs) (xs.map toDev) := by
 refine Ev.congr (f := fun k => laws_toDevS.l0 k xs (List.replicate xs.length z61) ((0 : Nat) : Int)) (fun k => ?_) (toDevS_l0 xs (by omega) xs 0 [] _ rfl rfl rfl)
 rw [laws_toDevS.f, if_pos (by omega), if_pos (by omega), Int.toNat_natCast]; rfl
theorem eqDevS_l0 (xs : List S61) (hN : xs.length ≤ 4611686018427387904) : ∀ (l : List S61) (i : Nat), xs.drop i = l → Ev (fun k => laws_eqDevS.l0 k xs xs (i : Int)) true
 | [], i, h => by
  have h1 := drop_nil' h
  refine Ev.step (f := fun _ => some true) (fun k => ?_) (Ev.now _)
  rw [laws_eqDevS.l0, if_neg (by omega)]
 | a :: t, i, h => by
  obtain ⟨h1, _, h3⟩ := drop_cons' h z61
  refine Ev.step (f := fun k => laws_eqDevS.l0 k xs xs ((i + 1 : Nat) : Int)) (fun k => ?_) (eqDevS_l0 xs hN t (i + 1) h3)
  rw [laws_eqDevS.l0, if_pos (by omega), if_pos (by omega), if_pos (by omega), laws_eqDev.f, if_pos rfl, if_pos rfl, if_pos rfl, Option.bind_some, if_pos rfl, w64s h1 hN]
theorem eqDevS_ev (xs : List S61) (hN : xs.length ≤ 4611686018427387904) : Ev (fun k => laws_eqDevS.f k xs xs) true := by
 refine Ev.congr (f := fun k => laws_eqDevS.l0 k xs xs ((0 : Nat) : Int)) (fun k => ?_) (eqDevS_l0 xs hN xs 0 rfl)
 rw [laws_eqDevS.f, if_pos rfl]; rfl
theorem eqIntS_l0 (xs : List Int) (hN : xs.length ≤ 4611686018427387904) : ∀ (l : List Int) (i : Nat), xs.drop i = l → Ev (fun k => laws_eqIntS.l0 k xs xs (i : Int)) true
 | [], i, h => by
  have h1 := drop_nil' h
  refine Ev.step (f := fun _ => some true) (fun k => ?_) (Ev.now _)
  rw [laws_eqIntS.l0, if_neg (by omega)]
 | a :: t, i, h => by
  obtain ⟨h1, _, h3⟩ := drop_cons' h 0
  refine Ev.step (f := fun k => laws_eqIntS.l0 k xs xs ((i + 1 : Nat) : Int)) (fun k => ?_) (eqIntS_l0 xs hN t (i + 1) h3)
  rw [laws_eqIntS.l0, if_pos (by omega), if_pos (by omega), if_pos (by omega), if_pos rfl, w64s h1 hN]
theorem eqIntS_ev (xs : List Int) (hN : xs.length ≤ 4611686018427387904) : Ev (fun k => laws_eqIntS.f k xs xs) true := by
 refine Ev.congr (f := fun k => laws_eqIntS.l0 k xs xs ((0 : Nat) : Int)) (fun k => ?_) (eqIntS_l0 xs hN xs 0 rfl)
 rw [laws_eqIntS.f, if_pos rfl]; rfl
def mkI : List Int → Int → List Int
 | [], _ => []
 | _ :: t, c => c :: mkI t (c + 1)
theorem markIntS_l0 : ∀ (l : List Int) (i : Nat) (A xs : List Int) (c : Int), xs = A ++ l → A.length = i → 0 ≤ c → c + l.length ≤ 4611686018427387904 → i + l.length ≤ 4611686018427387904 → Ev (fun k => laws_markIntS.l0 k xs c (i : Int)) (c + l.length, A ++ mkI l c)
 | [], i, A, xs, c, h, hA, h0, h1, h2 => by
  subst h
  refine Ev.step (f := fun _ => some (c + ([] : List Int).length, A ++ mkI [] c)) (fun k => ?_) (Ev.now _)
  rw [laws_markIntS.l0, if_neg (by simp; omega)]
  simp [mkI]
 | a :: t, i, A, xs, c, h, hA, h0, h1, h2 => by
  simp only [List.length_cons] at h1 h2
  have ih := markIntS_l0 t (i + 1) (A ++ [c]) _ (c + 1) rfl (by simp [hA]) (by omega) (by omega) (by omega)
  subst h
  have e : (A ++ a :: t).set ((i : Int)).toNat c = (A ++ [c]) ++ t := by
   rw [Int.toNat_natCast, ← hA]; exact set_mid A a _ t
  refine Ev.step (f := fun k => laws_markIntS.l0 k ((A ++ [c]) ++ t) (c + 1) ((i + 1 : Nat) : Int)) (fun k => ?_) (Ev.eq ih (by simp [mkI]; omega))
  rw [laws_markIntS.l0, if_pos (by simp; omega), if_pos (by omega), e, w64 (by omega) (by omega), w64s (n := i + 1) (by omega) (by omega)]
theorem markIntS_ev (xs : List Int) (c : Int) (h0 : 0 ≤ c) (h1 : c + xs.length ≤ 4611686018427387904) : Ev (fun k => laws_markIntS.f k xs c) (c + xs.length, mkI xs c) := by
 refine Ev.congr (f := fun k => laws_markIntS.l0 k xs c ((0 : Nat) : Int)) (fun k => rfl) (markIntS_l0 xs 0 [] xs c rfl rfl h0 h1 (by omega))
theorem heldIntS_l0 : ∀ (l : List Int) (i : Nat) (A xs : List Int) (c : Int), xs = A ++ mkI l c → A.length = i → 0 ≤ c → c + l.length ≤ 4611686018427387904 → i + l.length ≤ 4611686018427387904 → Ev (fun k => laws_heldIntS.l0 k xs c (i : Int)) (c + l.length)
 | [], i, A, xs, c, h, hA, h0, h1, h2 => by
  subst h
  refine Ev.step (f := fun _ => some (c + ([] : List Int).length)) (fun k => ?_) (Ev.now _)
  rw [laws_heldIntS.l0, if_neg (by simp [mkI]; omega)]
  simp
 | a :: t, i, A, xs, c, h, hA, h0, h1, h2 => by
  simp only [List.length_cons] at h1 h2
  have ih := heldIntS_l0 t (i + 1) (A ++ [c]) _ (c + 1) rfl (by simp [hA]) (by omega) (by omega) (by omega)
  rw [mkI] at h
  have e : A ++ c :: mkI t (c + 1) = (A ++ [c]) ++ mkI t (c + 1) := by simp
  have hr : rd (A ++ c :: mkI t (c + 1)) (i : Int) = c := by rw [← hA]; exact rd_mid _ _ _
  refine Ev.step (f := fun k => laws_heldIntS.l0 k ((A ++ [c]) ++ mkI t (c + 1)) (c + 1) ((i + 1 : Nat) : Int)) (fun k => ?_) (Ev.eq ih (by simp; omega))
  subst h
  rw [laws_heldIntS.l0, if_pos (by simp; omega), if_pos (by omega), if_pos hr, w64 (by omega) (by omega), w64s (n := i + 1) (by omega) (by omega), e]
theorem heldIntS_ev (xs : List Int) (c : Int) (h0 : 0 ≤ c) (h1 : c + xs.length ≤ 4611686018427387904) : Ev (fun k => laws_heldIntS.f k (mkI xs c) c) (c + xs.length) := by
 refine Ev.congr (f := fun k => laws_heldIntS.l0 k (mkI xs c) c ((0 : Nat) : Int)) (fun k => rfl) (heldIntS_l0 xs 0 [] _ c rfl rfl h0 h1 (by omega))
def mkD : List S61 → Int → List S61
 | [], _ => []
 | _ :: t, c => ⟨c, c + 1, c + 2⟩ :: mkD t (c + 3)
theorem rdT_mid61 (A : List S61) (x : S61) (t : List S61) : rd_T61 (A ++ x :: t) (A.length : Int) = x := by
 unfold rd_T61; rw [Int.toNat_natCast, List.getD_eq_getElem?_getD, List.getElem?_append_right (Nat.le_refl _), Nat.sub_self]; rfl
theorem set_here {α : Type} (A : List α) (x v : α) (t : List α) : (A ++ x :: t).set ((A.length : Int)).toNat v = A ++ v :: t := by
 rw [Int.toNat_natCast, List.set_append_right _ _ (Nat.le_refl _), Nat.sub_self, List.set_cons_zero]
theorem markDevS_l0 : ∀ (l : List S61) (i : Nat) (A xs : List S61) (c : Int), xs = A ++ l → A.length = i → 0 ≤ c → c + 3 * l.length ≤ 4611686018427387904 → i + l.length ≤ 4611686018427387904 → Ev (fun k => laws_markDevS.l0 k xs c (i : Int)) (c + 3 * l.length, A ++ mkD l c)
 | [], i, A, xs, c, h, hA, h0, h1, h2 => by
  subst h
  refine Ev.step (f := fun _ => some (c + 3 * ([] : List S61).length, A ++ mkD [] c)) (fun k => ?_) (Ev.now _)
  rw [laws_markDevS.l0, if_neg (by simp; omega)]
  simp [mkD]
 | a :: t, i, A, xs, c, h, hA, h0, h1, h2 => by
  simp only [List.length_cons] at h1 h2
  have ih := markDevS_l0 t (i + 1) (A ++ [⟨c, c + 1, c + 2⟩]) _ (c + 3) rfl (by simp [hA]) (by omega) (by omega) (by omega)
  subst h
  subst hA
  have w1 : wrap64 (c + 1) = c + 1 := w64 (by omega) (by omega)
  have w2 : wrap64 (c + 1 + 1) = c + 2 := by rw [w64 (by omega) (by omega)]; omega
  have w3 : wrap64 (c + 2 + 1) = c + 3 := by rw [w64 (by omega) (by omega)]; omega
  refine Ev.step (f := fun k => laws_markDevS.l0 k ((A ++ [⟨c, c + 1, c + 2⟩]) ++ t) (c + 3) ((A.length + 1 : Nat) : Int)) (fun k => ?_) (Ev.eq ih (by simp [mkD]; omega))
  have wi : wrap64 ((A.length : Int) + 1) = ((A.length + 1 : Nat) : Int) := w64s (n := A.length + 1) (by omega) (by omega)
  rw [laws_markDevS.l0, if_pos (by simp; omega), if_pos (by omega), rdT_mid61, set_here, Option.bind_some, rdT_mid61, set_here, Option.bind_some, rdT_mid61, set_here, w1, w2, w3, wi]
  simp
theorem markDevS_ev (xs : List S61) (c : Int) (h0 : 0 ≤ c) (h1 : c + 3 * xs.length ≤ 4611686018427387904) : Ev (fun k => laws_markDevS.f k xs c) (c + 3 * xs.length, mkD xs c) := by
 refine Ev.congr (f := fun k => laws_markDevS.l0 k xs c ((0 : Nat) : Int)) (fun k => rfl) (markDevS_l0 xs 0 [] xs c rfl rfl h0 h1 (by omega))
end Go.Proofs.Ytpbjbfimnfghkaa.PureFnExactZonesOf
namespace Go.Proofs.Ytpbjbfimnfghkaa.Pure
open Go.RowKit Go.Proofs.Ytpbjbfimnfghkaa.PFnExactZonesOf Go.Proofs.YtpbjbfimnfghkaaW.PrintWords Go.Proofs.YtpbjbfimnfghkaaW.PrintLast Go.Proofs.YtpbjbfimnfghkaaW.PrintMore Go.Proofs.Ytpbjbfimnfghkaa.Base Go.Proofs.Ytpbjbfimnfghkaa.PureFnExactZonesOf
set_option linter.unusedVariables false
attribute [local irreducible] Go.bits IntKind.wrap shl shr
theorem FnExactZonesOf (l : List S83) (hl0 : l.length ≤ 9223372036854775807 ∧ ∀ x ∈ l, I64 x.f0 ∧ I64 x.f1 ∧ I64 x.f2) : ∃ k, laws_FnExactZonesOf.f k l = some true := by
 have hl := hl0.1
 apply Ev.rounds (g := fun k => laws_FnExactZonesOf.f k l)
 simp only [laws_FnExactZonesOf.f]
 refine Ev.got (szDevS_eq l 1048576 hl (by omega) (by omega)) ?_
 by_cases h : (1048576 : Int) < l.length
 ·exact Ev.pos (by rw [if_pos h]; omega) (Ev.now _)
 refine Ev.neg (by rw [if_neg h]; omega) ?_
 have hm1 : (l.map toDev).length ≤ 1048576 := by rw [List.length_map]; omega
 obtain ⟨q1, q2⟩ := zonesAll_ev (l.map toDev) hm1
 have hz := zonesAll_len (l.map toDev)
 have t2 := toDevS_ev l (by omega)
 have e3 := eqDevS_ev (l.map toDev) (by omega)
 generalize zonesAll (l.map toDev) = q at *
 have e2 := eqIntS_ev q (by omega)
 refine Ev.bind t2 (Ev.bind q1 (Ev.bind t2 (Ev.bind q2 (Ev.bind e2 (Ev.pos rfl (Ev.bind t2 (Ev.bind e3 (Ev.pos rfl ?_))))))))
 refine Ev.bind (markDevS_ev (l.map toDev) 1 (by omega) (by omega)) ?_
 refine Ev.neg (by simp only; omega) (Ev.bind e2 ?_)
 refine Ev.step (fun k => by rw [laws_FnExactZonesOf.j0, if_neg (by simp)]) ?_
 refine Ev.bind (markIntS_ev q 1 (by omega) (by omega)) ?_
 refine Ev.bind (heldIntS_ev q 1 (by omega) (by omega)) ?_
 refine Ev.neg (by omega) (Ev.pos rfl (Ev.bind t2 (Ev.bind q2 (Ev.bind e2 (Ev.pos rfl ?_)))))
 refine Ev.bind (heldIntS_ev q 1 (by omega) (by omega)) ?_
 exact Ev.neg (by omega) (Ev.pos rfl (Ev.now _))
end Go.Proofs.Ytpbjbfimnfghkaa.Pure
