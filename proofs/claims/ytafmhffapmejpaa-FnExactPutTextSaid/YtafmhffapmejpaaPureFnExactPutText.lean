/- The pure statement of the law FnExactPutText: what the printed functions compute answers as the law says. -/
import Derived.Test.YtafmhffapmejpaaPFnExactPutTextx2
import Derived.Test.YtafmhffapmejpaaBase
namespace Go.Proofs.Ytafmhffapmejpaa.PureFnExactPutText
open Go.RowKit Go.Proofs.Ytafmhffapmejpaa.PFnExactPutText Go.Proofs.YtafmhffapmejpaaW.PrintWords Go.Proofs.YtafmhffapmejpaaW.PrintLast Go.Proofs.YtafmhffapmejpaaW.PrintMore Go.Proofs.Ytafmhffapmejpaa.Base
set_option linter.unusedVariables false
attribute [local irreducible] Go.bits IntKind.wrap shl shr
/-- A number's groups of seven bits, the lowest first. -/
def putN (n : Nat) : List Int := if _h : 127 < n then (((n % 128 + 128 : Nat)) : Int) :: putN (n / 128) else [(n : Int)]
termination_by n
decreasing_by omega
def clip (n : Int) : Nat := if n < 0 then 0 else if 1000000000 < n then 1000000000 else n.toNat
theorem clip_le (n : Int) : clip n ≤ 1000000000 := by unfold clip; split; omega; split <;> omega
theorem putN_bytes (n : Nat) : ∀ x ∈ putN n, 0 ≤ x ∧ x ≤ 255 := by
  induction n using Nat.strongRecOn with
  | _ n ih =>
    intro x hx
    rw [putN] at hx
    split at hx
    · rcases List.mem_cons.1 hx with rfl | hx
      · omega
      · exact ih (n / 128) (by omega) x hx
    · rw [List.mem_singleton.1 hx]; omega
theorem putN_len (n : Nat) : (putN n).length ≤ n + 1 := by
  induction n using Nat.strongRecOn with
  | _ n ih =>
    rw [putN]
    split
    · have := ih (n / 128) (by omega)
      rw [List.length_cons]; omega
    · simp
theorem spec_putNum_l0 (n : Nat) : ∀ (acc : List Int), n ≤ 1000000000 → acc.length + n < 140737488355328 → Ev (fun k => spec_PutNum.l0 k (n : Int) acc) (acc ++ putN n) := by
  induction n using Nat.strongRecOn with
  | _ n ih =>
    intro acc hn ha
    by_cases h : 127 < n
    · have i1 := ih (n / 128) (by omega) (acc ++ [((n % 128 + 128 : Nat) : Int)]) (by omega) (by simp; omega)
      have a1 : Hd (Go.bits .and .i64 (n : Int) 127 = ((n % 128 : Nat) : Int)) := ⟨by rw [and127 (by omega) (by omega)]; omega⟩
      have o1 : Hd (Go.bits .or .i64 ((n % 128 : Nat) : Int) 128 = ((n % 128 : Nat) : Int) + 128) := ⟨or128 (by omega) (by omega)⟩
      refine Ev.step (fun k => ?_) (Ev.eq i1 (by rw [putN.eq_1 n, dif_pos h]; simp))
      rw [spec_PutNum.l0, if_pos (by omega), if_pos (by omega), a1.out, o1.out, show (((n % 128 : Nat) : Int) + 128) % 256 = ((n % 128 + 128 : Nat) : Int) by omega, show (n : Int) / 128 = ((n / 128 : Nat) : Int) by omega]
    · refine Ev.step (f := fun _ => some (acc ++ putN n)) (fun k => ?_) (Ev.now _)
      rw [spec_PutNum.l0, if_neg (by omega), if_pos (by omega), putN.eq_1 n, dif_neg h, show (n : Int) % 256 = (n : Int) by omega]
theorem spec_putNum_ev (b : List Int) (n : Int) (hb : b.length ≤ 100000000000000) : Ev (fun k => spec_PutNum.f k b n) (b ++ putN (clip n)) := by
  have hc := clip_le n
  have i1 := spec_putNum_l0 (clip n) b hc (by omega)
  have j1 : Ev (fun k => spec_PutNum.j1 k ((clip n : Nat) : Int) b) (b ++ putN (clip n)) := Ev.step (fun k => by rw [spec_PutNum.j1]) i1
  simp only [spec_PutNum.f]
  refine Ev.some_bind ?_
  refine Ev.pos (by simp; omega) (Ev.some_bind ?_)
  rw [List.nil_append]
  by_cases h1 : n > 1000000000
  · refine Ev.pos h1 (Ev.step (fun k => ?_) j1)
    rw [spec_PutNum.j0, if_neg (by omega), show ((clip n : Nat) : Int) = 1000000000 by unfold clip; rw [if_neg (by omega), if_pos (by omega)]; rfl]
  · refine Ev.neg h1 (Ev.step (fun k => ?_) j1)
    by_cases h2 : n < 0
    · rw [spec_PutNum.j0, if_pos h2, show ((clip n : Nat) : Int) = 0 by unfold clip; rw [if_pos h2]; rfl]
    · rw [spec_PutNum.j0, if_neg h2, show ((clip n : Nat) : Int) = n by unfold clip; rw [if_neg h2, if_neg (by omega)]; omega]
theorem addNum_l0 (n : Nat) : ∀ (acc : List Int), n ≤ 1000000000 → acc.length + n < 140737488355328 → Ev (fun k => impl_addNum.l0 k acc (n : Int)) (acc ++ putN n) := by
  induction n using Nat.strongRecOn with
  | _ n ih =>
    intro acc hn ha
    by_cases h : 127 < n
    · have i1 := ih (n / 128) (by omega) (acc ++ [((n % 128 + 128 : Nat) : Int)]) (by omega) (by simp; omega)
      have t1 : Hd (Int.tmod (n : Int) 128 = ((n % 128 : Nat) : Int)) := ⟨by rw [Int.tmod_eq_emod_of_nonneg (by omega)]; omega⟩
      have t2 : Hd (Int.tdiv (n : Int) 128 = ((n / 128 : Nat) : Int)) := ⟨by rw [Int.tdiv_eq_ediv_of_nonneg (by omega)]; omega⟩
      have w1 : Hd (wrap64 (((n % 128 : Nat) : Int) + 128) = ((n % 128 : Nat) : Int) + 128) := ⟨w64 (by omega) (by omega)⟩
      have w2 : Hd (wrap64 ((n / 128 : Nat) : Int) = ((n / 128 : Nat) : Int)) := ⟨w64 (by omega) (by omega)⟩
      refine Ev.step (fun k => ?_) (Ev.eq i1 (by rw [putN.eq_1 n, dif_pos h]; simp))
      rw [impl_addNum.l0, if_pos (by omega), if_pos (by omega), t1.out, t2.out, w1.out, w2.out, show (((n % 128 : Nat) : Int) + 128) % 256 = ((n % 128 + 128 : Nat) : Int) by omega]
    · refine Ev.step (f := fun _ => some (acc ++ putN n)) (fun k => ?_) (Ev.now _)
      rw [impl_addNum.l0, if_neg (by omega), if_pos (by omega), putN.eq_1 n, dif_neg h, show (n : Int) % 256 = (n : Int) by omega]
theorem addNum_ev (b : List Int) (n : Int) (hb : b.length ≤ 100000000000000) : Ev (fun k => impl_addNum.f k b n) (b ++ putN (clip n)) := by
  have hc := clip_le n
  have i1 := addNum_l0 (clip n) b hc (by omega)
  simp only [impl_addNum.f]
  rw [show mx 0 (mn n 1000000000) = ((clip n : Nat) : Int) by
    unfold mx mn clip
    split <;> split <;> (first | omega | (split <;> omega) | (split <;> split <;> omega))]
  exact i1
theorem addText_ev (b : List Int) (s : ByteArray) (hb : b.length ≤ 10000000000000) (hs : s.size ≤ 10000000000000) : Ev (fun k => impl_addText.f k b s) (b ++ putN (clip s.size) ++ bytesOf s) := by
  have hc := clip_le s.size
  have hp := putN_len (clip s.size)
  simp only [impl_addText.f]
  refine Ev.bind (addNum_ev b _ (by omega)) ?_
  refine Ev.pos (by rw [List.length_append]; omega) (Ev.now _)
theorem copyBytes_eq (b : List Int) (hb : b.length ≤ 100000000000000) : impl_copyBytes.f b = some b := by
  rw [impl_copyBytes.f, if_pos (by simp; omega), List.nil_append]
theorem spec_putText_ev (b : List Int) (s : ByteArray) (hb : b.length ≤ 10000000000000) (hs : s.size ≤ 10000000000000) : Ev (fun k => spec_PutText.f k b s) (b ++ putN (clip s.size) ++ bytesOf s) := by
  have hc := clip_le s.size
  have hp := putN_len (clip s.size)
  simp only [spec_PutText.f]
  refine Ev.bind (spec_putNum_ev b _ (by omega)) ?_
  refine Ev.pos (by rw [List.length_append]; omega) (Ev.now _)
theorem putText_ev (b : List Int) (s : ByteArray) (hb : b.length ≤ 10000000000000) (hs : s.size ≤ 10000000000000) : Ev (fun k => impl_PutText.f k b s) (b ++ putN (clip s.size) ++ bytesOf s) := by
  simp only [impl_PutText.f]
  refine Ev.got (copyBytes_eq b (by omega)) ?_
  refine Ev.bind (addText_ev b s hb hs) ?_
  exact Ev.now _
theorem toByteS_l0 (xs : List Int) (hN : xs.length ≤ 4611686018427387904) : ∀ (l : List Int) (i : Nat) (A acc : List Int), xs.drop i = l → A.length = i → acc = A ++ List.replicate l.length 0 → Ev (fun k => laws_toByteS.l0 k xs acc (i : Int)) (A ++ l)
  | [], i, A, acc, h, hA, ha => by
    have h1 := drop_nil' h
    subst ha
    refine Ev.step (f := fun _ => some (A ++ [])) (fun k => ?_) (Ev.now _)
    rw [laws_toByteS.l0, if_neg (by omega)]
    rfl
  | a :: t, i, A, acc, h, hA, ha => by
    obtain ⟨h1, _, h3⟩ := drop_cons' h 0
    have ih := toByteS_l0 xs hN t (i + 1) (A ++ [a]) _ h3 (by simp [hA]) rfl
    subst ha
    have e : (A ++ List.replicate (a :: t).length 0).set ((i : Int)).toNat (rd xs i) = (A ++ [a]) ++ List.replicate t.length 0 := by
      rw [rd_at h, Int.toNat_natCast, ← hA]; exact set_copy A 0 a t.length
    refine Ev.step (f := fun k => laws_toByteS.l0 k xs ((A ++ [a]) ++ List.replicate t.length 0) ((i + 1 : Nat) : Int)) (fun k => ?_) (Ev.eq ih (by simp))
    rw [laws_toByteS.l0, if_pos (by omega), if_pos (by omega), if_pos (by simp only [List.length_append, List.length_replicate, List.length_cons]; omega), e, w64s h1 hN]
theorem toByteS_ev (xs : List Int) (hN : xs.length ≤ 281474976710656) : Ev (fun k => laws_toByteS.f k xs) xs := by
  refine Ev.congr (f := fun k => laws_toByteS.l0 k xs (List.replicate xs.length 0) ((0 : Nat) : Int)) (fun k => ?_) (toByteS_l0 xs (by omega) xs 0 [] _ rfl rfl rfl)
  rw [laws_toByteS.f, if_pos (by omega), if_pos (by omega), Int.toNat_natCast]; rfl
theorem eqByteS_l0 (xs : List Int) (hN : xs.length ≤ 4611686018427387904) : ∀ (l : List Int) (i : Nat), xs.drop i = l → Ev (fun k => laws_eqByteS.l0 k xs xs (i : Int)) true
  | [], i, h => by
    have h1 := drop_nil' h
    refine Ev.step (f := fun _ => some true) (fun k => ?_) (Ev.now _)
    rw [laws_eqByteS.l0, if_neg (by omega)]
  | a :: t, i, h => by
    obtain ⟨h1, _, h3⟩ := drop_cons' h 0
    refine Ev.step (f := fun k => laws_eqByteS.l0 k xs xs ((i + 1 : Nat) : Int)) (fun k => ?_) (eqByteS_l0 xs hN t (i + 1) h3)
    rw [laws_eqByteS.l0, if_pos (by omega), if_pos (by omega), if_pos (by omega), if_pos rfl, w64s h1 hN]
theorem eqByteS_ev (xs : List Int) (hN : xs.length ≤ 4611686018427387904) : Ev (fun k => laws_eqByteS.f k xs xs) true := by
  refine Ev.congr (f := fun k => laws_eqByteS.l0 k xs xs ((0 : Nat) : Int)) (fun k => ?_) (eqByteS_l0 xs hN xs 0 rfl)
  rw [laws_eqByteS.f, if_pos rfl]; rfl
def mkB : List Int → Int → List Int
  | [], _ => []
  | _ :: t, c => (c % 256) :: mkB t (c + 1)
theorem mkB_len : ∀ (l : List Int) (c : Int), (mkB l c).length = l.length
  | [], _ => rfl
  | _ :: t, c => by simp [mkB, mkB_len t]
theorem markByteS_l0 : ∀ (l : List Int) (i : Nat) (A xs : List Int) (c : Int), xs = A ++ l → A.length = i → 0 ≤ c → c + l.length ≤ 4611686018427387904 → i + l.length ≤ 4611686018427387904 → Ev (fun k => laws_markByteS.l0 k xs c (i : Int)) (c + l.length, A ++ mkB l c)
  | [], i, A, xs, c, h, hA, h0, h1, h2 => by
    subst h
    refine Ev.step (f := fun _ => some (c + ([] : List Int).length, A ++ mkB [] c)) (fun k => ?_) (Ev.now _)
    rw [laws_markByteS.l0, if_neg (by simp; omega)]
    simp [mkB]
  | a :: t, i, A, xs, c, h, hA, h0, h1, h2 => by
    simp only [List.length_cons] at h1 h2
    have ih := markByteS_l0 t (i + 1) (A ++ [c % 256]) _ (c + 1) rfl (by simp [hA]) (by omega) (by omega) (by omega)
    subst h
    have e : (A ++ a :: t).set ((i : Int)).toNat (c % 256) = (A ++ [c % 256]) ++ t := by
      rw [Int.toNat_natCast, ← hA]; exact set_mid A a _ t
    refine Ev.step (f := fun k => laws_markByteS.l0 k ((A ++ [c % 256]) ++ t) (c + 1) ((i + 1 : Nat) : Int)) (fun k => ?_) (Ev.eq ih (by simp [mkB]; omega))
    rw [laws_markByteS.l0, if_pos (by simp; omega), if_pos (by omega), e, w64 (by omega) (by omega), w64s (n := i + 1) (by omega) (by omega)]
theorem markByteS_ev (xs : List Int) (c : Int) (h0 : 0 ≤ c) (h1 : c + xs.length ≤ 4611686018427387904) : Ev (fun k => laws_markByteS.f k xs c) (c + xs.length, mkB xs c) := by
  refine Ev.congr (f := fun k => laws_markByteS.l0 k xs c ((0 : Nat) : Int)) (fun k => rfl) (markByteS_l0 xs 0 [] xs c rfl rfl h0 h1 (by omega))
theorem heldByteS_l0 : ∀ (l : List Int) (i : Nat) (A xs : List Int) (c : Int), xs = A ++ mkB l c → A.length = i → 0 ≤ c → c + l.length ≤ 4611686018427387904 → i + l.length ≤ 4611686018427387904 → Ev (fun k => laws_heldByteS.l0 k xs c (i : Int)) (c + l.length)
  | [], i, A, xs, c, h, hA, h0, h1, h2 => by
    subst h
    refine Ev.step (f := fun _ => some (c + ([] : List Int).length)) (fun k => ?_) (Ev.now _)
    rw [laws_heldByteS.l0, if_neg (by simp [mkB]; omega)]
    simp
  | a :: t, i, A, xs, c, h, hA, h0, h1, h2 => by
    simp only [List.length_cons] at h1 h2
    have ih := heldByteS_l0 t (i + 1) (A ++ [c % 256]) _ (c + 1) rfl (by simp [hA]) (by omega) (by omega) (by omega)
    rw [mkB] at h
    have e : A ++ (c % 256) :: mkB t (c + 1) = (A ++ [c % 256]) ++ mkB t (c + 1) := by simp
    have hr : rd (A ++ (c % 256) :: mkB t (c + 1)) (i : Int) = c % 256 := by rw [← hA]; exact rd_mid _ _ _
    refine Ev.step (f := fun k => laws_heldByteS.l0 k ((A ++ [c % 256]) ++ mkB t (c + 1)) (c + 1) ((i + 1 : Nat) : Int)) (fun k => ?_) (Ev.eq ih (by simp; omega))
    subst h
    rw [laws_heldByteS.l0, if_pos (by simp; omega), if_pos (by omega), if_pos hr, w64 (by omega) (by omega), w64s (n := i + 1) (by omega) (by omega), e]
theorem heldByteS_ev (xs : List Int) (c : Int) (h0 : 0 ≤ c) (h1 : c + xs.length ≤ 4611686018427387904) : Ev (fun k => laws_heldByteS.f k (mkB xs c) c) (c + xs.length) := by
  refine Ev.congr (f := fun k => laws_heldByteS.l0 k (mkB xs c) c ((0 : Nat) : Int)) (fun k => rfl) (heldByteS_l0 xs 0 [] _ c rfl rfl h0 h1 (by omega))
end Go.Proofs.Ytafmhffapmejpaa.PureFnExactPutText
namespace Go.Proofs.Ytafmhffapmejpaa.Pure
open Go.RowKit Go.Proofs.Ytafmhffapmejpaa.PFnExactPutText Go.Proofs.YtafmhffapmejpaaW.PrintWords Go.Proofs.YtafmhffapmejpaaW.PrintLast Go.Proofs.YtafmhffapmejpaaW.PrintMore Go.Proofs.Ytafmhffapmejpaa.Base Go.Proofs.Ytafmhffapmejpaa.PureFnExactPutText
set_option linter.unusedVariables false
attribute [local irreducible] Go.bits IntKind.wrap shl shr
theorem FnExactPutText (b : List Int) (s : ByteArray) (hb0 : Bytes b) (_ : s.size ≤ 9223372036854775807) : ∃ k, laws_FnExactPutText.f k b s = some true := by
  by_cases h : (b.length : Int) > 1048576
  · exact ⟨0, by rw [laws_FnExactPutText.f, if_pos h]⟩
  by_cases h2 : (s.size : Int) > 1048576
  · exact ⟨0, by rw [laws_FnExactPutText.f, if_neg h, if_pos h2]⟩
  have hc := clip_le s.size
  have hp := putN_len (clip s.size)
  have hl : (b ++ putN (clip s.size) ++ bytesOf s).length ≤ 10000000000 := by rw [List.length_append, List.length_append, bytesOf_length]; omega
  have s1 := spec_putText_ev b s (by omega) (by omega)
  have s2 := putText_ev b s (by omega) (by omega)
  generalize b ++ putN (clip s.size) ++ bytesOf s = r at s1 s2 hl
  apply Ev.rounds (g := fun k => laws_FnExactPutText.f k b s)
  simp only [laws_FnExactPutText.f]
  refine Ev.neg h ?_
  refine Ev.neg h2 ?_
  refine Ev.bind (toByteS_ev b (by omega)) ?_
  refine Ev.bind s1 ?_
  refine Ev.bind (toByteS_ev b (by omega)) ?_
  refine Ev.bind s2 ?_
  refine Ev.bind (eqByteS_ev r (by omega)) ?_
  refine Ev.pos rfl ?_
  refine Ev.bind (toByteS_ev b (by omega)) ?_
  refine Ev.bind (eqByteS_ev b (by omega)) ?_
  refine Ev.pos rfl ?_
  refine Ev.bind (markByteS_ev b 1 (by omega) (by omega)) ?_
  refine Ev.neg (by simp only; omega) ?_
  refine Ev.bind (eqByteS_ev r (by omega)) ?_
  refine Ev.step (fun k => by rw [laws_FnExactPutText.j0, if_neg (by simp)]) ?_
  refine Ev.bind (markByteS_ev r 1 (by omega) (by omega)) ?_
  refine Ev.bind (heldByteS_ev r 1 (by omega) (by omega)) ?_
  refine Ev.neg (by omega) (Ev.pos rfl ?_)
  refine Ev.bind (toByteS_ev b (by omega)) ?_
  refine Ev.bind s2 ?_
  refine Ev.bind (eqByteS_ev r (by omega)) ?_
  refine Ev.pos rfl ?_
  refine Ev.bind (heldByteS_ev r 1 (by omega) (by omega)) ?_
  exact Ev.neg (by omega) (Ev.pos rfl (Ev.now _))
end Go.Proofs.Ytafmhffapmejpaa.Pure
