/- Trimmed by a program of this session (trim.py). Not trusted: Lean checks it. -/
import Derived.Test.YtafmhffapmejpaaTLStampsPFnStampsx4
import Derived.Test.YtafmhffapmejpaaTLStampsBase
namespace Go.Proofs.Ytafmhffapmejpaa.PureFnStamps
open Go.RowKit Go.Proofs.Ytafmhffapmejpaa.PFnStamps Go.Proofs.YtafmhffapmejpaaW.PrintWords Go.Proofs.YtafmhffapmejpaaW.PrintLast Go.Proofs.YtafmhffapmejpaaW.PrintMore Go.Proofs.Ytafmhffapmejpaa.Base
set_option linter.unusedVariables false
attribute [local irreducible] Go.bits IntKind.wrap shl shr
def spec_LessStamp.f (a0_0 : Int) (a0_1 : Int) (a0_2 : Int) (a1_0 : Int) (a1_1 : Int) (a1_2 : Int) : Option (Bool) := if a0_0 = a1_0 then (if a0_1 = a1_1 then (some (decide (a0_2 < a1_2))) else (some (decide (a0_1 < a1_1)))) else (some (decide (a0_0 < a1_0)))
def spec_LatestStamp.l0 : Nat → List (S51) → Int → Int → Int → Int → Option (Int × Int × Int)
 | 0, _, _, _, _, _ => none
 | k + 1, x0, x4, x106000, x106001, x106002 => if x4 < (x0.length : Int) then (if 0 ≤ x4 then ((spec_LessStamp.f x106000 x106001 x106002 ((rd_T51 x0 x4).f0) ((rd_T51 x0 x4).f1) ((rd_T51 x0 x4).f2)).bind fun t107 => (if t107 = true then (spec_LatestStamp.l0 k x0 (wrap64 (x4 + 1)) ((rd_T51 x0 x4).f0) ((rd_T51 x0 x4).f1) ((rd_T51 x0 x4).f2)) else (spec_LatestStamp.l0 k x0 (wrap64 (x4 + 1)) x106000 x106001 x106002))) else (none)) else (some (x106000, x106001, x106002))
def spec_LatestStamp.f (k : Nat) (l0 : List (S51)) : Option (Int × Int × Int) := if (l0.length : Int) = 0 then (some (0, 0, 0)) else (if 0 < (l0.length : Int) then (spec_LatestStamp.l0 k l0 1 ((rd_T51 l0 0).f0) ((rd_T51 l0 0).f1) ((rd_T51 l0 0).f2)) else (none))
def Cur (b : List Int) (i : Int) : Prop := b.length ≤ 1048576 ∧ 0 ≤ i ∧ i ≤ b.length
theorem new_l0 (b : List Int) (hN : b.length ≤ 1048576) (d : Nat) : ∀ (i : Nat) (h : Int), i + d = b.length → ∃ h', Ev (fun k => spec_l1New.l0 k b h (i : Int)) (b, 0, h') := by
 induction d with
 | zero =>
  intro i h hd
  refine ⟨h, Ev.step (f := fun _ => some (b, 0, h)) (fun k => ?_) (Ev.now _)⟩
  rw [spec_l1New.l0, if_neg (by omega)]
 | succ d ih =>
  intro i h hd
  by_cases c : (i : Int) < 4000
  ·obtain ⟨h', e⟩ := ih (i + 1) (Go.bits .and .i64 (wrap64 ((wrap64 ((wrap64 (h * 137)) + (wrap64 (rd b i)))) + 11)) 1073741823) (by omega)
   refine ⟨h', Ev.step (fun k => ?_) e⟩
   rw [spec_l1New.l0, if_pos (by omega), if_pos c, if_pos (by omega), w64s (i := i) (n := b.length) (by omega) (by omega)]
  ·refine ⟨h, Ev.step (f := fun _ => some (b, 0, h)) (fun k => ?_) (Ev.now _)⟩
   rw [spec_l1New.l0, if_pos (by omega), if_neg c]
theorem new_ev (b : List Int) (hN : b.length ≤ 1048576) : ∃ h', Ev (fun k => spec_l1New.f k b) (b, 0, h') ∧ Cur b 0 := by
 obtain ⟨h', e⟩ := new_l0 b hN b.length 0 (wrap64 (378378 + (b.length : Int))) (by omega)
 exact ⟨h', e, hN, by omega, by omega⟩
theorem byte_ok (b : List Int) (i h : Int) (hc : Cur b i) : ∃ x i' h', spec_l1Byte.f b i h = some (x, i', h') ∧ 0 ≤ x ∧ x ≤ 255 ∧ Cur b i' := by
 obtain ⟨c1, c2, c3⟩ := hc
 unfold spec_l1Byte.f
 by_cases c : i < (b.length : Int)
 ·rw [if_pos c, if_pos c2]
  refine ⟨_, _, _, rfl, (and255 _).1, (and255 _).2, c1, ?_⟩
  rw [w64 (by omega) (by omega)]
  omega
 ·rw [if_neg c]
  exact ⟨_, _, _, rfl, (and255 _).1, (and255 _).2, c1, c2, c3⟩
theorem tmod_in {x n : Int} (h0 : 0 ≤ x) (hn : 0 < n) : 0 ≤ Int.tmod x n ∧ Int.tmod x n < n := by
 rw [Int.tmod_eq_emod_of_nonneg h0]
 exact ⟨Int.emod_nonneg _ (by omega), Int.emod_lt_of_pos _ hn⟩
theorem below_ok (b : List Int) (i h n : Int) (hc : Cur b i) : ∃ x i' h', spec_l1Below.f b i h n = some (x, i', h') ∧ 0 ≤ x ∧ (0 < n → x < n) ∧ (n ≤ 0 → x = 0) ∧ Cur b i' := by
 unfold spec_l1Below.f
 by_cases c0 : n ≤ 0
 ·rw [if_pos c0]
  exact ⟨0, i, h, rfl, Int.le_refl _, fun h1 => absurd h1 (by omega), fun _ => rfl, hc⟩
 ·rw [if_neg c0]
  obtain ⟨x, i1, h1, e1, x0, x1, hc1⟩ := byte_ok b i h hc
  by_cases c1 : n ≤ 256
  ·rw [if_pos c1, e1, Option.bind_some, if_neg (by omega)]
   have ht := tmod_in x0 (show 0 < n by omega)
   exact ⟨_, _, _, rfl, ht.1, fun _ => ht.2, fun hq => absurd hq c0, hc1⟩
  ·obtain ⟨y, i2, h2, e2, y0, y1, hc2⟩ := byte_ok b i1 h1 hc1
   obtain ⟨z, i3, h3, e3, z0, z1, hc3⟩ := byte_ok b i2 h2 hc2
   rw [if_neg c1, e1, Option.bind_some, e2, Option.bind_some, e3, Option.bind_some, if_neg (by omega)]
   have w : wrap64 (wrap64 (wrap64 (x * 65536) + wrap64 (y * 256)) + z) = x * 65536 + y * 256 + z := by
    rw [w64 (x := x * 65536) (by omega) (by omega), w64 (x := y * 256) (by omega) (by omega), w64 (x := x * 65536 + y * 256) (by omega) (by omega), w64 (by omega) (by omega)]
   have ht := tmod_in (x := x * 65536 + y * 256 + z) (by omega) (show 0 < n by omega)
   refine ⟨_, _, _, rfl, ?_, fun _ => ?_, fun hq => absurd hq c0, hc3⟩
   ·simp only [w]; exact ht.1
   ·simp only [w]; exact ht.2
theorem int_ok (b : List Int) (i h : Int) (l : List Int) (hl : 0 < l.length) (hc : Cur b i) : ∃ x i' h', spec_l1Int.f b i h l = some (x, i', h') ∧ x ∈ l ∧ Cur b i' := by
 obtain ⟨x, i1, h1, e1, x0, x1, _, hc1⟩ := below_ok b i h (l.length : Int) hc
 have x2 := x1 (by omega)
 unfold spec_l1Int.f
 rw [e1, Option.bind_some, if_pos x0, if_pos x2]
 exact ⟨_, _, _, rfl, rd_mem x0 x2, hc1⟩
theorem stamp_ok (b : List Int) (i h : Int) (hc : Cur b i) : ∃ x y z i' h', spec_l2Draw.f b i h = some (x, y, z, i', h') ∧ Cur b i' ∧ (0 ≤ y ∧ y < 3) := by
 obtain ⟨x, i1, h1, e1, _, hc1⟩ := int_ok b i h [0, 1, 2, 3, 1000000000] (by decide) hc
 obtain ⟨y, i2, h2, e2, y0, y1, _, hc2⟩ := below_ok b i1 h1 3 hc1
 obtain ⟨z, i3, h3, e3, _, _, _, hc3⟩ := below_ok b i2 h2 3 hc2
 unfold spec_l2Draw.f
 rw [e1, Option.bind_some, e2, Option.bind_some, e3, Option.bind_some]
 exact ⟨_, _, _, _, _, rfl, hc3, y0, y1 (by omega)⟩
theorem anyB_ok (b : List Int) (i h : Int) (hc : Cur b i) : ∃ x y z i' h', spec_l2Any.f b i h = some (x, y, z, i', h') ∧ Cur b i' ∧ (y < 9223372036854775807 ∧ -9223372036854775808 ≤ y) := by
 obtain ⟨x, y, z, i1, h1, e1, hc1, hy⟩ := stamp_ok b i h hc
 obtain ⟨n, i2, h2, e2, _, _, _, hc2⟩ := below_ok b i1 h1 10 hc1
 unfold spec_l2Any.f
 rw [e1, Option.bind_some, e2, Option.bind_some]
 by_cases c0 : n = 0
 ·obtain ⟨v, i3, h3, e3, _, hc3⟩ := int_ok b i2 h2 [(-1), 1000000001] (by decide) hc2
  rw [if_pos c0, e3, Option.bind_some]
  exact ⟨_, _, _, _, _, rfl, hc3, by dsimp only; omega⟩
 rw [if_neg c0]
 by_cases c1 : n = 1
 ·obtain ⟨v, i3, h3, e3, hv, hc3⟩ := int_ok b i2 h2 [(-1), 1000000, 1000001] (by decide) hc2
  simp only [List.mem_cons, List.not_mem_nil, or_false] at hv
  rw [if_pos c1, e3, Option.bind_some]
  exact ⟨_, _, _, _, _, rfl, hc3, by dsimp only; omega⟩
 rw [if_neg c1]
 by_cases c2 : n = 2
 ·obtain ⟨v, i3, h3, e3, _, hc3⟩ := int_ok b i2 h2 [(-1), 20, 21] (by decide) hc2
  rw [if_pos c2, e3, Option.bind_some]
  exact ⟨_, _, _, _, _, rfl, hc3, by dsimp only; omega⟩
 ·rw [if_neg c2]
  exact ⟨_, _, _, _, _, rfl, hc2, by dsimp only; omega⟩
def lessSt (a b : S51) : Bool := if a.f0 = b.f0 then if a.f1 = b.f1 then decide (a.f2 < b.f2) else decide (a.f1 < b.f1) else decide (a.f0 < b.f0)
theorem less_eq (a b : S51) : spec_LessStamp.f a.f0 a.f1 a.f2 b.f0 b.f1 b.f2 = some (lessSt a b) ∧ impl_LessStamp.f a.f0 a.f1 a.f2 b.f0 b.f1 b.f2 = some (lessSt a b) := by
 unfold spec_LessStamp.f impl_LessStamp.f lessSt
 constructor <;> (repeat' split) <;> rfl
theorem rdT_at51 {xs : List S51} {i : Nat} {a : S51} {t : List S51} (h : xs.drop i = a :: t) : rd_T51 xs (i : Int) = a := by
 unfold rd_T51; rw [Int.toNat_natCast]; exact (drop_cons' h _).2.1
def lateFrom (s : S51) : List S51 → S51
 | [] => s
 | x :: t => lateFrom (if lessSt s x then x else s) t
def lateOf : List S51 → S51
 | [] => z51
 | x :: t => lateFrom x t
def tri (s : S51) : Int × Int × Int := (s.f0, s.f1, s.f2)
theorem late_l0 (xs : List S51) (hN : xs.length ≤ 4611686018427387904) : ∀ (l : List S51) (i : Nat) (s : S51), 0 < i → xs.drop i = l →
  Ev (fun k => spec_LatestStamp.l0 k xs (i : Int) s.f0 s.f1 s.f2) (tri (lateFrom s l)) ∧ Ev (fun k => impl_LatestStamp.l0 k xs (xs.length : Int) (i : Int) s.f0 s.f1 s.f2) (tri (lateFrom s l))
 | [], i, s, hi, h => by
  have h1 := drop_nil' h
  refine ⟨Ev.step (f := fun _ => some (tri s)) (fun k => ?_) (Ev.now _), Ev.step (f := fun _ => some (tri s)) (fun k => ?_) (Ev.now _)⟩
  ·rw [spec_LatestStamp.l0, if_neg (by omega)]; rfl
  ·rw [impl_LatestStamp.l0, if_neg (by omega)]; rfl
 | a :: t, i, s, hi, h => by
  obtain ⟨h1, _, h3⟩ := drop_cons' h z51
  have hr : Hd (rd_T51 xs (i : Int) = a) := ⟨rdT_at51 h⟩
  have w : Hd (wrap64 ((i : Int) + 1) = ((i + 1 : Nat) : Int)) := ⟨w64s h1 hN⟩
  obtain ⟨i1, i2⟩ := late_l0 xs hN t (i + 1) (if lessSt s a then a else s) (by omega) h3
  rw [lateFrom]
  by_cases c : lessSt s a = true
  ·rw [if_pos c] at i1 i2 ⊢
   refine ⟨Ev.step (fun k => ?_) i1, Ev.step (fun k => ?_) i2⟩
   ·rw [spec_LatestStamp.l0, if_pos (by omega), if_pos (by omega), hr.out, (less_eq s a).1, Option.bind_some, if_pos c, w.out]
   ·rw [impl_LatestStamp.l0, if_pos (by omega), if_pos (by omega), if_pos (by omega), if_neg (by omega), hr.out, (less_eq s a).2, Option.bind_some, if_pos c, w.out]
  ·rw [if_neg c] at i1 i2 ⊢
   refine ⟨Ev.step (fun k => ?_) i1, Ev.step (fun k => ?_) i2⟩
   ·rw [spec_LatestStamp.l0, if_pos (by omega), if_pos (by omega), hr.out, (less_eq s a).1, Option.bind_some, if_neg c, w.out]
   ·rw [impl_LatestStamp.l0, if_pos (by omega), if_pos (by omega), if_pos (by omega), if_neg (by omega), hr.out, (less_eq s a).2, Option.bind_some, if_neg c, w.out]
theorem latest_ev (xs : List S51) (hN : xs.length ≤ 4611686018427387904) : Ev (fun k => spec_LatestStamp.f k xs) (tri (lateOf xs)) ∧ Ev (fun k => impl_LatestStamp.f k xs) (tri (lateOf xs)) := by
 cases xs with
 | nil =>
  refine ⟨Ev.congr (f := fun _ => some (tri z51)) (fun k => ?_) (Ev.now _), Ev.step (f := fun _ => some (tri z51)) (fun k => ?_) (Ev.now _)⟩
  ·rw [spec_LatestStamp.f, if_pos (by simp)]; rfl
  ·rw [impl_LatestStamp.f, impl_LatestStamp.l0, if_neg (by simp)]; rfl
 | cons a t =>
  obtain ⟨i1, i2⟩ := late_l0 (a :: t) hN t 1 a (by omega) rfl
  have hr : rd_T51 (a :: t) 0 = a := rfl
  have w : wrap64 (0 + 1) = ((1 : Nat) : Int) := by rw [w64 (by omega) (by omega)]; rfl
  refine ⟨Ev.congr (fun k => ?_) i1, Ev.step (fun k => ?_) i2⟩
  ·rw [spec_LatestStamp.f, if_neg (by simp only [List.length_cons]; omega), if_pos (by simp only [List.length_cons]; omega), hr]; rfl
  ·rw [impl_LatestStamp.f, impl_LatestStamp.l0, if_pos (by simp only [List.length_cons]; omega), if_pos (by omega), if_pos (by simp only [List.length_cons]; omega), if_pos rfl, hr, w]
theorem l1In_eq (x a b : Int) : spec_l1In.f x a b = some (decide (a ≤ x ∧ x ≤ b)) := by
 unfold spec_l1In.f
 by_cases h : x ≥ a
 ·rw [if_pos h]; simp [show a ≤ x from h]
 ·rw [if_neg h]; simp [show ¬ a ≤ x from h]
theorem in_eq (x a b : Int) : impl_in.f x a b = some (decide (a ≤ x ∧ x ≤ b)) := by
 unfold impl_in.f
 by_cases h : x ≥ a
 ·rw [if_pos h]; simp [show a ≤ x from h]
 ·rw [if_neg h]; simp [show ¬ a ≤ x from h]
def stOk (a b c : Int) : Bool := decide (0 ≤ a ∧ a ≤ 1000000000) && (decide (0 ≤ b ∧ b ≤ 1000000) && decide (0 ≤ c ∧ c ≤ 20))
theorem stampOk_eq (a b c : Int) : spec_StampOk.f a b c = some (stOk a b c) ∧ impl_StampOk.f a b c = some (stOk a b c) := by
 unfold spec_StampOk.f impl_StampOk.f stOk
 simp only [l1In_eq, in_eq, Option.bind_some]
 cases decide (0 ≤ a ∧ a ≤ 1000000000) <;> cases decide (0 ≤ b ∧ b ≤ 1000000) <;> simp
theorem lessSt_iff (a b : S51) : lessSt a b = true ↔ (a.f0 < b.f0 ∨ (a.f0 = b.f0 ∧ (a.f1 < b.f1 ∨ (a.f1 = b.f1 ∧ a.f2 < b.f2)))) := by
 unfold lessSt
 (repeat' split) <;> simp only [decide_eq_true_eq] <;> omega
theorem next_eq (a b c d e : Int) (hb : b < 9223372036854775807 ∧ -9223372036854775808 ≤ b) : ∃ r : S51, spec_NextStamp.f a b c d e = some (r.f0, r.f1, r.f2) ∧ impl_NextStamp.f a b c d e = some (r.f0, r.f1, r.f2) ∧ (r = ⟨a, b, c⟩ ∨ (lessSt ⟨a, b, c⟩ r = true ∧ stOk r.f0 r.f1 r.f2 = true)) := by
 unfold spec_NextStamp.f impl_NextStamp.f
 have w : wrap64 (b + 1) = b + 1 := w64 (by omega) (by omega)
 by_cases h : d ≤ a
 ·rw [if_pos h, if_pos h, w, (stampOk_eq a (b + 1) e).1, (stampOk_eq a (b + 1) e).2, Option.bind_some]
  by_cases c1 : stOk a (b + 1) e = true
  ·rw [if_pos c1]
   exact ⟨⟨a, b + 1, e⟩, rfl, rfl, Or.inr ⟨(lessSt_iff _ _).2 (Or.inr ⟨rfl, Or.inl (by dsimp only; omega)⟩), c1⟩⟩
  ·rw [if_neg c1]
   exact ⟨⟨a, b, c⟩, rfl, rfl, Or.inl rfl⟩
 ·rw [if_neg h, if_neg h, (stampOk_eq d 0 e).1, (stampOk_eq d 0 e).2, Option.bind_some]
  by_cases c1 : stOk d 0 e = true
  ·rw [if_pos c1]
   exact ⟨⟨d, 0, e⟩, rfl, rfl, Or.inr ⟨(lessSt_iff _ _).2 (Or.inl (by dsimp only; omega)), c1⟩⟩
  ·rw [if_neg c1]
   exact ⟨⟨a, b, c⟩, rfl, rfl, Or.inl rfl⟩
theorem late_max : ∀ (l : List S51) (s : S51), (∀ x ∈ s :: l, ¬lessSt (lateFrom s l) x = true) ∧ lateFrom s l ∈ s :: l
 | [], s => ⟨fun x hx => by rw [List.mem_singleton.1 hx, lateFrom, lessSt_iff]; omega, by rw [lateFrom]; exact List.mem_cons_self⟩
 | a :: t, s => by
  rw [lateFrom]
  by_cases c : lessSt s a = true
  ·rw [if_pos c]
   obtain ⟨h1, h2⟩ := late_max t a
   refine ⟨fun x hx => ?_, List.mem_cons_of_mem _ h2⟩
   rcases List.mem_cons.1 hx with rfl | hx
   ·have ha := h1 a List.mem_cons_self
    rw [lessSt_iff] at *
    omega
   ·exact h1 x hx
  ·rw [if_neg c]
   obtain ⟨h1, h2⟩ := late_max t s
   refine ⟨fun x hx => ?_, ?_⟩
   ·rcases List.mem_cons.1 hx with rfl | hx
    ·exact h1 x List.mem_cons_self
    ·rcases List.mem_cons.1 hx with rfl | hx
     ·have hs := h1 s List.mem_cons_self
      rw [lessSt_iff] at *
      omega
     ·exact h1 x (List.mem_cons_of_mem _ hx)
   ·rcases List.mem_cons.1 h2 with h2 | h2
    ·rw [h2]; exact List.mem_cons_self
    ·exact List.mem_cons_of_mem _ (List.mem_cons_of_mem _ h2)
end Go.Proofs.Ytafmhffapmejpaa.PureFnStamps
namespace Go.Proofs.Ytafmhffapmejpaa.Pure
open Go.RowKit Go.Proofs.Ytafmhffapmejpaa.PFnStamps Go.Proofs.YtafmhffapmejpaaW.PrintWords Go.Proofs.YtafmhffapmejpaaW.PrintLast Go.Proofs.YtafmhffapmejpaaW.PrintMore Go.Proofs.Ytafmhffapmejpaa.Base Go.Proofs.Ytafmhffapmejpaa.PureFnStamps
set_option linter.unusedVariables false
attribute [local irreducible] Go.bits IntKind.wrap shl shr
theorem stamps_l0 (xs : List S51) (hN : xs.length ≤ 4611686018427387904) (s : S51) (hs : ∀ x ∈ xs, ¬lessSt s x = true) : ∀ (t : List S51) (i : Nat) (f : Bool), xs.drop i = t → (f = true ∨ s ∈ t) → Ev (fun k => laws_FnStamps.l0 k xs f (i : Int) s.f0 s.f1 s.f2) true
 | [], i, f, h, hf => by
  have h1 := drop_nil' h
  have e : f = true := hf.elim id (fun hc => by cases hc)
  exact Ev.step (f := fun _ => some true) (fun k => by rw [laws_FnStamps.l0, if_neg (by omega), e]) (Ev.now _)
 | a :: t, i, f, h, hf => by
  obtain ⟨h1, _, h3⟩ := drop_cons' h z51
  have hm : a ∈ xs := List.mem_of_mem_drop (by rw [h]; exact List.mem_cons_self)
  have hr : Hd (rd_T51 xs (i : Int) = a) := ⟨rdT_at51 h⟩
  have w : Hd (wrap64 ((i : Int) + 1) = ((i + 1 : Nat) : Int)) := ⟨w64s h1 hN⟩
  have ih := fun f' hf' => stamps_l0 xs hN s hs t (i + 1) f' h3 hf'
  refine Ev.step (f := fun k => (impl_LessStamp.f s.f0 s.f1 s.f2 a.f0 a.f1 a.f2).bind fun t1 => if t1 = true then some false else if f = true then laws_FnStamps.l0 k xs true ((i + 1 : Nat) : Int) s.f0 s.f1 s.f2 else laws_FnStamps.l0 k xs (a.f0 == s.f0 && (a.f1 == s.f1 && (a.f2 == s.f2))) ((i + 1 : Nat) : Int) s.f0 s.f1 s.f2) (fun k => by rw [laws_FnStamps.l0, if_pos (by omega), if_pos (by omega), hr.out, w.out]) (Ev.got (less_eq s a).2 (Ev.neg (hs a hm) ?_))
  by_cases c : f = true
  ·exact Ev.pos c (ih true (Or.inl rfl))
  ·refine Ev.neg c (ih _ ?_)
   rcases List.mem_cons.1 (hf.resolve_left c) with rfl | hm2
   ·exact Or.inl (by simp)
   ·exact Or.inr hm2
theorem drawL_l0 (b : List Int) : ∀ (m : Nat) (acc : List S51) (p h : Int), acc.length + m ≤ 5 → Cur b p → ∃ l, Ev (fun k => spec_DrawLatestStamp.l0 k acc (m : Int) b p h) l ∧ l.length ≤ 5
 | 0, acc, p, h, hm, hc => ⟨acc, Ev.step (f := fun _ => some acc) (fun k => by rw [spec_DrawLatestStamp.l0, if_neg (by omega)]) (Ev.now _), by omega⟩
 | m + 1, acc, p, h, hm, hc => by
  obtain ⟨x, y, z, p1, h1, e1, hc1, _⟩ := stamp_ok b p h hc
  obtain ⟨l, e, hl⟩ := drawL_l0 b m (acc ++ [⟨x, y, z⟩]) p1 h1 (by simp; omega) hc1
  have wm : wrap64 (((m + 1 : Nat) : Int) - 1) = (m : Int) := by rw [w64 (by omega) (by omega)]; omega
  exact ⟨l, Ev.step (fun k => by rw [spec_DrawLatestStamp.l0, if_pos (by omega), e1, Option.bind_some, if_pos (by omega), wm]) e, hl⟩
theorem FnStamps (code : List Int) (h0 : Bytes code) : ∃ k, laws_FnStamps.f k code = some true := by
 apply Ev.rounds (g := fun k => laws_FnStamps.f k code)
 simp only [laws_FnStamps.f, laws_big.f, Option.bind_some]
 by_cases hb : (code.length : Int) > 1048576
 ·exact Ev.pos (decide_eq_true hb) (Ev.now _)
 refine Ev.neg (by simp; omega) ?_
 obtain ⟨g, e0, hc0⟩ := new_ev code (by omega)
 have fin : Ev (fun k => laws_FnStamps.j0 k code false) true := by
  obtain ⟨n, i1, g1, e1, n0, n1, _, hc1⟩ := below_ok code 0 g 5 hc0
  have n2 := n1 (by omega)
  obtain ⟨l, e2, hl⟩ := drawL_l0 code n.toNat [] i1 g1 (by simp; omega) hc1
  rw [show ((n.toNat : Nat) : Int) = n by omega] at e2
  have ed : Ev (fun k => spec_DrawLatestStamp.f k code) l := by
   simp only [spec_DrawLatestStamp.f]
   exact Ev.bind e0 (Ev.got e1 e2)
  refine Ev.step (f := fun k => (spec_DrawLatestStamp.f k code).bind fun t1 => (impl_LatestStamp.f k t1).bind fun t2 => laws_FnStamps.l0 k t1 ((t1.length : Int) == 0) 0 t2.1 t2.2.1 t2.2.2) (fun k => by rw [laws_FnStamps.j0, if_neg (by decide)]) (Ev.bind ed (Ev.bind (latest_ev l (by omega)).2 ?_))
  cases l with
  | nil => exact stamps_l0 [] (by simp) z51 (fun x hx => by cases hx) [] 0 true rfl (Or.inl rfl)
  | cons a t =>
   obtain ⟨q1, q2⟩ := late_max t a
   exact stamps_l0 (a :: t) (by omega) (lateFrom a t) q1 (a :: t) 0 (((a :: t).length : Int) == 0) rfl (Or.inr q2)
 obtain ⟨a, b, c, i1, g1, e1, hc1, hbb⟩ : ∃ a b c i1 g1, spec_l2Any.f code 0 g = some (a, b, c, i1, g1) ∧ Cur code i1 ∧ (b < 9223372036854775807 ∧ -9223372036854775808 ≤ b) := by
  exact anyB_ok code 0 g hc0
 obtain ⟨d, i2, g2, e2, _, hc2⟩ := int_ok code i1 g1 [0, 1, 2, 5, 1000000001, (-1)] (by decide) hc1
 obtain ⟨e, i3, g3, e3, _, hc3⟩ := int_ok code i2 g2 [0, 1, 20, 21, (-1)] (by decide) hc2
 have ed : Ev (fun k => spec_DrawNextStamp.f k code) (a, b, c, d, e) := by
  simp only [spec_DrawNextStamp.f]
  exact Ev.bind e0 (Ev.got e1 (Ev.got e2 (Ev.got e3 (Ev.now _))))
 obtain ⟨r, r1, r2, r3⟩ := next_eq a b c d e hbb
 refine Ev.bind ed (Ev.got r2 (Ev.got r1 (Ev.neg (by simp) ?_)))
 rcases r3 with rfl | ⟨q1, q2⟩
 ·exact Ev.neg (by simp) fin
 ·refine Ev.pos ?_ (Ev.got (less_eq ⟨a, b, c⟩ r).2 (Ev.pos q1 (Ev.got (stampOk_eq r.f0 r.f1 r.f2).2 ?_)))
  ·rw [lessSt_iff] at q1
   simp only [Bool.or_eq_true, Bool.not_eq_true', beq_eq_false_iff_ne, ne_eq]
   dsimp only at q1 ⊢
   omega
  ·rw [q2]
   exact fin
end Go.Proofs.Ytafmhffapmejpaa.Pure
