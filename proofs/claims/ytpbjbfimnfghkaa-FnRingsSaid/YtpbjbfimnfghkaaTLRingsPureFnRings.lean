/- Trimmed by a program of this session (trim.py). Not trusted: Lean checks it. -/
import Derived.Test.YtpbjbfimnfghkaaTLRingsPFnRingsx11
import Derived.Test.YtpbjbfimnfghkaaTLRingsBase
namespace Go.Proofs.Ytpbjbfimnfghkaa.PureFnRings
open Go.RowKit Go.Proofs.Ytpbjbfimnfghkaa.PFnRings Go.Proofs.YtpbjbfimnfghkaaW.PrintWords Go.Proofs.YtpbjbfimnfghkaaW.PrintLast Go.Proofs.YtpbjbfimnfghkaaW.PrintMore Go.Proofs.Ytpbjbfimnfghkaa.Base
set_option linter.unusedVariables false
attribute [local irreducible] Go.bits IntKind.wrap shl shr
def spec_l5Part.l0 : Nat → Int → Int → List Int → Option (Bool)
 | 0, _, _, _ => none
 | k + 1, x1, x5, x243000 => if x5 < (x243000.length : Int) then (if 0 ≤ x5 then (if x5 ≤ (x243000.length : Int) then ((spec_l4Has.f k (x243000.take (x5 : Int).toNat) (rd x243000 x5)).bind fun t245 => (if t245 = true then (some false) else (spec_l5Part.l0 k x1 (wrap64 (x5 + 1)) x243000))) else (none)) else (none)) else (some ((x243000.length : Int) == x1))
def spec_l5Part.f (k : Nat) (l0_0 : List Int) (a1 : Int) : Option (Bool) := spec_l5Part.l0 k a1 0 l0_0
mutual
def spec_RingOk.j0 : Nat → List (S61) → Bool → Int → List (S35) → Option (Bool)
 | 0, _, _, _, _ => none
 | k + 1, x1, x24, x117000, x117001 => if x24 = true then (some false) else (spec_RingOk.l0 k x1 0 x117000 x117001)
def spec_RingOk.l0 : Nat → List (S61) → Int → Int → List (S35) → Option (Bool)
 | 0, _, _, _, _ => none
 | k + 1, x1, x5, x117000, x117001 => if x5 < (x117001.length : Int) then (if 0 ≤ x5 then ((spec_l5Part.f k ((rd_T35 x117001 x5).f0) x117000).bind fun t121 => (if t121 = true then (spec_RingOk.l1 k x1 x5 0 x117000 x117001) else (some false))) else (none)) else (some true)
def spec_RingOk.l1 : Nat → List (S61) → Int → Int → Int → List (S35) → Option (Bool)
 | 0, _, _, _, _, _ => none
 | k + 1, x1, x5, x6, x117000, x117001 => if 0 ≤ x5 then (if x5 < (x117001.length : Int) then (if x6 < (((rd_T35 x117001 x5).f0).length : Int) then (if 0 ≤ x6 then ((spec_DevAt.f k x1 (rd ((rd_T35 x117001 x5).f0) x6)).bind fun bt125 => (if bt125.2.2.2 = true then (spec_RingOk.l1 k x1 x5 (wrap64 (x6 + 1)) x117000 x117001) else (some false))) else (none)) else (spec_RingOk.l0 k x1 (wrap64 (x5 + 1)) x117000 x117001)) else (none)) else (none)
end
def spec_RingOk.f (k : Nat) (a0_0 : Int) (l0_1 : List (S35)) (l1 : List (S61)) : Option (Bool) := (spec_DevsOk.f k l1).bind fun t117 => (if t117 = true then ((spec_l1In.f a0_0 1 5).bind fun t118 => (if t118 = true then ((spec_l1In.f (l0_1.length : Int) 1 64).bind fun t119 => (spec_RingOk.j0 k l1 (!t119) a0_0 l0_1)) else (spec_RingOk.j0 k l1 true a0_0 l0_1))) else (spec_RingOk.j0 k l1 true a0_0 l0_1))
mutual
def spec_ZonesOf.l0 : Nat → List (S61) → List Int → Int → Option (List Int)
 | 0, _, _, _ => none
 | k + 1, x0, x3, x4 => if x4 < (x0.length : Int) then (if 0 ≤ x4 then ((spec_l4Has.f k x3 ((rd_T61 x0 x4).f1)).bind fun t125 => (if t125 = true then (spec_ZonesOf.l0 k x0 x3 (wrap64 (x4 + 1))) else (if x3.length < 17592186044416 then (spec_ZonesOf.l1 k x0 (x3 ++ [(rd_T61 x0 x4).f1]) x4 ((rd_T61 x0 x4).f1) (x3.length : Int)) else (none)))) else (none)) else (some x3)
def spec_ZonesOf.l1 : Nat → List (S61) → List Int → Int → Int → Int → Option (List Int)
 | 0, _, _, _, _, _ => none
 | k + 1, x0, x3, x4, x5, x6 => if x6 > 0 then (if 0 ≤ (wrap64 (x6 - 1)) then (if (wrap64 (x6 - 1)) < (x3.length : Int) then (if (rd x3 (wrap64 (x6 - 1))) > x5 then (if 0 ≤ x6 then (if x6 < (x3.length : Int) then (spec_ZonesOf.l1 k x0 (x3.set (x6 : Int).toNat (rd x3 (wrap64 (x6 - 1)))) x4 x5 (wrap64 (x6 - 1))) else (none)) else (none)) else (if 0 ≤ x6 then (if x6 < (x3.length : Int) then (spec_ZonesOf.l0 k x0 (x3.set (x6 : Int).toNat x5) (wrap64 (x4 + 1))) else (none)) else (none))) else (none)) else (none)) else (if 0 ≤ x6 then (if x6 < (x3.length : Int) then (spec_ZonesOf.l0 k x0 (x3.set (x6 : Int).toNat x5) (wrap64 (x4 + 1))) else (none)) else (none))
end
def spec_ZonesOf.f (k : Nat) (l0 : List (S61)) : Option (List Int) := spec_ZonesOf.l0 k l0 (([] : List Int)) 0
def Cur (b : List Int) (i : Int) : Prop := b.length ≤ 1048576 ∧ 0 ≤ i ∧ i ≤ b.length
theorem new_l0 (b : List Int) (hN : b.length ≤ 1048576) (d : Nat) : ∀ (i : Nat) (h : Int), i + d = b.length → ∃ h', Ev (fun k => spec_l1New.l0 k b h (i : Int)) (b, 0, h') := by
 induction d with
 | zero =>
  intro i h hd
  refine ⟨h, Ev.step (f := fun _ => some (b, 0, h)) (fun k => ?_) (Ev.now _)⟩
  rw [spec_l1New.l0, if_neg (by omega)]
 | succ d ih =>
  intro i h hd
  by_cases c : (i : Int) < 4000
  ·obtain ⟨h', e⟩ := ih (i + 1) (Go.bits .and .i64 (wrap64 ((wrap64 ((wrap64 (h * 137)) + (wrap64 (rd b i)))) + 11)) 1073741823) (by omega)
   refine ⟨h', Ev.step (fun k => ?_) e⟩
   rw [spec_l1New.l0, if_pos (by omega), if_pos c, if_pos (by omega), w64s (i := i) (n := b.length) (by omega) (by omega)]
  ·refine ⟨h, Ev.step (f := fun _ => some (b, 0, h)) (fun k => ?_) (Ev.now _)⟩
   rw [spec_l1New.l0, if_pos (by omega), if_neg c]
theorem new_ev (b : List Int) (hN : b.length ≤ 1048576) : ∃ h', Ev (fun k => spec_l1New.f k b) (b, 0, h') ∧ Cur b 0 := by
 obtain ⟨h', e⟩ := new_l0 b hN b.length 0 (wrap64 (378378 + (b.length : Int))) (by omega)
 exact ⟨h', e, hN, by omega, by omega⟩
theorem byte_ok (b : List Int) (i h : Int) (hc : Cur b i) : ∃ x i' h', spec_l1Byte.f b i h = some (x, i', h') ∧ 0 ≤ x ∧ x ≤ 255 ∧ Cur b i' := by
 obtain ⟨c1, c2, c3⟩ := hc
 unfold spec_l1Byte.f
 by_cases c : i < (b.length : Int)
 ·rw [if_pos c, if_pos c2]
  refine ⟨_, _, _, rfl, (and255 _).1, (and255 _).2, c1, ?_⟩
  rw [w64 (by omega) (by omega)]
  omega
 ·rw [if_neg c]
  exact ⟨_, _, _, rfl, (and255 _).1, (and255 _).2, c1, c2, c3⟩
theorem tmod_in {x n : Int} (h0 : 0 ≤ x) (hn : 0 < n) : 0 ≤ Int.tmod x n ∧ Int.tmod x n < n := by
 rw [Int.tmod_eq_emod_of_nonneg h0]
 exact ⟨Int.emod_nonneg _ (by omega), Int.emod_lt_of_pos _ hn⟩
theorem below_ok (b : List Int) (i h n : Int) (hc : Cur b i) : ∃ x i' h', spec_l1Below.f b i h n = some (x, i', h') ∧ 0 ≤ x ∧ (0 < n → x < n) ∧ (n ≤ 0 → x = 0) ∧ Cur b i' := by
 unfold spec_l1Below.f
 by_cases c0 : n ≤ 0
 ·rw [if_pos c0]
  exact ⟨0, i, h, rfl, Int.le_refl _, fun h1 => absurd h1 (by omega), fun _ => rfl, hc⟩
 ·rw [if_neg c0]
  obtain ⟨x, i1, h1, e1, x0, x1, hc1⟩ := byte_ok b i h hc
  by_cases c1 : n ≤ 256
  ·rw [if_pos c1, e1, Option.bind_some, if_neg (by omega)]
   have ht := tmod_in x0 (show 0 < n by omega)
   exact ⟨_, _, _, rfl, ht.1, fun _ => ht.2, fun hq => absurd hq c0, hc1⟩
  ·obtain ⟨y, i2, h2, e2, y0, y1, hc2⟩ := byte_ok b i1 h1 hc1
   obtain ⟨z, i3, h3, e3, z0, z1, hc3⟩ := byte_ok b i2 h2 hc2
   rw [if_neg c1, e1, Option.bind_some, e2, Option.bind_some, e3, Option.bind_some, if_neg (by omega)]
   have w : wrap64 (wrap64 (wrap64 (x * 65536) + wrap64 (y * 256)) + z) = x * 65536 + y * 256 + z := by
    rw [w64 (x := x * 65536) (by omega) (by omega), w64 (x := y * 256) (by omega) (by omega), w64 (x := x * 65536 + y * 256) (by omega) (by omega), w64 (by omega) (by omega)]
   have ht := tmod_in (x := x * 65536 + y * 256 + z) (by omega) (show 0 < n by omega)
   refine ⟨_, _, _, rfl, ?_, fun _ => ?_, fun hq => absurd hq c0, hc3⟩
   ·simp only [w]; exact ht.1
   ·simp only [w]; exact ht.2
theorem int_ok (b : List Int) (i h : Int) (l : List Int) (hl : 0 < l.length) (hc : Cur b i) : ∃ x i' h', spec_l1Int.f b i h l = some (x, i', h') ∧ x ∈ l ∧ Cur b i' := by
 obtain ⟨x, i1, h1, e1, x0, x1, _, hc1⟩ := below_ok b i h (l.length : Int) hc
 have x2 := x1 (by omega)
 unfold spec_l1Int.f
 rw [e1, Option.bind_some, if_pos x0, if_pos x2]
 exact ⟨_, _, _, rfl, rd_mem x0 x2, hc1⟩
theorem l1In_eq (x a b : Int) : spec_l1In.f x a b = some (decide (a ≤ x ∧ x ≤ b)) := by
 unfold spec_l1In.f
 by_cases h : x ≥ a
 ·rw [if_pos h]; simp [show a ≤ x from h]
 ·rw [if_neg h]; simp [show ¬ a ≤ x from h]
theorem in_eq (x a b : Int) : impl_in.f x a b = some (decide (a ≤ x ∧ x ≤ b)) := by
 unfold impl_in.f
 by_cases h : x ≥ a
 ·rw [if_pos h]; simp [show a ≤ x from h]
 ·rw [if_neg h]; simp [show ¬ a ≤ x from h]
theorem rdT_at61 {xs : List S61} {i : Nat} {a : S61} {t : List S61} (h : xs.drop i = a :: t) : rd_T61 xs (i : Int) = a := by
 unfold rd_T61; rw [Int.toNat_natCast]; exact (drop_cons' h _).2.1
def devsFrom (len : Nat) : Option S61 → List S61 → Bool
 | _, [] => decide (1 ≤ (len : Int) ∧ (len : Int) ≤ 12)
 | pr, d :: t => if (0 ≤ d.f0 ∧ d.f0 ≤ 20) ∧ (0 ≤ d.f1 ∧ d.f1 ≤ 20) ∧ (1 ≤ d.f2 ∧ d.f2 ≤ 1000) ∧ (∀ q, pr = some q → q.f0 < d.f0) then devsFrom len (some d) t else false
def devsOk (l : List S61) : Bool := devsFrom l.length none l
theorem devsOk_l0 (xs : List S61) (hN : xs.length ≤ 4611686018427387904) : ∀ (l : List S61) (i : Nat) (pr : Option S61), xs.drop i = l → (∀ q, pr = some q ↔ ∃ j, i = j + 1 ∧ xs[j]? = some q) →
  Ev (fun k => spec_DevsOk.l0 k xs (i : Int)) (devsFrom xs.length pr l) ∧ Ev (fun k => impl_DevsOk.l0 k xs xs (xs.length : Int) (i : Int)) (devsFrom xs.length pr l)
 | [], i, pr, h, hp => by
  have h1 := drop_nil' h
  refine ⟨Ev.step (f := fun _ => some (devsFrom xs.length pr [])) (fun k => ?_) (Ev.now _), Ev.step (f := fun _ => some (devsFrom xs.length pr [])) (fun k => ?_) (Ev.now _)⟩
  ·rw [spec_DevsOk.l0, if_neg (by omega), l1In_eq]; rfl
  ·rw [impl_DevsOk.l0, if_neg (by omega), in_eq]; rfl
 | d :: t, i, pr, h, hp => by
  obtain ⟨h1, hd, h3⟩ := drop_cons' h z61
  have hdi : xs[i]? = some d := by
   rw [List.getElem?_eq_getElem h1]; rw [List.getD_eq_getElem?_getD, List.getElem?_eq_getElem h1] at hd; exact congrArg some hd
  have hr : Hd (rd_T61 xs (i : Int) = d) := ⟨rdT_at61 h⟩
  have w : Hd (wrap64 ((i : Int) + 1) = ((i + 1 : Nat) : Int)) := ⟨w64s h1 hN⟩
  obtain ⟨i1, i2⟩ := devsOk_l0 xs hN t (i + 1) (some d) h3 (fun q => ⟨fun e => ⟨i, rfl, by rw [← e]; exact hdi⟩, fun ⟨j, e1, e2⟩ => by
   have : j = i := by omega
   subst this
   rw [hdi] at e2; exact e2⟩)
  rw [devsFrom]
  by_cases c0 : 0 ≤ d.f0 ∧ d.f0 ≤ 20
  ·by_cases c1 : 0 ≤ d.f1 ∧ d.f1 ≤ 20
   ·by_cases c2 : 1 ≤ d.f2 ∧ d.f2 ≤ 1000
    ·rcases Nat.eq_zero_or_pos i with hi | hi
     ·have hn : pr = none := by
       cases pr with
       | none => rfl
       | some q => obtain ⟨j, e1, _⟩ := (hp q).1 rfl; omega
      rw [if_pos ⟨c0, c1, c2, fun q e => by rw [hn] at e; cases e⟩]
      refine ⟨Ev.step (fun k => ?_) i1, Ev.step (fun k => ?_) i2⟩
      ·rw [spec_DevsOk.l0, if_pos (by omega), if_pos (by omega), hr.out, l1In_eq, Option.bind_some, decide_eq_true c0, if_pos rfl, l1In_eq, Option.bind_some, decide_eq_true c1, if_pos rfl, l1In_eq, Option.bind_some, decide_eq_true c2, if_pos rfl, if_neg (by omega), w.out]
      ·rw [impl_DevsOk.l0, if_pos (by omega), if_pos (by omega), if_pos (by omega), hr.out, in_eq, Option.bind_some, decide_eq_true c0, if_pos rfl, in_eq, Option.bind_some, decide_eq_true c1, if_pos rfl, in_eq, Option.bind_some, decide_eq_true c2, if_pos rfl, if_neg (by omega), w.out]
     ·obtain ⟨j, rfl⟩ : ∃ j, i = j + 1 := ⟨i - 1, by omega⟩
      have hj : j < xs.length := by omega
      have hq : pr = some xs[j] := (hp xs[j]).2 ⟨j, rfl, List.getElem?_eq_getElem hj⟩
      have wm : Hd (wrap64 (((j + 1 : Nat) : Int) - 1) = (j : Int)) := ⟨by rw [w64 (by omega) (by omega)]; omega⟩
      have hrj : Hd (rd_T61 xs (j : Int) = xs[j]) := ⟨by
       unfold rd_T61; rw [Int.toNat_natCast, List.getD_eq_getElem?_getD, List.getElem?_eq_getElem hj]; rfl⟩
      by_cases c3 : xs[j].f0 < d.f0
      ·rw [if_pos ⟨c0, c1, c2, fun q e => by rw [hq] at e; injection e with e; rw [← e]; exact c3⟩]
       refine ⟨Ev.step (fun k => ?_) i1, Ev.step (fun k => ?_) i2⟩
       ·rw [spec_DevsOk.l0, if_pos (by omega), if_pos (by omega), hr.out, l1In_eq, Option.bind_some, decide_eq_true c0, if_pos rfl, l1In_eq, Option.bind_some, decide_eq_true c1, if_pos rfl, l1In_eq, Option.bind_some, decide_eq_true c2, if_pos rfl, if_pos (by omega), wm.out, if_pos (by omega), if_pos (by omega), hrj.out, if_neg (by omega), w.out]
       ·rw [impl_DevsOk.l0, if_pos (by omega), if_pos (by omega), if_pos (by omega), hr.out, in_eq, Option.bind_some, decide_eq_true c0, if_pos rfl, in_eq, Option.bind_some, decide_eq_true c1, if_pos rfl, in_eq, Option.bind_some, decide_eq_true c2, if_pos rfl, if_pos (by omega), wm.out, if_pos (by omega), if_pos (by omega), hrj.out, if_neg (by omega), w.out]
      ·rw [if_neg (fun hc => c3 (hc.2.2.2 _ hq))]
       refine ⟨Ev.step (f := fun _ => some false) (fun k => ?_) (Ev.now _), Ev.step (f := fun _ => some false) (fun k => ?_) (Ev.now _)⟩
       ·rw [spec_DevsOk.l0, if_pos (by omega), if_pos (by omega), hr.out, l1In_eq, Option.bind_some, decide_eq_true c0, if_pos rfl, l1In_eq, Option.bind_some, decide_eq_true c1, if_pos rfl, l1In_eq, Option.bind_some, decide_eq_true c2, if_pos rfl, if_pos (by omega), wm.out, if_pos (by omega), if_pos (by omega), hrj.out, if_pos (by omega)]
       ·rw [impl_DevsOk.l0, if_pos (by omega), if_pos (by omega), if_pos (by omega), hr.out, in_eq, Option.bind_some, decide_eq_true c0, if_pos rfl, in_eq, Option.bind_some, decide_eq_true c1, if_pos rfl, in_eq, Option.bind_some, decide_eq_true c2, if_pos rfl, if_pos (by omega), wm.out, if_pos (by omega), if_pos (by omega), hrj.out, if_pos (by omega)]
    ·rw [if_neg (fun hc => c2 hc.2.2.1)]
     refine ⟨Ev.step (f := fun _ => some false) (fun k => ?_) (Ev.now _), Ev.step (f := fun _ => some false) (fun k => ?_) (Ev.now _)⟩
     ·rw [spec_DevsOk.l0, if_pos (by omega), if_pos (by omega), hr.out, l1In_eq, Option.bind_some, decide_eq_true c0, if_pos rfl, l1In_eq, Option.bind_some, decide_eq_true c1, if_pos rfl, l1In_eq, Option.bind_some, decide_eq_false c2, if_neg (by decide)]
     ·rw [impl_DevsOk.l0, if_pos (by omega), if_pos (by omega), if_pos (by omega), hr.out, in_eq, Option.bind_some, decide_eq_true c0, if_pos rfl, in_eq, Option.bind_some, decide_eq_true c1, if_pos rfl, in_eq, Option.bind_some, decide_eq_false c2, if_neg (by decide)]
   ·rw [if_neg (fun hc => c1 hc.2.1)]
    refine ⟨Ev.step (f := fun _ => some false) (fun k => ?_) (Ev.now _), Ev.step (f := fun _ => some false) (fun k => ?_) (Ev.now _)⟩
    ·rw [spec_DevsOk.l0, if_pos (by omega), if_pos (by omega), hr.out, l1In_eq, Option.bind_some, decide_eq_true c0, if_pos rfl, l1In_eq, Option.bind_some, decide_eq_false c1, if_neg (by decide)]
    ·rw [impl_DevsOk.l0, if_pos (by omega), if_pos (by omega), if_pos (by omega), hr.out, in_eq, Option.bind_some, decide_eq_true c0, if_pos rfl, in_eq, Option.bind_some, decide_eq_false c1, if_neg (by decide)]
  ·rw [if_neg (fun hc => c0 hc.1)]
   refine ⟨Ev.step (f := fun _ => some false) (fun k => ?_) (Ev.now _), Ev.step (f := fun _ => some false) (fun k => ?_) (Ev.now _)⟩
   ·rw [spec_DevsOk.l0, if_pos (by omega), if_pos (by omega), hr.out, l1In_eq, Option.bind_some, decide_eq_false c0, if_neg (by decide)]
   ·rw [impl_DevsOk.l0, if_pos (by omega), if_pos (by omega), if_pos (by omega), hr.out, in_eq, Option.bind_some, decide_eq_false c0, if_neg (by decide)]
theorem devsOk_ev (xs : List S61) (hN : xs.length ≤ 4611686018427387904) : Ev (fun k => spec_DevsOk.f k xs) (devsOk xs) ∧ Ev (fun k => impl_DevsOk.f k xs) (devsOk xs) :=
 devsOk_l0 xs hN xs 0 none rfl (fun q => ⟨fun e => (by cases e), fun ⟨j, e, _⟩ => (by omega)⟩)
theorem devsFrom_ok (n : Nat) (h1 : 1 ≤ n) (h2 : n ≤ 12) : ∀ (l : List S61) (pr : Option S61), (∀ d ∈ l, (0 ≤ d.f0 ∧ d.f0 ≤ 20) ∧ (0 ≤ d.f1 ∧ d.f1 ≤ 20) ∧ (1 ≤ d.f2 ∧ d.f2 ≤ 1000)) → l.Pairwise (fun a b => a.f0 < b.f0) → (∀ q, pr = some q → ∀ d ∈ l, q.f0 < d.f0) → devsFrom n pr l = true
 | [], _, _, _, _ => by rw [devsFrom]; exact decide_eq_true (by omega)
 | d :: t, pr, hb, hp, hq => by
  rw [List.pairwise_cons] at hp
  have hd := hb d List.mem_cons_self
  rw [devsFrom, if_pos ⟨hd.1, hd.2.1, hd.2.2, fun q e => hq q e d List.mem_cons_self⟩]
  exact devsFrom_ok n h1 h2 t (some d) (fun x hx => hb x (List.mem_cons_of_mem _ hx)) hp.2 (fun q e x hx => by injection e with e; subst e; exact hp.1 x hx)
theorem draw4_l0 (b : List Int) (zones : Int) (hz : 1 ≤ zones ∧ zones ≤ 4) : ∀ (m : Nat) (acc : List S61) (id p h : Int), acc.length + m ≤ 6 → Cur b p → (id ≤ 2 * (acc.length : Int) ∧ 0 ≤ id) → (∀ d ∈ acc, (0 ≤ d.f0 ∧ d.f0 ≤ id) ∧ (0 ≤ d.f1 ∧ d.f1 ≤ 20) ∧ (1 ≤ d.f2 ∧ d.f2 ≤ 1000)) → acc.Pairwise (fun a b => a.f0 < b.f0) →
  ∃ (l : List S61) (p' h' : Int), Ev (fun k => spec_l4Draw.l0 k acc zones id (m : Int) b p h) (l, p', h') ∧ l.length = acc.length + m ∧ (∀ d ∈ l, (0 ≤ d.f0 ∧ d.f0 ≤ 20) ∧ (0 ≤ d.f1 ∧ d.f1 ≤ 20) ∧ (1 ≤ d.f2 ∧ d.f2 ≤ 1000)) ∧ l.Pairwise (fun a b => a.f0 < b.f0) ∧ Cur b p'
 | 0, acc, id, p, h, hm, hc, hi, ha, hp => by
  refine ⟨acc, p, h, Ev.step (f := fun _ => some (acc, p, h)) (fun k => ?_) (Ev.now _), rfl, fun d hd => ?_, hp, hc⟩
  ·rw [spec_l4Draw.l0, if_neg (by omega)]
  ·have := ha d hd
   omega
 | m + 1, acc, id, p, h, hm, hc, hi, ha, hp => by
  obtain ⟨x, p1, h1, e1, hx, hc1⟩ := int_ok b p h [1, 1, 2] (by decide) hc
  obtain ⟨y, p2, h2, e2, y0, y1, _, hc2⟩ := below_ok b p1 h1 zones hc1
  obtain ⟨z, p3, h3, e3, hz3, hc3⟩ := int_ok b p2 h2 [1, 1, 1, 2, 10, 100] (by decide) hc2
  have hx2 : 1 ≤ x ∧ x ≤ 2 := by
   simp only [List.mem_cons, List.not_mem_nil, or_false] at hx
   omega
  have hz2 : 1 ≤ z ∧ z ≤ 100 := by
   simp only [List.mem_cons, List.not_mem_nil, or_false] at hz3
   omega
  have y2 := y1 (by omega)
  have w : Hd (wrap64 (id + x) = id + x) := ⟨w64 (by omega) (by omega)⟩
  have wm : Hd (wrap64 (((m + 1 : Nat) : Int) - 1) = (m : Int)) := ⟨by rw [w64 (by omega) (by omega)]; omega⟩
  obtain ⟨l, p', h', e, q1, q2, q3, q4⟩ := draw4_l0 b zones hz m (acc ++ [⟨id + x, y, z⟩]) (id + x) p3 h3 (by simp; omega) hc3 (by simp; omega) (fun d hd => by
   rcases List.mem_append.1 hd with hd | hd
   ·have := ha d hd; omega
   ·rw [List.mem_singleton.1 hd]; dsimp only; omega) (by
   rw [List.pairwise_append]
   refine ⟨hp, List.pairwise_singleton _ _, fun a ha' c hc' => ?_⟩
   have := ha a ha'
   rw [List.mem_singleton.1 hc']; dsimp only; omega)
  refine ⟨l, p', h', Ev.step (fun k => ?_) e, by rw [q1]; simp; omega, q2, q3, q4⟩
  rw [spec_l4Draw.l0, if_pos (by omega), e1, Option.bind_some, e2, Option.bind_some, e3, Option.bind_some, if_pos (by omega), w.out, wm.out]
theorem draw4_ok (b : List Int) (i h : Int) (hc : Cur b i) : ∃ (l : List S61) (i' h' : Int), Ev (fun k => spec_l4Draw.f k b i h) (l, i', h') ∧ 2 ≤ l.length ∧ l.length ≤ 6 ∧ devsOk l = true ∧ Cur b i' := by
 obtain ⟨x, p1, h1, e1, x0, x1, _, hc1⟩ := below_ok b i h 4 hc
 obtain ⟨y, p2, h2, e2, y0, y1, _, hc2⟩ := below_ok b p1 h1 5 hc1
 have x2 := x1 (by omega)
 have y2 := y1 (by omega)
 obtain ⟨l, p', h', e, q1, q2, q3, q4⟩ := draw4_l0 b (1 + x) (by omega) (2 + y).toNat [] 0 p2 h2 (by simp; omega) hc2 (by simp) (by simp) (by simp)
 rw [List.length_nil, Nat.zero_add] at q1
 refine ⟨l, p', h', ?_, by omega, by omega, ?_, q4⟩
 ·simp only [spec_l4Draw.f]
  refine Ev.got e1 (Ev.got e2 ?_)
  dsimp only
  rw [w64 (x := 1 + x) (by omega) (by omega), w64 (x := 2 + y) (by omega) (by omega)]
  rw [show ((2 + y).toNat : Int) = 2 + y by omega] at e
  exact e
 ·exact devsFrom_ok l.length (by omega) (by omega) l none q2 q3 (fun q e => by cases e)
theorem any4_ok (b : List Int) (i h : Int) (hc : Cur b i) : ∃ (l : List S61) (i' h' : Int), Ev (fun k => spec_l4Any.f k b i h) (l, i', h') ∧ l.length ≤ 6 ∧ Cur b i' := by
 obtain ⟨l, p1, h1, e1, l0, l1, _, hc1⟩ := draw4_ok b i h hc
 obtain ⟨x, p2, h2, e2, x0, x1, _, hc2⟩ := below_ok b p1 h1 (l.length : Int) hc1
 obtain ⟨y, p3, h3, e3, y0, y1, _, hc3⟩ := below_ok b p2 h2 12 hc2
 have x2 := x1 (by omega)
 simp only [spec_l4Any.f]
 by_cases c0 : y = 0
 ·obtain ⟨z, p4, h4, e4, _, hc4⟩ := int_ok b p3 h3 [(-1), 0, 20, 21] (by decide) hc3
  exact ⟨_, _, _, Ev.bind e1 (Ev.got e2 (Ev.got e3 (Ev.pos c0 (Ev.got e4 (Ev.pos x0 (Ev.pos x2 (Ev.now _))))))), by rw [List.length_set]; exact l1, hc4⟩
 by_cases c1 : y = 1
 ·obtain ⟨z, p4, h4, e4, _, hc4⟩ := int_ok b p3 h3 [(-1), 20, 21] (by decide) hc3
  exact ⟨_, _, _, Ev.bind e1 (Ev.got e2 (Ev.got e3 (Ev.neg c0 (Ev.pos c1 (Ev.got e4 (Ev.pos x0 (Ev.pos x2 (Ev.now _)))))))), by rw [List.length_set]; exact l1, hc4⟩
 by_cases c2 : y = 2
 ·obtain ⟨z, p4, h4, e4, _, hc4⟩ := int_ok b p3 h3 [0, 1000, 1001] (by decide) hc3
  exact ⟨_, _, _, Ev.bind e1 (Ev.got e2 (Ev.got e3 (Ev.neg c0 (Ev.neg c1 (Ev.pos c2 (Ev.got e4 (Ev.pos x0 (Ev.pos x2 (Ev.now _))))))))), by rw [List.length_set]; exact l1, hc4⟩
 by_cases c3 : y = 3
 ·exact ⟨_, _, _, Ev.bind e1 (Ev.got e2 (Ev.got e3 (Ev.neg c0 (Ev.neg c1 (Ev.neg c2 (Ev.pos c3 (Ev.pos (Int.natCast_nonneg _) (Ev.now _)))))))), by rw [List.length_take]; omega, hc3⟩
 ·exact ⟨_, _, _, Ev.bind e1 (Ev.got e2 (Ev.got e3 (Ev.neg c0 (Ev.neg c1 (Ev.neg c2 (Ev.neg c3 (Ev.now _))))))), l1, hc3⟩
theorem drawBuild_ev (b : List Int) (hN : b.length ≤ 1048576) : ∃ (l : List S61) (n reps : Int), Ev (fun k => spec_DrawBuild.f k b) (l, n, reps) ∧ l.length ≤ 6 := by
 obtain ⟨g, e0, hc0⟩ := new_ev b hN
 obtain ⟨l, i1, h1, e1, hl, hc1⟩ := any4_ok b 0 g hc0
 obtain ⟨n, i2, h2, e2, _, hc2⟩ := int_ok b i1 h1 [4, 8, 1, 16, 0, 64, 65] (by decide) hc1
 obtain ⟨m, i3, h3, e3, _, hc3⟩ := int_ok b i2 h2 [1, 2, 3, 2, 3, 5, 6, 0] (by decide) hc2
 refine ⟨l, n, m, ?_, hl⟩
 simp only [spec_DrawBuild.f]
 exact Ev.bind e0 (Ev.bind e1 (Ev.got e2 (Ev.got e3 (Ev.now _))))
def devAt (id : Int) : List S61 → Int × Int × Int × Bool
 | [] => (0, 0, 0, false)
 | d :: t => if d.f0 = id then (d.f0, d.f1, d.f2, true) else devAt id t
theorem devAt_l0s (xs : List S61) (id : Int) (hN : xs.length ≤ 4611686018427387904) : ∀ (l : List S61) (i : Nat), xs.drop i = l → Ev (fun k => spec_DevAt.l0 k xs id (i : Int)) (devAt id l)
 | [], i, h => by
  have h1 := drop_nil' h
  refine Ev.step (f := fun _ => some (0, 0, 0, false)) (fun k => ?_) (Ev.now _)
  rw [spec_DevAt.l0, if_neg (by omega)]
 | a :: t, i, h => by
  obtain ⟨h1, _, h3⟩ := drop_cons' h z61
  have ih := devAt_l0s xs id hN t (i + 1) h3
  refine Ev.step (f := fun k => if a.f0 = id then some (a.f0, a.f1, a.f2, true) else spec_DevAt.l0 k xs id ((i + 1 : Nat) : Int)) (fun k => ?_) ?_
  ·rw [spec_DevAt.l0, if_pos (by omega), if_pos (by omega), rdT_at61 h, w64s h1 hN]
  ·by_cases c : a.f0 = id
   ·rw [devAt, if_pos c]; exact Ev.pos c (Ev.now _)
   ·rw [devAt, if_neg c]; exact Ev.neg c ih
theorem devAt_l0i (xs : List S61) (id : Int) (hN : xs.length ≤ 4611686018427387904) : ∀ (l : List S61) (i : Nat), xs.drop i = l → Ev (fun k => impl_DevAt.l0 k id xs (xs.length : Int) (i : Int)) (devAt id l)
 | [], i, h => by
  have h1 := drop_nil' h
  refine Ev.step (f := fun _ => some (0, 0, 0, false)) (fun k => ?_) (Ev.now _)
  rw [impl_DevAt.l0, if_neg (by omega)]
 | a :: t, i, h => by
  obtain ⟨h1, _, h3⟩ := drop_cons' h z61
  have ih := devAt_l0i xs id hN t (i + 1) h3
  refine Ev.step (f := fun k => if a.f0 = id then some (a.f0, a.f1, a.f2, true) else impl_DevAt.l0 k id xs (xs.length : Int) ((i + 1 : Nat) : Int)) (fun k => ?_) ?_
  ·rw [impl_DevAt.l0, if_pos (by omega), if_pos (by omega), if_pos (by omega), rdT_at61 h, w64s h1 hN]
  ·by_cases c : a.f0 = id
   ·rw [devAt, if_pos c]; exact Ev.pos c (Ev.now _)
   ·rw [devAt, if_neg c]; exact Ev.neg c ih
theorem devAt_ev (xs : List S61) (id : Int) (hN : xs.length ≤ 4611686018427387904) : Ev (fun k => spec_DevAt.f k xs id) (devAt id xs) ∧ Ev (fun k => impl_DevAt.f k xs id) (devAt id xs) :=
 ⟨devAt_l0s xs id hN xs 0 rfl, devAt_l0i xs id hN xs 0 rfl⟩
def hasI : List Int → Int → Bool
 | [], _ => false
 | a :: t, x => if a = x then true else hasI t x
theorem hasI_iff (l : List Int) (x : Int) : hasI l x = true ↔ x ∈ l := by
 induction l with
 | nil => simp [hasI]
 | cons a t ih =>
  rw [hasI, List.mem_cons]
  by_cases h : a = x
  ·rw [if_pos h]; simp [h]
  ·rw [if_neg h, ih]
   exact ⟨Or.inr, fun hc => hc.elim (fun e => absurd e.symm h) id⟩
theorem l4Has_l0 (xs : List Int) (x : Int) (hN : xs.length ≤ 4611686018427387904) : ∀ (l : List Int) (i : Nat), xs.drop i = l → Ev (fun k => spec_l4Has.l0 k xs x (i : Int)) (hasI l x)
 | [], i, h => by
  have h1 := drop_nil' h
  refine Ev.step (f := fun _ => some false) (fun k => ?_) (Ev.now _)
  rw [spec_l4Has.l0, if_neg (by omega)]
 | a :: t, i, h => by
  obtain ⟨h1, _, h3⟩ := drop_cons' h 0
  refine Ev.step (f := fun k => if a = x then some true else spec_l4Has.l0 k xs x ((i + 1 : Nat) : Int)) (fun k => ?_) ?_
  ·rw [spec_l4Has.l0, if_pos (by omega), if_pos (by omega), rd_at h, w64s h1 hN]
  ·by_cases c : a = x
   ·rw [hasI, if_pos c]; exact Ev.pos c (Ev.now _)
   ·rw [hasI, if_neg c]; exact Ev.neg c (l4Has_l0 xs x hN t (i + 1) h3)
theorem l4Has_ev (xs : List Int) (x : Int) (hN : xs.length ≤ 4611686018427387904) : Ev (fun k => spec_l4Has.f k xs x) (hasI xs x) := l4Has_l0 xs x hN xs 0 rfl
theorem hasInt_l0 (xs : List Int) (x : Int) (hN : xs.length ≤ 4611686018427387904) : ∀ (l : List Int) (i : Nat), xs.drop i = l → Ev (fun k => impl_hasInt.l0 k x xs (xs.length : Int) (i : Int)) (hasI l x)
 | [], i, h => by
  have h1 := drop_nil' h
  refine Ev.step (f := fun _ => some false) (fun k => ?_) (Ev.now _)
  rw [impl_hasInt.l0, if_neg (by omega)]
 | a :: t, i, h => by
  obtain ⟨h1, _, h3⟩ := drop_cons' h 0
  refine Ev.step (f := fun k => if a = x then some true else impl_hasInt.l0 k x xs (xs.length : Int) ((i + 1 : Nat) : Int)) (fun k => ?_) ?_
  ·rw [impl_hasInt.l0, if_pos (by omega), if_pos (by omega), if_pos (by omega), rd_at h, w64s h1 hN]
  ·by_cases c : a = x
   ·rw [hasI, if_pos c]; exact Ev.pos c (Ev.now _)
   ·rw [hasI, if_neg c]; exact Ev.neg c (hasInt_l0 xs x hN t (i + 1) h3)
theorem hasInt_ev (xs : List Int) (x : Int) (hN : xs.length ≤ 4611686018427387904) : Ev (fun k => impl_hasInt.f k xs x) (hasI xs x) := hasInt_l0 xs x hN xs 0 rfl
def zoneOf (l : List S61) (id : Int) : Option Int := if (devAt id l).2.2.2 = true then some (devAt id l).2.1 else none
def zonesFrom (l : List S61) : List Int → List Int → List Int
 | acc, [] => acc
 | acc, id :: t => match zoneOf l id with
  | none => zonesFrom l acc t
  | some z => if hasI acc z = true then zonesFrom l acc t else zonesFrom l (acc ++ [z]) t
theorem zones_l0 (l : List S61) (ids : List Int) (hl : l.length ≤ 1048576) (hN : ids.length ≤ 1048576) : ∀ (t : List Int) (i : Nat) (acc : List Int), ids.drop i = t → acc.length ≤ i →
  Ev (fun k => spec_l5Zones.l0 k ids l acc (i : Int)) (zonesFrom l acc t) ∧ Ev (fun k => impl_zonesIn.l0 k l acc ids (ids.length : Int) (i : Int)) (zonesFrom l acc t)
 | [], i, acc, h, ha => by
  have h1 := drop_nil' h
  refine ⟨Ev.step (f := fun _ => some acc) (fun k => ?_) (Ev.now _), Ev.step (f := fun _ => some acc) (fun k => ?_) (Ev.now _)⟩
  ·rw [spec_l5Zones.l0, if_neg (by omega)]
  ·rw [impl_zonesIn.l0, if_neg (by omega)]
 | id :: t, i, acc, h, ha => by
  obtain ⟨h1, _, h3⟩ := drop_cons' h 0
  have hr : Hd (rd ids (i : Int) = id) := ⟨rd_at h⟩
  have w : Hd (wrap64 ((i : Int) + 1) = ((i + 1 : Nat) : Int)) := ⟨w64s h1 (by omega)⟩
  obtain ⟨d1, d2⟩ := devAt_ev l id (by omega)
  have ih := fun acc' (ha' : acc'.length ≤ i + 1) => zones_l0 l ids hl hN t (i + 1) acc' h3 ha'
  rw [zonesFrom, zoneOf]
  by_cases c : (devAt id l).2.2.2 = true
  ·simp only [if_pos c]
   by_cases c2 : hasI acc (devAt id l).2.1 = true
   ·rw [if_pos c2]
    refine ⟨Ev.step (fun k => by rw [spec_l5Zones.l0, if_pos (by omega), if_pos (by omega), hr.out, w.out]) ?_, Ev.step (fun k => by rw [impl_zonesIn.l0, if_pos (by omega), if_pos (by omega), if_pos (by omega), hr.out, w.out]) ?_⟩
    ·exact Ev.bind d1 (Ev.pos c (Ev.bind (l4Has_ev acc _ (by omega)) (Ev.pos c2 (ih acc (by omega)).1)))
    ·exact Ev.bind d2 (Ev.pos c (Ev.bind (hasInt_ev acc _ (by omega)) (Ev.pos c2 (ih acc (by omega)).2)))
   ·rw [if_neg c2]
    refine ⟨Ev.step (fun k => by rw [spec_l5Zones.l0, if_pos (by omega), if_pos (by omega), hr.out, w.out]) ?_, Ev.step (fun k => by rw [impl_zonesIn.l0, if_pos (by omega), if_pos (by omega), if_pos (by omega), hr.out, w.out]) ?_⟩
    ·exact Ev.bind d1 (Ev.pos c (Ev.bind (l4Has_ev acc _ (by omega)) (Ev.neg c2 (Ev.pos (by omega) (ih _ (by simp; omega)).1))))
    ·exact Ev.bind d2 (Ev.pos c (Ev.bind (hasInt_ev acc _ (by omega)) (Ev.neg c2 (Ev.pos (by omega) (ih _ (by simp; omega)).2))))
  ·simp only [if_neg c]
   refine ⟨Ev.step (fun k => by rw [spec_l5Zones.l0, if_pos (by omega), if_pos (by omega), hr.out, w.out]) ?_, Ev.step (fun k => by rw [impl_zonesIn.l0, if_pos (by omega), if_pos (by omega), if_pos (by omega), hr.out, w.out]) ?_⟩
   ·exact Ev.bind d1 (Ev.neg c (ih acc (by omega)).1)
   ·exact Ev.bind d2 (Ev.neg c (ih acc (by omega)).2)
def zonesOf (ids : List Int) (l : List S61) : List Int := zonesFrom l [] ids
theorem zones_ev (ids : List Int) (l : List S61) (hN : ids.length ≤ 1048576) (hl : l.length ≤ 1048576) : Ev (fun k => spec_l5Zones.f k ids l) (zonesOf ids l) ∧ Ev (fun k => impl_zonesIn.f k ids l) (zonesOf ids l) :=
 zones_l0 l ids hl hN ids 0 [] rfl (Nat.le_refl _)
theorem zonesFrom_len (l : List S61) : ∀ (t acc : List Int), (zonesFrom l acc t).length ≤ acc.length + t.length
 | [], acc => by rw [zonesFrom]; simp
 | id :: t, acc => by
  rw [zonesFrom]
  rw [List.length_cons]
  split
  ·have := zonesFrom_len l t acc; omega
  ·split
   ·have := zonesFrom_len l t acc; omega
   ·next z _ _ => have := zonesFrom_len l t (acc ++ [z]); rw [List.length_append] at this; simp at this; omega
theorem rdT_at35 {xs : List S35} {i : Nat} {a : S35} {t : List S35} (h : xs.drop i = a :: t) : rd_T35 xs (i : Int) = a := by
 unfold rd_T35; rw [Int.toNat_natCast]; exact (drop_cons' h _).2.1
def cntI (id : Int) : List Int → Nat
 | [] => 0
 | a :: t => (if a = id then 1 else 0) + cntI id t
def loadOf (id : Int) : List S35 → Nat
 | [] => 0
 | p :: t => cntI id p.f0 + loadOf id t
def lens : List S35 → Nat
 | [] => 0
 | p :: t => p.f0.length + lens t
theorem cntI_le (id : Int) : ∀ l : List Int, cntI id l ≤ l.length
 | [] => Nat.le_refl _
 | a :: t => by
  have := cntI_le id t
  rw [cntI, List.length_cons]
  split <;> omega
theorem loadOf_le (id : Int) : ∀ l : List S35, loadOf id l ≤ lens l
 | [] => Nat.le_refl _
 | p :: t => by
  have h1 := loadOf_le id t
  have h2 := cntI_le id p.f0
  rw [loadOf, lens]
  omega
theorem lens_le (m : Nat) : ∀ l : List S35, (∀ x ∈ l, x.f0.length ≤ m) → lens l ≤ l.length * m
 | [], _ => Nat.zero_le _
 | p :: t, h => by
  have h1 := lens_le m t (fun x hx => h x (List.mem_cons_of_mem _ hx))
  have h2 := h p List.mem_cons_self
  rw [lens, List.length_cons, Nat.succ_mul]
  omega
theorem spec_loadOf_l1 (ps : List S35) (p : S35) (id reps : Int) (i : Nat) (hi : i < ps.length) (hp : rd_T35 ps (i : Int) = p) (hN : p.f0.length ≤ 4611686018427387904) (r : Int) :
  ∀ (l : List Int) (j : Nat) (n : Nat), p.f0.drop j = l → n + l.length ≤ 4611686018427387904 → Ev (fun k => spec_LoadOf.l0 k id ((n + cntI id l : Nat) : Int) (wrap64 ((i : Int) + 1)) reps ps) r → Ev (fun k => spec_LoadOf.l1 k id (n : Int) (i : Int) (j : Int) reps ps) r
 | [], j, n, h, hn, hr => by
  have h1 := drop_nil' h
  refine Ev.step (fun k => ?_) hr
  rw [spec_LoadOf.l1, if_pos (by omega), if_pos (by omega), hp, if_neg (by omega)]
  rfl
 | a :: t, j, n, h, hn, hr => by
  obtain ⟨h1, _, h3⟩ := drop_cons' h 0
  rw [List.length_cons] at hn
  have hrd : Hd (rd p.f0 (j : Int) = a) := ⟨rd_at h⟩
  have w : Hd (wrap64 ((j : Int) + 1) = ((j + 1 : Nat) : Int)) := ⟨w64s h1 hN⟩
  have wn : Hd (wrap64 ((n : Int) + 1) = ((n + 1 : Nat) : Int)) := ⟨w64s (n := n + 1) (by omega) (by omega)⟩
  by_cases c : a = id
  ·rw [cntI, if_pos c] at hr
   refine Ev.step (fun k => ?_) (spec_loadOf_l1 ps p id reps i hi hp hN r t (j + 1) (n + 1) h3 (by omega) (by rw [show n + 1 + cntI id t = n + (1 + cntI id t) by omega]; exact hr))
   rw [spec_LoadOf.l1, if_pos (by omega), if_pos (by omega), hp, if_pos (by omega), if_pos (by omega), hrd.out, if_pos c, w.out, wn.out]
  ·rw [cntI, if_neg c, Nat.zero_add] at hr
   refine Ev.step (fun k => ?_) (spec_loadOf_l1 ps p id reps i hi hp hN r t (j + 1) n h3 (by omega) hr)
   rw [spec_LoadOf.l1, if_pos (by omega), if_pos (by omega), hp, if_pos (by omega), if_pos (by omega), hrd.out, if_neg c, w.out]
theorem spec_loadOf_l0 (ps : List S35) (id reps : Int) (hN : ps.length ≤ 4611686018427387904) : ∀ (l : List S35) (i n : Nat), ps.drop i = l → n + lens l ≤ 4611686018427387904 → Ev (fun k => spec_LoadOf.l0 k id (n : Int) (i : Int) reps ps) ((n + loadOf id l : Nat) : Int)
 | [], i, n, h, hn => by
  have h1 := drop_nil' h
  refine Ev.step (f := fun _ => some (n : Int)) (fun k => ?_) (Ev.now _)
  rw [spec_LoadOf.l0, if_neg (by omega)]
 | p :: t, i, n, h, hn => by
  obtain ⟨h1, _, h3⟩ := drop_cons' h z35
  rw [lens] at hn
  have hc := cntI_le id p.f0
  have ih := spec_loadOf_l0 ps id reps hN t (i + 1) (n + cntI id p.f0) h3 (by omega)
  have hr : Ev (fun k => spec_LoadOf.l1 k id (n : Int) (i : Int) ((0 : Nat) : Int) reps ps) ((n + loadOf id (p :: t) : Nat) : Int) :=
   spec_loadOf_l1 ps p id reps i h1 (rdT_at35 h) (by omega) _ p.f0 0 n rfl (by omega) (by rw [w64s h1 hN, loadOf, ← Nat.add_assoc]; exact ih)
  refine Ev.step (fun k => ?_) hr
  rw [spec_LoadOf.l0, if_pos (by omega)]
  rfl
theorem spec_loadOf_ev (a : Int) (ps : List S35) (id : Int) (hN : ps.length ≤ 4611686018427387904) (hl : lens ps ≤ 4611686018427387904) : Ev (fun k => spec_LoadOf.f k a ps id) ((loadOf id ps : Nat) : Int) := by
 have h := spec_loadOf_l0 ps id a hN ps 0 0 rfl (by omega)
 rw [Nat.zero_add] at h
 exact h
theorem impl_loadOf_l1 (ps : List S35) (xs : List Int) (id : Int) (n0 i : Int) (hN : xs.length ≤ 4611686018427387904) (r : Int) :
  ∀ (l : List Int) (j : Nat) (n : Nat), xs.drop j = l → n + l.length ≤ 4611686018427387904 → Ev (fun k => impl_LoadOf.l0 k id ((n + cntI id l : Nat) : Int) ps n0 (wrap64 (i + 1))) r → Ev (fun k => impl_LoadOf.l1 k id (n : Int) ps n0 i xs (xs.length : Int) (j : Int)) r
 | [], j, n, h, hn, hr => by
  have h1 := drop_nil' h
  refine Ev.step (fun k => ?_) hr
  rw [impl_LoadOf.l1, if_neg (by omega)]
  rfl
 | a :: t, j, n, h, hn, hr => by
  obtain ⟨h1, _, h3⟩ := drop_cons' h 0
  rw [List.length_cons] at hn
  have hrd : Hd (rd xs (j : Int) = a) := ⟨rd_at h⟩
  have w : Hd (wrap64 ((j : Int) + 1) = ((j + 1 : Nat) : Int)) := ⟨w64s h1 hN⟩
  have wn : Hd (wrap64 ((n : Int) + 1) = ((n + 1 : Nat) : Int)) := ⟨w64s (n := n + 1) (by omega) (by omega)⟩
  by_cases c : a = id
  ·rw [cntI, if_pos c] at hr
   refine Ev.step (fun k => ?_) (impl_loadOf_l1 ps xs id n0 i hN r t (j + 1) (n + 1) h3 (by omega) (by rw [show n + 1 + cntI id t = n + (1 + cntI id t) by omega]; exact hr))
   rw [impl_LoadOf.l1, if_pos (by omega), if_pos (by omega), if_pos (by omega), hrd.out, if_pos c, w.out, wn.out]
  ·rw [cntI, if_neg c, Nat.zero_add] at hr
   refine Ev.step (fun k => ?_) (impl_loadOf_l1 ps xs id n0 i hN r t (j + 1) n h3 (by omega) hr)
   rw [impl_LoadOf.l1, if_pos (by omega), if_pos (by omega), if_pos (by omega), hrd.out, if_neg c, w.out]
theorem impl_loadOf_l0 (ps : List S35) (id : Int) (hN : ps.length ≤ 4611686018427387904) : ∀ (l : List S35) (i n : Nat), ps.drop i = l → n + lens l ≤ 4611686018427387904 → Ev (fun k => impl_LoadOf.l0 k id (n : Int) ps (ps.length : Int) (i : Int)) ((n + loadOf id l : Nat) : Int)
 | [], i, n, h, hn => by
  have h1 := drop_nil' h
  refine Ev.step (f := fun _ => some (n : Int)) (fun k => ?_) (Ev.now _)
  rw [impl_LoadOf.l0, if_neg (by omega)]
 | p :: t, i, n, h, hn => by
  obtain ⟨h1, _, h3⟩ := drop_cons' h z35
  rw [lens] at hn
  have hc := cntI_le id p.f0
  have ih := impl_loadOf_l0 ps id hN t (i + 1) (n + cntI id p.f0) h3 (by omega)
  have hr : Ev (fun k => impl_LoadOf.l1 k id (n : Int) ps (ps.length : Int) (i : Int) p.f0 (p.f0.length : Int) ((0 : Nat) : Int)) ((n + loadOf id (p :: t) : Nat) : Int) :=
   impl_loadOf_l1 ps p.f0 id _ _ (by omega) _ p.f0 0 n rfl (by omega) (by rw [w64s h1 hN, loadOf, ← Nat.add_assoc]; exact ih)
  refine Ev.step (fun k => ?_) hr
  rw [impl_LoadOf.l0, if_pos (by omega), if_pos (by omega), if_pos (by omega), rdT_at35 h]
  rfl
theorem impl_loadOf_ev (a : Int) (ps : List S35) (id : Int) (hN : ps.length ≤ 4611686018427387904) (hl : lens ps ≤ 4611686018427387904) : Ev (fun k => impl_LoadOf.f k a ps id) ((loadOf id ps : Nat) : Int) := by
 have h := impl_loadOf_l0 ps id hN ps 0 0 rfl (by omega)
 rw [Nat.zero_add] at h
 exact h
theorem devsFrom_mem (n : Nat) : ∀ (l : List S61) (pr : Option S61), devsFrom n pr l = true → ∀ d ∈ l, (0 ≤ d.f0 ∧ d.f0 ≤ 20) ∧ (0 ≤ d.f1 ∧ d.f1 ≤ 20) ∧ (1 ≤ d.f2 ∧ d.f2 ≤ 1000)
 | [], _, _, d, hd => by cases hd
 | a :: t, pr, h, d, hd => by
  rw [devsFrom] at h
  by_cases c : (0 ≤ a.f0 ∧ a.f0 ≤ 20) ∧ (0 ≤ a.f1 ∧ a.f1 ≤ 20) ∧ (1 ≤ a.f2 ∧ a.f2 ≤ 1000) ∧ (∀ q, pr = some q → q.f0 < a.f0)
  ·rw [if_pos c] at h
   rcases List.mem_cons.1 hd with rfl | hd
   ·exact ⟨c.1, c.2.1, c.2.2.1⟩
   ·exact devsFrom_mem n t (some a) h d hd
  ·rw [if_neg c] at h
   cases h
theorem wmul {n : Nat} {w : Int} (hn : n ≤ 1099511627776) (h0 : 1 ≤ w) (h1 : w ≤ 1000) : wrap64 (((n : Int) + 1) * w) = ((n : Int) + 1) * w := by
 have h2 : ((n : Int) + 1) * w ≤ 1099511627777 * 1000 := Int.mul_le_mul (by omega) h1 (by omega) (by omega)
 have h3 : 0 ≤ ((n : Int) + 1) * w := Int.mul_nonneg (by omega) (by omega)
 exact w64 (by omega) (by omega)
theorem wone {n : Nat} (hn : n ≤ 1099511627776) : wrap64 ((n : Int) + 1) = (n : Int) + 1 := w64 (by omega) (by omega)
abbrev lighter (r : List S35) (d q : S61) : Prop := ((loadOf d.f0 r : Nat) + 1 : Int) * q.f2 < ((loadOf q.f0 r : Nat) + 1 : Int) * d.f2
def bestFrom (r : List S35) (prt zs : List Int) : Option S61 → Bool → List S61 → Option S61
 | b, _, [] => b
 | b, fr, d :: t => if hasI prt d.f0 = true then bestFrom r prt zs b fr t else
  match b with
  | none => bestFrom r prt zs (some d) (!hasI zs d.f1) t
  | some q => if hasI zs d.f1 = false ∧ fr = false then bestFrom r prt zs (some d) true t
   else if (!hasI zs d.f1) = fr ∧ lighter r d q then bestFrom r prt zs (some d) fr t else bestFrom r prt zs (some q) fr t
theorem bestFrom_has {r : List S35} {prt zs : List Int} {b : Option S61} {fr : Bool} {d : S61} {t : List S61} (c : hasI prt d.f0 = true) : bestFrom r prt zs b fr (d :: t) = bestFrom r prt zs b fr t := by
 conv => lhs; unfold bestFrom
 rw [if_pos c]
theorem bestFrom_none {r : List S35} {prt zs : List Int} {fr : Bool} {d : S61} {t : List S61} (c : ¬hasI prt d.f0 = true) : bestFrom r prt zs none fr (d :: t) = bestFrom r prt zs (some d) (!hasI zs d.f1) t := by
 conv => lhs; unfold bestFrom
 rw [if_neg c]
theorem bestFrom_some {r : List S35} {prt zs : List Int} {q : S61} {fr : Bool} {d : S61} {t : List S61} (c : ¬hasI prt d.f0 = true) : bestFrom r prt zs (some q) fr (d :: t) = (if hasI zs d.f1 = false ∧ fr = false then bestFrom r prt zs (some d) true t
   else if (!hasI zs d.f1) = fr ∧ lighter r d q then bestFrom r prt zs (some d) fr t else bestFrom r prt zs (some q) fr t) := by
 conv => lhs; unfold bestFrom
 rw [if_neg c]
def idOf : Option S61 → Int
 | none => -1
 | some q => q.f0
theorem spec_best_l0 (xs : List S61) (hok : devsOk xs = true) (hN : xs.length ≤ 1048576) (r : List S35) (hr1 : r.length ≤ 1048576) (hr2 : lens r ≤ 1099511627776) (prt zs : List Int) (hp : prt.length ≤ 1048576) (hz : zs.length ≤ 1048576) (a : Int) :
  ∀ (t : List S61) (i : Nat) (b : Option S61) (fr : Bool) (x8 : Int), xs.drop i = t → (b = none ∧ x8 = -1 ∨ ∃ (q : S61) (j : Nat), b = some q ∧ x8 = (j : Int) ∧ xs[j]? = some q) →
   Ev (fun k => spec_Best.l0 k xs zs x8 fr (i : Int) a r prt) (idOf (bestFrom r prt zs b fr t))
 | [], i, b, fr, x8, h, hb => by
  have h1 := drop_nil' h
  refine Ev.step (f := fun k => spec_Best.j1 k xs zs x8 fr (i : Int) false a r prt) (fun k => by rw [spec_Best.l0, if_neg (by omega)]) ?_
  rcases hb with ⟨rfl, rfl⟩ | ⟨q, j, rfl, rfl, hj⟩
  ·exact Ev.step (f := fun _ => some (-1)) (fun k => by rw [spec_Best.j1, if_neg (by decide), if_pos (by omega)]) (Ev.now _)
  ·have hjl : j < xs.length := (List.getElem?_eq_some_iff.1 hj).1
   have hrd : rd_T61 xs (j : Int) = q := by unfold rd_T61; rw [Int.toNat_natCast, List.getD_eq_getElem?_getD, hj]; rfl
   exact Ev.step (f := fun _ => some q.f0) (fun k => by rw [spec_Best.j1, if_neg (by decide), if_neg (by omega), if_pos (by omega), if_pos (by omega), hrd]) (Ev.now _)
 | d :: t, i, b, fr, x8, h, hb => by
  obtain ⟨h1, hd0, h3⟩ := drop_cons' h z61
  have hdi : xs[i]? = some d := by
   rw [List.getElem?_eq_getElem h1]; rw [List.getD_eq_getElem?_getD, List.getElem?_eq_getElem h1] at hd0; exact congrArg some hd0
  have hr : Hd (rd_T61 xs (i : Int) = d) := ⟨rdT_at61 h⟩
  have w : Hd (wrap64 ((i : Int) + 1) = ((i + 1 : Nat) : Int)) := ⟨w64s h1 (by omega)⟩
  have hdb := devsFrom_mem xs.length xs none hok d (List.mem_of_mem_drop (by rw [h]; exact List.mem_cons_self))
  have ih := fun b' fr' x' hb' => spec_best_l0 xs hok hN r hr1 hr2 prt zs hp hz a t (i + 1) b' fr' x' h3 hb'
  have ihd := fun fr' => ih (some d) fr' (i : Int) (Or.inr ⟨d, i, rfl, rfl, hdi⟩)
  refine Ev.step (f := fun k => (spec_DevsOk.f k xs).bind fun t1 => spec_Best.j1 k xs zs x8 fr (i : Int) t1 a r prt) (fun k => by rw [spec_Best.l0, if_pos (by omega)]) (Ev.bind (devsOk_ev xs (by omega)).1 ?_)
  rw [hok]
  refine Ev.step (f := fun k => (spec_l4Has.f k prt d.f0).bind fun t1 => if t1 = true then spec_Best.l0 k xs zs x8 fr ((i + 1 : Nat) : Int) a r prt else (spec_l4Has.f k zs d.f1).bind fun t2 => if x8 < 0 then spec_Best.j2 k xs zs x8 fr (i : Int) (!t2) true a r prt d.f0 d.f1 d.f2 else if t2 = true then spec_Best.j2 k xs zs x8 fr (i : Int) (!t2) false a r prt d.f0 d.f1 d.f2 else spec_Best.j2 k xs zs x8 fr (i : Int) (!t2) (!fr) a r prt d.f0 d.f1 d.f2) (fun k => by rw [spec_Best.j1, if_pos rfl, if_pos (by omega), if_pos (by omega), hr.out, w.out]) ?_
  refine Ev.bind (l4Has_ev prt d.f0 (by omega)) ?_
  by_cases c : hasI prt d.f0 = true
  ·rw [bestFrom_has c]
   exact Ev.pos c (ih b fr x8 hb)
  refine Ev.neg c (Ev.bind (l4Has_ev zs d.f1 (by omega)) ?_)
  have take : ∀ is : Bool, Ev (fun k => spec_Best.j2 k xs zs x8 fr (i : Int) is true a r prt d.f0 d.f1 d.f2) (idOf (bestFrom r prt zs (some d) is t)) := fun is =>
   Ev.step (f := fun k => spec_Best.l0 k xs zs (i : Int) is ((i + 1 : Nat) : Int) a r prt) (fun k => by rw [spec_Best.j2, if_pos rfl, w.out]) (ihd is)
  rcases hb with ⟨rfl, rfl⟩ | ⟨q, j, rfl, rfl, hj⟩
  ·rw [bestFrom_none c]
   exact Ev.pos (by omega) (take _)
  ·have hjl : j < xs.length := (List.getElem?_eq_some_iff.1 hj).1
   have hrd : Hd (rd_T61 xs (j : Int) = q) := ⟨by unfold rd_T61; rw [Int.toNat_natCast, List.getD_eq_getElem?_getD, hj]; rfl⟩
   have hqb := devsFrom_mem xs.length xs none hok q (List.mem_of_getElem? hj)
   have ihq := ih (some q) fr (j : Int) (Or.inr ⟨q, j, rfl, rfl, hj⟩)
   have ld := loadOf_le d.f0 r
   have lq := loadOf_le q.f0 r
   have m1 : Hd (wrap64 (wrap64 (((loadOf d.f0 r : Nat) : Int) + 1) * q.f2) = (((loadOf d.f0 r : Nat) : Int) + 1) * q.f2) := ⟨by rw [wone (by omega)]; exact wmul (by omega) (by omega) (by omega)⟩
   have m2 : Hd (wrap64 (wrap64 (((loadOf q.f0 r : Nat) : Int) + 1) * d.f2) = (((loadOf q.f0 r : Nat) : Int) + 1) * d.f2) := ⟨by rw [wone (by omega)]; exact wmul (by omega) (by omega) (by omega)⟩
   have cmp : ∀ is : Bool, Ev (fun k => spec_Best.j2 k xs zs (j : Int) fr (i : Int) is false a r prt d.f0 d.f1 d.f2) (idOf (if is = fr ∧ lighter r d q then bestFrom r prt zs (some d) fr t else bestFrom r prt zs (some q) fr t)) := by
    intro is
    refine Ev.step (f := fun k => if (is == fr) = true then (spec_LoadOf.f k a r d.f0).bind fun t1 => if 0 ≤ (j : Int) then if (j : Int) < (xs.length : Int) then (spec_LoadOf.f k a r q.f0).bind fun t2 => if wrap64 (wrap64 (t1 + 1) * q.f2) < wrap64 (wrap64 (t2 + 1) * d.f2) then spec_Best.l0 k xs zs (i : Int) fr ((i + 1 : Nat) : Int) a r prt else spec_Best.l0 k xs zs (j : Int) fr ((i + 1 : Nat) : Int) a r prt else none else none else spec_Best.l0 k xs zs (j : Int) fr ((i + 1 : Nat) : Int) a r prt) (fun k => by rw [spec_Best.j2, if_neg (by decide), hrd.out, w.out]) ?_
    by_cases e : is = fr
    ·refine Ev.pos (by rw [e, beq_self_eq_true]) (Ev.bind (spec_loadOf_ev a r d.f0 (by omega) (by omega)) (Ev.pos (by omega) (Ev.pos (by omega) (Ev.bind (spec_loadOf_ev a r q.f0 (by omega) (by omega)) ?_))))
     rw [m1.out, m2.out]
     by_cases e2 : lighter r d q
     ·rw [if_pos ⟨e, e2⟩]
      exact Ev.pos e2 (ihd fr)
     ·rw [if_neg (fun hc => e2 hc.2)]
      exact Ev.neg e2 ihq
    ·rw [if_neg (fun hc => e hc.1)]
     exact Ev.neg (by rw [beq_iff_eq]; exact e) ihq
   refine Ev.neg (by omega) ?_
   rw [bestFrom_some c]
   generalize hasI zs d.f1 = hz1 at *
   cases hz1 with
   | true =>
    rw [if_neg (fun hc => by cases hc.1)]
    exact Ev.pos rfl (cmp _)
   | false =>
    refine Ev.neg (by decide) ?_
    cases fr with
    | true =>
     rw [if_neg (fun hc => by cases hc.2)]
     exact cmp _
    | false =>
     rw [if_pos ⟨rfl, rfl⟩]
     exact take _
theorem impl_best_l0 (xs : List S61) (hok : devsOk xs = true) (hN : xs.length ≤ 1048576) (r : List S35) (hr1 : r.length ≤ 1048576) (hr2 : lens r ≤ 1099511627776) (prt zs : List Int) (hp : prt.length ≤ 1048576) (hz : zs.length ≤ 1048576) (a : Int) :
  ∀ (t : List S61) (i : Nat) (b : Option S61) (fr : Bool) (ld y0 y1 y2 : Int), xs.drop i = t → (b = none ∧ y0 = -1 ∨ ∃ q : S61, b = some q ∧ y0 = q.f0 ∧ y1 = q.f1 ∧ y2 = q.f2 ∧ ld = ((loadOf q.f0 r : Nat) : Int) + 1 ∧ q ∈ xs) →
   Ev (fun k => impl_Best.l0 k zs ld fr xs (xs.length : Int) (i : Int) a r prt y0 y1 y2) (idOf (bestFrom r prt zs b fr t))
 | [], i, b, fr, ld, y0, y1, y2, h, hb => by
  have h1 := drop_nil' h
  have e : idOf b = y0 := by
   rcases hb with ⟨rfl, rfl⟩ | ⟨q, rfl, rfl, _⟩ <;> rfl
  refine Ev.step (f := fun _ => some y0) (fun k => by rw [impl_Best.l0, if_neg (by omega)]) ?_
  rw [bestFrom, e]
  exact Ev.now _
 | d :: t, i, b, fr, ld, y0, y1, y2, h, hb => by
  obtain ⟨h1, hd0, h3⟩ := drop_cons' h z61
  have hr : Hd (rd_T61 xs (i : Int) = d) := ⟨rdT_at61 h⟩
  have w : Hd (wrap64 ((i : Int) + 1) = ((i + 1 : Nat) : Int)) := ⟨w64s h1 (by omega)⟩
  have hdm : d ∈ xs := List.mem_of_mem_drop (by rw [h]; exact List.mem_cons_self)
  have hdb := devsFrom_mem xs.length xs none hok d hdm
  have ldd := loadOf_le d.f0 r
  have wd : Hd (wrap64 (((loadOf d.f0 r : Nat) : Int) + 1) = ((loadOf d.f0 r : Nat) : Int) + 1) := ⟨wone (by omega)⟩
  have ih := fun b' fr' ld' y0' y1' y2' hb' => impl_best_l0 xs hok hN r hr1 hr2 prt zs hp hz a t (i + 1) b' fr' ld' y0' y1' y2' h3 hb'
  have ihd := fun fr' => ih (some d) fr' (((loadOf d.f0 r : Nat) : Int) + 1) d.f0 d.f1 d.f2 (Or.inr ⟨d, rfl, rfl, rfl, rfl, rfl, hdm⟩)
  refine Ev.step (f := fun k => (impl_hasInt.f k prt d.f0).bind fun t1 => if t1 = true then impl_Best.l0 k zs ld fr xs (xs.length : Int) ((i + 1 : Nat) : Int) a r prt y0 y1 y2 else (impl_LoadOf.f k a r d.f0).bind fun t2 => (impl_hasInt.f k zs d.f1).bind fun t3 => if y0 < 0 then impl_Best.l0 k zs (wrap64 (t2 + 1)) (!t3) xs (xs.length : Int) ((i + 1 : Nat) : Int) a r prt d.f0 d.f1 d.f2 else if t3 = true then (if ((!t3) == fr) = true then (if wrap64 (wrap64 (t2 + 1) * y2) < wrap64 (ld * d.f2) then impl_Best.l0 k zs (wrap64 (t2 + 1)) (!t3) xs (xs.length : Int) ((i + 1 : Nat) : Int) a r prt d.f0 d.f1 d.f2 else impl_Best.l0 k zs ld fr xs (xs.length : Int) ((i + 1 : Nat) : Int) a r prt y0 y1 y2) else impl_Best.l0 k zs ld fr xs (xs.length : Int) ((i + 1 : Nat) : Int) a r prt y0 y1 y2) else (if fr = true then (if ((!t3) == fr) = true then (if wrap64 (wrap64 (t2 + 1) * y2) < wrap64 (ld * d.f2) then impl_Best.l0 k zs (wrap64 (t2 + 1)) (!t3) xs (xs.length : Int) ((i + 1 : Nat) : Int) a r prt d.f0 d.f1 d.f2 else impl_Best.l0 k zs ld fr xs (xs.length : Int) ((i + 1 : Nat) : Int) a r prt y0 y1 y2) else impl_Best.l0 k zs ld fr xs (xs.length : Int) ((i + 1 : Nat) : Int) a r prt y0 y1 y2) else impl_Best.l0 k zs (wrap64 (t2 + 1)) (!t3) xs (xs.length : Int) ((i + 1 : Nat) : Int) a r prt d.f0 d.f1 d.f2)) (fun k => by rw [impl_Best.l0, if_pos (by omega), if_pos (by omega), if_pos (by omega), hr.out, w.out]) ?_
  refine Ev.bind (hasInt_ev prt d.f0 (by omega)) ?_
  by_cases c : hasI prt d.f0 = true
  ·rw [bestFrom_has c]
   exact Ev.pos c (ih b fr ld y0 y1 y2 hb)
  refine Ev.neg c (Ev.bind (impl_loadOf_ev a r d.f0 (by omega) (by omega)) (Ev.bind (hasInt_ev zs d.f1 (by omega)) ?_))
  rw [wd.out]
  rcases hb with ⟨rfl, rfl⟩ | ⟨q, rfl, rfl, rfl, rfl, rfl, hq⟩
  ·rw [bestFrom_none c]
   exact Ev.pos (by omega) (ihd _)
  ·have hqb := devsFrom_mem xs.length xs none hok q hq
   have lq := loadOf_le q.f0 r
   have ihq := ih (some q) fr (((loadOf q.f0 r : Nat) : Int) + 1) q.f0 q.f1 q.f2 (Or.inr ⟨q, rfl, rfl, rfl, rfl, rfl, hq⟩)
   rw [show wrap64 ((((loadOf d.f0 r : Nat) : Int) + 1) * q.f2) = (((loadOf d.f0 r : Nat) : Int) + 1) * q.f2 from wmul (by omega) (by omega) (by omega), show wrap64 ((((loadOf q.f0 r : Nat) : Int) + 1) * d.f2) = (((loadOf q.f0 r : Nat) : Int) + 1) * d.f2 from wmul (by omega) (by omega) (by omega)]
   refine Ev.neg (by omega) ?_
   rw [bestFrom_some c]
   generalize hasI zs d.f1 = hz1 at *
   cases hz1 with
   | true =>
    rw [if_neg (fun hc => by cases hc.1)]
    refine Ev.pos rfl ?_
    cases fr with
    | true =>
     rw [if_neg (fun hc => by cases hc.1)]
     exact Ev.neg (by decide) ihq
    | false =>
     refine Ev.pos rfl ?_
     by_cases e2 : lighter r d q
     ·rw [if_pos ⟨rfl, e2⟩]
      exact Ev.pos e2 (ihd _)
     ·rw [if_neg (fun hc => e2 hc.2)]
      exact Ev.neg e2 ihq
   | false =>
    refine Ev.neg (by decide) ?_
    cases fr with
    | true =>
     rw [if_neg (fun hc => by cases hc.2)]
     refine Ev.pos rfl (Ev.pos rfl ?_)
     by_cases e2 : lighter r d q
     ·rw [if_pos ⟨rfl, e2⟩]
      exact Ev.pos e2 (ihd _)
     ·rw [if_neg (fun hc => e2 hc.2)]
      exact Ev.neg e2 ihq
    | false =>
     rw [if_pos ⟨rfl, rfl⟩]
     exact Ev.neg (by decide) (ihd _)
def bestOf (r : List S35) (prt : List Int) (l : List S61) : Option S61 := if devsOk l = true then bestFrom r prt (zonesOf prt l) none false l else none
theorem best_ev (a : Int) (r : List S35) (prt : List Int) (l : List S61) (hl : l.length ≤ 1048576) (hr1 : r.length ≤ 1048576) (hr2 : lens r ≤ 1099511627776) (hp : prt.length ≤ 1048576) :
  Ev (fun k => spec_Best.f k a r prt l) (idOf (bestOf r prt l)) ∧ Ev (fun k => impl_Best.f k a r prt l) (idOf (bestOf r prt l)) := by
 obtain ⟨z1, z2⟩ := zones_ev prt l hp hl
 have hz : (zonesOf prt l).length ≤ 1048576 := by
  have := zonesFrom_len l prt []
  rw [List.length_nil, Nat.zero_add] at this
  exact Nat.le_trans this hp
 obtain ⟨d1, d2⟩ := devsOk_ev l (by omega)
 simp only [spec_Best.f, impl_Best.f]
 rw [bestOf]
 refine ⟨Ev.bind z1 ?_, Ev.bind d2 ?_⟩
 ·by_cases c : devsOk l = true
  ·rw [if_pos c]
   exact spec_best_l0 l c hl r hr1 hr2 prt _ hp hz a l 0 none false (-1) rfl (Or.inl ⟨rfl, rfl⟩)
  ·rw [if_neg c]
   have stop : Ev (fun k => spec_Best.j1 k l (zonesOf prt l) (-1) false ((0 : Nat) : Int) false a r prt) (-1) := Ev.step (f := fun _ => some (-1)) (fun k => by rw [spec_Best.j1, if_neg (by decide), if_pos (by omega)]) (Ev.now _)
   by_cases c0 : (0 : Int) < (l.length : Int)
   ·refine Ev.step (f := fun k => (spec_DevsOk.f k l).bind fun t1 => spec_Best.j1 k l (zonesOf prt l) (-1) false ((0 : Nat) : Int) t1 a r prt) (fun k => by rw [spec_Best.l0, if_pos (by omega)]; rfl) (Ev.bind d1 ?_)
    rw [Bool.eq_false_iff.mpr c]
    exact stop
   ·exact Ev.step (f := fun k => spec_Best.j1 k l (zonesOf prt l) (-1) false ((0 : Nat) : Int) false a r prt) (fun k => by rw [spec_Best.l0, if_neg (by omega)]; rfl) stop
 ·by_cases c : devsOk l = true
  ·rw [if_pos c]
   exact Ev.pos c (Ev.bind z2 (impl_best_l0 l c hl r hr1 hr2 prt _ hp hz a l 0 none false 0 (-1) 0 0 rfl (Or.inl ⟨rfl, rfl⟩)))
  ·rw [if_neg c]
   exact Ev.neg c (Ev.now _)
def addDevs (l : List S61) (init : List S35) : Nat → List Int → List Int
 | 0, ds => ds
 | n + 1, ds => addDevs l init n (ds ++ [idOf (bestOf (init ++ [⟨ds⟩]) ds l)])
def addParts (l : List S61) (reps : Nat) : Nat → List S35 → List S35
 | 0, ps => ps
 | n + 1, ps => addParts l reps n (ps ++ [⟨addDevs l ps reps []⟩])
theorem addDevs_len (l : List S61) (init : List S35) : ∀ (n : Nat) (ds : List Int), (addDevs l init n ds).length = ds.length + n
 | 0, _ => rfl
 | n + 1, ds => by rw [addDevs, addDevs_len l init n]; simp; omega
theorem addParts_len (l : List S61) (reps : Nat) : ∀ (n : Nat) (ps : List S35), (∀ x ∈ ps, x.f0.length = reps) → (addParts l reps n ps).length = ps.length + n ∧ ∀ x ∈ addParts l reps n ps, x.f0.length = reps
 | 0, ps, h => ⟨rfl, h⟩
 | n + 1, ps, h => by
  rw [addParts]
  obtain ⟨h1, h2⟩ := addParts_len l reps n (ps ++ [⟨addDevs l ps reps []⟩]) (fun x hx => by
   rcases List.mem_append.1 hx with hx | hx
   ·exact h x hx
   ·rw [List.mem_singleton.1 hx]; dsimp only; rw [addDevs_len]; simp)
  exact ⟨by rw [h1]; simp; omega, h2⟩
theorem rdT_last (init : List S35) (x : S35) : rd_T35 (init ++ [x]) (init.length : Int) = x := by
 unfold rd_T35; rw [Int.toNat_natCast, List.getD_eq_getElem?_getD, List.getElem?_append_right (Nat.le_refl _), Nat.sub_self]; rfl
theorem lens_init {init : List S35} {ds : List Int} (hi : init.length ≤ 64) (hx : ∀ x ∈ init, x.f0.length ≤ 5) (hd : ds.length ≤ 5) : (init ++ [(⟨ds⟩ : S35)]).length ≤ 1048576 ∧ lens (init ++ [(⟨ds⟩ : S35)]) ≤ 1099511627776 := by
 have h1 : (init ++ [(⟨ds⟩ : S35)]).length ≤ 65 := by simp; omega
 have h2 := lens_le 5 (init ++ [(⟨ds⟩ : S35)]) (fun x hx' => by
  rcases List.mem_append.1 hx' with hx' | hx'
  ·exact hx x hx'
  ·rw [List.mem_singleton.1 hx']; exact hd)
 exact ⟨by omega, by omega⟩
theorem build_l1 (l : List S61) (hl : l.length ≤ 1048576) (n rr : Int) (reps : Nat) (hreps : reps ≤ 5) (init : List S35) (hi : init.length ≤ 64) (hx : ∀ x ∈ init, x.f0.length ≤ 5) (R : Int × List S35 × Bool) :
  ∀ (m : Nat) (ds : List Int), ds.length + m = reps → Ev (fun k => spec_Build.l0 k l n (reps : Int) (wrap64 ((init.length : Int) + 1)) rr (init ++ [⟨addDevs l init m ds⟩])) R → Ev (fun k => spec_Build.l1 k l n (reps : Int) (init.length : Int) (ds.length : Int) rr (init ++ [⟨ds⟩])) R
 | 0, ds, h, hr => Ev.step (fun k => by rw [spec_Build.l1, if_neg (by omega)]; rfl) hr
 | m + 1, ds, h, hr => by
  have hrd : Hd (rd_T35 (init ++ [(⟨ds⟩ : S35)]) (init.length : Int) = ⟨ds⟩) := ⟨rdT_last init ⟨ds⟩⟩
  have w : Hd (wrap64 ((ds.length : Int) + 1) = ((ds.length + 1 : Nat) : Int)) := ⟨w64s (n := 6) (by omega) (by omega)⟩
  obtain ⟨q1, q2⟩ := lens_init hi hx (show ds.length ≤ 5 by omega)
  have b := (best_ev rr (init ++ [⟨ds⟩]) ds l hl q1 q2 (by omega)).1
  rw [addDevs] at hr
  have ih := build_l1 l hl n rr reps hreps init hi hx R m (ds ++ [idOf (bestOf (init ++ [⟨ds⟩]) ds l)]) (by simp; omega) hr
  have hlen : ((init.length : Nat) : Int) < ((init ++ [(⟨ds⟩ : S35)]).length : Int) := by rw [List.length_append, List.length_singleton]; omega
  refine Ev.step (f := fun k => (spec_Best.f k rr (init ++ [(⟨ds⟩ : S35)]) ds l).bind fun t => if ds.length < 17592186044416 then spec_Build.l1 k l n (reps : Int) (init.length : Int) ((ds.length + 1 : Nat) : Int) rr ((init ++ [(⟨ds⟩ : S35)]).set (init.length : Int).toNat (⟨ds ++ [t]⟩ : S35)) else none) (fun k => by rw [spec_Build.l1, if_pos (by omega), if_pos (by omega), if_pos hlen, hrd.out, w.out]) (Ev.bind b (Ev.pos (by omega) ?_))
  rw [Int.toNat_natCast, set_mid, List.append_nil]
  rw [List.length_append, List.length_singleton] at ih
  exact ih
theorem build_l0 (l : List S61) (hl : l.length ≤ 1048576) (rr : Int) (reps : Nat) (hreps : reps ≤ 5) (n : Nat) (hn : n ≤ 64) : ∀ (m : Nat) (ps : List S35), ps.length + m = n → (∀ x ∈ ps, x.f0.length ≤ 5) →
  Ev (fun k => spec_Build.l0 k l (n : Int) (reps : Int) (ps.length : Int) rr ps) (rr, addParts l reps m ps, true)
 | 0, ps, h, _ => Ev.step (f := fun _ => some (rr, ps, true)) (fun k => by rw [spec_Build.l0, if_neg (by omega)]) (Ev.now _)
 | m + 1, ps, h, hx => by
  have w : wrap64 ((ps.length : Int) + 1) = ((ps.length + 1 : Nat) : Int) := w64s (n := 64) (by omega) (by omega)
  have ih := build_l0 l hl rr reps hreps n hn m (ps ++ [⟨addDevs l ps reps []⟩]) (by simp; omega) (fun x hx' => by
   rcases List.mem_append.1 hx' with hx' | hx'
   ·exact hx x hx'
   ·rw [List.mem_singleton.1 hx']; dsimp only; rw [addDevs_len]; simp; omega)
  rw [List.length_append, List.length_singleton] at ih
  have i1 := build_l1 l hl (n : Int) rr reps hreps ps (by omega) hx (rr, addParts l reps (m + 1) ps, true) reps [] (by simp) (by rw [w]; exact ih)
  clear w
  exact Ev.step (fun k => by rw [spec_Build.l0, if_pos (by omega), if_pos (by omega)]; rfl) i1
theorem ibuild_l1 (l : List S61) (hl : l.length ≤ 1048576) (n rr : Int) (reps : Nat) (hreps : reps ≤ 5) (init : List S35) (hi : init.length ≤ 64) (hx : ∀ x ∈ init, x.f0.length ≤ 5) (R : Int × List S35 × Bool) :
  ∀ (m : Nat) (ds : List Int), ds.length + m = reps → Ev (fun k => impl_Build.l0 k l (reps : Int) n (wrap64 ((init.length : Int) + 1)) rr (init ++ [⟨addDevs l init m ds⟩])) R → Ev (fun k => impl_Build.l1 k l (reps : Int) (init.length : Int) n (init.length : Int) (reps : Int) (ds.length : Int) rr (init ++ [⟨ds⟩])) R
 | 0, ds, h, hr => Ev.step (fun k => by rw [impl_Build.l1, if_neg (by omega)]; rfl) hr
 | m + 1, ds, h, hr => by
  have hrd : Hd (rd_T35 (init ++ [(⟨ds⟩ : S35)]) (init.length : Int) = ⟨ds⟩) := ⟨rdT_last init ⟨ds⟩⟩
  have w : Hd (wrap64 ((ds.length : Int) + 1) = ((ds.length + 1 : Nat) : Int)) := ⟨w64s (n := 6) (by omega) (by omega)⟩
  obtain ⟨q1, q2⟩ := lens_init hi hx (show ds.length ≤ 5 by omega)
  have b := (best_ev rr (init ++ [⟨ds⟩]) ds l hl q1 q2 (by omega)).2
  rw [addDevs] at hr
  have ih := ibuild_l1 l hl n rr reps hreps init hi hx R m (ds ++ [idOf (bestOf (init ++ [⟨ds⟩]) ds l)]) (by simp; omega) hr
  have hlen : ((init.length : Nat) : Int) < ((init ++ [(⟨ds⟩ : S35)]).length : Int) := by rw [List.length_append, List.length_singleton]; omega
  refine Ev.step (f := fun k => (impl_Best.f k rr (init ++ [(⟨ds⟩ : S35)]) ds l).bind fun t => if ds.length < 17592186044416 then impl_Build.l1 k l (reps : Int) (init.length : Int) n (init.length : Int) (reps : Int) ((ds.length + 1 : Nat) : Int) rr ((init ++ [(⟨ds⟩ : S35)]).set (init.length : Int).toNat (⟨ds ++ [t]⟩ : S35)) else none) (fun k => by rw [impl_Build.l1, if_pos (by omega), if_pos (by omega), if_pos hlen, hrd.out, w.out]) (Ev.bind b (Ev.pos (by omega) ?_))
  rw [Int.toNat_natCast, set_mid, List.append_nil]
  rw [List.length_append, List.length_singleton] at ih
  exact ih
theorem ibuild_l0 (l : List S61) (hl : l.length ≤ 1048576) (rr : Int) (reps : Nat) (hreps : reps ≤ 5) (n : Nat) (hn : n ≤ 64) : ∀ (m : Nat) (ps : List S35), ps.length + m = n → (∀ x ∈ ps, x.f0.length ≤ 5) →
  Ev (fun k => impl_Build.l0 k l (reps : Int) (n : Int) (ps.length : Int) rr ps) (rr, addParts l reps m ps, true)
 | 0, ps, h, _ => Ev.step (f := fun _ => some (rr, ps, true)) (fun k => by rw [impl_Build.l0, if_neg (by omega)]) (Ev.now _)
 | m + 1, ps, h, hx => by
  have w : wrap64 ((ps.length : Int) + 1) = ((ps.length + 1 : Nat) : Int) := w64s (n := 64) (by omega) (by omega)
  have ih := ibuild_l0 l hl rr reps hreps n hn m (ps ++ [⟨addDevs l ps reps []⟩]) (by simp; omega) (fun x hx' => by
   rcases List.mem_append.1 hx' with hx' | hx'
   ·exact hx x hx'
   ·rw [List.mem_singleton.1 hx']; dsimp only; rw [addDevs_len]; simp; omega)
  rw [List.length_append, List.length_singleton] at ih
  have i1 := ibuild_l1 l hl (n : Int) rr reps hreps ps (by omega) hx (rr, addParts l reps (m + 1) ps, true) reps [] (by simp) (by rw [w]; exact ih)
  clear w
  exact Ev.step (fun k => by rw [impl_Build.l0, if_pos (by omega), if_pos (by omega)]; rfl) i1
def mayBuild (l : List S61) (n reps : Int) : Bool := devsOk l && decide (1 ≤ n ∧ n ≤ 64) && decide (1 ≤ reps ∧ reps ≤ 5) && decide (reps ≤ l.length)
def buildOf (l : List S61) (n reps : Int) : Int × List S35 × Bool := if mayBuild l n reps = true then (reps, addParts l reps.toNat n.toNat [], true) else (0, [], false)
theorem buildBoth_ev (l : List S61) (hl : l.length ≤ 1048576) (n reps : Int) : Ev (fun k => spec_Build.f k l n reps) (buildOf l n reps) ∧ Ev (fun k => impl_Build.f k l n reps) (buildOf l n reps) := by
 obtain ⟨d1, d2⟩ := devsOk_ev l (by omega)
 have e1 : ∀ b : Bool, b = true → Ev (fun k => spec_Build.j0 k l n reps b) (0, [], false) := fun b hb => Ev.step (f := fun _ => some (0, [], false)) (fun k => by rw [spec_Build.j0, if_pos hb]) (Ev.now _)
 have e2 : ∀ b : Bool, b = true → Ev (fun k => impl_Build.j0 k l n reps b) (0, [], false) := fun b hb => Ev.step (f := fun _ => some (0, [], false)) (fun k => by rw [impl_Build.j0, if_pos hb]) (Ev.now _)
 simp only [spec_Build.f, impl_Build.f, l1In_eq, in_eq, Option.bind_some]
 rw [buildOf, mayBuild]
 by_cases c1 : devsOk l = true
 ·by_cases c2 : 1 ≤ n ∧ n ≤ 64
  ·by_cases c3 : 1 ≤ reps ∧ reps ≤ 5
   ·by_cases c4 : reps ≤ l.length
    ·rw [if_pos (by simp [c1, c2, c3, c4])]
     obtain ⟨n, rfl⟩ := Int.eq_ofNat_of_zero_le (show 0 ≤ n by omega)
     obtain ⟨reps, rfl⟩ := Int.eq_ofNat_of_zero_le (show 0 ≤ reps by omega)
     rw [Int.toNat_natCast, Int.toNat_natCast]
     refine ⟨Ev.bind d1 (Ev.pos c1 (Ev.pos (by simpa using c2) (Ev.pos (by simpa using c3) ?_))), Ev.bind d2 (Ev.pos c1 (Ev.pos (by simpa using c2) (Ev.pos (by simpa using c3) ?_)))⟩
     ·rw [decide_eq_false (show ¬(reps : Int) > (l.length : Int) by omega)]
      exact Ev.step (fun k => by rw [spec_Build.j0, if_neg (by decide)]; rfl) (build_l0 l hl (reps : Int) reps (by omega) n (by omega) n [] (by simp) (by simp))
     ·rw [decide_eq_false (show ¬(l.length : Int) < (reps : Int) by omega)]
      exact Ev.step (fun k => by rw [impl_Build.j0, if_neg (by decide)]; rfl) (ibuild_l0 l hl (reps : Int) reps (by omega) n (by omega) n [] (by simp) (by simp))
    ·rw [if_neg (by simp [c4])]
     refine ⟨Ev.bind d1 (Ev.pos c1 (Ev.pos (by simpa using c2) (Ev.pos (by simpa using c3) ?_))), Ev.bind d2 (Ev.pos c1 (Ev.pos (by simpa using c2) (Ev.pos (by simpa using c3) ?_)))⟩
     ·exact e1 _ (decide_eq_true (by omega))
     ·exact e2 _ (decide_eq_true (by omega))
   ·rw [if_neg (by simp [c3])]
    exact ⟨Ev.bind d1 (Ev.pos c1 (Ev.pos (by simpa using c2) (Ev.neg (by simpa using c3) (e1 _ rfl)))), Ev.bind d2 (Ev.pos c1 (Ev.pos (by simpa using c2) (Ev.neg (by simpa using c3) (e2 _ rfl))))⟩
  ·rw [if_neg (by simp [c2])]
   exact ⟨Ev.bind d1 (Ev.pos c1 (Ev.neg (by simpa using c2) (e1 _ rfl))), Ev.bind d2 (Ev.pos c1 (Ev.neg (by simpa using c2) (e2 _ rfl)))⟩
 ·rw [if_neg (by simp [c1])]
  exact ⟨Ev.bind d1 (Ev.neg c1 (e1 _ rfl)), Ev.bind d2 (Ev.neg c1 (e2 _ rfl))⟩
def insR : List Int → Int → List Int → List Int
 | [], z, B => z :: B
 | a :: r, z, B => if a > z then insR r z (a :: B) else (r.reverse ++ [a]) ++ z :: B
theorem insR_perm : ∀ (A : List Int) (z : Int) (B : List Int), (insR A z B).Perm (z :: (A ++ B))
 | [], z, B => List.Perm.refl _
 | a :: r, z, B => by
  rw [insR]
  split
  ·refine (insR_perm r z (a :: B)).trans (List.Perm.cons z ?_)
   exact List.perm_middle
  ·refine List.perm_middle.trans (List.Perm.cons z ?_)
   refine List.Perm.append_right B ?_
   refine (List.perm_append_singleton a r.reverse).trans (List.Perm.cons a (List.reverse_perm r))
theorem insR_sorted : ∀ (A : List Int) (z : Int) (B : List Int), (A.reverse ++ B).Pairwise (· < ·) → (∀ b ∈ B, z < b) → z ∉ A → (insR A z B).Pairwise (· < ·)
 | [], z, B, h, hB, _ => by
  rw [insR]
  exact List.pairwise_cons.2 ⟨hB, by simpa using h⟩
 | a :: r, z, B, h, hB, hz => by
  rw [insR]
  rw [List.reverse_cons] at h
  split
  ·rename_i c
   exact insR_sorted r z (a :: B) (by simpa using h) (fun b hb => by rcases List.mem_cons.1 hb with rfl | hb; exact c; exact hB b hb) (fun hc => hz (List.mem_cons_of_mem _ hc))
  ·rename_i c
   rw [List.pairwise_append] at h ⊢
   obtain ⟨h1, h2, h3⟩ := h
   refine ⟨h1, List.pairwise_cons.2 ⟨hB, h2⟩, fun x hx y hy => ?_⟩
   have hxz : x < z := by
    have ne : a ≠ z := fun e => hz (by rw [e]; exact List.mem_cons_self)
    have : x ≤ a := by
     rcases List.mem_append.1 hx with hx | hx
     ·rw [List.pairwise_append] at h1
      have := h1.2.2 x hx a (by simp)
      omega
     ·simp at hx; omega
    omega
   rcases List.mem_cons.1 hy with rfl | hy
   ·exact hxz
   ·exact h3 x hx y hy
theorem insR_len (A : List Int) (z : Int) (B : List Int) : (insR A z B).length = A.length + B.length + 1 := by
 rw [(insR_perm A z B).length_eq]; simp
def zsS : List Int → List S61 → List Int
 | acc, [] => acc
 | acc, d :: t => if hasI acc d.f1 = true then zsS acc t else zsS (insR acc.reverse d.f1 []) t
def zsI : List Int → List S61 → List Int
 | acc, [] => acc
 | acc, d :: t => if hasI acc d.f1 = true then zsI acc t else zsI (acc ++ [d.f1]) t
theorem zs_perm : ∀ (l : List S61) (a b : List Int), a.Perm b → (zsS a l).Perm (zsI b l)
 | [], a, b, h => h
 | d :: t, a, b, h => by
  have e : hasI a d.f1 = hasI b d.f1 := by
   rw [Bool.eq_iff_iff, hasI_iff, hasI_iff]; exact h.mem_iff
  rw [zsS, zsI, e]
  split
  ·exact zs_perm t a b h
  ·refine zs_perm t _ _ ((insR_perm _ _ _).trans ?_)
   rw [List.append_nil]
   exact ((List.Perm.cons _ (List.reverse_perm a)).trans (List.Perm.cons _ h)).trans (List.perm_append_singleton _ _).symm
theorem zsS_sorted : ∀ (l : List S61) (a : List Int), a.Pairwise (· < ·) → (zsS a l).Pairwise (· < ·)
 | [], a, h => h
 | d :: t, a, h => by
  rw [zsS]
  split
  ·exact zsS_sorted t a h
  ·rename_i c
   refine zsS_sorted t _ (insR_sorted _ _ _ (by simpa using h) (by simp) ?_)
   intro hc
   exact c ((hasI_iff _ _).2 (by simpa using hc))
def zonesAll (l : List S61) : List Int := zsS [] l
theorem zonesAll_sort (l : List S61) : (zsI [] l).mergeSort (fun x y => decide (x ≤ y)) = zonesAll l := by
 refine List.Perm.eq_of_pairwise (le := fun a b => decide (a ≤ b) = true) ?_ ?_ ?_ ?_
 ·intro a b _ _ h1 h2
  have h1 := of_decide_eq_true h1
  have h2 := of_decide_eq_true h2
  omega
 ·refine List.pairwise_mergeSort ?_ ?_ _
  ·intro a b c h1 h2
   have h1 := of_decide_eq_true h1
   have h2 := of_decide_eq_true h2
   exact decide_eq_true (by omega)
  ·intro a b
   rw [Bool.or_eq_true, decide_eq_true_eq, decide_eq_true_eq]
   omega
 ·refine (zsS_sorted l [] List.Pairwise.nil).imp ?_
  intro a b h
  exact decide_eq_true (by omega)
 ·exact (List.mergeSort_perm _ _).trans (zs_perm l [] [] (List.Perm.refl _)).symm
theorem zs_l1 (ds : List S61) (j : Int) (z : Int) (r : List Int) : ∀ (A : List Int) (hd : Int) (B xs : List Int), xs = A.reverse ++ hd :: B → xs.length ≤ 4611686018427387904 → Ev (fun k => spec_ZonesOf.l0 k ds (insR A z B) (wrap64 (j + 1))) r → Ev (fun k => spec_ZonesOf.l1 k ds xs j z (A.length : Int)) r
 | [], hd, B, xs, h, hx, e => by
  subst h
  refine Ev.step (fun k => ?_) e
  rw [spec_ZonesOf.l1, if_neg (by simp), if_pos (by simp), if_pos (by simp)]
  rfl
 | a :: t, hd, B, xs, h, hx, e => by
  rw [List.reverse_cons] at h
  have hl : xs.length = t.length + 1 + 1 + B.length := by rw [h]; simp; omega
  have w : wrap64 (((a :: t).length : Int) - 1) = (t.length : Int) := by rw [w64 (by simp only [List.length_cons]; omega) (by simp only [List.length_cons]; omega)]; simp
  have hr : rd xs (t.length : Int) = a := by
   have := rd_mid t.reverse a (hd :: B)
   rw [List.length_reverse] at this
   rw [h, List.append_assoc]
   exact this
  have hs : ∀ v, xs.set (((a :: t).length : Int)).toNat v = (t.reverse ++ [a]) ++ v :: B := by
   intro v
   rw [h, Int.toNat_natCast, show (a :: t).length = (t.reverse ++ [a]).length by simp]
   rw [List.set_append_right _ _ (Nat.le_refl _), Nat.sub_self, List.set_cons_zero]
  rw [insR] at e
  by_cases c : a > z
  ·rw [if_pos c] at e
   refine Ev.step (f := fun k => spec_ZonesOf.l1 k ds (xs.set (((a :: t).length : Int)).toNat a) j z (t.length : Int)) (fun k => ?_) (zs_l1 ds j z r t a (a :: B) _ (by rw [hs]; simp) (by rw [List.length_set]; exact hx) e)
   rw [spec_ZonesOf.l1, w, hr, if_pos (by simp), if_pos (by omega), if_pos (by omega), if_pos c, if_pos (by omega), if_pos (by simp only [List.length_cons]; omega)]
  ·rw [if_neg c, ← hs] at e
   refine Ev.step (f := fun k => spec_ZonesOf.l0 k ds (xs.set (((a :: t).length : Int)).toNat z) (wrap64 (j + 1))) (fun k => ?_) e
   rw [spec_ZonesOf.l1, w, hr, if_pos (by simp), if_pos (by omega), if_pos (by omega), if_neg c, if_pos (by omega), if_pos (by simp only [List.length_cons]; omega)]
theorem zs_l0 (ds : List S61) (hd : ds.length ≤ 1048576) : ∀ (t : List S61) (i : Nat) (a : List Int), ds.drop i = t → a.length ≤ i → Ev (fun k => spec_ZonesOf.l0 k ds a (i : Int)) (zsS a t)
 | [], i, a, h, ha => by
  have h1 := drop_nil' h
  refine Ev.step (f := fun _ => some a) (fun k => ?_) (Ev.now _)
  rw [spec_ZonesOf.l0, if_neg (by omega)]
 | d :: t, i, a, h, ha => by
  obtain ⟨h1, _, h3⟩ := drop_cons' h z61
  have hr : Hd (rd_T61 ds (i : Int) = d) := ⟨rdT_at61 h⟩
  have w : wrap64 ((i : Int) + 1) = ((i + 1 : Nat) : Int) := w64s h1 (by omega)
  refine Ev.step (fun k => by rw [spec_ZonesOf.l0, if_pos (by omega), if_pos (by omega), hr.out]) ?_
  refine Ev.bind (l4Has_ev a d.f1 (by omega)) ?_
  rw [zsS]
  by_cases c : hasI a d.f1 = true
  ·rw [if_pos c]
   refine Ev.pos c ?_
   rw [w]
   exact zs_l0 ds hd t (i + 1) a h3 (by omega)
  ·rw [if_neg c]
   refine Ev.neg c (Ev.pos (by omega) ?_)
   have e := zs_l1 ds (i : Int) d.f1 (zsS (insR a.reverse d.f1 []) t) a.reverse d.f1 [] (a ++ [d.f1]) (by simp) (by simp; omega) (by
    rw [w]
    exact zs_l0 ds hd t (i + 1) _ h3 (by rw [insR_len]; simp; omega))
   rw [List.length_reverse] at e
   exact e
theorem zsi_l0 (ds : List S61) (hd : ds.length ≤ 1048576) : ∀ (t : List S61) (i : Nat) (a : List Int), ds.drop i = t → a.length ≤ i → i ≤ ds.length → Ev (fun k => impl_ZonesOf.l0 k a ds (ds.length : Int) (i : Int)) ((zsI a t).mergeSort (fun x y => decide (x ≤ y)))
 | [], i, a, h, ha, hil => by
  have h1 := drop_nil' h
  refine Ev.step (f := fun _ => some ((zsI a []).mergeSort (fun x y => decide (x ≤ y)))) (fun k => ?_) (Ev.now _)
  rw [impl_ZonesOf.l0, if_neg (by omega), sort_Ints.f, if_pos (by omega)]
  rfl
 | d :: t, i, a, h, ha, hil => by
  obtain ⟨h1, _, h3⟩ := drop_cons' h z61
  have hr : Hd (rd_T61 ds (i : Int) = d) := ⟨rdT_at61 h⟩
  have w : wrap64 ((i : Int) + 1) = ((i + 1 : Nat) : Int) := w64s h1 (by omega)
  refine Ev.step (fun k => by rw [impl_ZonesOf.l0, if_pos (by omega), if_pos (by omega), if_pos (by omega), hr.out, w]) ?_
  refine Ev.bind (hasInt_ev a d.f1 (by omega)) ?_
  rw [zsI]
  by_cases c : hasI a d.f1 = true
  ·rw [if_pos c]
   exact Ev.pos c (zsi_l0 ds hd t (i + 1) a h3 (by omega) (by omega))
  ·rw [if_neg c]
   exact Ev.neg c (Ev.pos (by omega) (zsi_l0 ds hd t (i + 1) _ h3 (by simp; omega) (by omega)))
theorem zonesAll_ev (l : List S61) (hl : l.length ≤ 1048576) : Ev (fun k => spec_ZonesOf.f k l) (zonesAll l) ∧ Ev (fun k => impl_ZonesOf.f k l) (zonesAll l) := by
 refine ⟨zs_l0 l hl l 0 [] rfl (Nat.le_refl _), ?_⟩
 rw [← zonesAll_sort]
 exact zsi_l0 l hl l 0 [] rfl (Nat.le_refl _) (Nat.zero_le _)
def apartFrom : List Int → List Int → Bool
 | _, [] => true
 | pre, a :: t => if hasI pre a = true then false else apartFrom (pre ++ [a]) t
def apartI (l : List Int) : Bool := apartFrom [] l
theorem apart_l0 (xs : List Int) (hN : xs.length ≤ 4611686018427387904) (reps : Int) : ∀ (l : List Int) (i : Nat), xs.drop i = l →
  Ev (fun k => spec_l5Part.l0 k reps (i : Int) xs) (apartFrom (xs.take i) l && ((xs.length : Int) == reps)) ∧ Ev (fun k => impl_apart.l0 k xs xs (xs.length : Int) (i : Int)) (apartFrom (xs.take i) l)
 | [], i, h => by
  have h1 := drop_nil' h
  refine ⟨Ev.step (f := fun _ => some ((xs.length : Int) == reps)) (fun k => ?_) (Ev.eq (Ev.now _) (by rw [apartFrom, Bool.true_and])), Ev.step (f := fun _ => some true) (fun k => ?_) (Ev.now _)⟩
  ·rw [spec_l5Part.l0, if_neg (by omega)]
  ·rw [impl_apart.l0, if_neg (by omega)]
 | a :: t, i, h => by
  obtain ⟨h1, _, h3⟩ := drop_cons' h 0
  have hr : Hd (rd xs (i : Int) = a) := ⟨rd_at h⟩
  have w : Hd (wrap64 ((i : Int) + 1) = ((i + 1 : Nat) : Int)) := ⟨w64s h1 (by omega)⟩
  have ht : xs.take (i + 1) = xs.take i ++ [a] := by
   rw [List.take_succ_eq_append_getElem h1]
   have := List.drop_eq_getElem_cons h1
   rw [h] at this
   injection this with e _
   rw [← e]
  have hl : (xs.take i).length ≤ 4611686018427387904 := by rw [List.length_take]; omega
  obtain ⟨i1, i2⟩ := apart_l0 xs hN reps t (i + 1) h3
  rw [ht] at i1 i2
  rw [apartFrom]
  refine ⟨Ev.step (f := fun k => (spec_l4Has.f k (xs.take i) a).bind fun t1 => if t1 = true then some false else spec_l5Part.l0 k reps ((i + 1 : Nat) : Int) xs) (fun k => ?_) (Ev.bind (l4Has_ev (xs.take i) a hl) ?_), Ev.step (f := fun k => (impl_hasInt.f k (xs.take i) a).bind fun t1 => if t1 = true then some false else impl_apart.l0 k xs xs (xs.length : Int) ((i + 1 : Nat) : Int)) (fun k => ?_) (Ev.bind (hasInt_ev (xs.take i) a hl) ?_)⟩
  ·rw [spec_l5Part.l0, if_pos (by omega), if_pos (by omega), if_pos (by omega), hr.out, w.out, Int.toNat_natCast]
  ·by_cases c : hasI (xs.take i) a = true
   ·rw [if_pos c]; exact Ev.pos c (Ev.now _)
   ·rw [if_neg c]; exact Ev.neg c i1
  ·rw [impl_apart.l0, if_pos (by omega), if_pos (by omega), if_pos (by omega), if_pos (by omega), hr.out, w.out, Int.toNat_natCast]
  ·by_cases c : hasI (xs.take i) a = true
   ·rw [if_pos c]; exact Ev.pos c (Ev.now _)
   ·rw [if_neg c]; exact Ev.neg c i2
theorem l5Part_ev (xs : List Int) (reps : Int) (hN : xs.length ≤ 4611686018427387904) : Ev (fun k => spec_l5Part.f k xs reps) (apartI xs && ((xs.length : Int) == reps)) :=
 (apart_l0 xs hN reps xs 0 rfl).1
theorem apart_ev (xs : List Int) (hN : xs.length ≤ 4611686018427387904) : Ev (fun k => impl_apart.f k xs) (apartI xs) :=
 (apart_l0 xs hN 0 xs 0 rfl).2
def allIn (l : List S61) : List Int → Bool
 | [] => true
 | id :: t => if (devAt id l).2.2.2 = true then allIn l t else false
def partsOk (reps : Int) (l : List S61) : List S35 → Bool
 | [] => true
 | p :: t => if (p.f0.length : Int) = reps ∧ apartI p.f0 = true then (if allIn l p.f0 = true then partsOk reps l t else false) else false
theorem spec_ring_l1 (l : List S61) (hl : l.length ≤ 4611686018427387904) (ps : List S35) (p : S35) (reps : Int) (i : Nat) (hi : i < ps.length) (hp : rd_T35 ps (i : Int) = p) (hN : p.f0.length ≤ 4611686018427387904) (r : Bool) (hr : Ev (fun k => spec_RingOk.l0 k l (wrap64 ((i : Int) + 1)) reps ps) r) :
  ∀ (t : List Int) (j : Nat), p.f0.drop j = t → Ev (fun k => spec_RingOk.l1 k l (i : Int) (j : Int) reps ps) (if allIn l t = true then r else false)
 | [], j, h => by
  have h1 := drop_nil' h
  refine Ev.step (fun k => ?_) hr
  rw [spec_RingOk.l1, if_pos (by omega), if_pos (by omega), hp, if_neg (by omega)]
 | a :: t, j, h => by
  obtain ⟨h1, _, h3⟩ := drop_cons' h 0
  have hrd : Hd (rd p.f0 (j : Int) = a) := ⟨rd_at h⟩
  have w : Hd (wrap64 ((j : Int) + 1) = ((j + 1 : Nat) : Int)) := ⟨w64s h1 hN⟩
  have ih := spec_ring_l1 l hl ps p reps i hi hp hN r hr t (j + 1) h3
  refine Ev.step (f := fun k => (spec_DevAt.f k l a).bind fun b => if b.2.2.2 = true then spec_RingOk.l1 k l (i : Int) ((j + 1 : Nat) : Int) reps ps else some false) (fun k => ?_) (Ev.bind (devAt_ev l a hl).1 ?_)
  ·rw [spec_RingOk.l1, if_pos (by omega), if_pos (by omega), hp, if_pos (by omega), if_pos (by omega), hrd.out, w.out]
  ·rw [allIn]
   by_cases c : (devAt a l).2.2.2 = true
   ·rw [if_pos c]; exact Ev.pos c ih
   ·rw [if_neg c]; exact Ev.neg c (Ev.now _)
theorem impl_ring_l1 (l : List S61) (hl : l.length ≤ 4611686018427387904) (ps : List S35) (xs : List Int) (reps n i : Int) (hN : xs.length ≤ 4611686018427387904) (r : Bool) (hr : Ev (fun k => impl_RingOk.l0 k l ps n (wrap64 (i + 1)) reps ps) r) :
  ∀ (t : List Int) (j : Nat), xs.drop j = t → Ev (fun k => impl_RingOk.l1 k l ps n i xs (xs.length : Int) (j : Int) reps ps) (if allIn l t = true then r else false)
 | [], j, h => by
  have h1 := drop_nil' h
  refine Ev.step (fun k => ?_) hr
  rw [impl_RingOk.l1, if_neg (by omega)]
 | a :: t, j, h => by
  obtain ⟨h1, _, h3⟩ := drop_cons' h 0
  have hrd : Hd (rd xs (j : Int) = a) := ⟨rd_at h⟩
  have w : Hd (wrap64 ((j : Int) + 1) = ((j + 1 : Nat) : Int)) := ⟨w64s h1 hN⟩
  have ih := impl_ring_l1 l hl ps xs reps n i hN r hr t (j + 1) h3
  refine Ev.step (f := fun k => (impl_DevAt.f k l a).bind fun b => if b.2.2.2 = true then impl_RingOk.l1 k l ps n i xs (xs.length : Int) ((j + 1 : Nat) : Int) reps ps else some false) (fun k => ?_) (Ev.bind (devAt_ev l a hl).2 ?_)
  ·rw [impl_RingOk.l1, if_pos (by omega), if_pos (by omega), if_pos (by omega), hrd.out, w.out]
  ·rw [allIn]
   by_cases c : (devAt a l).2.2.2 = true
   ·rw [if_pos c]; exact Ev.pos c ih
   ·rw [if_neg c]; exact Ev.neg c (Ev.now _)
theorem ring_l0 (l : List S61) (hl : l.length ≤ 4611686018427387904) (ps : List S35) (reps : Int) (hN : ps.length ≤ 4611686018427387904) (hx : ∀ x ∈ ps, x.f0.length ≤ 4611686018427387904) : ∀ (t : List S35) (i : Nat), ps.drop i = t →
  Ev (fun k => spec_RingOk.l0 k l (i : Int) reps ps) (partsOk reps l t) ∧ Ev (fun k => impl_RingOk.l0 k l ps (ps.length : Int) (i : Int) reps ps) (partsOk reps l t)
 | [], i, h => by
  have h1 := drop_nil' h
  refine ⟨Ev.step (f := fun _ => some true) (fun k => ?_) (Ev.now _), Ev.step (f := fun _ => some true) (fun k => ?_) (Ev.now _)⟩
  ·rw [spec_RingOk.l0, if_neg (by omega)]
  ·rw [impl_RingOk.l0, if_neg (by omega)]
 | p :: t, i, h => by
  obtain ⟨h1, _, h3⟩ := drop_cons' h z35
  have hrd : Hd (rd_T35 ps (i : Int) = p) := ⟨rdT_at35 h⟩
  have hp : p.f0.length ≤ 4611686018427387904 := hx p (List.mem_of_mem_drop (by rw [h]; exact List.mem_cons_self))
  obtain ⟨i1, i2⟩ := ring_l0 l hl ps reps hN hx t (i + 1) h3
  have w : wrap64 ((i : Int) + 1) = ((i + 1 : Nat) : Int) := w64s h1 hN
  have j1 := spec_ring_l1 l hl ps p reps i h1 hrd.out hp _ (by rw [w]; exact i1) p.f0 0 rfl
  have j2 := impl_ring_l1 l hl ps p.f0 reps (ps.length : Int) (i : Int) hp _ (by rw [w]; exact i2) p.f0 0 rfl
  clear w
  rw [partsOk]
  refine ⟨Ev.step (f := fun k => (spec_l5Part.f k p.f0 reps).bind fun t1 => if t1 = true then spec_RingOk.l1 k l (i : Int) 0 reps ps else some false) (fun k => ?_) (Ev.bind (l5Part_ev p.f0 reps hp) ?_), ?_⟩
  ·rw [spec_RingOk.l0, if_pos (by omega), if_pos (by omega), hrd.out]
  ·by_cases c : (p.f0.length : Int) = reps ∧ apartI p.f0 = true
   ·rw [if_pos c]; exact Ev.pos (by rw [c.2, c.1]; simp) j1
   ·rw [if_neg c]
    refine Ev.neg (fun hc => c ?_) (Ev.now _)
    rw [Bool.and_eq_true, beq_iff_eq] at hc
    exact ⟨hc.2, hc.1⟩
  ·by_cases c0 : (p.f0.length : Int) = reps
   ·refine Ev.step (f := fun k => (impl_apart.f k p.f0).bind fun t1 => impl_RingOk.j2 k l ps (ps.length : Int) (i : Int) (!t1) reps ps p.f0) (fun k => ?_) (Ev.bind (apart_ev p.f0 hp) ?_)
    ·rw [impl_RingOk.l0, if_pos (by omega), if_pos (by omega), if_pos (by omega), hrd.out, if_pos c0]
    ·by_cases c1 : apartI p.f0 = true
     ·rw [if_pos ⟨c0, c1⟩, c1]
      exact Ev.step (fun k => by rw [impl_RingOk.j2, if_neg (by decide)]; rfl) j2
     ·rw [if_neg (fun hc => c1 hc.2), Bool.eq_false_iff.mpr c1]
      exact Ev.step (f := fun _ => some false) (fun k => by rw [impl_RingOk.j2, if_pos (by decide)]) (Ev.now _)
   ·rw [if_neg (fun hc => c0 hc.1)]
    refine Ev.step (f := fun k => impl_RingOk.j2 k l ps (ps.length : Int) (i : Int) true reps ps p.f0) (fun k => ?_) (Ev.step (f := fun _ => some false) (fun k => by rw [impl_RingOk.j2, if_pos rfl]) (Ev.now _))
    rw [impl_RingOk.l0, if_pos (by omega), if_pos (by omega), if_pos (by omega), hrd.out, if_neg c0]
def ringOk (reps : Int) (ps : List S35) (l : List S61) : Bool := if devsOk l = true ∧ (1 ≤ reps ∧ reps ≤ 5) ∧ (1 ≤ (ps.length : Int) ∧ (ps.length : Int) ≤ 64) then partsOk reps l ps else false
theorem ringOk_ev (reps : Int) (ps : List S35) (l : List S61) (hl : l.length ≤ 4611686018427387904) (hN : ps.length ≤ 4611686018427387904) (hx : ∀ x ∈ ps, x.f0.length ≤ 4611686018427387904) :
  Ev (fun k => spec_RingOk.f k reps ps l) (ringOk reps ps l) ∧ Ev (fun k => impl_RingOk.f k reps ps l) (ringOk reps ps l) := by
 obtain ⟨d1, d2⟩ := devsOk_ev l hl
 obtain ⟨r1, r2⟩ := ring_l0 l hl ps reps hN hx ps 0 rfl
 have n1 : Ev (fun k => spec_RingOk.j0 k l true reps ps) false := Ev.step (f := fun _ => some false) (fun k => by rw [spec_RingOk.j0, if_pos rfl]) (Ev.now _)
 have n2 : Ev (fun k => impl_RingOk.j0 k l true reps ps) false := Ev.step (f := fun _ => some false) (fun k => by rw [impl_RingOk.j0, if_pos rfl]) (Ev.now _)
 simp only [spec_RingOk.f, impl_RingOk.f, l1In_eq, in_eq, Option.bind_some, decide_eq_true_eq]
 unfold ringOk
 refine ⟨Ev.bind d1 ?_, Ev.bind d2 ?_⟩
 ·by_cases c1 : devsOk l = true
  ·refine Ev.pos c1 ?_
   by_cases c2 : 1 ≤ reps ∧ reps ≤ 5
   ·refine Ev.pos c2 ?_
    by_cases c3 : 1 ≤ (ps.length : Int) ∧ (ps.length : Int) ≤ 64
    ·rw [if_pos ⟨c1, c2, c3⟩, decide_eq_true c3]
     exact Ev.step (fun k => by rw [Bool.not_true, spec_RingOk.j0, if_neg (by decide)]; rfl) r1
    ·rw [if_neg (fun hc => c3 hc.2.2), decide_eq_false c3]
     exact n1
   ·rw [if_neg (fun hc => c2 hc.2.1)]
    exact Ev.neg c2 n1
  ·rw [if_neg (fun hc => c1 hc.1)]
   exact Ev.neg c1 n1
 ·by_cases c1 : devsOk l = true
  ·refine Ev.pos c1 ?_
   by_cases c2 : 1 ≤ reps ∧ reps ≤ 5
   ·refine Ev.pos c2 ?_
    by_cases c3 : 1 ≤ (ps.length : Int) ∧ (ps.length : Int) ≤ 64
    ·rw [if_pos ⟨c1, c2, c3⟩, decide_eq_true c3]
     exact Ev.step (fun k => by rw [Bool.not_true, impl_RingOk.j0, if_neg (by decide)]; rfl) r2
    ·rw [if_neg (fun hc => c3 hc.2.2), decide_eq_false c3]
     exact n2
   ·rw [if_neg (fun hc => c2 hc.2.1)]
    exact Ev.neg c2 n2
  ·rw [if_neg (fun hc => c1 hc.1)]
   exact Ev.neg c1 n2
theorem devsFrom_lt (n : Nat) : ∀ (l : List S61) (pr : Option S61), devsFrom n pr l = true → (∀ q, pr = some q → ∀ d ∈ l, q.f0 < d.f0) ∧ l.Pairwise (fun a b => a.f0 < b.f0)
 | [], _, _ => ⟨fun _ _ _ hd => (by cases hd), List.Pairwise.nil⟩
 | a :: t, pr, h => by
  rw [devsFrom] at h
  by_cases c : (0 ≤ a.f0 ∧ a.f0 ≤ 20) ∧ (0 ≤ a.f1 ∧ a.f1 ≤ 20) ∧ (1 ≤ a.f2 ∧ a.f2 ≤ 1000) ∧ (∀ q, pr = some q → q.f0 < a.f0)
  ·rw [if_pos c] at h
   obtain ⟨h1, h2⟩ := devsFrom_lt n t (some a) h
   have h3 := h1 a rfl
   refine ⟨fun q e d hd => ?_, List.pairwise_cons.2 ⟨h3, h2⟩⟩
   have hq := c.2.2.2 q e
   rcases List.mem_cons.1 hd with rfl | hd
   ·exact hq
   ·have := h3 d hd; omega
  ·rw [if_neg c] at h
   cases h
theorem devAt_mem (id : Int) : ∀ l : List S61, (devAt id l).2.2.2 = true → ∃ d ∈ l, d.f0 = id
 | [], h => by rw [devAt] at h; cases h
 | d :: t, h => by
  by_cases c : d.f0 = id
  ·exact ⟨d, List.mem_cons_self, c⟩
  ·rw [devAt, if_neg c] at h
   obtain ⟨x, hx, e⟩ := devAt_mem id t h
   exact ⟨x, List.mem_cons_of_mem _ hx, e⟩
theorem zsI_mem (x : Int) : ∀ (l : List S61) (a : List Int), x ∈ zsI a l ↔ x ∈ a ∨ ∃ d ∈ l, d.f1 = x
 | [], a => by rw [zsI]; simp
 | d :: t, a => by
  rw [zsI]
  split
  ·rename_i c
   rw [zsI_mem x t a]
   have hc := (hasI_iff _ _).1 c
   constructor
   ·rintro (h | ⟨e, he, rfl⟩)
    ·exact Or.inl h
    ·exact Or.inr ⟨e, List.mem_cons_of_mem _ he, rfl⟩
   ·rintro (h | ⟨e, he, rfl⟩)
    ·exact Or.inl h
    ·rcases List.mem_cons.1 he with rfl | he
     ·exact Or.inl hc
     ·exact Or.inr ⟨e, he, rfl⟩
  ·rw [zsI_mem x t _, List.mem_append, List.mem_singleton]
   constructor
   ·rintro ((h | rfl) | ⟨e, he, rfl⟩)
    ·exact Or.inl h
    ·exact Or.inr ⟨d, List.mem_cons_self, rfl⟩
    ·exact Or.inr ⟨e, List.mem_cons_of_mem _ he, rfl⟩
   ·rintro (h | ⟨e, he, rfl⟩)
    ·exact Or.inl (Or.inl h)
    ·rcases List.mem_cons.1 he with rfl | he
     ·exact Or.inl (Or.inr rfl)
     ·exact Or.inr ⟨e, he, rfl⟩
theorem zonesAll_mem (x : Int) (l : List S61) : x ∈ zonesAll l ↔ ∃ d ∈ l, d.f1 = x := by
 rw [← zonesAll_sort, (List.mergeSort_perm _ _).mem_iff, zsI_mem]
 simp
theorem len_sub : ∀ (a b : List Int), a.Nodup → (∀ x ∈ a, x ∈ b) → a.length ≤ b.length
 | [], b, _, _ => Nat.zero_le _
 | x :: t, b, h, hs => by
  rw [List.nodup_cons] at h
  have hx := hs x List.mem_cons_self
  have := len_sub t (b.erase x) h.2 (fun y hy => (List.mem_erase_of_ne (fun e => h.1 (by rw [← e]; exact hy))).2 (hs y (List.mem_cons_of_mem _ hy)))
  rw [List.length_erase_of_mem hx] at this
  have hp := List.length_pos_of_mem hx
  rw [List.length_cons]
  omega
theorem zonesAll_nodup (l : List S61) : (zonesAll l).Nodup := (zsS_sorted l [] List.Pairwise.nil).imp (fun h e => by omega)
theorem devAt_is (id : Int) : ∀ (l : List S61), (∃ d ∈ l, d.f0 = id) → ∃ d ∈ l, d.f0 = id ∧ devAt id l = (d.f0, d.f1, d.f2, true)
 | [], h => by obtain ⟨d, hd, _⟩ := h; cases hd
 | d :: t, h => by
  by_cases c : d.f0 = id
  ·exact ⟨d, List.mem_cons_self, c, by rw [devAt, if_pos c]⟩
  ·obtain ⟨e, he, ee⟩ := h
   obtain ⟨x, hx, h1, h2⟩ := devAt_is id t ⟨e, by
    rcases List.mem_cons.1 he with rfl | he
    ·exact absurd ee c
    ·exact he, ee⟩
   exact ⟨x, List.mem_cons_of_mem _ hx, h1, by rw [devAt, if_neg c]; exact h2⟩
theorem zoneOf_is (l : List S61) (id : Int) (h : ∃ d ∈ l, d.f0 = id) : ∃ d ∈ l, d.f0 = id ∧ zoneOf l id = some d.f1 := by
 obtain ⟨d, hd, h1, h2⟩ := devAt_is id l h
 exact ⟨d, hd, h1, by rw [zoneOf, h2, if_pos rfl]⟩
theorem zoneOf_mem (l : List S61) (id z : Int) (h : zoneOf l id = some z) : ∃ d ∈ l, d.f1 = z := by
 unfold zoneOf at h
 by_cases c : (devAt id l).2.2.2 = true
 ·obtain ⟨d, hd, _, h2⟩ := devAt_is id l (devAt_mem id l c)
  rw [h2, if_pos rfl] at h
  injection h with h
  exact ⟨d, hd, h⟩
 ·rw [if_neg c] at h; cases h
theorem zonesFrom_snoc (l : List S61) (id : Int) : ∀ (t acc : List Int), zonesFrom l acc (t ++ [id]) = (match zoneOf l id with | none => zonesFrom l acc t | some z => if hasI (zonesFrom l acc t) z = true then zonesFrom l acc t else zonesFrom l acc t ++ [z])
 | [], acc => by
  cases h : zoneOf l id <;> simp only [List.nil_append, zonesFrom, h] <;> rfl
 | a :: t, acc => by
  rw [List.cons_append, zonesFrom, zonesFrom]
  split
  ·exact zonesFrom_snoc l id t acc
  ·split
   ·exact zonesFrom_snoc l id t acc
   ·exact zonesFrom_snoc l id t _
theorem zonesFrom_good (l : List S61) : ∀ (t acc : List Int), acc.Nodup → (∀ x ∈ acc, x ∈ zonesAll l) → (zonesFrom l acc t).Nodup ∧ (∀ x ∈ zonesFrom l acc t, x ∈ zonesAll l) ∧ acc.length ≤ (zonesFrom l acc t).length
 | [], acc, h1, h2 => by rw [zonesFrom]; exact ⟨h1, h2, Nat.le_refl _⟩
 | a :: t, acc, h1, h2 => by
  rw [zonesFrom]
  split
  ·exact zonesFrom_good l t acc h1 h2
  ·rename_i z hz
   split
   ·exact zonesFrom_good l t acc h1 h2
   ·rename_i c
    obtain ⟨i1, i2, i3⟩ := zonesFrom_good l t (acc ++ [z]) (by
     rw [List.nodup_append]
     refine ⟨h1, by simp, fun x hx y hy e => ?_⟩
     rw [List.mem_singleton] at hy
     exact c ((hasI_iff _ _).2 (by rw [← hy, ← e]; exact hx))) (fun x hx => by
     rcases List.mem_append.1 hx with hx | hx
     ·exact h2 x hx
     ·rw [List.mem_singleton.1 hx]
      exact (zonesAll_mem z l).2 (zoneOf_mem l a z hz))
    rw [List.length_append] at i3
    exact ⟨i1, i2, by omega⟩
theorem zonesOf_good (p : List Int) (l : List S61) : (zonesOf p l).Nodup ∧ (∀ x ∈ zonesOf p l, x ∈ zonesAll l) ∧ (zonesOf p l).length ≤ (zonesAll l).length := by
 obtain ⟨h1, h2, _⟩ := zonesFrom_good l p [] List.nodup_nil (by simp)
 exact ⟨h1, h2, len_sub _ _ h1 h2⟩
theorem bestFrom_good (r : List S35) (prt zs : List Int) : ∀ (t : List S61) (b : Option S61) (fr : Bool), (∀ q, b = some q → fr = !hasI zs q.f1) → (b = none → fr = false) →
  (bestFrom r prt zs b fr t = none → b = none ∧ ∀ d ∈ t, hasI prt d.f0 = true) ∧
  (∀ q, bestFrom r prt zs b fr t = some q → (b = some q ∨ (q ∈ t ∧ hasI prt q.f0 = false)) ∧ (hasI zs q.f1 = false ∨ (fr = false ∧ ∀ d ∈ t, hasI prt d.f0 = false → hasI zs d.f1 = true)))
 | [], b, fr, h1, h2 => by
  rw [bestFrom]
  refine ⟨fun h => ⟨h, fun d hd => by cases hd⟩, fun q hq => ⟨Or.inl hq, ?_⟩⟩
  have := h1 q hq
  cases c : hasI zs q.f1 with
  | false => exact Or.inl rfl
  | true => rw [c] at this; exact Or.inr ⟨this, fun d hd => by cases hd⟩
 | d :: t, b, fr, h1, h2 => by
  by_cases c : hasI prt d.f0 = true
  ·rw [bestFrom_has c]
   obtain ⟨i1, i2⟩ := bestFrom_good r prt zs t b fr h1 h2
   refine ⟨fun h => ⟨(i1 h).1, fun x hx => ?_⟩, fun q hq => ?_⟩
   ·rcases List.mem_cons.1 hx with rfl | hx
    ·exact c
    ·exact (i1 h).2 x hx
   ·obtain ⟨j1, j2⟩ := i2 q hq
    refine ⟨j1.imp id (fun j => ⟨List.mem_cons_of_mem _ j.1, j.2⟩), j2.imp id (fun j => ⟨j.1, fun x hx hp => ?_⟩)⟩
    rcases List.mem_cons.1 hx with rfl | hx
    ·rw [c] at hp; cases hp
    ·exact j.2 x hx hp
  have c' := Bool.eq_false_iff.mpr c
  cases b with
  | none =>
   rw [bestFrom_none c]
   obtain ⟨i1, i2⟩ := bestFrom_good r prt zs t (some d) (!hasI zs d.f1) (fun q hq => by injection hq with hq; rw [hq]) (fun h => by cases h)
   refine ⟨fun h => (by cases (i1 h).1), fun q hq => ?_⟩
   obtain ⟨j1, j2⟩ := i2 q hq
   refine ⟨Or.inr ?_, j2.imp id (fun j => ⟨h2 rfl, fun x hx hp => ?_⟩)⟩
   ·rcases j1 with e | j1
    ·injection e with e; subst e; exact ⟨List.mem_cons_self, c'⟩
    ·exact ⟨List.mem_cons_of_mem _ j1.1, j1.2⟩
   ·rcases List.mem_cons.1 hx with rfl | hx
    ·simpa using j.1
    ·exact j.2 x hx hp
  | some q0 =>
   rw [bestFrom_some c]
   by_cases c1 : hasI zs d.f1 = false ∧ fr = false
   ·rw [if_pos c1]
    obtain ⟨i1, i2⟩ := bestFrom_good r prt zs t (some d) true (fun q hq => by injection hq with hq; rw [← hq, c1.1]; rfl) (fun h => by cases h)
    refine ⟨fun h => (by cases (i1 h).1), fun q hq => ?_⟩
    obtain ⟨j1, j2⟩ := i2 q hq
    refine ⟨Or.inr ?_, Or.inl (j2.elim id (fun j => by cases j.1))⟩
    rcases j1 with e | j1
    ·injection e with e; subst e; exact ⟨List.mem_cons_self, c'⟩
    ·exact ⟨List.mem_cons_of_mem _ j1.1, j1.2⟩
   rw [if_neg c1]
   by_cases c2 : (!hasI zs d.f1) = fr ∧ lighter r d q0
   ·rw [if_pos c2]
    obtain ⟨i1, i2⟩ := bestFrom_good r prt zs t (some d) fr (fun q hq => by injection hq with hq; rw [← hq]; exact c2.1.symm) (fun h => by cases h)
    refine ⟨fun h => (by cases (i1 h).1), fun q hq => ?_⟩
    obtain ⟨j1, j2⟩ := i2 q hq
    refine ⟨Or.inr ?_, j2.imp id (fun j => ⟨j.1, fun x hx hp => ?_⟩)⟩
    ·rcases j1 with e | j1
     ·injection e with e; subst e; exact ⟨List.mem_cons_self, c'⟩
     ·exact ⟨List.mem_cons_of_mem _ j1.1, j1.2⟩
    ·rcases List.mem_cons.1 hx with rfl | hx
     ·have h3 := c2.1
      rw [j.1] at h3
      simpa using h3
     ·exact j.2 x hx hp
   ·rw [if_neg c2]
    obtain ⟨i1, i2⟩ := bestFrom_good r prt zs t (some q0) fr h1 (fun h => by cases h)
    refine ⟨fun h => (by cases (i1 h).1), fun q hq => ?_⟩
    obtain ⟨j1, j2⟩ := i2 q hq
    refine ⟨j1.imp id (fun j => ⟨List.mem_cons_of_mem _ j.1, j.2⟩), j2.imp id (fun j => ⟨j.1, fun x hx hp => ?_⟩)⟩
    rcases List.mem_cons.1 hx with rfl | hx
    ·cases e : hasI zs x.f1 with
     | true => rfl
     | false => exact absurd ⟨e, j.1⟩ c1
    ·exact j.2 x hx hp
theorem ids_inj : ∀ (l : List S61), l.Pairwise (fun x y => x.f0 < y.f0) → ∀ d ∈ l, ∀ e ∈ l, d.f0 = e.f0 → d = e
 | [], _, d, hd, _, _, _ => by cases hd
 | a :: t, hp, d, hd, e, he, h => by
  rw [List.pairwise_cons] at hp
  rcases List.mem_cons.1 hd with rfl | hd'
  ·rcases List.mem_cons.1 he with rfl | he'
   ·rfl
   ·have := hp.1 e he'; omega
  ·rcases List.mem_cons.1 he with rfl | he'
   ·have := hp.1 d hd'; omega
   ·exact ids_inj t hp.2 d hd' e he' h
theorem zonesFrom_keep (l : List S61) (z : Int) : ∀ (t acc : List Int), z ∈ acc → z ∈ zonesFrom l acc t
 | [], acc, h => h
 | a :: t, acc, h => by
  rw [zonesFrom]
  split
  ·exact zonesFrom_keep l z t acc h
  ·split
   ·exact zonesFrom_keep l z t acc h
   ·exact zonesFrom_keep l z t _ (List.mem_append_left _ h)
theorem zonesFrom_has (l : List S61) (a z : Int) (hz : zoneOf l a = some z) : ∀ (t acc : List Int), a ∈ t → z ∈ zonesFrom l acc t
 | [], acc, h => by cases h
 | b :: t, acc, h => by
  rcases List.mem_cons.1 h with rfl | h
  ·rw [zonesFrom, hz]
   dsimp only
   split
   ·rename_i c
    exact zonesFrom_keep l z t acc ((hasI_iff _ _).1 c)
   ·exact zonesFrom_keep l z t _ (by simp)
  ·rw [zonesFrom]
   split
   ·exact zonesFrom_has l a z hz t acc h
   ·split
    ·exact zonesFrom_has l a z hz t acc h
    ·exact zonesFrom_has l a z hz t _ h
def Good (l : List S61) (ds : List Int) : Prop := ds.Nodup ∧ (∀ a ∈ ds, ∃ d ∈ l, d.f0 = a) ∧ (zonesOf ds l).length = min (zonesAll l).length ds.length
theorem good_nil (l : List S61) : Good l [] := ⟨List.nodup_nil, by simp, by simp [zonesOf, zonesFrom]⟩
theorem good_step (l : List S61) (hok : devsOk l = true) (r : List S35) (ds : List Int) (h : Good l ds) (hl : ds.length < l.length) : Good l (ds ++ [idOf (bestOf r ds l)]) := by
 obtain ⟨h1, h2, h3⟩ := h
 have hpw := (devsFrom_lt l.length l none hok).2
 obtain ⟨b1, b2⟩ := bestFrom_good r ds (zonesOf ds l) l none false (fun q hq => by cases hq) (fun _ => rfl)
 have hsome : ∃ q, bestFrom r ds (zonesOf ds l) none false l = some q := by
  cases e : bestFrom r ds (zonesOf ds l) none false l with
  | some q => exact ⟨q, rfl⟩
  | none =>
   exfalso
   have hall := (b1 e).2
   have := len_sub (l.map fun d => d.f0) ds (by
    refine List.Pairwise.map _ ?_ hpw
    intro a b hab e
    omega) (fun x hx => by
    obtain ⟨d, hd, rfl⟩ := List.mem_map.1 hx
    exact (hasI_iff _ _).1 (hall d hd))
   rw [List.length_map] at this
   omega
 obtain ⟨q, e⟩ := hsome
 obtain ⟨j1, j2⟩ := b2 q e
 rw [bestOf, if_pos hok, e]
 show Good l (ds ++ [q.f0])
 rcases j1 with j1 | ⟨hq, hqd⟩
 ·cases j1
 have hqn : q.f0 ∉ ds := fun hc => by rw [(hasI_iff _ _).2 hc] at hqd; cases hqd
 have hmem : ∀ a ∈ ds ++ [q.f0], ∃ d ∈ l, d.f0 = a := fun a ha => by
  rcases List.mem_append.1 ha with ha | ha
  ·exact h2 a ha
  ·rw [List.mem_singleton.1 ha]; exact ⟨q, hq, rfl⟩
 refine ⟨?_, hmem, ?_⟩
 ·rw [List.nodup_append]
  exact ⟨h1, by simp, fun x hx y hy e => hqn (by rw [List.mem_singleton] at hy; rw [← hy, ← e]; exact hx)⟩
 ·obtain ⟨d, hd, hd1, hd2⟩ := zoneOf_is l q.f0 ⟨q, hq, rfl⟩
  have hdq := ids_inj l hpw d hd q hq hd1
  subst hdq
  have hg := (zonesOf_good (ds ++ [d.f0]) l).2.2
  have hs := zonesFrom_snoc l d.f0 ds []
  rw [hd2] at hs
  dsimp only at hs
  rw [List.length_append, List.length_singleton]
  by_cases c : hasI (zonesOf ds l) d.f1 = true
  ·have hs' : zonesOf (ds ++ [d.f0]) l = zonesOf ds l := by
    rw [zonesOf, hs]; exact if_pos c
   rw [hs']
   have hcov : (zonesAll l).length ≤ (zonesOf ds l).length := by
    refine len_sub _ _ (zonesAll_nodup l) (fun x hx => ?_)
    obtain ⟨y, hy, rfl⟩ := (zonesAll_mem x l).1 hx
    by_cases c2 : hasI ds y.f0 = true
    ·obtain ⟨y', hy', e1, e2⟩ := zoneOf_is l y.f0 ⟨y, hy, rfl⟩
     have := ids_inj l hpw y' hy' y hy e1
     subst this
     exact zonesFrom_has l y'.f0 y'.f1 e2 ds [] ((hasI_iff _ _).1 c2)
    ·rcases j2 with j2 | j2
     ·rw [c] at j2; cases j2
     ·exact (hasI_iff _ _).1 (j2.2 y hy (Bool.eq_false_iff.mpr c2))
   omega
  ·have hs' : zonesOf (ds ++ [d.f0]) l = zonesOf ds l ++ [d.f1] := by
    rw [zonesOf, hs]; exact if_neg c
   rw [hs', List.length_append, List.length_singleton] at hg ⊢
   omega
theorem good_devs (l : List S61) (hok : devsOk l = true) (init : List S35) : ∀ (n : Nat) (ds : List Int), Good l ds → ds.length + n ≤ l.length → Good l (addDevs l init n ds)
 | 0, ds, h, _ => h
 | n + 1, ds, h, hl => by
  rw [addDevs]
  exact good_devs l hok init n _ (good_step l hok _ ds h (by omega)) (by simp; omega)
theorem good_parts (l : List S61) (hok : devsOk l = true) (reps : Nat) (hr : reps ≤ l.length) : ∀ (n : Nat) (ps : List S35), (∀ p ∈ ps, Good l p.f0) → ∀ p ∈ addParts l reps n ps, Good l p.f0
 | 0, ps, h => h
 | n + 1, ps, h => by
  rw [addParts]
  refine good_parts l hok reps hr n _ (fun p hp => ?_)
  rcases List.mem_append.1 hp with hp | hp
  ·exact h p hp
  ·rw [List.mem_singleton.1 hp]
   exact good_devs l hok ps reps [] (good_nil l) (by simp; omega)
theorem apart_of : ∀ (t pre : List Int), t.Nodup → (∀ a ∈ t, a ∉ pre) → apartFrom pre t = true
 | [], _, _, _ => by rw [apartFrom]
 | a :: t, pre, h, hp => by
  rw [List.nodup_cons] at h
  rw [apartFrom, if_neg (fun c => hp a List.mem_cons_self ((hasI_iff _ _).1 c))]
  refine apart_of t _ h.2 (fun x hx hc => ?_)
  rcases List.mem_append.1 hc with hc | hc
  ·exact hp x (List.mem_cons_of_mem _ hx) hc
  ·rw [List.mem_singleton] at hc
   exact h.1 (by rw [← hc]; exact hx)
theorem allIn_of (l : List S61) : ∀ p : List Int, (∀ a ∈ p, ∃ d ∈ l, d.f0 = a) → allIn l p = true
 | [], _ => by rw [allIn]
 | a :: t, h => by
  obtain ⟨d, _, _, e⟩ := devAt_is a l (h a List.mem_cons_self)
  rw [allIn, e, if_pos rfl]
  exact allIn_of l t (fun x hx => h x (List.mem_cons_of_mem _ hx))
theorem partsOk_of (reps : Int) (l : List S61) : ∀ ps : List S35, (∀ p ∈ ps, (p.f0.length : Int) = reps ∧ Good l p.f0) → partsOk reps l ps = true
 | [], _ => by rw [partsOk]
 | p :: t, h => by
  obtain ⟨h1, h2, h3, _⟩ := h p List.mem_cons_self
  rw [partsOk, if_pos ⟨h1, apart_of p.f0 [] h2 (fun a _ hc => by cases hc)⟩, if_pos (allIn_of l p.f0 h3)]
  exact partsOk_of reps l t (fun x hx => h x (List.mem_cons_of_mem _ hx))
theorem big_eq (l : List Int) : laws_big.f l = some (decide ((l.length : Int) > 1048576)) := rfl
theorem ispread_ev (ids : List Int) (l : List S61) (hN : ids.length ≤ 1048576) (hl : l.length ≤ 1048576) : Ev (fun k => impl_SpreadOf.f k ids l) ((zonesOf ids l).length : Int) := by
 obtain ⟨z1, z2⟩ := zones_ev ids l hN hl
 simp only [impl_SpreadOf.f]
 exact Ev.bind z2 (Ev.now _)
end Go.Proofs.Ytpbjbfimnfghkaa.PureFnRings
namespace Go.Proofs.Ytpbjbfimnfghkaa.Pure
open Go.RowKit Go.Proofs.Ytpbjbfimnfghkaa.PFnRings Go.Proofs.YtpbjbfimnfghkaaW.PrintWords Go.Proofs.YtpbjbfimnfghkaaW.PrintLast Go.Proofs.YtpbjbfimnfghkaaW.PrintMore Go.Proofs.Ytpbjbfimnfghkaa.Base Go.Proofs.Ytpbjbfimnfghkaa.PureFnRings
set_option linter.unusedVariables false
attribute [local irreducible] Go.bits IntKind.wrap shl shr
theorem rings_l0 (l : List S61) (hl : l.length ≤ 6) (n reps : Int) (ps : List S35) (hN : ps.length ≤ 64) (hn : (ps.length : Int) = n) (x10 : Int)
  (hps : ∀ p ∈ ps, p.f0.length ≤ 5 ∧ ((zonesOf p.f0 l).length : Int) = x10) (hr : Ev (fun k => impl_RingOk.f k reps ps l) true) : ∀ (t : List S35) (i : Nat), ps.drop i = t → Ev (fun k => laws_FnRings.l0 k l n reps x10 (i : Int) reps ps) true
 | [], i, h => by
  have h1 := drop_nil' h
  refine Ev.step (f := fun k => (impl_RingOk.f k reps ps l).bind fun t => if t = true then (if (ps.length : Int) = n then some (reps == reps) else some false) else some false) (fun k => by rw [laws_FnRings.l0, if_neg (by omega)]) ?_
  refine Ev.bind hr (Ev.pos rfl (Ev.pos hn ?_))
  rw [beq_self_eq_true]
  exact Ev.now _
 | p :: t, i, h => by
  obtain ⟨h1, _, h3⟩ := drop_cons' h z35
  have hrd : Hd (rd_T35 ps (i : Int) = p) := ⟨rdT_at35 h⟩
  have w : Hd (wrap64 ((i : Int) + 1) = ((i + 1 : Nat) : Int)) := ⟨w64s h1 (by omega)⟩
  have ih := rings_l0 l hl n reps ps hN hn x10 hps hr t (i + 1) h3
  obtain ⟨p1, p2⟩ := hps p (List.mem_of_mem_drop (by rw [h]; exact List.mem_cons_self))
  refine Ev.step (fun k => by rw [laws_FnRings.l0, if_pos (by omega), if_pos (by omega), hrd.out, w.out]) ?_
  exact Ev.bind (ispread_ev p.f0 l (by omega) (by omega)) (Ev.pos p2 ih)
theorem FnRings (code : List Int) (h0 : Bytes code) : ∃ k, laws_FnRings.f k code = some true := by
 apply Ev.rounds (g := fun k => laws_FnRings.f k code)
 simp only [laws_FnRings.f]
 refine Ev.got (big_eq code) ?_
 by_cases hb : (code.length : Int) > 1048576
 ·exact Ev.pos (decide_eq_true hb) (Ev.now _)
 refine Ev.neg (by rw [decide_eq_true_eq]; exact hb) ?_
 obtain ⟨l, n, reps, e1, hl⟩ := drawBuild_ev code (by omega)
 obtain ⟨q1, q2⟩ := buildBoth_ev l (by omega) n reps
 refine Ev.bind e1 (Ev.bind q2 (Ev.bind q1 (Ev.neg (by simp) ?_)))
 rw [buildOf]
 by_cases c : mayBuild l n reps = true
 ·rw [if_pos c]
  simp only [mayBuild, Bool.and_eq_true, decide_eq_true_eq] at c
  obtain ⟨⟨⟨c1, c2⟩, c3⟩, c4⟩ := c
  obtain ⟨a1, a2⟩ := addParts_len l reps.toNat n.toNat [] (by simp)
  have hg := good_parts l c1 reps.toNat (by omega) n.toNat [] (by simp)
  generalize addParts l reps.toNat n.toNat [] = ps at a1 a2 hg
  rw [List.length_nil, Nat.zero_add] at a1
  have hok : ringOk reps ps l = true := by
   rw [ringOk, if_pos ⟨c1, c3, by omega⟩]
   exact partsOk_of reps l ps (fun p hp => ⟨by rw [a2 p hp]; omega, hg p hp⟩)
  have hr := (ringOk_ev reps ps l (by omega) (by omega) (fun x hx => by rw [a2 x hx]; omega)).2
  rw [hok] at hr
  have hz := zonesAll_ev l (by omega)
  have fin : ∀ x10 : Int, x10 = ((min (zonesAll l).length reps.toNat : Nat) : Int) → Ev (fun k => laws_FnRings.j1 k l n reps x10 reps ps) true := fun x10 hx => by
   refine Ev.step (fun k => by rw [laws_FnRings.j1]; rfl) (rings_l0 l hl n reps ps (by omega) (by omega) x10 (fun p hp => ⟨by rw [a2 p hp]; omega, ?_⟩) hr ps 0 rfl)
   rw [hx, (hg p hp).2.2, a2 p hp]
  refine Ev.step (f := fun k => (impl_ZonesOf.f k l).bind fun t => if (t.length : Int) > reps then laws_FnRings.j1 k l n reps reps reps ps else laws_FnRings.j1 k l n reps (t.length : Int) reps ps) (fun k => by rw [laws_FnRings.j0, if_neg (by simp)]) (Ev.bind hz.2 ?_)
  by_cases c5 : ((zonesAll l).length : Int) > reps
  ·exact Ev.pos c5 (fin _ (by omega))
  ·exact Ev.neg c5 (fin _ (by omega))
 ·rw [if_neg c]
  exact Ev.step (f := fun _ => some true) (fun k => by rw [laws_FnRings.j0, if_pos (by decide), if_pos (by decide)]; rfl) (Ev.now _)
end Go.Proofs.Ytpbjbfimnfghkaa.Pure
