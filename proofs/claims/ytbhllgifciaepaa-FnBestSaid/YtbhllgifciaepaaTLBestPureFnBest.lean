/- Trimmed by a program of this session (trim.py). Not trusted: Lean checks it. -/
import Derived.Test.YtbhllgifciaepaaTLBestPFnBestx10
import Derived.Test.YtbhllgifciaepaaTLBestBase
namespace Go.Proofs.Ytbhllgifciaepaa.PureFnBest
open Go.RowKit Go.Proofs.Ytbhllgifciaepaa.PFnBest Go.Proofs.YtbhllgifciaepaaW.PrintWords Go.Proofs.YtbhllgifciaepaaW.PrintLast Go.Proofs.YtbhllgifciaepaaW.PrintMore Go.Proofs.Ytbhllgifciaepaa.Base
set_option linter.unusedVariables false
attribute [local irreducible] Go.bits IntKind.wrap shl shr
theorem l1In_eq (x a b : Int) : spec_l1In.f x a b = some (decide (a ≤ x ∧ x ≤ b)) := by
 unfold spec_l1In.f
 by_cases h : x ≥ a
 ·rw [if_pos h]; simp [show a ≤ x from h]
 ·rw [if_neg h]; simp [show ¬ a ≤ x from h]
theorem in_eq (x a b : Int) : impl_in.f x a b = some (decide (a ≤ x ∧ x ≤ b)) := by
 unfold impl_in.f
 by_cases h : x ≥ a
 ·rw [if_pos h]; simp [show a ≤ x from h]
 ·rw [if_neg h]; simp [show ¬ a ≤ x from h]
theorem rdT_at76 {xs : List S76} {i : Nat} {a : S76} {t : List S76} (h : xs.drop i = a :: t) : rd_T76 xs (i : Int) = a := by
 unfold rd_T76; rw [Int.toNat_natCast]; exact (drop_cons' h _).2.1
def devsFrom (len : Nat) : Option S76 → List S76 → Bool
 | _, [] => decide (1 ≤ (len : Int) ∧ (len : Int) ≤ 12)
 | pr, d :: t => if (0 ≤ d.f0 ∧ d.f0 ≤ 20) ∧ (0 ≤ d.f1 ∧ d.f1 ≤ 20) ∧ (1 ≤ d.f2 ∧ d.f2 ≤ 1000) ∧ (∀ q, pr = some q → q.f0 < d.f0) then devsFrom len (some d) t else false
def devsOk (l : List S76) : Bool := devsFrom l.length none l
theorem devsOk_l0 (xs : List S76) (hN : xs.length ≤ 4611686018427387904) : ∀ (l : List S76) (i : Nat) (pr : Option S76), xs.drop i = l → (∀ q, pr = some q ↔ ∃ j, i = j + 1 ∧ xs[j]? = some q) →
  Ev (fun k => spec_DevsOk.l0 k xs (i : Int)) (devsFrom xs.length pr l) ∧ Ev (fun k => impl_DevsOk.l0 k xs xs (xs.length : Int) (i : Int)) (devsFrom xs.length pr l)
 | [], i, pr, h, hp => by
  have h1 := drop_nil' h
  refine ⟨Ev.step (f := fun _ => some (devsFrom xs.length pr [])) (fun k => ?_) (Ev.now _), Ev.step (f := fun _ => some (devsFrom xs.length pr [])) (fun k => ?_) (Ev.now _)⟩
  ·rw [spec_DevsOk.l0, if_neg (by omega), l1In_eq]; rfl
  ·rw [impl_DevsOk.l0, if_neg (by omega), in_eq]; rfl
 | d :: t, i, pr, h, hp => by
  obtain ⟨h1, hd, h3⟩ := drop_cons' h z76
  have hdi : xs[i]? = some d := by
   rw [List.getElem?_eq_getElem h1]; rw [List.getD_eq_getElem?_getD, List.getElem?_eq_getElem h1] at hd; exact congrArg some hd
  have hr : Hd (rd_T76 xs (i : Int) = d) := ⟨rdT_at76 h⟩
  have w : Hd (wrap64 ((i : Int) + 1) = ((i + 1 : Nat) : Int)) := ⟨w64s h1 hN⟩
  obtain ⟨i1, i2⟩ := devsOk_l0 xs hN t (i + 1) (some d) h3 (fun q => ⟨fun e => ⟨i, rfl, by rw [← e]; exact hdi⟩, fun ⟨j, e1, e2⟩ => by
   have : j = i := by omega
   subst this
   rw [hdi] at e2; exact e2⟩)
  rw [devsFrom]
  by_cases c0 : 0 ≤ d.f0 ∧ d.f0 ≤ 20
  ·by_cases c1 : 0 ≤ d.f1 ∧ d.f1 ≤ 20
   ·by_cases c2 : 1 ≤ d.f2 ∧ d.f2 ≤ 1000
    ·rcases Nat.eq_zero_or_pos i with hi | hi
     ·have hn : pr = none := by
       cases pr with
       | none => rfl
       | some q => obtain ⟨j, e1, _⟩ := (hp q).1 rfl; omega
      rw [if_pos ⟨c0, c1, c2, fun q e => by rw [hn] at e; cases e⟩]
      refine ⟨Ev.step (fun k => ?_) i1, Ev.step (fun k => ?_) i2⟩
      ·rw [spec_DevsOk.l0, if_pos (by omega), if_pos (by omega), hr.out, l1In_eq, Option.bind_some, decide_eq_true c0, if_pos rfl, l1In_eq, Option.bind_some, decide_eq_true c1, if_pos rfl, l1In_eq, Option.bind_some, decide_eq_true c2, if_pos rfl, if_neg (by omega), w.out]
      ·rw [impl_DevsOk.l0, if_pos (by omega), if_pos (by omega), if_pos (by omega), hr.out, in_eq, Option.bind_some, decide_eq_true c0, if_pos rfl, in_eq, Option.bind_some, decide_eq_true c1, if_pos rfl, in_eq, Option.bind_some, decide_eq_true c2, if_pos rfl, if_neg (by omega), w.out]
     ·obtain ⟨j, rfl⟩ : ∃ j, i = j + 1 := ⟨i - 1, by omega⟩
      have hj : j < xs.length := by omega
      have hq : pr = some xs[j] := (hp xs[j]).2 ⟨j, rfl, List.getElem?_eq_getElem hj⟩
      have wm : Hd (wrap64 (((j + 1 : Nat) : Int) - 1) = (j : Int)) := ⟨by rw [w64 (by omega) (by omega)]; omega⟩
      have hrj : Hd (rd_T76 xs (j : Int) = xs[j]) := ⟨by
       unfold rd_T76; rw [Int.toNat_natCast, List.getD_eq_getElem?_getD, List.getElem?_eq_getElem hj]; rfl⟩
      by_cases c3 : xs[j].f0 < d.f0
      ·rw [if_pos ⟨c0, c1, c2, fun q e => by rw [hq] at e; injection e with e; rw [← e]; exact c3⟩]
       refine ⟨Ev.step (fun k => ?_) i1, Ev.step (fun k => ?_) i2⟩
       ·rw [spec_DevsOk.l0, if_pos (by omega), if_pos (by omega), hr.out, l1In_eq, Option.bind_some, decide_eq_true c0, if_pos rfl, l1In_eq, Option.bind_some, decide_eq_true c1, if_pos rfl, l1In_eq, Option.bind_some, decide_eq_true c2, if_pos rfl, if_pos (by omega), wm.out, if_pos (by omega), if_pos (by omega), hrj.out, if_neg (by omega), w.out]
       ·rw [impl_DevsOk.l0, if_pos (by omega), if_pos (by omega), if_pos (by omega), hr.out, in_eq, Option.bind_some, decide_eq_true c0, if_pos rfl, in_eq, Option.bind_some, decide_eq_true c1, if_pos rfl, in_eq, Option.bind_some, decide_eq_true c2, if_pos rfl, if_pos (by omega), wm.out, if_pos (by omega), if_pos (by omega), hrj.out, if_neg (by omega), w.out]
      ·rw [if_neg (fun hc => c3 (hc.2.2.2 _ hq))]
       refine ⟨Ev.step (f := fun _ => some false) (fun k => ?_) (Ev.now _), Ev.step (f := fun _ => some false) (fun k => ?_) (Ev.now _)⟩
       ·rw [spec_DevsOk.l0, if_pos (by omega), if_pos (by omega), hr.out, l1In_eq, Option.bind_some, decide_eq_true c0, if_pos rfl, l1In_eq, Option.bind_some, decide_eq_true c1, if_pos rfl, l1In_eq, Option.bind_some, decide_eq_true c2, if_pos rfl, if_pos (by omega), wm.out, if_pos (by omega), if_pos (by omega), hrj.out, if_pos (by omega)]
       ·rw [impl_DevsOk.l0, if_pos (by omega), if_pos (by omega), if_pos (by omega), hr.out, in_eq, Option.bind_some, decide_eq_true c0, if_pos rfl, in_eq, Option.bind_some, decide_eq_true c1, if_pos rfl, in_eq, Option.bind_some, decide_eq_true c2, if_pos rfl, if_pos (by omega), wm.out, if_pos (by omega), if_pos (by omega), hrj.out, if_pos (by omega)]
    ·rw [if_neg (fun hc => c2 hc.2.2.1)]
     refine ⟨Ev.step (f := fun _ => some false) (fun k => ?_) (Ev.now _), Ev.step (f := fun _ => some false) (fun k => ?_) (Ev.now _)⟩
     ·rw [spec_DevsOk.l0, if_pos (by omega), if_pos (by omega), hr.out, l1In_eq, Option.bind_some, decide_eq_true c0, if_pos rfl, l1In_eq, Option.bind_some, decide_eq_true c1, if_pos rfl, l1In_eq, Option.bind_some, decide_eq_false c2, if_neg (by decide)]
     ·rw [impl_DevsOk.l0, if_pos (by omega), if_pos (by omega), if_pos (by omega), hr.out, in_eq, Option.bind_some, decide_eq_true c0, if_pos rfl, in_eq, Option.bind_some, decide_eq_true c1, if_pos rfl, in_eq, Option.bind_some, decide_eq_false c2, if_neg (by decide)]
   ·rw [if_neg (fun hc => c1 hc.2.1)]
    refine ⟨Ev.step (f := fun _ => some false) (fun k => ?_) (Ev.now _), Ev.step (f := fun _ => some false) (fun k => ?_) (Ev.now _)⟩
    ·rw [spec_DevsOk.l0, if_pos (by omega), if_pos (by omega), hr.out, l1In_eq, Option.bind_some, decide_eq_true c0, if_pos rfl, l1In_eq, Option.bind_some, decide_eq_false c1, if_neg (by decide)]
    ·rw [impl_DevsOk.l0, if_pos (by omega), if_pos (by omega), if_pos (by omega), hr.out, in_eq, Option.bind_some, decide_eq_true c0, if_pos rfl, in_eq, Option.bind_some, decide_eq_false c1, if_neg (by decide)]
  ·rw [if_neg (fun hc => c0 hc.1)]
   refine ⟨Ev.step (f := fun _ => some false) (fun k => ?_) (Ev.now _), Ev.step (f := fun _ => some false) (fun k => ?_) (Ev.now _)⟩
   ·rw [spec_DevsOk.l0, if_pos (by omega), if_pos (by omega), hr.out, l1In_eq, Option.bind_some, decide_eq_false c0, if_neg (by decide)]
   ·rw [impl_DevsOk.l0, if_pos (by omega), if_pos (by omega), if_pos (by omega), hr.out, in_eq, Option.bind_some, decide_eq_false c0, if_neg (by decide)]
theorem devsOk_ev (xs : List S76) (hN : xs.length ≤ 4611686018427387904) : Ev (fun k => spec_DevsOk.f k xs) (devsOk xs) ∧ Ev (fun k => impl_DevsOk.f k xs) (devsOk xs) :=
 devsOk_l0 xs hN xs 0 none rfl (fun q => ⟨fun e => (by cases e), fun ⟨j, e, _⟩ => (by omega)⟩)
theorem devsFrom_mem (n : Nat) : ∀ (l : List S76) (pr : Option S76), devsFrom n pr l = true → ∀ d ∈ l, (0 ≤ d.f0 ∧ d.f0 ≤ 20) ∧ (0 ≤ d.f1 ∧ d.f1 ≤ 20) ∧ (1 ≤ d.f2 ∧ d.f2 ≤ 1000)
 | [], _, _, d, hd => by cases hd
 | a :: t, pr, h, d, hd => by
  rw [devsFrom] at h
  by_cases c : (0 ≤ a.f0 ∧ a.f0 ≤ 20) ∧ (0 ≤ a.f1 ∧ a.f1 ≤ 20) ∧ (1 ≤ a.f2 ∧ a.f2 ≤ 1000) ∧ (∀ q, pr = some q → q.f0 < a.f0)
  ·rw [if_pos c] at h
   rcases List.mem_cons.1 hd with rfl | hd
   ·exact ⟨c.1, c.2.1, c.2.2.1⟩
   ·exact devsFrom_mem n t (some a) h d hd
  ·rw [if_neg c] at h
   cases h
def devAt (id : Int) : List S76 → Int × Int × Int × Bool
 | [] => (0, 0, 0, false)
 | d :: t => if d.f0 = id then (d.f0, d.f1, d.f2, true) else devAt id t
theorem devAt_l0i (xs : List S76) (id : Int) (hN : xs.length ≤ 4611686018427387904) : ∀ (l : List S76) (i : Nat), xs.drop i = l → Ev (fun k => impl_DevAt.l0 k id xs (xs.length : Int) (i : Int)) (devAt id l)
 | [], i, h => by
  have h1 := drop_nil' h
  refine Ev.step (f := fun _ => some (0, 0, 0, false)) (fun k => ?_) (Ev.now _)
  rw [impl_DevAt.l0, if_neg (by omega)]
 | a :: t, i, h => by
  obtain ⟨h1, _, h3⟩ := drop_cons' h z76
  have ih := devAt_l0i xs id hN t (i + 1) h3
  refine Ev.step (f := fun k => if a.f0 = id then some (a.f0, a.f1, a.f2, true) else impl_DevAt.l0 k id xs (xs.length : Int) ((i + 1 : Nat) : Int)) (fun k => ?_) ?_
  ·rw [impl_DevAt.l0, if_pos (by omega), if_pos (by omega), if_pos (by omega), rdT_at76 h, w64s h1 hN]
  ·by_cases c : a.f0 = id
   ·rw [devAt, if_pos c]; exact Ev.pos c (Ev.now _)
   ·rw [devAt, if_neg c]; exact Ev.neg c ih
theorem devAt_l0s (xs : List S76) (id : Int) (hN : xs.length ≤ 4611686018427387904) : ∀ (l : List S76) (i : Nat), xs.drop i = l → Ev (fun k => spec_DevAt.l0 k xs id (i : Int)) (devAt id l)
 | [], i, h => by
  have h1 := drop_nil' h
  refine Ev.step (f := fun _ => some (0, 0, 0, false)) (fun k => ?_) (Ev.now _)
  rw [spec_DevAt.l0, if_neg (by omega)]
 | a :: t, i, h => by
  obtain ⟨h1, _, h3⟩ := drop_cons' h z76
  have ih := devAt_l0s xs id hN t (i + 1) h3
  refine Ev.step (f := fun k => if a.f0 = id then some (a.f0, a.f1, a.f2, true) else spec_DevAt.l0 k xs id ((i + 1 : Nat) : Int)) (fun k => ?_) ?_
  ·rw [spec_DevAt.l0, if_pos (by omega), if_pos (by omega), rdT_at76 h, w64s h1 hN]
  ·by_cases c : a.f0 = id
   ·rw [devAt, if_pos c]; exact Ev.pos c (Ev.now _)
   ·rw [devAt, if_neg c]; exact Ev.neg c ih
theorem devAt_ev (xs : List S76) (id : Int) (hN : xs.length ≤ 4611686018427387904) : Ev (fun k => spec_DevAt.f k xs id) (devAt id xs) ∧ Ev (fun k => impl_DevAt.f k xs id) (devAt id xs) :=
 ⟨devAt_l0s xs id hN xs 0 rfl, devAt_l0i xs id hN xs 0 rfl⟩
def hasI : List Int → Int → Bool
 | [], _ => false
 | a :: t, x => if a = x then true else hasI t x
theorem l4Has_l0 (xs : List Int) (x : Int) (hN : xs.length ≤ 4611686018427387904) : ∀ (l : List Int) (i : Nat), xs.drop i = l → Ev (fun k => spec_l4Has.l0 k xs x (i : Int)) (hasI l x)
 | [], i, h => by
  have h1 := drop_nil' h
  refine Ev.step (f := fun _ => some false) (fun k => ?_) (Ev.now _)
  rw [spec_l4Has.l0, if_neg (by omega)]
 | a :: t, i, h => by
  obtain ⟨h1, _, h3⟩ := drop_cons' h 0
  refine Ev.step (f := fun k => if a = x then some true else spec_l4Has.l0 k xs x ((i + 1 : Nat) : Int)) (fun k => ?_) ?_
  ·rw [spec_l4Has.l0, if_pos (by omega), if_pos (by omega), rd_at h, w64s h1 hN]
  ·by_cases c : a = x
   ·rw [hasI, if_pos c]; exact Ev.pos c (Ev.now _)
   ·rw [hasI, if_neg c]; exact Ev.neg c (l4Has_l0 xs x hN t (i + 1) h3)
theorem l4Has_ev (xs : List Int) (x : Int) (hN : xs.length ≤ 4611686018427387904) : Ev (fun k => spec_l4Has.f k xs x) (hasI xs x) := l4Has_l0 xs x hN xs 0 rfl
theorem hasInt_l0 (xs : List Int) (x : Int) (hN : xs.length ≤ 4611686018427387904) : ∀ (l : List Int) (i : Nat), xs.drop i = l → Ev (fun k => impl_hasInt.l0 k x xs (xs.length : Int) (i : Int)) (hasI l x)
 | [], i, h => by
  have h1 := drop_nil' h
  refine Ev.step (f := fun _ => some false) (fun k => ?_) (Ev.now _)
  rw [impl_hasInt.l0, if_neg (by omega)]
 | a :: t, i, h => by
  obtain ⟨h1, _, h3⟩ := drop_cons' h 0
  refine Ev.step (f := fun k => if a = x then some true else impl_hasInt.l0 k x xs (xs.length : Int) ((i + 1 : Nat) : Int)) (fun k => ?_) ?_
  ·rw [impl_hasInt.l0, if_pos (by omega), if_pos (by omega), if_pos (by omega), rd_at h, w64s h1 hN]
  ·by_cases c : a = x
   ·rw [hasI, if_pos c]; exact Ev.pos c (Ev.now _)
   ·rw [hasI, if_neg c]; exact Ev.neg c (hasInt_l0 xs x hN t (i + 1) h3)
theorem hasInt_ev (xs : List Int) (x : Int) (hN : xs.length ≤ 4611686018427387904) : Ev (fun k => impl_hasInt.f k xs x) (hasI xs x) := hasInt_l0 xs x hN xs 0 rfl
def zoneOf (l : List S76) (id : Int) : Option Int := if (devAt id l).2.2.2 = true then some (devAt id l).2.1 else none
def zonesFrom (l : List S76) : List Int → List Int → List Int
 | acc, [] => acc
 | acc, id :: t => match zoneOf l id with
  | none => zonesFrom l acc t
  | some z => if hasI acc z = true then zonesFrom l acc t else zonesFrom l (acc ++ [z]) t
theorem zones_l0 (l : List S76) (ids : List Int) (hl : l.length ≤ 1048576) (hN : ids.length ≤ 1048576) : ∀ (t : List Int) (i : Nat) (acc : List Int), ids.drop i = t → acc.length ≤ i →
  Ev (fun k => spec_l5Zones.l0 k ids l acc (i : Int)) (zonesFrom l acc t) ∧ Ev (fun k => impl_zonesIn.l0 k l acc ids (ids.length : Int) (i : Int)) (zonesFrom l acc t)
 | [], i, acc, h, ha => by
  have h1 := drop_nil' h
  refine ⟨Ev.step (f := fun _ => some acc) (fun k => ?_) (Ev.now _), Ev.step (f := fun _ => some acc) (fun k => ?_) (Ev.now _)⟩
  ·rw [spec_l5Zones.l0, if_neg (by omega)]
  ·rw [impl_zonesIn.l0, if_neg (by omega)]
 | id :: t, i, acc, h, ha => by
  obtain ⟨h1, _, h3⟩ := drop_cons' h 0
  have hr : Hd (rd ids (i : Int) = id) := ⟨rd_at h⟩
  have w : Hd (wrap64 ((i : Int) + 1) = ((i + 1 : Nat) : Int)) := ⟨w64s h1 (by omega)⟩
  obtain ⟨d1, d2⟩ := devAt_ev l id (by omega)
  have ih := fun acc' (ha' : acc'.length ≤ i + 1) => zones_l0 l ids hl hN t (i + 1) acc' h3 ha'
  rw [zonesFrom, zoneOf]
  by_cases c : (devAt id l).2.2.2 = true
  ·simp only [if_pos c]
   by_cases c2 : hasI acc (devAt id l).2.1 = true
   ·rw [if_pos c2]
    refine ⟨Ev.step (fun k => by rw [spec_l5Zones.l0, if_pos (by omega), if_pos (by omega), hr.out, w.out]) ?_, Ev.step (fun k => by rw [impl_zonesIn.l0, if_pos (by omega), if_pos (by omega), if_pos (by omega), hr.out, w.out]) ?_⟩
    ·exact Ev.bind d1 (Ev.pos c (Ev.bind (l4Has_ev acc _ (by omega)) (Ev.pos c2 (ih acc (by omega)).1)))
    ·exact Ev.bind d2 (Ev.pos c (Ev.bind (hasInt_ev acc _ (by omega)) (Ev.pos c2 (ih acc (by omega)).2)))
   ·rw [if_neg c2]
    refine ⟨Ev.step (fun k => by rw [spec_l5Zones.l0, if_pos (by omega), if_pos (by omega), hr.out, w.out]) ?_, Ev.step (fun k => by rw [impl_zonesIn.l0, if_pos (by omega), if_pos (by omega), if_pos (by omega), hr.out, w.out]) ?_⟩
    ·exact Ev.bind d1 (Ev.pos c (Ev.bind (l4Has_ev acc _ (by omega)) (Ev.neg c2 (Ev.pos (by omega) (ih _ (by simp; omega)).1))))
    ·exact Ev.bind d2 (Ev.pos c (Ev.bind (hasInt_ev acc _ (by omega)) (Ev.neg c2 (Ev.pos (by omega) (ih _ (by simp; omega)).2))))
  ·simp only [if_neg c]
   refine ⟨Ev.step (fun k => by rw [spec_l5Zones.l0, if_pos (by omega), if_pos (by omega), hr.out, w.out]) ?_, Ev.step (fun k => by rw [impl_zonesIn.l0, if_pos (by omega), if_pos (by omega), if_pos (by omega), hr.out, w.out]) ?_⟩
   ·exact Ev.bind d1 (Ev.neg c (ih acc (by omega)).1)
   ·exact Ev.bind d2 (Ev.neg c (ih acc (by omega)).2)
def zonesOf (ids : List Int) (l : List S76) : List Int := zonesFrom l [] ids
theorem zones_ev (ids : List Int) (l : List S76) (hN : ids.length ≤ 1048576) (hl : l.length ≤ 1048576) : Ev (fun k => spec_l5Zones.f k ids l) (zonesOf ids l) ∧ Ev (fun k => impl_zonesIn.f k ids l) (zonesOf ids l) :=
 zones_l0 l ids hl hN ids 0 [] rfl (Nat.le_refl _)
theorem zonesFrom_len (l : List S76) : ∀ (t acc : List Int), (zonesFrom l acc t).length ≤ acc.length + t.length
 | [], acc => by rw [zonesFrom]; simp
 | id :: t, acc => by
  rw [zonesFrom]
  rw [List.length_cons]
  split
  ·have := zonesFrom_len l t acc; omega
  ·split
   ·have := zonesFrom_len l t acc; omega
   ·next z _ _ => have := zonesFrom_len l t (acc ++ [z]); rw [List.length_append] at this; simp at this; omega
theorem rdT_at29 {xs : List S29} {i : Nat} {a : S29} {t : List S29} (h : xs.drop i = a :: t) : rd_T29 xs (i : Int) = a := by
 unfold rd_T29; rw [Int.toNat_natCast]; exact (drop_cons' h _).2.1
def cntI (id : Int) : List Int → Nat
 | [] => 0
 | a :: t => (if a = id then 1 else 0) + cntI id t
def loadOf (id : Int) : List S29 → Nat
 | [] => 0
 | p :: t => cntI id p.f0 + loadOf id t
def lens : List S29 → Nat
 | [] => 0
 | p :: t => p.f0.length + lens t
theorem cntI_le (id : Int) : ∀ l : List Int, cntI id l ≤ l.length
 | [] => Nat.le_refl _
 | a :: t => by
  have := cntI_le id t
  rw [cntI, List.length_cons]
  split <;> omega
theorem loadOf_le (id : Int) : ∀ l : List S29, loadOf id l ≤ lens l
 | [] => Nat.le_refl _
 | p :: t => by
  have h1 := loadOf_le id t
  have h2 := cntI_le id p.f0
  rw [loadOf, lens]
  omega
theorem lens_le (m : Nat) : ∀ l : List S29, (∀ x ∈ l, x.f0.length ≤ m) → lens l ≤ l.length * m
 | [], _ => Nat.zero_le _
 | p :: t, h => by
  have h1 := lens_le m t (fun x hx => h x (List.mem_cons_of_mem _ hx))
  have h2 := h p List.mem_cons_self
  rw [lens, List.length_cons, Nat.succ_mul]
  omega
theorem spec_loadOf_l1 (ps : List S29) (p : S29) (id reps : Int) (i : Nat) (hi : i < ps.length) (hp : rd_T29 ps (i : Int) = p) (hN : p.f0.length ≤ 4611686018427387904) (r : Int) :
  ∀ (l : List Int) (j : Nat) (n : Nat), p.f0.drop j = l → n + l.length ≤ 4611686018427387904 → Ev (fun k => spec_LoadOf.l0 k id ((n + cntI id l : Nat) : Int) (wrap64 ((i : Int) + 1)) reps ps) r → Ev (fun k => spec_LoadOf.l1 k id (n : Int) (i : Int) (j : Int) reps ps) r
 | [], j, n, h, hn, hr => by
  have h1 := drop_nil' h
  refine Ev.step (fun k => ?_) hr
  rw [spec_LoadOf.l1, if_pos (by omega), if_pos (by omega), hp, if_neg (by omega)]
  rfl
 | a :: t, j, n, h, hn, hr => by
  obtain ⟨h1, _, h3⟩ := drop_cons' h 0
  rw [List.length_cons] at hn
  have hrd : Hd (rd p.f0 (j : Int) = a) := ⟨rd_at h⟩
  have w : Hd (wrap64 ((j : Int) + 1) = ((j + 1 : Nat) : Int)) := ⟨w64s h1 hN⟩
  have wn : Hd (wrap64 ((n : Int) + 1) = ((n + 1 : Nat) : Int)) := ⟨w64s (n := n + 1) (by omega) (by omega)⟩
  by_cases c : a = id
  ·rw [cntI, if_pos c] at hr
   refine Ev.step (fun k => ?_) (spec_loadOf_l1 ps p id reps i hi hp hN r t (j + 1) (n + 1) h3 (by omega) (by rw [show n + 1 + cntI id t = n + (1 + cntI id t) by omega]; exact hr))
   rw [spec_LoadOf.l1, if_pos (by omega), if_pos (by omega), hp, if_pos (by omega), if_pos (by omega), hrd.out, if_pos c, w.out, wn.out]
  ·rw [cntI, if_neg c, Nat.zero_add] at hr
   refine Ev.step (fun k => ?_) (spec_loadOf_l1 ps p id reps i hi hp hN r t (j + 1) n h3 (by omega) hr)
   rw [spec_LoadOf.l1, if_pos (by omega), if_pos (by omega), hp, if_pos (by omega), if_pos (by omega), hrd.out, if_neg c, w.out]
theorem spec_loadOf_l0 (ps : List S29) (id reps : Int) (hN : ps.length ≤ 4611686018427387904) : ∀ (l : List S29) (i n : Nat), ps.drop i = l → n + lens l ≤ 4611686018427387904 → Ev (fun k => spec_LoadOf.l0 k id (n : Int) (i : Int) reps ps) ((n + loadOf id l : Nat) : Int)
 | [], i, n, h, hn => by
  have h1 := drop_nil' h
  refine Ev.step (f := fun _ => some (n : Int)) (fun k => ?_) (Ev.now _)
  rw [spec_LoadOf.l0, if_neg (by omega)]
 | p :: t, i, n, h, hn => by
  obtain ⟨h1, _, h3⟩ := drop_cons' h z29
  rw [lens] at hn
  have hc := cntI_le id p.f0
  have ih := spec_loadOf_l0 ps id reps hN t (i + 1) (n + cntI id p.f0) h3 (by omega)
  have hr : Ev (fun k => spec_LoadOf.l1 k id (n : Int) (i : Int) ((0 : Nat) : Int) reps ps) ((n + loadOf id (p :: t) : Nat) : Int) :=
   spec_loadOf_l1 ps p id reps i h1 (rdT_at29 h) (by omega) _ p.f0 0 n rfl (by omega) (by rw [w64s h1 hN, loadOf, ← Nat.add_assoc]; exact ih)
  refine Ev.step (fun k => ?_) hr
  rw [spec_LoadOf.l0, if_pos (by omega)]
  rfl
theorem spec_loadOf_ev (a : Int) (ps : List S29) (id : Int) (hN : ps.length ≤ 4611686018427387904) (hl : lens ps ≤ 4611686018427387904) : Ev (fun k => spec_LoadOf.f k a ps id) ((loadOf id ps : Nat) : Int) := by
 have h := spec_loadOf_l0 ps id a hN ps 0 0 rfl (by omega)
 rw [Nat.zero_add] at h
 exact h
theorem impl_loadOf_l1 (ps : List S29) (xs : List Int) (id : Int) (n0 i : Int) (hN : xs.length ≤ 4611686018427387904) (r : Int) :
  ∀ (l : List Int) (j : Nat) (n : Nat), xs.drop j = l → n + l.length ≤ 4611686018427387904 → Ev (fun k => impl_LoadOf.l0 k id ((n + cntI id l : Nat) : Int) ps n0 (wrap64 (i + 1))) r → Ev (fun k => impl_LoadOf.l1 k id (n : Int) ps n0 i xs (xs.length : Int) (j : Int)) r
 | [], j, n, h, hn, hr => by
  have h1 := drop_nil' h
  refine Ev.step (fun k => ?_) hr
  rw [impl_LoadOf.l1, if_neg (by omega)]
  rfl
 | a :: t, j, n, h, hn, hr => by
  obtain ⟨h1, _, h3⟩ := drop_cons' h 0
  rw [List.length_cons] at hn
  have hrd : Hd (rd xs (j : Int) = a) := ⟨rd_at h⟩
  have w : Hd (wrap64 ((j : Int) + 1) = ((j + 1 : Nat) : Int)) := ⟨w64s h1 hN⟩
  have wn : Hd (wrap64 ((n : Int) + 1) = ((n + 1 : Nat) : Int)) := ⟨w64s (n := n + 1) (by omega) (by omega)⟩
  by_cases c : a = id
  ·rw [cntI, if_pos c] at hr
   refine Ev.step (fun k => ?_) (impl_loadOf_l1 ps xs id n0 i hN r t (j + 1) (n + 1) h3 (by omega) (by rw [show n + 1 + cntI id t = n + (1 + cntI id t) by omega]; exact hr))
   rw [impl_LoadOf.l1, if_pos (by omega), if_pos (by omega), if_pos (by omega), hrd.out, if_pos c, w.out, wn.out]
  ·rw [cntI, if_neg c, Nat.zero_add] at hr
   refine Ev.step (fun k => ?_) (impl_loadOf_l1 ps xs id n0 i hN r t (j + 1) n h3 (by omega) hr)
   rw [impl_LoadOf.l1, if_pos (by omega), if_pos (by omega), if_pos (by omega), hrd.out, if_neg c, w.out]
theorem impl_loadOf_l0 (ps : List S29) (id : Int) (hN : ps.length ≤ 4611686018427387904) : ∀ (l : List S29) (i n : Nat), ps.drop i = l → n + lens l ≤ 4611686018427387904 → Ev (fun k => impl_LoadOf.l0 k id (n : Int) ps (ps.length : Int) (i : Int)) ((n + loadOf id l : Nat) : Int)
 | [], i, n, h, hn => by
  have h1 := drop_nil' h
  refine Ev.step (f := fun _ => some (n : Int)) (fun k => ?_) (Ev.now _)
  rw [impl_LoadOf.l0, if_neg (by omega)]
 | p :: t, i, n, h, hn => by
  obtain ⟨h1, _, h3⟩ := drop_cons' h z29
  rw [lens] at hn
  have hc := cntI_le id p.f0
  have ih := impl_loadOf_l0 ps id hN t (i + 1) (n + cntI id p.f0) h3 (by omega)
  have hr : Ev (fun k => impl_LoadOf.l1 k id (n : Int) ps (ps.length : Int) (i : Int) p.f0 (p.f0.length : Int) ((0 : Nat) : Int)) ((n + loadOf id (p :: t) : Nat) : Int) :=
   impl_loadOf_l1 ps p.f0 id _ _ (by omega) _ p.f0 0 n rfl (by omega) (by rw [w64s h1 hN, loadOf, ← Nat.add_assoc]; exact ih)
  refine Ev.step (fun k => ?_) hr
  rw [impl_LoadOf.l0, if_pos (by omega), if_pos (by omega), if_pos (by omega), rdT_at29 h]
  rfl
theorem impl_loadOf_ev (a : Int) (ps : List S29) (id : Int) (hN : ps.length ≤ 4611686018427387904) (hl : lens ps ≤ 4611686018427387904) : Ev (fun k => impl_LoadOf.f k a ps id) ((loadOf id ps : Nat) : Int) := by
 have h := impl_loadOf_l0 ps id hN ps 0 0 rfl (by omega)
 rw [Nat.zero_add] at h
 exact h
theorem wmul {n : Nat} {w : Int} (hn : n ≤ 1099511627776) (h0 : 1 ≤ w) (h1 : w ≤ 1000) : wrap64 (((n : Int) + 1) * w) = ((n : Int) + 1) * w := by
 have h2 : ((n : Int) + 1) * w ≤ 1099511627777 * 1000 := Int.mul_le_mul (by omega) h1 (by omega) (by omega)
 have h3 : 0 ≤ ((n : Int) + 1) * w := Int.mul_nonneg (by omega) (by omega)
 exact w64 (by omega) (by omega)
theorem wone {n : Nat} (hn : n ≤ 1099511627776) : wrap64 ((n : Int) + 1) = (n : Int) + 1 := w64 (by omega) (by omega)
abbrev lighter (r : List S29) (d q : S76) : Prop := ((loadOf d.f0 r : Nat) + 1 : Int) * q.f2 < ((loadOf q.f0 r : Nat) + 1 : Int) * d.f2
def bestFrom (r : List S29) (prt zs : List Int) : Option S76 → Bool → List S76 → Option S76
 | b, _, [] => b
 | b, fr, d :: t => if hasI prt d.f0 = true then bestFrom r prt zs b fr t else
  match b with
  | none => bestFrom r prt zs (some d) (!hasI zs d.f1) t
  | some q => if hasI zs d.f1 = false ∧ fr = false then bestFrom r prt zs (some d) true t
   else if (!hasI zs d.f1) = fr ∧ lighter r d q then bestFrom r prt zs (some d) fr t else bestFrom r prt zs (some q) fr t
theorem bestFrom_has {r : List S29} {prt zs : List Int} {b : Option S76} {fr : Bool} {d : S76} {t : List S76} (c : hasI prt d.f0 = true) : bestFrom r prt zs b fr (d :: t) = bestFrom r prt zs b fr t := by
 conv => lhs; unfold bestFrom
 rw [if_pos c]
theorem bestFrom_none {r : List S29} {prt zs : List Int} {fr : Bool} {d : S76} {t : List S76} (c : ¬hasI prt d.f0 = true) : bestFrom r prt zs none fr (d :: t) = bestFrom r prt zs (some d) (!hasI zs d.f1) t := by
 conv => lhs; unfold bestFrom
 rw [if_neg c]
theorem bestFrom_some {r : List S29} {prt zs : List Int} {q : S76} {fr : Bool} {d : S76} {t : List S76} (c : ¬hasI prt d.f0 = true) : bestFrom r prt zs (some q) fr (d :: t) = (if hasI zs d.f1 = false ∧ fr = false then bestFrom r prt zs (some d) true t
   else if (!hasI zs d.f1) = fr ∧ lighter r d q then bestFrom r prt zs (some d) fr t else bestFrom r prt zs (some q) fr t) := by
 conv => lhs; unfold bestFrom
 rw [if_neg c]
def idOf : Option S76 → Int
 | none => -1
 | some q => q.f0
theorem spec_best_l0 (xs : List S76) (hok : devsOk xs = true) (hN : xs.length ≤ 1048576) (r : List S29) (hr1 : r.length ≤ 1048576) (hr2 : lens r ≤ 1099511627776) (prt zs : List Int) (hp : prt.length ≤ 1048576) (hz : zs.length ≤ 1048576) (a : Int) :
  ∀ (t : List S76) (i : Nat) (b : Option S76) (fr : Bool) (x8 : Int), xs.drop i = t → (b = none ∧ x8 = -1 ∨ ∃ (q : S76) (j : Nat), b = some q ∧ x8 = (j : Int) ∧ xs[j]? = some q) →
   Ev (fun k => spec_Best.l0 k xs zs x8 fr (i : Int) a r prt) (idOf (bestFrom r prt zs b fr t))
 | [], i, b, fr, x8, h, hb => by
  have h1 := drop_nil' h
  refine Ev.step (f := fun k => spec_Best.j1 k xs zs x8 fr (i : Int) false a r prt) (fun k => by rw [spec_Best.l0, if_neg (by omega)]) ?_
  rcases hb with ⟨rfl, rfl⟩ | ⟨q, j, rfl, rfl, hj⟩
  ·exact Ev.step (f := fun _ => some (-1)) (fun k => by rw [spec_Best.j1, if_neg (by decide), if_pos (by omega)]) (Ev.now _)
  ·have hjl : j < xs.length := (List.getElem?_eq_some_iff.1 hj).1
   have hrd : rd_T76 xs (j : Int) = q := by unfold rd_T76; rw [Int.toNat_natCast, List.getD_eq_getElem?_getD, hj]; rfl
   exact Ev.step (f := fun _ => some q.f0) (fun k => by rw [spec_Best.j1, if_neg (by decide), if_neg (by omega), if_pos (by omega), if_pos (by omega), hrd]) (Ev.now _)
 | d :: t, i, b, fr, x8, h, hb => by
  obtain ⟨h1, hd0, h3⟩ := drop_cons' h z76
  have hdi : xs[i]? = some d := by
   rw [List.getElem?_eq_getElem h1]; rw [List.getD_eq_getElem?_getD, List.getElem?_eq_getElem h1] at hd0; exact congrArg some hd0
  have hr : Hd (rd_T76 xs (i : Int) = d) := ⟨rdT_at76 h⟩
  have w : Hd (wrap64 ((i : Int) + 1) = ((i + 1 : Nat) : Int)) := ⟨w64s h1 (by omega)⟩
  have hdb := devsFrom_mem xs.length xs none hok d (List.mem_of_mem_drop (by rw [h]; exact List.mem_cons_self))
  have ih := fun b' fr' x' hb' => spec_best_l0 xs hok hN r hr1 hr2 prt zs hp hz a t (i + 1) b' fr' x' h3 hb'
  have ihd := fun fr' => ih (some d) fr' (i : Int) (Or.inr ⟨d, i, rfl, rfl, hdi⟩)
  refine Ev.step (f := fun k => (spec_DevsOk.f k xs).bind fun t1 => spec_Best.j1 k xs zs x8 fr (i : Int) t1 a r prt) (fun k => by rw [spec_Best.l0, if_pos (by omega)]) (Ev.bind (devsOk_ev xs (by omega)).1 ?_)
  rw [hok]
  refine Ev.step (f := fun k => (spec_l4Has.f k prt d.f0).bind fun t1 => if t1 = true then spec_Best.l0 k xs zs x8 fr ((i + 1 : Nat) : Int) a r prt else (spec_l4Has.f k zs d.f1).bind fun t2 => if x8 < 0 then spec_Best.j2 k xs zs x8 fr (i : Int) (!t2) true a r prt d.f0 d.f1 d.f2 else if t2 = true then spec_Best.j2 k xs zs x8 fr (i : Int) (!t2) false a r prt d.f0 d.f1 d.f2 else spec_Best.j2 k xs zs x8 fr (i : Int) (!t2) (!fr) a r prt d.f0 d.f1 d.f2) (fun k => by rw [spec_Best.j1, if_pos rfl, if_pos (by omega), if_pos (by omega), hr.out, w.out]) ?_
  refine Ev.bind (l4Has_ev prt d.f0 (by omega)) ?_
  by_cases c : hasI prt d.f0 = true
  ·rw [bestFrom_has c]
   exact Ev.pos c (ih b fr x8 hb)
  refine Ev.neg c (Ev.bind (l4Has_ev zs d.f1 (by omega)) ?_)
  have take : ∀ is : Bool, Ev (fun k => spec_Best.j2 k xs zs x8 fr (i : Int) is true a r prt d.f0 d.f1 d.f2) (idOf (bestFrom r prt zs (some d) is t)) := fun is =>
   Ev.step (f := fun k => spec_Best.l0 k xs zs (i : Int) is ((i + 1 : Nat) : Int) a r prt) (fun k => by rw [spec_Best.j2, if_pos rfl, w.out]) (ihd is)
  rcases hb with ⟨rfl, rfl⟩ | ⟨q, j, rfl, rfl, hj⟩
  ·rw [bestFrom_none c]
   exact Ev.pos (by omega) (take _)
  ·have hjl : j < xs.length := (List.getElem?_eq_some_iff.1 hj).1
   have hrd : Hd (rd_T76 xs (j : Int) = q) := ⟨by unfold rd_T76; rw [Int.toNat_natCast, List.getD_eq_getElem?_getD, hj]; rfl⟩
   have hqb := devsFrom_mem xs.length xs none hok q (List.mem_of_getElem? hj)
   have ihq := ih (some q) fr (j : Int) (Or.inr ⟨q, j, rfl, rfl, hj⟩)
   have ld := loadOf_le d.f0 r
   have lq := loadOf_le q.f0 r
   have m1 : Hd (wrap64 (wrap64 (((loadOf d.f0 r : Nat) : Int) + 1) * q.f2) = (((loadOf d.f0 r : Nat) : Int) + 1) * q.f2) := ⟨by rw [wone (by omega)]; exact wmul (by omega) (by omega) (by omega)⟩
   have m2 : Hd (wrap64 (wrap64 (((loadOf q.f0 r : Nat) : Int) + 1) * d.f2) = (((loadOf q.f0 r : Nat) : Int) + 1) * d.f2) := ⟨by rw [wone (by omega)]; exact wmul (by omega) (by omega) (by omega)⟩
   have cmp : ∀ is : Bool, Ev (fun k => spec_Best.j2 k xs zs (j : Int) fr (i : Int) is false a r prt d.f0 d.f1 d.f2) (idOf (if is = fr ∧ lighter r d q then bestFrom r prt zs (some d) fr t else bestFrom r prt zs (some q) fr t)) := by
    intro is
    refine Ev.step (f := fun k => if (is == fr) = true then (spec_LoadOf.f k a r d.f0).bind fun t1 => if 0 ≤ (j : Int) then if (j : Int) < (xs.length : Int) then (spec_LoadOf.f k a r q.f0).bind fun t2 => if wrap64 (wrap64 (t1 + 1) * q.f2) < wrap64 (wrap64 (t2 + 1) * d.f2) then spec_Best.l0 k xs zs (i : Int) fr ((i + 1 : Nat) : Int) a r prt else spec_Best.l0 k xs zs (j : Int) fr ((i + 1 : Nat) : Int) a r prt else none else none else spec_Best.l0 k xs zs (j : Int) fr ((i + 1 : Nat) : Int) a r prt) (fun k => by rw [spec_Best.j2, if_neg (by decide), hrd.out, w.out]) ?_
    by_cases e : is = fr
    ·refine Ev.pos (by rw [e, beq_self_eq_true]) (Ev.bind (spec_loadOf_ev a r d.f0 (by omega) (by omega)) (Ev.pos (by omega) (Ev.pos (by omega) (Ev.bind (spec_loadOf_ev a r q.f0 (by omega) (by omega)) ?_))))
     rw [m1.out, m2.out]
     by_cases e2 : lighter r d q
     ·rw [if_pos ⟨e, e2⟩]
      exact Ev.pos e2 (ihd fr)
     ·rw [if_neg (fun hc => e2 hc.2)]
      exact Ev.neg e2 ihq
    ·rw [if_neg (fun hc => e hc.1)]
     exact Ev.neg (by rw [beq_iff_eq]; exact e) ihq
   refine Ev.neg (by omega) ?_
   rw [bestFrom_some c]
   generalize hasI zs d.f1 = hz1 at *
   cases hz1 with
   | true =>
    rw [if_neg (fun hc => by cases hc.1)]
    exact Ev.pos rfl (cmp _)
   | false =>
    refine Ev.neg (by decide) ?_
    cases fr with
    | true =>
     rw [if_neg (fun hc => by cases hc.2)]
     exact cmp _
    | false =>
     rw [if_pos ⟨rfl, rfl⟩]
     exact take _
theorem impl_best_l0 (xs : List S76) (hok : devsOk xs = true) (hN : xs.length ≤ 1048576) (r : List S29) (hr1 : r.length ≤ 1048576) (hr2 : lens r ≤ 1099511627776) (prt zs : List Int) (hp : prt.length ≤ 1048576) (hz : zs.length ≤ 1048576) (a : Int) :
  ∀ (t : List S76) (i : Nat) (b : Option S76) (fr : Bool) (ld y0 y1 y2 : Int), xs.drop i = t → (b = none ∧ y0 = -1 ∨ ∃ q : S76, b = some q ∧ y0 = q.f0 ∧ y1 = q.f1 ∧ y2 = q.f2 ∧ ld = ((loadOf q.f0 r : Nat) : Int) + 1 ∧ q ∈ xs) →
   Ev (fun k => impl_Best.l0 k zs ld fr xs (xs.length : Int) (i : Int) a r prt y0 y1 y2) (idOf (bestFrom r prt zs b fr t))
 | [], i, b, fr, ld, y0, y1, y2, h, hb => by
  have h1 := drop_nil' h
  have e : idOf b = y0 := by
   rcases hb with ⟨rfl, rfl⟩ | ⟨q, rfl, rfl, _⟩ <;> rfl
  refine Ev.step (f := fun _ => some y0) (fun k => by rw [impl_Best.l0, if_neg (by omega)]) ?_
  rw [bestFrom, e]
  exact Ev.now _
 | d :: t, i, b, fr, ld, y0, y1, y2, h, hb => by
  obtain ⟨h1, hd0, h3⟩ := drop_cons' h z76
  have hr : Hd (rd_T76 xs (i : Int) = d) := ⟨rdT_at76 h⟩
  have w : Hd (wrap64 ((i : Int) + 1) = ((i + 1 : Nat) : Int)) := ⟨w64s h1 (by omega)⟩
  have hdm : d ∈ xs := List.mem_of_mem_drop (by rw [h]; exact List.mem_cons_self)
  have hdb := devsFrom_mem xs.length xs none hok d hdm
  have ldd := loadOf_le d.f0 r
  have wd : Hd (wrap64 (((loadOf d.f0 r : Nat) : Int) + 1) = ((loadOf d.f0 r : Nat) : Int) + 1) := ⟨wone (by omega)⟩
  have ih := fun b' fr' ld' y0' y1' y2' hb' => impl_best_l0 xs hok hN r hr1 hr2 prt zs hp hz a t (i + 1) b' fr' ld' y0' y1' y2' h3 hb'
  have ihd := fun fr' => ih (some d) fr' (((loadOf d.f0 r : Nat) : Int) + 1) d.f0 d.f1 d.f2 (Or.inr ⟨d, rfl, rfl, rfl, rfl, rfl, hdm⟩)
  refine Ev.step (f := fun k => (impl_hasInt.f k prt d.f0).bind fun t1 => if t1 = true then impl_Best.l0 k zs ld fr xs (xs.length : Int) ((i + 1 : Nat) : Int) a r prt y0 y1 y2 else (impl_LoadOf.f k a r d.f0).bind fun t2 => (impl_hasInt.f k zs d.f1).bind fun t3 => if y0 < 0 then impl_Best.l0 k zs (wrap64 (t2 + 1)) (!t3) xs (xs.length : Int) ((i + 1 : Nat) : Int) a r prt d.f0 d.f1 d.f2 else if t3 = true then (if ((!t3) == fr) = true then (if wrap64 (wrap64 (t2 + 1) * y2) < wrap64 (ld * d.f2) then impl_Best.l0 k zs (wrap64 (t2 + 1)) (!t3) xs (xs.length : Int) ((i + 1 : Nat) : Int) a r prt d.f0 d.f1 d.f2 else impl_Best.l0 k zs ld fr xs (xs.length : Int) ((i + 1 : Nat) : Int) a r prt y0 y1 y2) else impl_Best.l0 k zs ld fr xs (xs.length : Int) ((i + 1 : Nat) : Int) a r prt y0 y1 y2) else (if fr = true then (if ((!t3) == fr) = true then (if wrap64 (wrap64 (t2 + 1) * y2) < wrap64 (ld * d.f2) then impl_Best.l0 k zs (wrap64 (t2 + 1)) (!t3) xs (xs.length : Int) ((i + 1 : Nat) : Int) a r prt d.f0 d.f1 d.f2 else impl_Best.l0 k zs ld fr xs (xs.length : Int) ((i + 1 : Nat) : Int) a r prt y0 y1 y2) else impl_Best.l0 k zs ld fr xs (xs.length : Int) ((i + 1 : Nat) : Int) a r prt y0 y1 y2) else impl_Best.l0 k zs (wrap64 (t2 + 1)) (!t3) xs (xs.length : Int) ((i + 1 : Nat) : Int) a r prt d.f0 d.f1 d.f2)) (fun k => by rw [impl_Best.l0, if_pos (by omega), if_pos (by omega), if_pos (by omega), hr.out, w.out]) ?_
  refine Ev.bind (hasInt_ev prt d.f0 (by omega)) ?_
  by_cases c : hasI prt d.f0 = true
  ·rw [bestFrom_has c]
   exact Ev.pos c (ih b fr ld y0 y1 y2 hb)
  refine Ev.neg c (Ev.bind (impl_loadOf_ev a r d.f0 (by omega) (by omega)) (Ev.bind (hasInt_ev zs d.f1 (by omega)) ?_))
  rw [wd.out]
  rcases hb with ⟨rfl, rfl⟩ | ⟨q, rfl, rfl, rfl, rfl, rfl, hq⟩
  ·rw [bestFrom_none c]
   exact Ev.pos (by omega) (ihd _)
  ·have hqb := devsFrom_mem xs.length xs none hok q hq
   have lq := loadOf_le q.f0 r
   have ihq := ih (some q) fr (((loadOf q.f0 r : Nat) : Int) + 1) q.f0 q.f1 q.f2 (Or.inr ⟨q, rfl, rfl, rfl, rfl, rfl, hq⟩)
   rw [show wrap64 ((((loadOf d.f0 r : Nat) : Int) + 1) * q.f2) = (((loadOf d.f0 r : Nat) : Int) + 1) * q.f2 from wmul (by omega) (by omega) (by omega), show wrap64 ((((loadOf q.f0 r : Nat) : Int) + 1) * d.f2) = (((loadOf q.f0 r : Nat) : Int) + 1) * d.f2 from wmul (by omega) (by omega) (by omega)]
   refine Ev.neg (by omega) ?_
   rw [bestFrom_some c]
   generalize hasI zs d.f1 = hz1 at *
   cases hz1 with
   | true =>
    rw [if_neg (fun hc => by cases hc.1)]
    refine Ev.pos rfl ?_
    cases fr with
    | true =>
     rw [if_neg (fun hc => by cases hc.1)]
     exact Ev.neg (by decide) ihq
    | false =>
     refine Ev.pos rfl ?_
     by_cases e2 : lighter r d q
     ·rw [if_pos ⟨rfl, e2⟩]
      exact Ev.pos e2 (ihd _)
     ·rw [if_neg (fun hc => e2 hc.2)]
      exact Ev.neg e2 ihq
   | false =>
    refine Ev.neg (by decide) ?_
    cases fr with
    | true =>
     rw [if_neg (fun hc => by cases hc.2)]
     refine Ev.pos rfl (Ev.pos rfl ?_)
     by_cases e2 : lighter r d q
     ·rw [if_pos ⟨rfl, e2⟩]
      exact Ev.pos e2 (ihd _)
     ·rw [if_neg (fun hc => e2 hc.2)]
      exact Ev.neg e2 ihq
    | false =>
     rw [if_pos ⟨rfl, rfl⟩]
     exact Ev.neg (by decide) (ihd _)
def bestOf (r : List S29) (prt : List Int) (l : List S76) : Option S76 := if devsOk l = true then bestFrom r prt (zonesOf prt l) none false l else none
theorem best_ev (a : Int) (r : List S29) (prt : List Int) (l : List S76) (hl : l.length ≤ 1048576) (hr1 : r.length ≤ 1048576) (hr2 : lens r ≤ 1099511627776) (hp : prt.length ≤ 1048576) :
  Ev (fun k => spec_Best.f k a r prt l) (idOf (bestOf r prt l)) ∧ Ev (fun k => impl_Best.f k a r prt l) (idOf (bestOf r prt l)) := by
 obtain ⟨z1, z2⟩ := zones_ev prt l hp hl
 have hz : (zonesOf prt l).length ≤ 1048576 := by
  have := zonesFrom_len l prt []
  rw [List.length_nil, Nat.zero_add] at this
  exact Nat.le_trans this hp
 obtain ⟨d1, d2⟩ := devsOk_ev l (by omega)
 simp only [spec_Best.f, impl_Best.f]
 rw [bestOf]
 refine ⟨Ev.bind z1 ?_, Ev.bind d2 ?_⟩
 ·by_cases c : devsOk l = true
  ·rw [if_pos c]
   exact spec_best_l0 l c hl r hr1 hr2 prt _ hp hz a l 0 none false (-1) rfl (Or.inl ⟨rfl, rfl⟩)
  ·rw [if_neg c]
   have stop : Ev (fun k => spec_Best.j1 k l (zonesOf prt l) (-1) false ((0 : Nat) : Int) false a r prt) (-1) := Ev.step (f := fun _ => some (-1)) (fun k => by rw [spec_Best.j1, if_neg (by decide), if_pos (by omega)]) (Ev.now _)
   by_cases c0 : (0 : Int) < (l.length : Int)
   ·refine Ev.step (f := fun k => (spec_DevsOk.f k l).bind fun t1 => spec_Best.j1 k l (zonesOf prt l) (-1) false ((0 : Nat) : Int) t1 a r prt) (fun k => by rw [spec_Best.l0, if_pos (by omega)]; rfl) (Ev.bind d1 ?_)
    rw [Bool.eq_false_iff.mpr c]
    exact stop
   ·exact Ev.step (f := fun k => spec_Best.j1 k l (zonesOf prt l) (-1) false ((0 : Nat) : Int) false a r prt) (fun k => by rw [spec_Best.l0, if_neg (by omega)]; rfl) stop
 ·by_cases c : devsOk l = true
  ·rw [if_pos c]
   exact Ev.pos c (Ev.bind z2 (impl_best_l0 l c hl r hr1 hr2 prt _ hp hz a l 0 none false 0 (-1) 0 0 rfl (Or.inl ⟨rfl, rfl⟩)))
  ·rw [if_neg c]
   exact Ev.neg c (Ev.now _)
theorem bestFrom_good (r : List S29) (prt zs : List Int) : ∀ (t : List S76) (b : Option S76) (fr : Bool), (∀ q, b = some q → fr = !hasI zs q.f1) → (b = none → fr = false) →
  (bestFrom r prt zs b fr t = none → b = none ∧ ∀ d ∈ t, hasI prt d.f0 = true) ∧
  (∀ q, bestFrom r prt zs b fr t = some q → (b = some q ∨ (q ∈ t ∧ hasI prt q.f0 = false)) ∧ (hasI zs q.f1 = false ∨ (fr = false ∧ ∀ d ∈ t, hasI prt d.f0 = false → hasI zs d.f1 = true)))
 | [], b, fr, h1, h2 => by
  rw [bestFrom]
  refine ⟨fun h => ⟨h, fun d hd => by cases hd⟩, fun q hq => ⟨Or.inl hq, ?_⟩⟩
  have := h1 q hq
  cases c : hasI zs q.f1 with
  | false => exact Or.inl rfl
  | true => rw [c] at this; exact Or.inr ⟨this, fun d hd => by cases hd⟩
 | d :: t, b, fr, h1, h2 => by
  by_cases c : hasI prt d.f0 = true
  ·rw [bestFrom_has c]
   obtain ⟨i1, i2⟩ := bestFrom_good r prt zs t b fr h1 h2
   refine ⟨fun h => ⟨(i1 h).1, fun x hx => ?_⟩, fun q hq => ?_⟩
   ·rcases List.mem_cons.1 hx with rfl | hx
    ·exact c
    ·exact (i1 h).2 x hx
   ·obtain ⟨j1, j2⟩ := i2 q hq
    refine ⟨j1.imp id (fun j => ⟨List.mem_cons_of_mem _ j.1, j.2⟩), j2.imp id (fun j => ⟨j.1, fun x hx hp => ?_⟩)⟩
    rcases List.mem_cons.1 hx with rfl | hx
    ·rw [c] at hp; cases hp
    ·exact j.2 x hx hp
  have c' := Bool.eq_false_iff.mpr c
  cases b with
  | none =>
   rw [bestFrom_none c]
   obtain ⟨i1, i2⟩ := bestFrom_good r prt zs t (some d) (!hasI zs d.f1) (fun q hq => by injection hq with hq; rw [hq]) (fun h => by cases h)
   refine ⟨fun h => (by cases (i1 h).1), fun q hq => ?_⟩
   obtain ⟨j1, j2⟩ := i2 q hq
   refine ⟨Or.inr ?_, j2.imp id (fun j => ⟨h2 rfl, fun x hx hp => ?_⟩)⟩
   ·rcases j1 with e | j1
    ·injection e with e; subst e; exact ⟨List.mem_cons_self, c'⟩
    ·exact ⟨List.mem_cons_of_mem _ j1.1, j1.2⟩
   ·rcases List.mem_cons.1 hx with rfl | hx
    ·simpa using j.1
    ·exact j.2 x hx hp
  | some q0 =>
   rw [bestFrom_some c]
   by_cases c1 : hasI zs d.f1 = false ∧ fr = false
   ·rw [if_pos c1]
    obtain ⟨i1, i2⟩ := bestFrom_good r prt zs t (some d) true (fun q hq => by injection hq with hq; rw [← hq, c1.1]; rfl) (fun h => by cases h)
    refine ⟨fun h => (by cases (i1 h).1), fun q hq => ?_⟩
    obtain ⟨j1, j2⟩ := i2 q hq
    refine ⟨Or.inr ?_, Or.inl (j2.elim id (fun j => by cases j.1))⟩
    rcases j1 with e | j1
    ·injection e with e; subst e; exact ⟨List.mem_cons_self, c'⟩
    ·exact ⟨List.mem_cons_of_mem _ j1.1, j1.2⟩
   rw [if_neg c1]
   by_cases c2 : (!hasI zs d.f1) = fr ∧ lighter r d q0
   ·rw [if_pos c2]
    obtain ⟨i1, i2⟩ := bestFrom_good r prt zs t (some d) fr (fun q hq => by injection hq with hq; rw [← hq]; exact c2.1.symm) (fun h => by cases h)
    refine ⟨fun h => (by cases (i1 h).1), fun q hq => ?_⟩
    obtain ⟨j1, j2⟩ := i2 q hq
    refine ⟨Or.inr ?_, j2.imp id (fun j => ⟨j.1, fun x hx hp => ?_⟩)⟩
    ·rcases j1 with e | j1
     ·injection e with e; subst e; exact ⟨List.mem_cons_self, c'⟩
     ·exact ⟨List.mem_cons_of_mem _ j1.1, j1.2⟩
    ·rcases List.mem_cons.1 hx with rfl | hx
     ·have h3 := c2.1
      rw [j.1] at h3
      simpa using h3
     ·exact j.2 x hx hp
   ·rw [if_neg c2]
    obtain ⟨i1, i2⟩ := bestFrom_good r prt zs t (some q0) fr h1 (fun h => by cases h)
    refine ⟨fun h => (by cases (i1 h).1), fun q hq => ?_⟩
    obtain ⟨j1, j2⟩ := i2 q hq
    refine ⟨j1.imp id (fun j => ⟨List.mem_cons_of_mem _ j.1, j.2⟩), j2.imp id (fun j => ⟨j.1, fun x hx hp => ?_⟩)⟩
    rcases List.mem_cons.1 hx with rfl | hx
    ·cases e : hasI zs x.f1 with
     | true => rfl
     | false => exact absurd ⟨e, j.1⟩ c1
    ·exact j.2 x hx hp
theorem nfr {b : Bool} (h : (!b) = false) : b = true := by cases b with | true => rfl | false => cases h
theorem mul_swap (a b c : Int) : a * b * c = a * c * b := by rw [Int.mul_assoc, Int.mul_comm b c, ← Int.mul_assoc]
theorem lighter_trans (r : List S29) (x q d : S76) (hx : 1 ≤ x.f2) (hq : 1 ≤ q.f2) (hd : 1 ≤ d.f2) (h1 : ¬ lighter r x q) (h2 : lighter r d q) : ¬ lighter r x d := by
 intro h3
 unfold lighter at *
 generalize ((loadOf x.f0 r : Nat) + 1 : Int) = a at *
 generalize ((loadOf d.f0 r : Nat) + 1 : Int) = b at *
 generalize ((loadOf q.f0 r : Nat) + 1 : Int) = c at *
 have e1 : c * x.f2 * d.f2 ≤ a * q.f2 * d.f2 := Int.mul_le_mul_of_nonneg_right (Int.not_lt.1 h1) (by omega)
 have e2 : a * d.f2 * q.f2 < b * x.f2 * q.f2 := Int.mul_lt_mul_of_pos_right h3 (by omega)
 have e3 : b * q.f2 * x.f2 < c * d.f2 * x.f2 := Int.mul_lt_mul_of_pos_right h2 (by omega)
 rw [mul_swap a q.f2 d.f2, mul_swap c x.f2 d.f2] at e1
 rw [mul_swap b x.f2 q.f2] at e2
 omega
theorem bestFrom_light (r : List S29) (prt zs : List Int) : ∀ (t seen : List S76) (b : Option S76) (fr : Bool), (∀ d ∈ t, 1 ≤ d.f2) → (∀ d ∈ seen, 1 ≤ d.f2) →
  (∀ q, b = some q → 1 ≤ q.f2 ∧ fr = (!hasI zs q.f1) ∧ ∀ d ∈ seen, hasI prt d.f0 = false → (fr = false → hasI zs d.f1 = true) ∧ ((!hasI zs d.f1) = fr → ¬ lighter r d q)) →
  (b = none → ∀ d ∈ seen, hasI prt d.f0 = true) →
  ∀ q, bestFrom r prt zs b fr t = some q → ∀ d ∈ seen ++ t, hasI prt d.f0 = false → (!hasI zs d.f1) = (!hasI zs q.f1) → ¬ lighter r d q
 | [], seen, b, fr, ht, hs, h1, h2, q, hq, d, hd, hp, he => by
  rw [bestFrom] at hq
  obtain ⟨g1, g2, g3⟩ := h1 q hq
  rw [List.append_nil] at hd
  exact (g3 d hd hp).2 (he.trans g2.symm)
 | x :: t, seen, b, fr, ht, hs, h1, h2, q, hq, d, hd, hp, he => by
  have htx := ht x List.mem_cons_self
  have ht' : ∀ d ∈ t, 1 ≤ d.f2 := fun y hy => ht y (List.mem_cons_of_mem _ hy)
  have hs' : ∀ d ∈ seen ++ [x], 1 ≤ d.f2 := fun y hy => by
   rcases List.mem_append.1 hy with hy | hy
   ·exact hs y hy
   ·rw [List.mem_singleton.1 hy]; exact htx
  have hd' : d ∈ (seen ++ [x]) ++ t := by rw [List.append_assoc]; exact hd
  by_cases c : hasI prt x.f0 = true
  ·rw [bestFrom_has c] at hq
   refine bestFrom_light r prt zs t (seen ++ [x]) b fr ht' hs' (fun q' e' => ?_) (fun e' y hy => ?_) q hq d hd' hp he
   ·obtain ⟨g1, g2, g3⟩ := h1 q' e'
    refine ⟨g1, g2, fun y hy hyp => ?_⟩
    rcases List.mem_append.1 hy with hy | hy
    ·exact g3 y hy hyp
    ·rw [List.mem_singleton.1 hy, c] at hyp; cases hyp
   ·rcases List.mem_append.1 hy with hy | hy
    ·exact h2 e' y hy
    ·rw [List.mem_singleton.1 hy]; exact c
  ·have irr : ∀ z : S76, ¬ lighter r z z := fun z hz => Int.lt_irrefl _ hz
   cases b with
   | none =>
    rw [bestFrom_none c] at hq
    refine bestFrom_light r prt zs t (seen ++ [x]) (some x) _ ht' hs' (fun q' e' => ?_) (fun e' => by cases e') q hq d hd' hp he
    cases e'
    refine ⟨htx, rfl, fun y hy hyp => ?_⟩
    rcases List.mem_append.1 hy with hy | hy
    ·rw [h2 rfl y hy] at hyp; cases hyp
    ·rw [List.mem_singleton.1 hy]
     exact ⟨fun h => nfr h, fun _ => irr x⟩
   | some p =>
    obtain ⟨g1, g2, g3⟩ := h1 p rfl
    rw [bestFrom_some c] at hq
    by_cases c2 : hasI zs x.f1 = false ∧ fr = false
    ·rw [if_pos c2] at hq
     refine bestFrom_light r prt zs t (seen ++ [x]) (some x) true ht' hs' (fun q' e' => ?_) (fun e' => by cases e') q hq d hd' hp he
     cases e'
     refine ⟨htx, by rw [c2.1]; rfl, fun y hy hyp => ⟨fun h => (by cases h), fun hf => ?_⟩⟩
     rcases List.mem_append.1 hy with hy | hy
     ·have := (g3 y hy hyp).1 c2.2
      rw [this] at hf; cases hf
     ·rw [List.mem_singleton.1 hy]; exact irr x
    ·rw [if_neg c2] at hq
     by_cases c3 : (!hasI zs x.f1) = fr ∧ lighter r x p
     ·rw [if_pos c3] at hq
      refine bestFrom_light r prt zs t (seen ++ [x]) (some x) fr ht' hs' (fun q' e' => ?_) (fun e' => by cases e') q hq d hd' hp he
      cases e'
      refine ⟨htx, c3.1.symm, fun y hy hyp => ?_⟩
      rcases List.mem_append.1 hy with hy | hy
      ·refine ⟨(g3 y hy hyp).1, fun hf => ?_⟩
       exact lighter_trans r y p x (hs y hy) g1 htx ((g3 y hy hyp).2 hf) c3.2
      ·rw [List.mem_singleton.1 hy]
       refine ⟨fun h => ?_, fun _ => irr x⟩
       have := c3.1
       rw [h] at this
       cases e : hasI zs x.f1 with | true => rfl | false => rw [e] at this; cases this
     ·rw [if_neg c3] at hq
      refine bestFrom_light r prt zs t (seen ++ [x]) (some p) fr ht' hs' (fun q' e' => ?_) (fun e' => by cases e') q hq d hd' hp he
      cases e'
      refine ⟨g1, g2, fun y hy hyp => ?_⟩
      rcases List.mem_append.1 hy with hy | hy
      ·exact g3 y hy hyp
      ·rw [List.mem_singleton.1 hy]
       refine ⟨fun h => ?_, fun hf hl => c3 ⟨hf, hl⟩⟩
       cases e : hasI zs x.f1 with | true => rfl | false => exact absurd ⟨e, h⟩ c2
theorem devAt_is (id : Int) : ∀ (l : List S76), (∃ d ∈ l, d.f0 = id) → ∃ d ∈ l, d.f0 = id ∧ devAt id l = (d.f0, d.f1, d.f2, true)
 | [], h => by obtain ⟨d, hd, _⟩ := h; cases hd
 | d :: t, h => by
  by_cases c : d.f0 = id
  ·exact ⟨d, List.mem_cons_self, c, by rw [devAt, if_pos c]⟩
  ·obtain ⟨e, he, ee⟩ := h
   obtain ⟨x, hx, h1, h2⟩ := devAt_is id t ⟨e, by
    rcases List.mem_cons.1 he with rfl | he
    ·exact absurd ee c
    ·exact he, ee⟩
   exact ⟨x, List.mem_cons_of_mem _ hx, h1, by rw [devAt, if_neg c]; exact h2⟩
theorem zoneOf_is (l : List S76) (id : Int) (h : ∃ d ∈ l, d.f0 = id) : ∃ d ∈ l, d.f0 = id ∧ zoneOf l id = some d.f1 := by
 obtain ⟨d, hd, h1, h2⟩ := devAt_is id l h
 exact ⟨d, hd, h1, by rw [zoneOf, h2, if_pos rfl]⟩
theorem zonesFrom_snoc (l : List S76) (id : Int) : ∀ (t acc : List Int), zonesFrom l acc (t ++ [id]) = (match zoneOf l id with | none => zonesFrom l acc t | some z => if hasI (zonesFrom l acc t) z = true then zonesFrom l acc t else zonesFrom l acc t ++ [z])
 | [], acc => by
  cases h : zoneOf l id <;> simp only [List.nil_append, zonesFrom, h] <;> rfl
 | a :: t, acc => by
  rw [List.cons_append, zonesFrom, zonesFrom]
  split
  ·exact zonesFrom_snoc l id t acc
  ·split
   ·exact zonesFrom_snoc l id t acc
   ·exact zonesFrom_snoc l id t _
theorem ids_inj : ∀ (l : List S76), l.Pairwise (fun x y => x.f0 < y.f0) → ∀ d ∈ l, ∀ e ∈ l, d.f0 = e.f0 → d = e
 | [], _, d, hd, _, _, _ => by cases hd
 | a :: t, hp, d, hd, e, he, h => by
  rw [List.pairwise_cons] at hp
  rcases List.mem_cons.1 hd with rfl | hd'
  ·rcases List.mem_cons.1 he with rfl | he'
   ·rfl
   ·have := hp.1 e he'; omega
  ·rcases List.mem_cons.1 he with rfl | he'
   ·have := hp.1 d hd'; omega
   ·exact ids_inj t hp.2 d hd' e he' h
theorem spread_step (l : List S76) (hpw : l.Pairwise (fun x y => x.f0 < y.f0)) (prt : List Int) (d : S76) (hd : d ∈ l) : decide (((zonesOf (prt ++ [d.f0]) l).length : Int) > ((zonesOf prt l).length : Int)) = !hasI (zonesOf prt l) d.f1 := by
 obtain ⟨e, he, e1, e2⟩ := zoneOf_is l d.f0 ⟨d, hd, rfl⟩
 have hed := ids_inj l hpw e he d hd e1
 subst hed
 have hs := zonesFrom_snoc l e.f0 prt []
 rw [e2] at hs
 dsimp only at hs
 rw [zonesOf, hs]
 by_cases c : hasI (zonesFrom l [] prt) e.f1 = true
 ·rw [if_pos c, zonesOf, c]
  simp
 ·rw [if_neg c, zonesOf, Bool.eq_false_iff.mpr c, List.length_append, List.length_singleton]
  simp only [Bool.not_false, decide_eq_true_eq]
  omega
def addDevs (l : List S76) (init : List S29) : Nat → List Int → List Int
 | 0, ds => ds
 | n + 1, ds => addDevs l init n (ds ++ [idOf (bestOf (init ++ [⟨ds⟩]) ds l)])
def addParts (l : List S76) (reps : Nat) : Nat → List S29 → List S29
 | 0, ps => ps
 | n + 1, ps => addParts l reps n (ps ++ [⟨addDevs l ps reps []⟩])
theorem addDevs_len (l : List S76) (init : List S29) : ∀ (n : Nat) (ds : List Int), (addDevs l init n ds).length = ds.length + n
 | 0, _ => rfl
 | n + 1, ds => by rw [addDevs, addDevs_len l init n]; simp; omega
theorem addParts_len (l : List S76) (reps : Nat) : ∀ (n : Nat) (ps : List S29), (∀ x ∈ ps, x.f0.length = reps) → (addParts l reps n ps).length = ps.length + n ∧ ∀ x ∈ addParts l reps n ps, x.f0.length = reps
 | 0, ps, h => ⟨rfl, h⟩
 | n + 1, ps, h => by
  rw [addParts]
  obtain ⟨h1, h2⟩ := addParts_len l reps n (ps ++ [⟨addDevs l ps reps []⟩]) (fun x hx => by
   rcases List.mem_append.1 hx with hx | hx
   ·exact h x hx
   ·rw [List.mem_singleton.1 hx]; dsimp only; rw [addDevs_len]; simp)
  exact ⟨by rw [h1]; simp; omega, h2⟩
theorem rdT_last (init : List S29) (x : S29) : rd_T29 (init ++ [x]) (init.length : Int) = x := by
 unfold rd_T29; rw [Int.toNat_natCast, List.getD_eq_getElem?_getD, List.getElem?_append_right (Nat.le_refl _), Nat.sub_self]; rfl
theorem lens_init {init : List S29} {ds : List Int} (hi : init.length ≤ 64) (hx : ∀ x ∈ init, x.f0.length ≤ 5) (hd : ds.length ≤ 5) : (init ++ [(⟨ds⟩ : S29)]).length ≤ 1048576 ∧ lens (init ++ [(⟨ds⟩ : S29)]) ≤ 1099511627776 := by
 have h1 : (init ++ [(⟨ds⟩ : S29)]).length ≤ 65 := by simp; omega
 have h2 := lens_le 5 (init ++ [(⟨ds⟩ : S29)]) (fun x hx' => by
  rcases List.mem_append.1 hx' with hx' | hx'
  ·exact hx x hx'
  ·rw [List.mem_singleton.1 hx']; exact hd)
 exact ⟨by omega, by omega⟩
theorem build_l1 (l : List S76) (hl : l.length ≤ 1048576) (n rr : Int) (reps : Nat) (hreps : reps ≤ 5) (init : List S29) (hi : init.length ≤ 64) (hx : ∀ x ∈ init, x.f0.length ≤ 5) (R : Int × List S29 × Bool) :
  ∀ (m : Nat) (ds : List Int), ds.length + m = reps → Ev (fun k => spec_Build.l0 k l n (reps : Int) (wrap64 ((init.length : Int) + 1)) rr (init ++ [⟨addDevs l init m ds⟩])) R → Ev (fun k => spec_Build.l1 k l n (reps : Int) (init.length : Int) (ds.length : Int) rr (init ++ [⟨ds⟩])) R
 | 0, ds, h, hr => Ev.step (fun k => by rw [spec_Build.l1, if_neg (by omega)]; rfl) hr
 | m + 1, ds, h, hr => by
  have hrd : Hd (rd_T29 (init ++ [(⟨ds⟩ : S29)]) (init.length : Int) = ⟨ds⟩) := ⟨rdT_last init ⟨ds⟩⟩
  have w : Hd (wrap64 ((ds.length : Int) + 1) = ((ds.length + 1 : Nat) : Int)) := ⟨w64s (n := 6) (by omega) (by omega)⟩
  obtain ⟨q1, q2⟩ := lens_init hi hx (show ds.length ≤ 5 by omega)
  have b := (best_ev rr (init ++ [⟨ds⟩]) ds l hl q1 q2 (by omega)).1
  rw [addDevs] at hr
  have ih := build_l1 l hl n rr reps hreps init hi hx R m (ds ++ [idOf (bestOf (init ++ [⟨ds⟩]) ds l)]) (by simp; omega) hr
  have hlen : ((init.length : Nat) : Int) < ((init ++ [(⟨ds⟩ : S29)]).length : Int) := by rw [List.length_append, List.length_singleton]; omega
  refine Ev.step (f := fun k => (spec_Best.f k rr (init ++ [(⟨ds⟩ : S29)]) ds l).bind fun t => if ds.length < 17592186044416 then spec_Build.l1 k l n (reps : Int) (init.length : Int) ((ds.length + 1 : Nat) : Int) rr ((init ++ [(⟨ds⟩ : S29)]).set (init.length : Int).toNat (⟨ds ++ [t]⟩ : S29)) else none) (fun k => by rw [spec_Build.l1, if_pos (by omega), if_pos (by omega), if_pos hlen, hrd.out, w.out]) (Ev.bind b (Ev.pos (by omega) ?_))
  rw [Int.toNat_natCast, set_mid, List.append_nil]
  rw [List.length_append, List.length_singleton] at ih
  exact ih
theorem build_l0 (l : List S76) (hl : l.length ≤ 1048576) (rr : Int) (reps : Nat) (hreps : reps ≤ 5) (n : Nat) (hn : n ≤ 64) : ∀ (m : Nat) (ps : List S29), ps.length + m = n → (∀ x ∈ ps, x.f0.length ≤ 5) →
  Ev (fun k => spec_Build.l0 k l (n : Int) (reps : Int) (ps.length : Int) rr ps) (rr, addParts l reps m ps, true)
 | 0, ps, h, _ => Ev.step (f := fun _ => some (rr, ps, true)) (fun k => by rw [spec_Build.l0, if_neg (by omega)]) (Ev.now _)
 | m + 1, ps, h, hx => by
  have w : wrap64 ((ps.length : Int) + 1) = ((ps.length + 1 : Nat) : Int) := w64s (n := 64) (by omega) (by omega)
  have ih := build_l0 l hl rr reps hreps n hn m (ps ++ [⟨addDevs l ps reps []⟩]) (by simp; omega) (fun x hx' => by
   rcases List.mem_append.1 hx' with hx' | hx'
   ·exact hx x hx'
   ·rw [List.mem_singleton.1 hx']; dsimp only; rw [addDevs_len]; simp; omega)
  rw [List.length_append, List.length_singleton] at ih
  have i1 := build_l1 l hl (n : Int) rr reps hreps ps (by omega) hx (rr, addParts l reps (m + 1) ps, true) reps [] (by simp) (by rw [w]; exact ih)
  clear w
  exact Ev.step (fun k => by rw [spec_Build.l0, if_pos (by omega), if_pos (by omega)]; rfl) i1
theorem build_ev (l : List S76) (hl : l.length ≤ 1048576) (hok : devsOk l = true) (n reps : Nat) (hn : 1 ≤ n ∧ n ≤ 64) (hr : 1 ≤ reps ∧ reps ≤ 5) (hrl : reps ≤ l.length) :
  Ev (fun k => spec_Build.f k l (n : Int) (reps : Int)) ((reps : Int), addParts l reps n [], true) := by
 simp only [spec_Build.f, l1In_eq, Option.bind_some]
 refine Ev.bind (devsOk_ev l (by omega)).1 (Ev.pos hok ?_)
 refine Ev.pos (by simp; omega) (Ev.pos (by simp; omega) ?_)
 rw [decide_eq_false (show ¬(reps : Int) > (l.length : Int) by omega)]
 exact Ev.step (fun k => by rw [spec_Build.j0, if_neg (by decide)]; rfl) (build_l0 l hl (reps : Int) reps hr.2 n hn.2 n [] (by simp) (by simp))
def Cur (b : List Int) (i : Int) : Prop := b.length ≤ 1048576 ∧ 0 ≤ i ∧ i ≤ b.length
theorem new_l0 (b : List Int) (hN : b.length ≤ 1048576) (d : Nat) : ∀ (i : Nat) (h : Int), i + d = b.length → ∃ h', Ev (fun k => spec_l1New.l0 k b h (i : Int)) (b, 0, h') := by
 induction d with
 | zero =>
  intro i h hd
  refine ⟨h, Ev.step (f := fun _ => some (b, 0, h)) (fun k => ?_) (Ev.now _)⟩
  rw [spec_l1New.l0, if_neg (by omega)]
 | succ d ih =>
  intro i h hd
  by_cases c : (i : Int) < 4000
  ·obtain ⟨h', e⟩ := ih (i + 1) (Go.bits .and .i64 (wrap64 ((wrap64 ((wrap64 (h * 137)) + (wrap64 (rd b i)))) + 11)) 1073741823) (by omega)
   refine ⟨h', Ev.step (fun k => ?_) e⟩
   rw [spec_l1New.l0, if_pos (by omega), if_pos c, if_pos (by omega), w64s (i := i) (n := b.length) (by omega) (by omega)]
  ·refine ⟨h, Ev.step (f := fun _ => some (b, 0, h)) (fun k => ?_) (Ev.now _)⟩
   rw [spec_l1New.l0, if_pos (by omega), if_neg c]
theorem new_ev (b : List Int) (hN : b.length ≤ 1048576) : ∃ h', Ev (fun k => spec_l1New.f k b) (b, 0, h') ∧ Cur b 0 := by
 obtain ⟨h', e⟩ := new_l0 b hN b.length 0 (wrap64 (378378 + (b.length : Int))) (by omega)
 exact ⟨h', e, hN, by omega, by omega⟩
theorem byte_ok (b : List Int) (i h : Int) (hc : Cur b i) : ∃ x i' h', spec_l1Byte.f b i h = some (x, i', h') ∧ 0 ≤ x ∧ x ≤ 255 ∧ Cur b i' := by
 obtain ⟨c1, c2, c3⟩ := hc
 unfold spec_l1Byte.f
 by_cases c : i < (b.length : Int)
 ·rw [if_pos c, if_pos c2]
  refine ⟨_, _, _, rfl, (and255 _).1, (and255 _).2, c1, ?_⟩
  rw [w64 (by omega) (by omega)]
  omega
 ·rw [if_neg c]
  exact ⟨_, _, _, rfl, (and255 _).1, (and255 _).2, c1, c2, c3⟩
theorem tmod_in {x n : Int} (h0 : 0 ≤ x) (hn : 0 < n) : 0 ≤ Int.tmod x n ∧ Int.tmod x n < n := by
 rw [Int.tmod_eq_emod_of_nonneg h0]
 exact ⟨Int.emod_nonneg _ (by omega), Int.emod_lt_of_pos _ hn⟩
theorem below_ok (b : List Int) (i h n : Int) (hc : Cur b i) : ∃ x i' h', spec_l1Below.f b i h n = some (x, i', h') ∧ 0 ≤ x ∧ (0 < n → x < n) ∧ (n ≤ 0 → x = 0) ∧ Cur b i' := by
 unfold spec_l1Below.f
 by_cases c0 : n ≤ 0
 ·rw [if_pos c0]
  exact ⟨0, i, h, rfl, Int.le_refl _, fun h1 => absurd h1 (by omega), fun _ => rfl, hc⟩
 ·rw [if_neg c0]
  obtain ⟨x, i1, h1, e1, x0, x1, hc1⟩ := byte_ok b i h hc
  by_cases c1 : n ≤ 256
  ·rw [if_pos c1, e1, Option.bind_some, if_neg (by omega)]
   have ht := tmod_in x0 (show 0 < n by omega)
   exact ⟨_, _, _, rfl, ht.1, fun _ => ht.2, fun hq => absurd hq c0, hc1⟩
  ·obtain ⟨y, i2, h2, e2, y0, y1, hc2⟩ := byte_ok b i1 h1 hc1
   obtain ⟨z, i3, h3, e3, z0, z1, hc3⟩ := byte_ok b i2 h2 hc2
   rw [if_neg c1, e1, Option.bind_some, e2, Option.bind_some, e3, Option.bind_some, if_neg (by omega)]
   have w : wrap64 (wrap64 (wrap64 (x * 65536) + wrap64 (y * 256)) + z) = x * 65536 + y * 256 + z := by
    rw [w64 (x := x * 65536) (by omega) (by omega), w64 (x := y * 256) (by omega) (by omega), w64 (x := x * 65536 + y * 256) (by omega) (by omega), w64 (by omega) (by omega)]
   have ht := tmod_in (x := x * 65536 + y * 256 + z) (by omega) (show 0 < n by omega)
   refine ⟨_, _, _, rfl, ?_, fun _ => ?_, fun hq => absurd hq c0, hc3⟩
   ·simp only [w]; exact ht.1
   ·simp only [w]; exact ht.2
theorem int_ok (b : List Int) (i h : Int) (l : List Int) (hl : 0 < l.length) (hc : Cur b i) : ∃ x i' h', spec_l1Int.f b i h l = some (x, i', h') ∧ x ∈ l ∧ Cur b i' := by
 obtain ⟨x, i1, h1, e1, x0, x1, _, hc1⟩ := below_ok b i h (l.length : Int) hc
 have x2 := x1 (by omega)
 unfold spec_l1Int.f
 rw [e1, Option.bind_some, if_pos x0, if_pos x2]
 exact ⟨_, _, _, rfl, rd_mem x0 x2, hc1⟩
theorem devsFrom_ok (n : Nat) (h1 : 1 ≤ n) (h2 : n ≤ 12) : ∀ (l : List S76) (pr : Option S76), (∀ d ∈ l, (0 ≤ d.f0 ∧ d.f0 ≤ 20) ∧ (0 ≤ d.f1 ∧ d.f1 ≤ 20) ∧ (1 ≤ d.f2 ∧ d.f2 ≤ 1000)) → l.Pairwise (fun a b => a.f0 < b.f0) → (∀ q, pr = some q → ∀ d ∈ l, q.f0 < d.f0) → devsFrom n pr l = true
 | [], _, _, _, _ => by rw [devsFrom]; exact decide_eq_true (by omega)
 | d :: t, pr, hb, hp, hq => by
  rw [List.pairwise_cons] at hp
  have hd := hb d List.mem_cons_self
  rw [devsFrom, if_pos ⟨hd.1, hd.2.1, hd.2.2, fun q e => hq q e d List.mem_cons_self⟩]
  exact devsFrom_ok n h1 h2 t (some d) (fun x hx => hb x (List.mem_cons_of_mem _ hx)) hp.2 (fun q e x hx => by injection e with e; subst e; exact hp.1 x hx)
theorem draw4_l0 (b : List Int) (zones : Int) (hz : 1 ≤ zones ∧ zones ≤ 4) : ∀ (m : Nat) (acc : List S76) (id p h : Int), acc.length + m ≤ 6 → Cur b p → (id ≤ 2 * (acc.length : Int) ∧ 0 ≤ id) → (∀ d ∈ acc, (0 ≤ d.f0 ∧ d.f0 ≤ id) ∧ (0 ≤ d.f1 ∧ d.f1 ≤ 20) ∧ (1 ≤ d.f2 ∧ d.f2 ≤ 1000)) → acc.Pairwise (fun a b => a.f0 < b.f0) →
  ∃ (l : List S76) (p' h' : Int), Ev (fun k => spec_l4Draw.l0 k acc zones id (m : Int) b p h) (l, p', h') ∧ l.length = acc.length + m ∧ (∀ d ∈ l, (0 ≤ d.f0 ∧ d.f0 ≤ 20) ∧ (0 ≤ d.f1 ∧ d.f1 ≤ 20) ∧ (1 ≤ d.f2 ∧ d.f2 ≤ 1000)) ∧ l.Pairwise (fun a b => a.f0 < b.f0) ∧ Cur b p'
 | 0, acc, id, p, h, hm, hc, hi, ha, hp => by
  refine ⟨acc, p, h, Ev.step (f := fun _ => some (acc, p, h)) (fun k => ?_) (Ev.now _), rfl, fun d hd => ?_, hp, hc⟩
  ·rw [spec_l4Draw.l0, if_neg (by omega)]
  ·have := ha d hd
   omega
 | m + 1, acc, id, p, h, hm, hc, hi, ha, hp => by
  obtain ⟨x, p1, h1, e1, hx, hc1⟩ := int_ok b p h [1, 1, 2] (by decide) hc
  obtain ⟨y, p2, h2, e2, y0, y1, _, hc2⟩ := below_ok b p1 h1 zones hc1
  obtain ⟨z, p3, h3, e3, hz3, hc3⟩ := int_ok b p2 h2 [1, 1, 1, 2, 10, 100] (by decide) hc2
  have hx2 : 1 ≤ x ∧ x ≤ 2 := by
   simp only [List.mem_cons, List.not_mem_nil, or_false] at hx
   omega
  have hz2 : 1 ≤ z ∧ z ≤ 100 := by
   simp only [List.mem_cons, List.not_mem_nil, or_false] at hz3
   omega
  have y2 := y1 (by omega)
  have w : Hd (wrap64 (id + x) = id + x) := ⟨w64 (by omega) (by omega)⟩
  have wm : Hd (wrap64 (((m + 1 : Nat) : Int) - 1) = (m : Int)) := ⟨by rw [w64 (by omega) (by omega)]; omega⟩
  obtain ⟨l, p', h', e, q1, q2, q3, q4⟩ := draw4_l0 b zones hz m (acc ++ [⟨id + x, y, z⟩]) (id + x) p3 h3 (by simp; omega) hc3 (by simp; omega) (fun d hd => by
   rcases List.mem_append.1 hd with hd | hd
   ·have := ha d hd; omega
   ·rw [List.mem_singleton.1 hd]; dsimp only; omega) (by
   rw [List.pairwise_append]
   refine ⟨hp, List.pairwise_singleton _ _, fun a ha' c hc' => ?_⟩
   have := ha a ha'
   rw [List.mem_singleton.1 hc']; dsimp only; omega)
  refine ⟨l, p', h', Ev.step (fun k => ?_) e, by rw [q1]; simp; omega, q2, q3, q4⟩
  rw [spec_l4Draw.l0, if_pos (by omega), e1, Option.bind_some, e2, Option.bind_some, e3, Option.bind_some, if_pos (by omega), w.out, wm.out]
theorem draw4_ok (b : List Int) (i h : Int) (hc : Cur b i) : ∃ (l : List S76) (i' h' : Int), Ev (fun k => spec_l4Draw.f k b i h) (l, i', h') ∧ 2 ≤ l.length ∧ l.length ≤ 6 ∧ devsOk l = true ∧ Cur b i' := by
 obtain ⟨x, p1, h1, e1, x0, x1, _, hc1⟩ := below_ok b i h 4 hc
 obtain ⟨y, p2, h2, e2, y0, y1, _, hc2⟩ := below_ok b p1 h1 5 hc1
 have x2 := x1 (by omega)
 have y2 := y1 (by omega)
 obtain ⟨l, p', h', e, q1, q2, q3, q4⟩ := draw4_l0 b (1 + x) (by omega) (2 + y).toNat [] 0 p2 h2 (by simp; omega) hc2 (by simp) (by simp) (by simp)
 rw [List.length_nil, Nat.zero_add] at q1
 refine ⟨l, p', h', ?_, by omega, by omega, ?_, q4⟩
 ·simp only [spec_l4Draw.f]
  refine Ev.got e1 (Ev.got e2 ?_)
  dsimp only
  rw [w64 (x := 1 + x) (by omega) (by omega), w64 (x := 2 + y) (by omega) (by omega)]
  rw [show ((2 + y).toNat : Int) = 2 + y by omega] at e
  exact e
 ·exact devsFrom_ok l.length (by omega) (by omega) l none q2 q3 (fun q e => by cases e)
theorem any4_ok (b : List Int) (i h : Int) (hc : Cur b i) : ∃ (l : List S76) (i' h' : Int), Ev (fun k => spec_l4Any.f k b i h) (l, i', h') ∧ l.length ≤ 6 ∧ Cur b i' := by
 obtain ⟨l, p1, h1, e1, l0, l1, _, hc1⟩ := draw4_ok b i h hc
 obtain ⟨x, p2, h2, e2, x0, x1, _, hc2⟩ := below_ok b p1 h1 (l.length : Int) hc1
 obtain ⟨y, p3, h3, e3, y0, y1, _, hc3⟩ := below_ok b p2 h2 12 hc2
 have x2 := x1 (by omega)
 simp only [spec_l4Any.f]
 by_cases c0 : y = 0
 ·obtain ⟨z, p4, h4, e4, _, hc4⟩ := int_ok b p3 h3 [(-1), 0, 20, 21] (by decide) hc3
  exact ⟨_, _, _, Ev.bind e1 (Ev.got e2 (Ev.got e3 (Ev.pos c0 (Ev.got e4 (Ev.pos x0 (Ev.pos x2 (Ev.now _))))))), by rw [List.length_set]; exact l1, hc4⟩
 by_cases c1 : y = 1
 ·obtain ⟨z, p4, h4, e4, _, hc4⟩ := int_ok b p3 h3 [(-1), 20, 21] (by decide) hc3
  exact ⟨_, _, _, Ev.bind e1 (Ev.got e2 (Ev.got e3 (Ev.neg c0 (Ev.pos c1 (Ev.got e4 (Ev.pos x0 (Ev.pos x2 (Ev.now _)))))))), by rw [List.length_set]; exact l1, hc4⟩
 by_cases c2 : y = 2
 ·obtain ⟨z, p4, h4, e4, _, hc4⟩ := int_ok b p3 h3 [0, 1000, 1001] (by decide) hc3
  exact ⟨_, _, _, Ev.bind e1 (Ev.got e2 (Ev.got e3 (Ev.neg c0 (Ev.neg c1 (Ev.pos c2 (Ev.got e4 (Ev.pos x0 (Ev.pos x2 (Ev.now _))))))))), by rw [List.length_set]; exact l1, hc4⟩
 by_cases c3 : y = 3
 ·exact ⟨_, _, _, Ev.bind e1 (Ev.got e2 (Ev.got e3 (Ev.neg c0 (Ev.neg c1 (Ev.neg c2 (Ev.pos c3 (Ev.pos (Int.natCast_nonneg _) (Ev.now _)))))))), by rw [List.length_take]; omega, hc3⟩
 ·exact ⟨_, _, _, Ev.bind e1 (Ev.got e2 (Ev.got e3 (Ev.neg c0 (Ev.neg c1 (Ev.neg c2 (Ev.neg c3 (Ev.now _))))))), l1, hc3⟩
theorem draw5_ok (b : List Int) (i h : Int) (hc : Cur b i) : ∃ (l : List S76) (n reps : Nat) (i' h' : Int), Ev (fun k => spec_l5Draw.f k b i h) (l, (reps : Int), addParts l reps n [], i', h') ∧ 2 ≤ l.length ∧ l.length ≤ 6 ∧ devsOk l = true ∧ (1 ≤ n ∧ n ≤ 16) ∧ (1 ≤ reps ∧ reps ≤ 3 ∧ reps ≤ l.length) ∧ Cur b i' := by
 obtain ⟨l, p1, h1, e1, l0, l1, hok, hc1⟩ := draw4_ok b i h hc
 obtain ⟨x, p2, h2, e2, x0, x1, _, hc2⟩ := below_ok b p1 h1 3 hc1
 obtain ⟨y, p3, h3, e3, hy, hc3⟩ := int_ok b p2 h2 [4, 8, 1, 5, 16] (by decide) hc2
 have x2 := x1 (by omega)
 have hy2 : 1 ≤ y ∧ y ≤ 16 := by
  simp only [List.mem_cons, List.not_mem_nil, or_false] at hy
  omega
 obtain ⟨n, rfl⟩ := Int.eq_ofNat_of_zero_le (show 0 ≤ y by omega)
 have w : Hd (wrap64 (1 + x) = 1 + x) := ⟨w64 (by omega) (by omega)⟩
 by_cases c : 1 + x > (l.length : Int)
 ·refine ⟨l, n, l.length, p3, h3, ?_, l0, l1, hok, by omega, by omega, hc3⟩
  simp only [spec_l5Draw.f]
  refine Ev.bind e1 (Ev.got e2 ?_)
  rw [w.out]
  exact Ev.pos c (Ev.got e3 (Ev.bind (build_ev l (by omega) hok n l.length (by omega) (by omega) (by omega)) (Ev.now _)))
 ·refine ⟨l, n, (1 + x).toNat, p3, h3, ?_, l0, l1, hok, by omega, by omega, hc3⟩
  simp only [spec_l5Draw.f]
  refine Ev.bind e1 (Ev.got e2 ?_)
  rw [w.out]
  have hb := build_ev l (by omega) hok n (1 + x).toNat (by omega) (by omega) (by omega)
  have hxx : (((1 + x).toNat : Nat) : Int) = 1 + x := by omega
  rw [hxx] at hb ⊢
  exact Ev.neg c (Ev.got e3 (Ev.bind hb (Ev.now _)))
def Small (l : List S76) (ps : List S29) : Prop := l.length ≤ 6 ∧ ps.length ≤ 16 ∧ ∀ x ∈ ps, x.f0.length ≤ 4
theorem any5_ok (b : List Int) (i h : Int) (hc : Cur b i) : ∃ (l : List S76) (a : Int) (ps : List S29) (i' h' : Int), Ev (fun k => spec_l5Any.f k b i h) (l, a, ps, i', h') ∧ Small l ps ∧ Cur b i' := by
 obtain ⟨l, n, reps, p1, h1, e1, l0, l1, hok, hn, hr, hc1⟩ := draw5_ok b i h hc
 obtain ⟨q1, q2⟩ := addParts_len l reps n [] (by simp)
 generalize addParts l reps n [] = ps at *
 rw [List.length_nil, Nat.zero_add] at q1
 obtain ⟨x, p2, h2, e2, x0, x1, _, hc2⟩ := below_ok b p1 h1 (ps.length : Int) hc1
 obtain ⟨y, p3, h3, e3, y0, y1, _, hc3⟩ := below_ok b p2 h2 10 hc2
 have x2 := x1 (by omega)
 have hm : (rd_T29 ps x).f0.length = reps := q2 _ (by
  unfold rd_T29
  rw [List.getD_eq_getElem?_getD, List.getElem?_eq_getElem (by omega), Option.getD_some]
  exact List.getElem_mem _)
 have hset : ∀ v : S29, v.f0.length ≤ 4 → Small l (ps.set x.toNat v) := fun v hv => ⟨l1, by rw [List.length_set]; omega, fun z hz => by
  rcases List.mem_or_eq_of_mem_set hz with hz | rfl
  ·rw [q2 z hz]; omega
  ·exact hv⟩
 have hsm : Small l ps := ⟨l1, by omega, fun z hz => by rw [q2 z hz]; omega⟩
 simp only [spec_l5Any.f]
 by_cases c0 : y = 0
 ·obtain ⟨z, p4, h4, e4, _, hc4⟩ := int_ok b p3 h3 [0, 1, 2, 6] (by decide) hc3
  exact ⟨_, _, _, _, _, Ev.bind e1 (Ev.got e2 (Ev.got e3 (Ev.pos c0 (Ev.got e4 (Ev.now _))))), hsm, hc4⟩
 by_cases c1 : y = 1
 ·obtain ⟨z, p4, h4, e4, _, _, _, hc4⟩ := below_ok b p3 h3 9 hc3
  exact ⟨_, _, _, _, _, Ev.bind e1 (Ev.got e2 (Ev.got e3 (Ev.neg c0 (Ev.pos c1 (Ev.pos x0 (Ev.pos x2 (Ev.got e4 (Ev.pos (by dsimp only; omega) (Ev.now _))))))))), hset _ (by simp; omega), hc4⟩
 by_cases c2 : y = 2
 ·obtain ⟨z, p4, h4, e4, _, _, _, hc4⟩ := below_ok b p3 h3 9 hc3
  exact ⟨_, _, _, _, _, Ev.bind e1 (Ev.got e2 (Ev.got e3 (Ev.neg c0 (Ev.neg c1 (Ev.pos c2 (Ev.pos x0 (Ev.pos x2 (Ev.got e4 (Ev.pos (by dsimp only; omega) (Ev.now _)))))))))), hset _ (by simp; omega), hc4⟩
 by_cases c3 : y = 3
 ·obtain ⟨l', p4, h4, e4, hl', hc4⟩ := any4_ok b p3 h3 hc3
  exact ⟨_, _, _, _, _, Ev.bind e1 (Ev.got e2 (Ev.got e3 (Ev.neg c0 (Ev.neg c1 (Ev.neg c2 (Ev.pos c3 (Ev.bind e4 (Ev.now _)))))))), ⟨hl', hsm.2.1, hsm.2.2⟩, hc4⟩
 by_cases c4 : y = 4
 ·exact ⟨_, _, _, _, _, Ev.bind e1 (Ev.got e2 (Ev.got e3 (Ev.neg c0 (Ev.neg c1 (Ev.neg c2 (Ev.neg c3 (Ev.pos c4 (Ev.pos (Int.natCast_nonneg _) (Ev.now _))))))))), ⟨l1, by simp, by simp⟩, hc3⟩
 ·exact ⟨_, _, _, _, _, Ev.bind e1 (Ev.got e2 (Ev.got e3 (Ev.neg c0 (Ev.neg c1 (Ev.neg c2 (Ev.neg c3 (Ev.neg c4 (Ev.now _)))))))), hsm, hc3⟩
theorem drawBest_l0 (b : List Int) (l : List S76) (a : Int) (ps : List S29) : ∀ (m : Nat) (acc : List Int) (i h : Int), acc.length + m ≤ 3 → Cur b i → ∃ p : List Int, Ev (fun k => spec_DrawBest.l0 k l (m : Int) b i h a ps acc) (a, ps, p, l) ∧ p.length ≤ 3
 | 0, acc, i, h, hm, hc => by
  refine ⟨acc, Ev.step (f := fun _ => some (a, ps, acc, l)) (fun k => ?_) (Ev.now _), by omega⟩
  rw [spec_DrawBest.l0, if_neg (by omega)]
 | m + 1, acc, i, h, hm, hc => by
  obtain ⟨x, i1, h1, e1, x0, x1, _, hc1⟩ := below_ok b i h 7 hc
  have wm : Hd (wrap64 (((m + 1 : Nat) : Int) - 1) = (m : Int)) := ⟨by rw [w64 (by omega) (by omega)]; omega⟩
  obtain ⟨p, e, hp⟩ := drawBest_l0 b l a ps m (acc ++ [wrap64 (1 + x)]) i1 h1 (by simp; omega) hc1
  refine ⟨p, Ev.step (fun k => ?_) e, hp⟩
  rw [spec_DrawBest.l0, if_pos (by omega), e1, Option.bind_some, if_pos (by omega), wm.out]
theorem drawBest_ev (b : List Int) (hN : b.length ≤ 1048576) : ∃ (l : List S76) (a : Int) (ps : List S29) (p : List Int), Ev (fun k => spec_DrawBest.f k b) (a, ps, p, l) ∧ Small l ps ∧ p.length ≤ 3 := by
 obtain ⟨g, e0, hc0⟩ := new_ev b hN
 obtain ⟨l, a, ps, i, h, e1, hs, hc1⟩ := any5_ok b 0 g hc0
 obtain ⟨x, i2, h2, e2, x0, x1, _, hc2⟩ := below_ok b i h 4 hc1
 have x2 := x1 (by omega)
 obtain ⟨p, e3, hp⟩ := drawBest_l0 b l a ps x.toNat [] i2 h2 (by simp; omega) hc2
 refine ⟨l, a, ps, p, ?_, hs, hp⟩
 rw [Int.toNat_of_nonneg x0] at e3
 simp only [spec_DrawBest.f]
 exact Ev.bind e0 (Ev.bind e1 (Ev.got e2 e3))
theorem big_eq (l : List Int) : laws_big.f l = some (decide ((l.length : Int) > 1048576)) := rfl
theorem ispread_ev (ids : List Int) (l : List S76) (hN : ids.length ≤ 1048576) (hl : l.length ≤ 1048576) : Ev (fun k => impl_SpreadOf.f k ids l) ((zonesOf ids l).length : Int) := by
 obtain ⟨z1, z2⟩ := zones_ev ids l hN hl
 simp only [impl_SpreadOf.f]
 exact Ev.bind z2 (Ev.now _)
theorem lawHas_l0 (xs : List Int) (x : Int) (hN : xs.length ≤ 4611686018427387904) : ∀ (l : List Int) (i : Nat), xs.drop i = l → Ev (fun k => laws_has.l0 k xs x (i : Int)) (hasI l x)
 | [], i, h => by
  have h1 := drop_nil' h
  refine Ev.step (f := fun _ => some false) (fun k => ?_) (Ev.now _)
  rw [laws_has.l0, if_neg (by omega)]
 | a :: t, i, h => by
  obtain ⟨h1, _, h3⟩ := drop_cons' h 0
  refine Ev.step (f := fun k => if a = x then some true else laws_has.l0 k xs x ((i + 1 : Nat) : Int)) (fun k => ?_) ?_
  ·rw [laws_has.l0, if_pos (by omega), if_pos (by omega), rd_at h, w64s h1 hN]
  ·by_cases c : a = x
   ·rw [hasI, if_pos c]; exact Ev.pos c (Ev.now _)
   ·rw [hasI, if_neg c]; exact Ev.neg c (lawHas_l0 xs x hN t (i + 1) h3)
theorem lawHas_ev (xs : List Int) (x : Int) (hN : xs.length ≤ 4611686018427387904) : Ev (fun k => laws_has.f k xs x) (hasI xs x) := lawHas_l0 xs x hN xs 0 rfl
theorem devsFrom_lt (n : Nat) : ∀ (l : List S76) (pr : Option S76), devsFrom n pr l = true → (∀ q, pr = some q → ∀ d ∈ l, q.f0 < d.f0) ∧ l.Pairwise (fun a b => a.f0 < b.f0)
 | [], _, _ => ⟨fun _ _ _ hd => (by cases hd), List.Pairwise.nil⟩
 | a :: t, pr, h => by
  rw [devsFrom] at h
  by_cases c : (0 ≤ a.f0 ∧ a.f0 ≤ 20) ∧ (0 ≤ a.f1 ∧ a.f1 ≤ 20) ∧ (1 ≤ a.f2 ∧ a.f2 ≤ 1000) ∧ (∀ q, pr = some q → q.f0 < a.f0)
  ·rw [if_pos c] at h
   obtain ⟨h1, h2⟩ := devsFrom_lt n t (some a) h
   have h3 := h1 a rfl
   refine ⟨fun q e d hd => ?_, List.pairwise_cons.2 ⟨h3, h2⟩⟩
   have hq := c.2.2.2 q e
   rcases List.mem_cons.1 hd with rfl | hd
   ·exact hq
   ·have := h3 d hd; omega
  ·rw [if_neg c] at h
   cases h
end Go.Proofs.Ytbhllgifciaepaa.PureFnBest
namespace Go.Proofs.Ytbhllgifciaepaa.Pure
open Go.RowKit Go.Proofs.Ytbhllgifciaepaa.PFnBest Go.Proofs.YtbhllgifciaepaaW.PrintWords Go.Proofs.YtbhllgifciaepaaW.PrintLast Go.Proofs.YtbhllgifciaepaaW.PrintMore Go.Proofs.Ytbhllgifciaepaa.Base Go.Proofs.Ytbhllgifciaepaa.PureFnBest
set_option linter.unusedVariables false
attribute [local irreducible] Go.bits IntKind.wrap shl shr
theorem best_l0 (l : List S76) (hN : l.length ≤ 6) (p : List Int) (hp : p.length ≤ 3) (hall : ∀ d ∈ l, hasI p d.f0 = true) : ∀ (t : List S76) (i : Nat), l.drop i = t → Ev (fun k => laws_FnBest.l0 k l (i : Int) p) true
 | [], i, h => by
  have h1 := drop_nil' h
  refine Ev.step (f := fun _ => some true) (fun k => ?_) (Ev.now _)
  rw [laws_FnBest.l0, if_neg (by omega)]
 | d :: t, i, h => by
  obtain ⟨h1, _, h3⟩ := drop_cons' h z76
  have hrd : Hd (rd_T76 l (i : Int) = d) := ⟨rdT_at76 h⟩
  have w : Hd (wrap64 ((i : Int) + 1) = ((i + 1 : Nat) : Int)) := ⟨w64s h1 (by omega)⟩
  have hm := hall d (List.mem_of_mem_drop (by rw [h]; exact List.mem_cons_self))
  have e := lawHas_ev p d.f0 (by omega)
  rw [hm] at e
  refine Ev.step (fun k => by rw [laws_FnBest.l0, if_pos (by omega), if_pos (by omega), hrd.out, w.out]) (Ev.bind e (Ev.pos rfl (best_l0 l hN p hp hall t (i + 1) h3)))
theorem best_l1 (l : List S76) (hN : l.length ≤ 6) (hok : devsOk l = true) (a : Int) (ps : List S29) (hps : ps.length ≤ 16) (hl2 : lens ps ≤ 1099511627776) (p : List Int) (hp : p.length ≤ 3) (q : S76) (hq : q ∈ l)
  (hfr : hasI (zonesOf p l) q.f1 = false ∨ ∀ d ∈ l, hasI p d.f0 = false → hasI (zonesOf p l) d.f1 = true)
  (hli : ∀ d ∈ l, hasI p d.f0 = false → (!hasI (zonesOf p l) d.f1) = (!hasI (zonesOf p l) q.f1) → ¬ lighter ps d q) : ∀ (t : List S76) (i : Nat), l.drop i = t → Ev (fun k => laws_FnBest.l1 k l q.f0 (!hasI (zonesOf p l) q.f1) (i : Int) a ps p q.f0 q.f1 q.f2) true
 | [], i, h => by
  have h1 := drop_nil' h
  refine Ev.step (f := fun _ => some true) (fun k => ?_) (Ev.now _)
  rw [laws_FnBest.l1, if_neg (by omega)]
 | d :: t, i, h => by
  obtain ⟨h1, _, h3⟩ := drop_cons' h z76
  have hrd : Hd (rd_T76 l (i : Int) = d) := ⟨rdT_at76 h⟩
  have w : Hd (wrap64 ((i : Int) + 1) = ((i + 1 : Nat) : Int)) := ⟨w64s h1 (by omega)⟩
  have hdl : d ∈ l := List.mem_of_mem_drop (by rw [h]; exact List.mem_cons_self)
  have hpw := (devsFrom_lt l.length l none hok).2
  have ih := best_l1 l hN hok a ps hps hl2 p hp q hq hfr hli t (i + 1) h3
  have e := lawHas_ev p d.f0 (by omega)
  have hw := devsFrom_mem l.length l none hok
  have wd := (hw d hdl).2.2
  have wq := (hw q hq).2.2
  refine Ev.step (fun k => by rw [laws_FnBest.l1, if_pos (by omega), if_pos (by omega), hrd.out, w.out]) (Ev.bind e ?_)
  by_cases c : hasI p d.f0 = true
  ·exact Ev.pos c ih
  refine Ev.neg c ?_
  have c' : hasI p d.f0 = false := Bool.eq_false_iff.mpr c
  refine Ev.some_bind (Ev.pos (by simp; omega) (Ev.some_bind (Ev.some_bind (Ev.pos (by simp; omega) ?_))))
  rw [List.nil_append]
  have s1 := ispread_ev (p ++ [d.f0]) l (by simp; omega) (by omega)
  have s2 := ispread_ev p l (by omega) (by omega)
  have hsp := spread_step l hpw p d hdl
  refine Ev.bind s1 (Ev.bind s2 ?_)
  have cont : Ev (fun k => laws_FnBest.j4 k l q.f0 (!hasI (zonesOf p l) q.f1) (i : Int) false a ps p q.f0 q.f1 q.f2) true :=
   Ev.step (fun k => by rw [laws_FnBest.j4, if_neg (by decide), w.out]) ih
  have o1 := impl_loadOf_ev a ps d.f0 (by omega) (by omega)
  have o2 := impl_loadOf_ev a ps q.f0 (by omega) (by omega)
  have b1 := loadOf_le d.f0 ps
  have b2 := loadOf_le q.f0 ps
  have same : (!hasI (zonesOf p l) d.f1) = (!hasI (zonesOf p l) q.f1) → decide (wrap64 (wrap64 (((loadOf d.f0 ps : Nat) : Int) + 1) * q.f2) < wrap64 (wrap64 (((loadOf q.f0 ps : Nat) : Int) + 1) * d.f2)) = false := fun hs => by
   rw [wone (by omega), wone (by omega), wmul (by omega) wq.1 wq.2, wmul (by omega) wd.1 wd.2]
   exact decide_eq_false (hli d hdl c' hs)
  by_cases g : ((zonesOf (p ++ [d.f0]) l).length : Int) > ((zonesOf p l).length : Int)
  ·refine Ev.pos g ?_
   rw [decide_eq_true g] at hsp ⊢
   have hz : hasI (zonesOf p l) d.f1 = false := by cases e : hasI (zonesOf p l) d.f1 with | false => rfl | true => rw [e] at hsp; cases hsp
   rcases hfr with hf | hf
   ·have e0 : (!hasI (zonesOf p l) q.f1) = true := by rw [hf]; rfl
    have hs := same (by rw [hz, hf])
    rw [e0] at cont ⊢
    refine Ev.pos rfl (Ev.pos rfl (Ev.bind o1 (Ev.bind o2 ?_)))
    rw [hs]
    exact cont
   ·rw [hf d hdl c'] at hz
    cases hz
  ·refine Ev.neg g ?_
   rw [decide_eq_false g] at hsp ⊢
   have hz : hasI (zonesOf p l) d.f1 = true := by cases e : hasI (zonesOf p l) d.f1 with | true => rfl | false => rw [e] at hsp; cases hsp
   cases e0 : hasI (zonesOf p l) q.f1 with
   | true =>
    have hs := same (by rw [hz, e0])
    rw [e0] at cont
    refine Ev.pos rfl (Ev.bind o1 (Ev.bind o2 ?_))
    rw [hs]
    exact cont
   | false =>
    rw [e0] at cont
    exact Ev.neg (by decide) cont
theorem FnBest (code : List Int) (h0 : Bytes code) : ∃ k, laws_FnBest.f k code = some true := by
 apply Ev.rounds (g := fun k => laws_FnBest.f k code)
 simp only [laws_FnBest.f]
 refine Ev.got (big_eq code) ?_
 by_cases hb : (code.length : Int) > 1048576
 ·exact Ev.pos (decide_eq_true hb) (Ev.now _)
 refine Ev.neg (by rw [decide_eq_true_eq]; exact hb) ?_
 obtain ⟨l, a, ps, p, e1, ⟨s1, s2, s3⟩, hp⟩ := drawBest_ev code (by omega)
 have hl2 : lens ps ≤ 1099511627776 := by have := lens_le 4 ps s3; omega
 obtain ⟨q1, q2⟩ := best_ev a ps p l (by omega) (by omega) hl2 (by omega)
 obtain ⟨d1, d2⟩ := devsOk_ev l (by omega)
 refine Ev.bind e1 (Ev.bind q2 (Ev.bind q1 (Ev.pos rfl (Ev.bind d1 ?_))))
 by_cases c : devsOk l = true
 ·rw [c]
  refine Ev.step (f := fun k => (impl_DevAt.f k l (idOf (bestOf ps p l))).bind fun bt => if idOf (bestOf ps p l) = -1 then laws_FnBest.l0 k l 0 p else (some (([] : List Int) : List Int)).bind fun y400 => if y400.length + p.length < 17592186044416 then (some (y400 ++ p : List Int)).bind fun y403 => (some ([idOf (bestOf ps p l)] : List Int)).bind fun y406 => if y403.length + y406.length < 17592186044416 then (some (y403 ++ y406 : List Int)).bind fun y409 => (if bt.2.2.2 = true then (laws_has.f k p (idOf (bestOf ps p l))).bind fun t413 => laws_FnBest.j2 k l (idOf (bestOf ps p l)) t413 a ps p bt.1 bt.2.1 bt.2.2.1 y409 else laws_FnBest.j2 k l (idOf (bestOf ps p l)) true a ps p bt.1 bt.2.1 bt.2.2.1 y409) else none else none) (fun k => by rw [laws_FnBest.j0, if_neg (by decide)]) ?_
  have da := (devAt_ev l (idOf (bestOf ps p l)) (by omega)).2
  have hpw := (devsFrom_lt l.length l none c).2
  have hw := devsFrom_mem l.length l none c
  refine Ev.bind da ?_
  rw [bestOf, if_pos c]
  obtain ⟨b1, b2⟩ := bestFrom_good ps p (zonesOf p l) l none false (fun q hq => by cases hq) (fun _ => rfl)
  have b3 := bestFrom_light ps p (zonesOf p l) l [] none false (fun d hd => (hw d hd).2.2.1) (fun d hd => by cases hd) (fun q hq => by cases hq) (fun _ d hd => by cases hd)
  cases e : bestFrom ps p (zonesOf p l) none false l with
  | none => exact Ev.pos rfl (best_l0 l s1 p hp (b1 e).2 l 0 rfl)
  | some q =>
   obtain ⟨j1, j2⟩ := b2 q e
   rcases j1 with j1 | ⟨hq, hqp⟩
   ·cases j1
   have hli := b3 q e
   rw [List.nil_append] at hli
   obtain ⟨d, hd, hd1, hd2⟩ := devAt_is q.f0 l ⟨q, hq, rfl⟩
   have hdq := ids_inj l hpw d hd q hq hd1
   subst hdq
   have hw1 := (hw d hd).1.1
   refine Ev.neg (by show ¬ d.f0 = -1; omega) ?_
   refine Ev.some_bind (Ev.pos (by simp; omega) (Ev.some_bind (Ev.some_bind (Ev.pos (by simp; omega) (Ev.some_bind ?_)))))
   rw [List.nil_append]
   show Ev (fun k => if (devAt d.f0 l).2.2.2 = true then (laws_has.f k p d.f0).bind fun t413 => laws_FnBest.j2 k l d.f0 t413 a ps p (devAt d.f0 l).1 (devAt d.f0 l).2.1 (devAt d.f0 l).2.2.1 (p ++ [d.f0]) else laws_FnBest.j2 k l d.f0 true a ps p (devAt d.f0 l).1 (devAt d.f0 l).2.1 (devAt d.f0 l).2.2.1 (p ++ [d.f0])) true
   rw [hd2]
   have eh := lawHas_ev p d.f0 (by omega)
   rw [hqp] at eh
   refine Ev.pos rfl (Ev.bind eh ?_)
   have t1 := ispread_ev (p ++ [d.f0]) l (by simp; omega) (by omega)
   have t2 := ispread_ev p l (by omega) (by omega)
   refine Ev.step (f := fun k => (impl_SpreadOf.f k (p ++ [d.f0]) l).bind fun t414 => (impl_SpreadOf.f k p l).bind fun t415 => laws_FnBest.l1 k l d.f0 (decide (t414 > t415)) 0 a ps p d.f0 d.f1 d.f2) (fun k => by rw [laws_FnBest.j2, if_neg (by decide)]) (Ev.bind t1 (Ev.bind t2 ?_))
   rw [spread_step l hpw p d hd]
   exact best_l1 l s1 c a ps s2 hl2 p hp d hd (j2.imp id (fun j => j.2)) hli l 0 rfl
 ·rw [Bool.eq_false_iff.mpr c]
  refine Ev.step (f := fun k => (spec_Best.f k a ps p l).bind fun t392 => some (idOf (bestOf ps p l) == t392)) (fun k => by rw [laws_FnBest.j0, if_pos (by decide)]) (Ev.bind q1 ?_)
  rw [beq_self_eq_true]
  exact Ev.now _
end Go.Proofs.Ytbhllgifciaepaa.Pure
