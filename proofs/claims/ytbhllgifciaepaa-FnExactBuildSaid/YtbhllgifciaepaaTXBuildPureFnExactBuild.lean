/- Trimmed by a program of this session (trim.py). Not trusted: Lean checks it. -/
import Derived.Test.YtbhllgifciaepaaTXBuildPFnExactBuildx11
import Derived.Test.YtbhllgifciaepaaTXBuildBase
namespace Go.Proofs.Ytbhllgifciaepaa.PureFnExactBuild
open Go.RowKit Go.Proofs.Ytbhllgifciaepaa.PFnExactBuild Go.Proofs.YtbhllgifciaepaaW.PrintWords Go.Proofs.YtbhllgifciaepaaW.PrintLast Go.Proofs.YtbhllgifciaepaaW.PrintMore Go.Proofs.Ytbhllgifciaepaa.Base
set_option linter.unusedVariables false
attribute [local irreducible] Go.bits IntKind.wrap shl shr
theorem rdT_at76 {xs : List S76} {i : Nat} {a : S76} {t : List S76} (h : xs.drop i = a :: t) : rd_T76 xs (i : Int) = a := by
 unfold rd_T76; rw [Int.toNat_natCast]; exact (drop_cons' h _).2.1
def devAt (id : Int) : List S76 → Int × Int × Int × Bool
 | [] => (0, 0, 0, false)
 | d :: t => if d.f0 = id then (d.f0, d.f1, d.f2, true) else devAt id t
theorem devAt_l0s (xs : List S76) (id : Int) (hN : xs.length ≤ 4611686018427387904) : ∀ (l : List S76) (i : Nat), xs.drop i = l → Ev (fun k => spec_DevAt.l0 k xs id (i : Int)) (devAt id l)
 | [], i, h => by
  have h1 := drop_nil' h
  refine Ev.step (f := fun _ => some (0, 0, 0, false)) (fun k => ?_) (Ev.now _)
  rw [spec_DevAt.l0, if_neg (by omega)]
 | a :: t, i, h => by
  obtain ⟨h1, _, h3⟩ := drop_cons' h z76
  have ih := devAt_l0s xs id hN t (i + 1) h3
  refine Ev.step (f := fun k => if a.f0 = id then some (a.f0, a.f1, a.f2, true) else spec_DevAt.l0 k xs id ((i + 1 : Nat) : Int)) (fun k => ?_) ?_
  ·rw [spec_DevAt.l0, if_pos (by omega), if_pos (by omega), rdT_at76 h, w64s h1 hN]
  ·by_cases c : a.f0 = id
   ·rw [devAt, if_pos c]; exact Ev.pos c (Ev.now _)
   ·rw [devAt, if_neg c]; exact Ev.neg c ih
theorem devAt_l0i (xs : List S76) (id : Int) (hN : xs.length ≤ 4611686018427387904) : ∀ (l : List S76) (i : Nat), xs.drop i = l → Ev (fun k => impl_DevAt.l0 k id xs (xs.length : Int) (i : Int)) (devAt id l)
 | [], i, h => by
  have h1 := drop_nil' h
  refine Ev.step (f := fun _ => some (0, 0, 0, false)) (fun k => ?_) (Ev.now _)
  rw [impl_DevAt.l0, if_neg (by omega)]
 | a :: t, i, h => by
  obtain ⟨h1, _, h3⟩ := drop_cons' h z76
  have ih := devAt_l0i xs id hN t (i + 1) h3
  refine Ev.step (f := fun k => if a.f0 = id then some (a.f0, a.f1, a.f2, true) else impl_DevAt.l0 k id xs (xs.length : Int) ((i + 1 : Nat) : Int)) (fun k => ?_) ?_
  ·rw [impl_DevAt.l0, if_pos (by omega), if_pos (by omega), if_pos (by omega), rdT_at76 h, w64s h1 hN]
  ·by_cases c : a.f0 = id
   ·rw [devAt, if_pos c]; exact Ev.pos c (Ev.now _)
   ·rw [devAt, if_neg c]; exact Ev.neg c ih
theorem devAt_ev (xs : List S76) (id : Int) (hN : xs.length ≤ 4611686018427387904) : Ev (fun k => spec_DevAt.f k xs id) (devAt id xs) ∧ Ev (fun k => impl_DevAt.f k xs id) (devAt id xs) :=
 ⟨devAt_l0s xs id hN xs 0 rfl, devAt_l0i xs id hN xs 0 rfl⟩
def hasI : List Int → Int → Bool
 | [], _ => false
 | a :: t, x => if a = x then true else hasI t x
theorem l4Has_l0 (xs : List Int) (x : Int) (hN : xs.length ≤ 4611686018427387904) : ∀ (l : List Int) (i : Nat), xs.drop i = l → Ev (fun k => spec_l4Has.l0 k xs x (i : Int)) (hasI l x)
 | [], i, h => by
  have h1 := drop_nil' h
  refine Ev.step (f := fun _ => some false) (fun k => ?_) (Ev.now _)
  rw [spec_l4Has.l0, if_neg (by omega)]
 | a :: t, i, h => by
  obtain ⟨h1, _, h3⟩ := drop_cons' h 0
  refine Ev.step (f := fun k => if a = x then some true else spec_l4Has.l0 k xs x ((i + 1 : Nat) : Int)) (fun k => ?_) ?_
  ·rw [spec_l4Has.l0, if_pos (by omega), if_pos (by omega), rd_at h, w64s h1 hN]
  ·by_cases c : a = x
   ·rw [hasI, if_pos c]; exact Ev.pos c (Ev.now _)
   ·rw [hasI, if_neg c]; exact Ev.neg c (l4Has_l0 xs x hN t (i + 1) h3)
theorem l4Has_ev (xs : List Int) (x : Int) (hN : xs.length ≤ 4611686018427387904) : Ev (fun k => spec_l4Has.f k xs x) (hasI xs x) := l4Has_l0 xs x hN xs 0 rfl
theorem hasInt_l0 (xs : List Int) (x : Int) (hN : xs.length ≤ 4611686018427387904) : ∀ (l : List Int) (i : Nat), xs.drop i = l → Ev (fun k => impl_hasInt.l0 k x xs (xs.length : Int) (i : Int)) (hasI l x)
 | [], i, h => by
  have h1 := drop_nil' h
  refine Ev.step (f := fun _ => some false) (fun k => ?_) (Ev.now _)
  rw [impl_hasInt.l0, if_neg (by omega)]
 | a :: t, i, h => by
  obtain ⟨h1, _, h3⟩ := drop_cons' h 0
  refine Ev.step (f := fun k => if a = x then some true else impl_hasInt.l0 k x xs (xs.length : Int) ((i + 1 : Nat) : Int)) (fun k => ?_) ?_
  ·rw [impl_hasInt.l0, if_pos (by omega), if_pos (by omega), if_pos (by omega), rd_at h, w64s h1 hN]
  ·by_cases c : a = x
   ·rw [hasI, if_pos c]; exact Ev.pos c (Ev.now _)
   ·rw [hasI, if_neg c]; exact Ev.neg c (hasInt_l0 xs x hN t (i + 1) h3)
theorem hasInt_ev (xs : List Int) (x : Int) (hN : xs.length ≤ 4611686018427387904) : Ev (fun k => impl_hasInt.f k xs x) (hasI xs x) := hasInt_l0 xs x hN xs 0 rfl
def zoneOf (l : List S76) (id : Int) : Option Int := if (devAt id l).2.2.2 = true then some (devAt id l).2.1 else none
def zonesFrom (l : List S76) : List Int → List Int → List Int
 | acc, [] => acc
 | acc, id :: t => match zoneOf l id with
  | none => zonesFrom l acc t
  | some z => if hasI acc z = true then zonesFrom l acc t else zonesFrom l (acc ++ [z]) t
theorem zones_l0 (l : List S76) (ids : List Int) (hl : l.length ≤ 1048576) (hN : ids.length ≤ 1048576) : ∀ (t : List Int) (i : Nat) (acc : List Int), ids.drop i = t → acc.length ≤ i →
  Ev (fun k => spec_l5Zones.l0 k ids l acc (i : Int)) (zonesFrom l acc t) ∧ Ev (fun k => impl_zonesIn.l0 k l acc ids (ids.length : Int) (i : Int)) (zonesFrom l acc t)
 | [], i, acc, h, ha => by
  have h1 := drop_nil' h
  refine ⟨Ev.step (f := fun _ => some acc) (fun k => ?_) (Ev.now _), Ev.step (f := fun _ => some acc) (fun k => ?_) (Ev.now _)⟩
  ·rw [spec_l5Zones.l0, if_neg (by omega)]
  ·rw [impl_zonesIn.l0, if_neg (by omega)]
 | id :: t, i, acc, h, ha => by
  obtain ⟨h1, _, h3⟩ := drop_cons' h 0
  have hr : Hd (rd ids (i : Int) = id) := ⟨rd_at h⟩
  have w : Hd (wrap64 ((i : Int) + 1) = ((i + 1 : Nat) : Int)) := ⟨w64s h1 (by omega)⟩
  obtain ⟨d1, d2⟩ := devAt_ev l id (by omega)
  have ih := fun acc' (ha' : acc'.length ≤ i + 1) => zones_l0 l ids hl hN t (i + 1) acc' h3 ha'
  rw [zonesFrom, zoneOf]
  by_cases c : (devAt id l).2.2.2 = true
  ·simp only [if_pos c]
   by_cases c2 : hasI acc (devAt id l).2.1 = true
   ·rw [if_pos c2]
    refine ⟨Ev.step (fun k => by rw [spec_l5Zones.l0, if_pos (by omega), if_pos (by omega), hr.out, w.out]) ?_, Ev.step (fun k => by rw [impl_zonesIn.l0, if_pos (by omega), if_pos (by omega), if_pos (by omega), hr.out, w.out]) ?_⟩
    ·exact Ev.bind d1 (Ev.pos c (Ev.bind (l4Has_ev acc _ (by omega)) (Ev.pos c2 (ih acc (by omega)).1)))
    ·exact Ev.bind d2 (Ev.pos c (Ev.bind (hasInt_ev acc _ (by omega)) (Ev.pos c2 (ih acc (by omega)).2)))
   ·rw [if_neg c2]
    refine ⟨Ev.step (fun k => by rw [spec_l5Zones.l0, if_pos (by omega), if_pos (by omega), hr.out, w.out]) ?_, Ev.step (fun k => by rw [impl_zonesIn.l0, if_pos (by omega), if_pos (by omega), if_pos (by omega), hr.out, w.out]) ?_⟩
    ·exact Ev.bind d1 (Ev.pos c (Ev.bind (l4Has_ev acc _ (by omega)) (Ev.neg c2 (Ev.pos (by omega) (ih _ (by simp; omega)).1))))
    ·exact Ev.bind d2 (Ev.pos c (Ev.bind (hasInt_ev acc _ (by omega)) (Ev.neg c2 (Ev.pos (by omega) (ih _ (by simp; omega)).2))))
  ·simp only [if_neg c]
   refine ⟨Ev.step (fun k => by rw [spec_l5Zones.l0, if_pos (by omega), if_pos (by omega), hr.out, w.out]) ?_, Ev.step (fun k => by rw [impl_zonesIn.l0, if_pos (by omega), if_pos (by omega), if_pos (by omega), hr.out, w.out]) ?_⟩
   ·exact Ev.bind d1 (Ev.neg c (ih acc (by omega)).1)
   ·exact Ev.bind d2 (Ev.neg c (ih acc (by omega)).2)
def zonesOf (ids : List Int) (l : List S76) : List Int := zonesFrom l [] ids
theorem zones_ev (ids : List Int) (l : List S76) (hN : ids.length ≤ 1048576) (hl : l.length ≤ 1048576) : Ev (fun k => spec_l5Zones.f k ids l) (zonesOf ids l) ∧ Ev (fun k => impl_zonesIn.f k ids l) (zonesOf ids l) :=
 zones_l0 l ids hl hN ids 0 [] rfl (Nat.le_refl _)
theorem zonesFrom_len (l : List S76) : ∀ (t acc : List Int), (zonesFrom l acc t).length ≤ acc.length + t.length
 | [], acc => by rw [zonesFrom]; simp
 | id :: t, acc => by
  rw [zonesFrom]
  rw [List.length_cons]
  split
  ·have := zonesFrom_len l t acc; omega
  ·split
   ·have := zonesFrom_len l t acc; omega
   ·next z _ _ => have := zonesFrom_len l t (acc ++ [z]); rw [List.length_append] at this; simp at this; omega
theorem l1In_eq (x a b : Int) : spec_l1In.f x a b = some (decide (a ≤ x ∧ x ≤ b)) := by
 unfold spec_l1In.f
 by_cases h : x ≥ a
 ·rw [if_pos h]; simp [show a ≤ x from h]
 ·rw [if_neg h]; simp [show ¬ a ≤ x from h]
theorem in_eq (x a b : Int) : impl_in.f x a b = some (decide (a ≤ x ∧ x ≤ b)) := by
 unfold impl_in.f
 by_cases h : x ≥ a
 ·rw [if_pos h]; simp [show a ≤ x from h]
 ·rw [if_neg h]; simp [show ¬ a ≤ x from h]
def devsFrom (len : Nat) : Option S76 → List S76 → Bool
 | _, [] => decide (1 ≤ (len : Int) ∧ (len : Int) ≤ 12)
 | pr, d :: t => if (0 ≤ d.f0 ∧ d.f0 ≤ 20) ∧ (0 ≤ d.f1 ∧ d.f1 ≤ 20) ∧ (1 ≤ d.f2 ∧ d.f2 ≤ 1000) ∧ (∀ q, pr = some q → q.f0 < d.f0) then devsFrom len (some d) t else false
def devsOk (l : List S76) : Bool := devsFrom l.length none l
theorem devsOk_l0 (xs : List S76) (hN : xs.length ≤ 4611686018427387904) : ∀ (l : List S76) (i : Nat) (pr : Option S76), xs.drop i = l → (∀ q, pr = some q ↔ ∃ j, i = j + 1 ∧ xs[j]? = some q) →
  Ev (fun k => spec_DevsOk.l0 k xs (i : Int)) (devsFrom xs.length pr l) ∧ Ev (fun k => impl_DevsOk.l0 k xs xs (xs.length : Int) (i : Int)) (devsFrom xs.length pr l)
 | [], i, pr, h, hp => by
  have h1 := drop_nil' h
  refine ⟨Ev.step (f := fun _ => some (devsFrom xs.length pr [])) (fun k => ?_) (Ev.now _), Ev.step (f := fun _ => some (devsFrom xs.length pr [])) (fun k => ?_) (Ev.now _)⟩
  ·rw [spec_DevsOk.l0, if_neg (by omega), l1In_eq]; rfl
  ·rw [impl_DevsOk.l0, if_neg (by omega), in_eq]; rfl
 | d :: t, i, pr, h, hp => by
  obtain ⟨h1, hd, h3⟩ := drop_cons' h z76
  have hdi : xs[i]? = some d := by
   rw [List.getElem?_eq_getElem h1]; rw [List.getD_eq_getElem?_getD, List.getElem?_eq_getElem h1] at hd; exact congrArg some hd
  have hr : Hd (rd_T76 xs (i : Int) = d) := ⟨rdT_at76 h⟩
  have w : Hd (wrap64 ((i : Int) + 1) = ((i + 1 : Nat) : Int)) := ⟨w64s h1 hN⟩
  obtain ⟨i1, i2⟩ := devsOk_l0 xs hN t (i + 1) (some d) h3 (fun q => ⟨fun e => ⟨i, rfl, by rw [← e]; exact hdi⟩, fun ⟨j, e1, e2⟩ => by
   have : j = i := by omega
   subst this
   rw [hdi] at e2; exact e2⟩)
  rw [devsFrom]
  by_cases c0 : 0 ≤ d.f0 ∧ d.f0 ≤ 20
  ·by_cases c1 : 0 ≤ d.f1 ∧ d.f1 ≤ 20
   ·by_cases c2 : 1 ≤ d.f2 ∧ d.f2 ≤ 1000
    ·rcases Nat.eq_zero_or_pos i with hi | hi
     ·have hn : pr = none := by
       cases pr with
       | none => rfl
       | some q => obtain ⟨j, e1, _⟩ := (hp q).1 rfl; omega
      rw [if_pos ⟨c0, c1, c2, fun q e => by rw [hn] at e; cases e⟩]
      refine ⟨Ev.step (fun k => ?_) i1, Ev.step (fun k => ?_) i2⟩
      ·rw [spec_DevsOk.l0, if_pos (by omega), if_pos (by omega), hr.out, l1In_eq, Option.bind_some, decide_eq_true c0, if_pos rfl, l1In_eq, Option.bind_some, decide_eq_true c1, if_pos rfl, l1In_eq, Option.bind_some, decide_eq_true c2, if_pos rfl, if_neg (by omega), w.out]
      ·rw [impl_DevsOk.l0, if_pos (by omega), if_pos (by omega), if_pos (by omega), hr.out, in_eq, Option.bind_some, decide_eq_true c0, if_pos rfl, in_eq, Option.bind_some, decide_eq_true c1, if_pos rfl, in_eq, Option.bind_some, decide_eq_true c2, if_pos rfl, if_neg (by omega), w.out]
     ·obtain ⟨j, rfl⟩ : ∃ j, i = j + 1 := ⟨i - 1, by omega⟩
      have hj : j < xs.length := by omega
      have hq : pr = some xs[j] := (hp xs[j]).2 ⟨j, rfl, List.getElem?_eq_getElem hj⟩
      have wm : Hd (wrap64 (((j + 1 : Nat) : Int) - 1) = (j : Int)) := ⟨by rw [w64 (by omega) (by omega)]; omega⟩
      have hrj : Hd (rd_T76 xs (j : Int) = xs[j]) := ⟨by
       unfold rd_T76; rw [Int.toNat_natCast, List.getD_eq_getElem?_getD, List.getElem?_eq_getElem hj]; rfl⟩
      by_cases c3 : xs[j].f0 < d.f0
      ·rw [if_pos ⟨c0, c1, c2, fun q e => by rw [hq] at e; injection e with e; rw [← e]; exact c3⟩]
       refine ⟨Ev.step (fun k => ?_) i1, Ev.step (fun k => ?_) i2⟩
       ·rw [spec_DevsOk.l0, if_pos (by omega), if_pos (by omega), hr.out, l1In_eq, Option.bind_some, decide_eq_true c0, if_pos rfl, l1In_eq, Option.bind_some, decide_eq_true c1, if_pos rfl, l1In_eq, Option.bind_some, decide_eq_true c2, if_pos rfl, if_pos (by omega), wm.out, if_pos (by omega), if_pos (by omega), hrj.out, if_neg (by omega), w.out]
       ·rw [impl_DevsOk.l0, if_pos (by omega), if_pos (by omega), if_pos (by omega), hr.out, in_eq, Option.bind_some, decide_eq_true c0, if_pos rfl, in_eq, Option.bind_some, decide_eq_true c1, if_pos rfl, in_eq, Option.bind_some, decide_eq_true c2, if_pos rfl, if_pos (by omega), wm.out, if_pos (by omega), if_pos (by omega), hrj.out, if_neg (by omega), w.out]
      ·rw [if_neg (fun hc => c3 (hc.2.2.2 _ hq))]
       refine ⟨Ev.step (f := fun _ => some false) (fun k => ?_) (Ev.now _), Ev.step (f := fun _ => some false) (fun k => ?_) (Ev.now _)⟩
       ·rw [spec_DevsOk.l0, if_pos (by omega), if_pos (by omega), hr.out, l1In_eq, Option.bind_some, decide_eq_true c0, if_pos rfl, l1In_eq, Option.bind_some, decide_eq_true c1, if_pos rfl, l1In_eq, Option.bind_some, decide_eq_true c2, if_pos rfl, if_pos (by omega), wm.out, if_pos (by omega), if_pos (by omega), hrj.out, if_pos (by omega)]
       ·rw [impl_DevsOk.l0, if_pos (by omega), if_pos (by omega), if_pos (by omega), hr.out, in_eq, Option.bind_some, decide_eq_true c0, if_pos rfl, in_eq, Option.bind_some, decide_eq_true c1, if_pos rfl, in_eq, Option.bind_some, decide_eq_true c2, if_pos rfl, if_pos (by omega), wm.out, if_pos (by omega), if_pos (by omega), hrj.out, if_pos (by omega)]
    ·rw [if_neg (fun hc => c2 hc.2.2.1)]
     refine ⟨Ev.step (f := fun _ => some false) (fun k => ?_) (Ev.now _), Ev.step (f := fun _ => some false) (fun k => ?_) (Ev.now _)⟩
     ·rw [spec_DevsOk.l0, if_pos (by omega), if_pos (by omega), hr.out, l1In_eq, Option.bind_some, decide_eq_true c0, if_pos rfl, l1In_eq, Option.bind_some, decide_eq_true c1, if_pos rfl, l1In_eq, Option.bind_some, decide_eq_false c2, if_neg (by decide)]
     ·rw [impl_DevsOk.l0, if_pos (by omega), if_pos (by omega), if_pos (by omega), hr.out, in_eq, Option.bind_some, decide_eq_true c0, if_pos rfl, in_eq, Option.bind_some, decide_eq_true c1, if_pos rfl, in_eq, Option.bind_some, decide_eq_false c2, if_neg (by decide)]
   ·rw [if_neg (fun hc => c1 hc.2.1)]
    refine ⟨Ev.step (f := fun _ => some false) (fun k => ?_) (Ev.now _), Ev.step (f := fun _ => some false) (fun k => ?_) (Ev.now _)⟩
    ·rw [spec_DevsOk.l0, if_pos (by omega), if_pos (by omega), hr.out, l1In_eq, Option.bind_some, decide_eq_true c0, if_pos rfl, l1In_eq, Option.bind_some, decide_eq_false c1, if_neg (by decide)]
    ·rw [impl_DevsOk.l0, if_pos (by omega), if_pos (by omega), if_pos (by omega), hr.out, in_eq, Option.bind_some, decide_eq_true c0, if_pos rfl, in_eq, Option.bind_some, decide_eq_false c1, if_neg (by decide)]
  ·rw [if_neg (fun hc => c0 hc.1)]
   refine ⟨Ev.step (f := fun _ => some false) (fun k => ?_) (Ev.now _), Ev.step (f := fun _ => some false) (fun k => ?_) (Ev.now _)⟩
   ·rw [spec_DevsOk.l0, if_pos (by omega), if_pos (by omega), hr.out, l1In_eq, Option.bind_some, decide_eq_false c0, if_neg (by decide)]
   ·rw [impl_DevsOk.l0, if_pos (by omega), if_pos (by omega), if_pos (by omega), hr.out, in_eq, Option.bind_some, decide_eq_false c0, if_neg (by decide)]
theorem devsOk_ev (xs : List S76) (hN : xs.length ≤ 4611686018427387904) : Ev (fun k => spec_DevsOk.f k xs) (devsOk xs) ∧ Ev (fun k => impl_DevsOk.f k xs) (devsOk xs) :=
 devsOk_l0 xs hN xs 0 none rfl (fun q => ⟨fun e => (by cases e), fun ⟨j, e, _⟩ => (by omega)⟩)
theorem rdT_at29 {xs : List S29} {i : Nat} {a : S29} {t : List S29} (h : xs.drop i = a :: t) : rd_T29 xs (i : Int) = a := by
 unfold rd_T29; rw [Int.toNat_natCast]; exact (drop_cons' h _).2.1
def cntI (id : Int) : List Int → Nat
 | [] => 0
 | a :: t => (if a = id then 1 else 0) + cntI id t
def loadOf (id : Int) : List S29 → Nat
 | [] => 0
 | p :: t => cntI id p.f0 + loadOf id t
def lens : List S29 → Nat
 | [] => 0
 | p :: t => p.f0.length + lens t
theorem cntI_le (id : Int) : ∀ l : List Int, cntI id l ≤ l.length
 | [] => Nat.le_refl _
 | a :: t => by
  have := cntI_le id t
  rw [cntI, List.length_cons]
  split <;> omega
theorem loadOf_le (id : Int) : ∀ l : List S29, loadOf id l ≤ lens l
 | [] => Nat.le_refl _
 | p :: t => by
  have h1 := loadOf_le id t
  have h2 := cntI_le id p.f0
  rw [loadOf, lens]
  omega
theorem lens_le (m : Nat) : ∀ l : List S29, (∀ x ∈ l, x.f0.length ≤ m) → lens l ≤ l.length * m
 | [], _ => Nat.zero_le _
 | p :: t, h => by
  have h1 := lens_le m t (fun x hx => h x (List.mem_cons_of_mem _ hx))
  have h2 := h p List.mem_cons_self
  rw [lens, List.length_cons, Nat.succ_mul]
  omega
theorem spec_loadOf_l1 (ps : List S29) (p : S29) (id reps : Int) (i : Nat) (hi : i < ps.length) (hp : rd_T29 ps (i : Int) = p) (hN : p.f0.length ≤ 4611686018427387904) (r : Int) :
  ∀ (l : List Int) (j : Nat) (n : Nat), p.f0.drop j = l → n + l.length ≤ 4611686018427387904 → Ev (fun k => spec_LoadOf.l0 k id ((n + cntI id l : Nat) : Int) (wrap64 ((i : Int) + 1)) reps ps) r → Ev (fun k => spec_LoadOf.l1 k id (n : Int) (i : Int) (j : Int) reps ps) r
 | [], j, n, h, hn, hr => by
  have h1 := drop_nil' h
  refine Ev.step (fun k => ?_) hr
  rw [spec_LoadOf.l1, if_pos (by omega), if_pos (by omega), hp, if_neg (by omega)]
  rfl
 | a :: t, j, n, h, hn, hr => by
  obtain ⟨h1, _, h3⟩ := drop_cons' h 0
  rw [List.length_cons] at hn
  have hrd : Hd (rd p.f0 (j : Int) = a) := ⟨rd_at h⟩
  have w : Hd (wrap64 ((j : Int) + 1) = ((j + 1 : Nat) : Int)) := ⟨w64s h1 hN⟩
  have wn : Hd (wrap64 ((n : Int) + 1) = ((n + 1 : Nat) : Int)) := ⟨w64s (n := n + 1) (by omega) (by omega)⟩
  by_cases c : a = id
  ·rw [cntI, if_pos c] at hr
   refine Ev.step (fun k => ?_) (spec_loadOf_l1 ps p id reps i hi hp hN r t (j + 1) (n + 1) h3 (by omega) (by rw [show n + 1 + cntI id t = n + (1 + cntI id t) by omega]; exact hr))
   rw [spec_LoadOf.l1, if_pos (by omega), if_pos (by omega), hp, if_pos (by omega), if_pos (by omega), hrd.out, if_pos c, w.out, wn.out]
  ·rw [cntI, if_neg c, Nat.zero_add] at hr
   refine Ev.step (fun k => ?_) (spec_loadOf_l1 ps p id reps i hi hp hN r t (j + 1) n h3 (by omega) hr)
   rw [spec_LoadOf.l1, if_pos (by omega), if_pos (by omega), hp, if_pos (by omega), if_pos (by omega), hrd.out, if_neg c, w.out]
theorem spec_loadOf_l0 (ps : List S29) (id reps : Int) (hN : ps.length ≤ 4611686018427387904) : ∀ (l : List S29) (i n : Nat), ps.drop i = l → n + lens l ≤ 4611686018427387904 → Ev (fun k => spec_LoadOf.l0 k id (n : Int) (i : Int) reps ps) ((n + loadOf id l : Nat) : Int)
 | [], i, n, h, hn => by
  have h1 := drop_nil' h
  refine Ev.step (f := fun _ => some (n : Int)) (fun k => ?_) (Ev.now _)
  rw [spec_LoadOf.l0, if_neg (by omega)]
 | p :: t, i, n, h, hn => by
  obtain ⟨h1, _, h3⟩ := drop_cons' h z29
  rw [lens] at hn
  have hc := cntI_le id p.f0
  have ih := spec_loadOf_l0 ps id reps hN t (i + 1) (n + cntI id p.f0) h3 (by omega)
  have hr : Ev (fun k => spec_LoadOf.l1 k id (n : Int) (i : Int) ((0 : Nat) : Int) reps ps) ((n + loadOf id (p :: t) : Nat) : Int) :=
   spec_loadOf_l1 ps p id reps i h1 (rdT_at29 h) (by omega) _ p.f0 0 n rfl (by omega) (by rw [w64s h1 hN, loadOf, ← Nat.add_assoc]; exact ih)
  refine Ev.step (fun k => ?_) hr
  rw [spec_LoadOf.l0, if_pos (by omega)]
  rfl
theorem spec_loadOf_ev (a : Int) (ps : List S29) (id : Int) (hN : ps.length ≤ 4611686018427387904) (hl : lens ps ≤ 4611686018427387904) : Ev (fun k => spec_LoadOf.f k a ps id) ((loadOf id ps : Nat) : Int) := by
 have h := spec_loadOf_l0 ps id a hN ps 0 0 rfl (by omega)
 rw [Nat.zero_add] at h
 exact h
theorem impl_loadOf_l1 (ps : List S29) (xs : List Int) (id : Int) (n0 i : Int) (hN : xs.length ≤ 4611686018427387904) (r : Int) :
  ∀ (l : List Int) (j : Nat) (n : Nat), xs.drop j = l → n + l.length ≤ 4611686018427387904 → Ev (fun k => impl_LoadOf.l0 k id ((n + cntI id l : Nat) : Int) ps n0 (wrap64 (i + 1))) r → Ev (fun k => impl_LoadOf.l1 k id (n : Int) ps n0 i xs (xs.length : Int) (j : Int)) r
 | [], j, n, h, hn, hr => by
  have h1 := drop_nil' h
  refine Ev.step (fun k => ?_) hr
  rw [impl_LoadOf.l1, if_neg (by omega)]
  rfl
 | a :: t, j, n, h, hn, hr => by
  obtain ⟨h1, _, h3⟩ := drop_cons' h 0
  rw [List.length_cons] at hn
  have hrd : Hd (rd xs (j : Int) = a) := ⟨rd_at h⟩
  have w : Hd (wrap64 ((j : Int) + 1) = ((j + 1 : Nat) : Int)) := ⟨w64s h1 hN⟩
  have wn : Hd (wrap64 ((n : Int) + 1) = ((n + 1 : Nat) : Int)) := ⟨w64s (n := n + 1) (by omega) (by omega)⟩
  by_cases c : a = id
  ·rw [cntI, if_pos c] at hr
   refine Ev.step (fun k => ?_) (impl_loadOf_l1 ps xs id n0 i hN r t (j + 1) (n + 1) h3 (by omega) (by rw [show n + 1 + cntI id t = n + (1 + cntI id t) by omega]; exact hr))
   rw [impl_LoadOf.l1, if_pos (by omega), if_pos (by omega), if_pos (by omega), hrd.out, if_pos c, w.out, wn.out]
  ·rw [cntI, if_neg c, Nat.zero_add] at hr
   refine Ev.step (fun k => ?_) (impl_loadOf_l1 ps xs id n0 i hN r t (j + 1) n h3 (by omega) hr)
   rw [impl_LoadOf.l1, if_pos (by omega), if_pos (by omega), if_pos (by omega), hrd.out, if_neg c, w.out]
theorem impl_loadOf_l0 (ps : List S29) (id : Int) (hN : ps.length ≤ 4611686018427387904) : ∀ (l : List S29) (i n : Nat), ps.drop i = l → n + lens l ≤ 4611686018427387904 → Ev (fun k => impl_LoadOf.l0 k id (n : Int) ps (ps.length : Int) (i : Int)) ((n + loadOf id l : Nat) : Int)
 | [], i, n, h, hn => by
  have h1 := drop_nil' h
  refine Ev.step (f := fun _ => some (n : Int)) (fun k => ?_) (Ev.now _)
  rw [impl_LoadOf.l0, if_neg (by omega)]
 | p :: t, i, n, h, hn => by
  obtain ⟨h1, _, h3⟩ := drop_cons' h z29
  rw [lens] at hn
  have hc := cntI_le id p.f0
  have ih := impl_loadOf_l0 ps id hN t (i + 1) (n + cntI id p.f0) h3 (by omega)
  have hr : Ev (fun k => impl_LoadOf.l1 k id (n : Int) ps (ps.length : Int) (i : Int) p.f0 (p.f0.length : Int) ((0 : Nat) : Int)) ((n + loadOf id (p :: t) : Nat) : Int) :=
   impl_loadOf_l1 ps p.f0 id _ _ (by omega) _ p.f0 0 n rfl (by omega) (by rw [w64s h1 hN, loadOf, ← Nat.add_assoc]; exact ih)
  refine Ev.step (fun k => ?_) hr
  rw [impl_LoadOf.l0, if_pos (by omega), if_pos (by omega), if_pos (by omega), rdT_at29 h]
  rfl
theorem impl_loadOf_ev (a : Int) (ps : List S29) (id : Int) (hN : ps.length ≤ 4611686018427387904) (hl : lens ps ≤ 4611686018427387904) : Ev (fun k => impl_LoadOf.f k a ps id) ((loadOf id ps : Nat) : Int) := by
 have h := impl_loadOf_l0 ps id hN ps 0 0 rfl (by omega)
 rw [Nat.zero_add] at h
 exact h
theorem devsFrom_mem (n : Nat) : ∀ (l : List S76) (pr : Option S76), devsFrom n pr l = true → ∀ d ∈ l, (0 ≤ d.f0 ∧ d.f0 ≤ 20) ∧ (0 ≤ d.f1 ∧ d.f1 ≤ 20) ∧ (1 ≤ d.f2 ∧ d.f2 ≤ 1000)
 | [], _, _, d, hd => by cases hd
 | a :: t, pr, h, d, hd => by
  rw [devsFrom] at h
  by_cases c : (0 ≤ a.f0 ∧ a.f0 ≤ 20) ∧ (0 ≤ a.f1 ∧ a.f1 ≤ 20) ∧ (1 ≤ a.f2 ∧ a.f2 ≤ 1000) ∧ (∀ q, pr = some q → q.f0 < a.f0)
  ·rw [if_pos c] at h
   rcases List.mem_cons.1 hd with rfl | hd
   ·exact ⟨c.1, c.2.1, c.2.2.1⟩
   ·exact devsFrom_mem n t (some a) h d hd
  ·rw [if_neg c] at h
   cases h
theorem wmul {n : Nat} {w : Int} (hn : n ≤ 1099511627776) (h0 : 1 ≤ w) (h1 : w ≤ 1000) : wrap64 (((n : Int) + 1) * w) = ((n : Int) + 1) * w := by
 have h2 : ((n : Int) + 1) * w ≤ 1099511627777 * 1000 := Int.mul_le_mul (by omega) h1 (by omega) (by omega)
 have h3 : 0 ≤ ((n : Int) + 1) * w := Int.mul_nonneg (by omega) (by omega)
 exact w64 (by omega) (by omega)
theorem wone {n : Nat} (hn : n ≤ 1099511627776) : wrap64 ((n : Int) + 1) = (n : Int) + 1 := w64 (by omega) (by omega)
abbrev lighter (r : List S29) (d q : S76) : Prop := ((loadOf d.f0 r : Nat) + 1 : Int) * q.f2 < ((loadOf q.f0 r : Nat) + 1 : Int) * d.f2
def bestFrom (r : List S29) (prt zs : List Int) : Option S76 → Bool → List S76 → Option S76
 | b, _, [] => b
 | b, fr, d :: t => if hasI prt d.f0 = true then bestFrom r prt zs b fr t else
  match b with
  | none => bestFrom r prt zs (some d) (!hasI zs d.f1) t
  | some q => if hasI zs d.f1 = false ∧ fr = false then bestFrom r prt zs (some d) true t
   else if (!hasI zs d.f1) = fr ∧ lighter r d q then bestFrom r prt zs (some d) fr t else bestFrom r prt zs (some q) fr t
theorem bestFrom_has {r : List S29} {prt zs : List Int} {b : Option S76} {fr : Bool} {d : S76} {t : List S76} (c : hasI prt d.f0 = true) : bestFrom r prt zs b fr (d :: t) = bestFrom r prt zs b fr t := by
 conv => lhs; unfold bestFrom
 rw [if_pos c]
theorem bestFrom_none {r : List S29} {prt zs : List Int} {fr : Bool} {d : S76} {t : List S76} (c : ¬hasI prt d.f0 = true) : bestFrom r prt zs none fr (d :: t) = bestFrom r prt zs (some d) (!hasI zs d.f1) t := by
 conv => lhs; unfold bestFrom
 rw [if_neg c]
theorem bestFrom_some {r : List S29} {prt zs : List Int} {q : S76} {fr : Bool} {d : S76} {t : List S76} (c : ¬hasI prt d.f0 = true) : bestFrom r prt zs (some q) fr (d :: t) = (if hasI zs d.f1 = false ∧ fr = false then bestFrom r prt zs (some d) true t
   else if (!hasI zs d.f1) = fr ∧ lighter r d q then bestFrom r prt zs (some d) fr t else bestFrom r prt zs (some q) fr t) := by
 conv => lhs; unfold bestFrom
 rw [if_neg c]
def idOf : Option S76 → Int
 | none => -1
 | some q => q.f0
theorem spec_best_l0 (xs : List S76) (hok : devsOk xs = true) (hN : xs.length ≤ 1048576) (r : List S29) (hr1 : r.length ≤ 1048576) (hr2 : lens r ≤ 1099511627776) (prt zs : List Int) (hp : prt.length ≤ 1048576) (hz : zs.length ≤ 1048576) (a : Int) :
  ∀ (t : List S76) (i : Nat) (b : Option S76) (fr : Bool) (x8 : Int), xs.drop i = t → (b = none ∧ x8 = -1 ∨ ∃ (q : S76) (j : Nat), b = some q ∧ x8 = (j : Int) ∧ xs[j]? = some q) →
   Ev (fun k => spec_Best.l0 k xs zs x8 fr (i : Int) a r prt) (idOf (bestFrom r prt zs b fr t))
 | [], i, b, fr, x8, h, hb => by
  have h1 := drop_nil' h
  refine Ev.step (f := fun k => spec_Best.j1 k xs zs x8 fr (i : Int) false a r prt) (fun k => by rw [spec_Best.l0, if_neg (by omega)]) ?_
  rcases hb with ⟨rfl, rfl⟩ | ⟨q, j, rfl, rfl, hj⟩
  ·exact Ev.step (f := fun _ => some (-1)) (fun k => by rw [spec_Best.j1, if_neg (by decide), if_pos (by omega)]) (Ev.now _)
  ·have hjl : j < xs.length := (List.getElem?_eq_some_iff.1 hj).1
   have hrd : rd_T76 xs (j : Int) = q := by unfold rd_T76; rw [Int.toNat_natCast, List.getD_eq_getElem?_getD, hj]; rfl
   exact Ev.step (f := fun _ => some q.f0) (fun k => by rw [spec_Best.j1, if_neg (by decide), if_neg (by omega), if_pos (by omega), if_pos (by omega), hrd]) (Ev.now _)
 | d :: t, i, b, fr, x8, h, hb => by
  obtain ⟨h1, hd0, h3⟩ := drop_cons' h z76
  have hdi : xs[i]? = some d := by
   rw [List.getElem?_eq_getElem h1]; rw [List.getD_eq_getElem?_getD, List.getElem?_eq_getElem h1] at hd0; exact congrArg some hd0
  have hr : Hd (rd_T76 xs (i : Int) = d) := ⟨rdT_at76 h⟩
  have w : Hd (wrap64 ((i : Int) + 1) = ((i + 1 : Nat) : Int)) := ⟨w64s h1 (by omega)⟩
  have hdb := devsFrom_mem xs.length xs none hok d (List.mem_of_mem_drop (by rw [h]; exact List.mem_cons_self))
  have ih := fun b' fr' x' hb' => spec_best_l0 xs hok hN r hr1 hr2 prt zs hp hz a t (i + 1) b' fr' x' h3 hb'
  have ihd := fun fr' => ih (some d) fr' (i : Int) (Or.inr ⟨d, i, rfl, rfl, hdi⟩)
  refine Ev.step (f := fun k => (spec_DevsOk.f k xs).bind fun t1 => spec_Best.j1 k xs zs x8 fr (i : Int) t1 a r prt) (fun k => by rw [spec_Best.l0, if_pos (by omega)]) (Ev.bind (devsOk_ev xs (by omega)).1 ?_)
  rw [hok]
  refine Ev.step (f := fun k => (spec_l4Has.f k prt d.f0).bind fun t1 => if t1 = true then spec_Best.l0 k xs zs x8 fr ((i + 1 : Nat) : Int) a r prt else (spec_l4Has.f k zs d.f1).bind fun t2 => if x8 < 0 then spec_Best.j2 k xs zs x8 fr (i : Int) (!t2) true a r prt d.f0 d.f1 d.f2 else if t2 = true then spec_Best.j2 k xs zs x8 fr (i : Int) (!t2) false a r prt d.f0 d.f1 d.f2 else spec_Best.j2 k xs zs x8 fr (i : Int) (!t2) (!fr) a r prt d.f0 d.f1 d.f2) (fun k => by rw [spec_Best.j1, if_pos rfl, if_pos (by omega), if_pos (by omega), hr.out, w.out]) ?_
  refine Ev.bind (l4Has_ev prt d.f0 (by omega)) ?_
  by_cases c : hasI prt d.f0 = true
  ·rw [bestFrom_has c]
   exact Ev.pos c (ih b fr x8 hb)
  refine Ev.neg c (Ev.bind (l4Has_ev zs d.f1 (by omega)) ?_)
  have take : ∀ is : Bool, Ev (fun k => spec_Best.j2 k xs zs x8 fr (i : Int) is true a r prt d.f0 d.f1 d.f2) (idOf (bestFrom r prt zs (some d) is t)) := fun is =>
   Ev.step (f := fun k => spec_Best.l0 k xs zs (i : Int) is ((i + 1 : Nat) : Int) a r prt) (fun k => by rw [spec_Best.j2, if_pos rfl, w.out]) (ihd is)
  rcases hb with ⟨rfl, rfl⟩ | ⟨q, j, rfl, rfl, hj⟩
  ·rw [bestFrom_none c]
   exact Ev.pos (by omega) (take _)
  ·have hjl : j < xs.length := (List.getElem?_eq_some_iff.1 hj).1
   have hrd : Hd (rd_T76 xs (j : Int) = q) := ⟨by unfold rd_T76; rw [Int.toNat_natCast, List.getD_eq_getElem?_getD, hj]; rfl⟩
   have hqb := devsFrom_mem xs.length xs none hok q (List.mem_of_getElem? hj)
   have ihq := ih (some q) fr (j : Int) (Or.inr ⟨q, j, rfl, rfl, hj⟩)
   have ld := loadOf_le d.f0 r
   have lq := loadOf_le q.f0 r
   have m1 : Hd (wrap64 (wrap64 (((loadOf d.f0 r : Nat) : Int) + 1) * q.f2) = (((loadOf d.f0 r : Nat) : Int) + 1) * q.f2) := ⟨by rw [wone (by omega)]; exact wmul (by omega) (by omega) (by omega)⟩
   have m2 : Hd (wrap64 (wrap64 (((loadOf q.f0 r : Nat) : Int) + 1) * d.f2) = (((loadOf q.f0 r : Nat) : Int) + 1) * d.f2) := ⟨by rw [wone (by omega)]; exact wmul (by omega) (by omega) (by omega)⟩
   have cmp : ∀ is : Bool, Ev (fun k => spec_Best.j2 k xs zs (j : Int) fr (i : Int) is false a r prt d.f0 d.f1 d.f2) (idOf (if is = fr ∧ lighter r d q then bestFrom r prt zs (some d) fr t else bestFrom r prt zs (some q) fr t)) := by
    intro is
    refine Ev.step (f := fun k => if (is == fr) = true then (spec_LoadOf.f k a r d.f0).bind fun t1 => if 0 ≤ (j : Int) then if (j : Int) < (xs.length : Int) then (spec_LoadOf.f k a r q.f0).bind fun t2 => if wrap64 (wrap64 (t1 + 1) * q.f2) < wrap64 (wrap64 (t2 + 1) * d.f2) then spec_Best.l0 k xs zs (i : Int) fr ((i + 1 : Nat) : Int) a r prt else spec_Best.l0 k xs zs (j : Int) fr ((i + 1 : Nat) : Int) a r prt else none else none else spec_Best.l0 k xs zs (j : Int) fr ((i + 1 : Nat) : Int) a r prt) (fun k => by rw [spec_Best.j2, if_neg (by decide), hrd.out, w.out]) ?_
    by_cases e : is = fr
    ·refine Ev.pos (by rw [e, beq_self_eq_true]) (Ev.bind (spec_loadOf_ev a r d.f0 (by omega) (by omega)) (Ev.pos (by omega) (Ev.pos (by omega) (Ev.bind (spec_loadOf_ev a r q.f0 (by omega) (by omega)) ?_))))
     rw [m1.out, m2.out]
     by_cases e2 : lighter r d q
     ·rw [if_pos ⟨e, e2⟩]
      exact Ev.pos e2 (ihd fr)
     ·rw [if_neg (fun hc => e2 hc.2)]
      exact Ev.neg e2 ihq
    ·rw [if_neg (fun hc => e hc.1)]
     exact Ev.neg (by rw [beq_iff_eq]; exact e) ihq
   refine Ev.neg (by omega) ?_
   rw [bestFrom_some c]
   generalize hasI zs d.f1 = hz1 at *
   cases hz1 with
   | true =>
    rw [if_neg (fun hc => by cases hc.1)]
    exact Ev.pos rfl (cmp _)
   | false =>
    refine Ev.neg (by decide) ?_
    cases fr with
    | true =>
     rw [if_neg (fun hc => by cases hc.2)]
     exact cmp _
    | false =>
     rw [if_pos ⟨rfl, rfl⟩]
     exact take _
theorem impl_best_l0 (xs : List S76) (hok : devsOk xs = true) (hN : xs.length ≤ 1048576) (r : List S29) (hr1 : r.length ≤ 1048576) (hr2 : lens r ≤ 1099511627776) (prt zs : List Int) (hp : prt.length ≤ 1048576) (hz : zs.length ≤ 1048576) (a : Int) :
  ∀ (t : List S76) (i : Nat) (b : Option S76) (fr : Bool) (ld y0 y1 y2 : Int), xs.drop i = t → (b = none ∧ y0 = -1 ∨ ∃ q : S76, b = some q ∧ y0 = q.f0 ∧ y1 = q.f1 ∧ y2 = q.f2 ∧ ld = ((loadOf q.f0 r : Nat) : Int) + 1 ∧ q ∈ xs) →
   Ev (fun k => impl_Best.l0 k zs ld fr xs (xs.length : Int) (i : Int) a r prt y0 y1 y2) (idOf (bestFrom r prt zs b fr t))
 | [], i, b, fr, ld, y0, y1, y2, h, hb => by
  have h1 := drop_nil' h
  have e : idOf b = y0 := by
   rcases hb with ⟨rfl, rfl⟩ | ⟨q, rfl, rfl, _⟩ <;> rfl
  refine Ev.step (f := fun _ => some y0) (fun k => by rw [impl_Best.l0, if_neg (by omega)]) ?_
  rw [bestFrom, e]
  exact Ev.now _
 | d :: t, i, b, fr, ld, y0, y1, y2, h, hb => by
  obtain ⟨h1, hd0, h3⟩ := drop_cons' h z76
  have hr : Hd (rd_T76 xs (i : Int) = d) := ⟨rdT_at76 h⟩
  have w : Hd (wrap64 ((i : Int) + 1) = ((i + 1 : Nat) : Int)) := ⟨w64s h1 (by omega)⟩
  have hdm : d ∈ xs := List.mem_of_mem_drop (by rw [h]; exact List.mem_cons_self)
  have hdb := devsFrom_mem xs.length xs none hok d hdm
  have ldd := loadOf_le d.f0 r
  have wd : Hd (wrap64 (((loadOf d.f0 r : Nat) : Int) + 1) = ((loadOf d.f0 r : Nat) : Int) + 1) := ⟨wone (by omega)⟩
  have ih := fun b' fr' ld' y0' y1' y2' hb' => impl_best_l0 xs hok hN r hr1 hr2 prt zs hp hz a t (i + 1) b' fr' ld' y0' y1' y2' h3 hb'
  have ihd := fun fr' => ih (some d) fr' (((loadOf d.f0 r : Nat) : Int) + 1) d.f0 d.f1 d.f2 (Or.inr ⟨d, rfl, rfl, rfl, rfl, rfl, hdm⟩)
  refine Ev.step (f := fun k => (impl_hasInt.f k prt d.f0).bind fun t1 => if t1 = true then impl_Best.l0 k zs ld fr xs (xs.length : Int) ((i + 1 : Nat) : Int) a r prt y0 y1 y2 else (impl_LoadOf.f k a r d.f0).bind fun t2 => (impl_hasInt.f k zs d.f1).bind fun t3 => if y0 < 0 then impl_Best.l0 k zs (wrap64 (t2 + 1)) (!t3) xs (xs.length : Int) ((i + 1 : Nat) : Int) a r prt d.f0 d.f1 d.f2 else if t3 = true then (if ((!t3) == fr) = true then (if wrap64 (wrap64 (t2 + 1) * y2) < wrap64 (ld * d.f2) then impl_Best.l0 k zs (wrap64 (t2 + 1)) (!t3) xs (xs.length : Int) ((i + 1 : Nat) : Int) a r prt d.f0 d.f1 d.f2 else impl_Best.l0 k zs ld fr xs (xs.length : Int) ((i + 1 : Nat) : Int) a r prt y0 y1 y2) else impl_Best.l0 k zs ld fr xs (xs.length : Int) ((i + 1 : Nat) : Int) a r prt y0 y1 y2) else (if fr = true then (if ((!t3) == fr) = true then (if wrap64 (wrap64 (t2 + 1) * y2) < wrap64 (ld * d.f2) then impl_Best.l0 k zs (wrap64 (t2 + 1)) (!t3) xs (xs.length : Int) ((i + 1 : Nat) : Int) a r prt d.f0 d.f1 d.f2 else impl_Best.l0 k zs ld fr xs (xs.length : Int) ((i + 1 : Nat) : Int) a r prt y0 y1 y2) else impl_Best.l0 k zs ld fr xs (xs.length : Int) ((i + 1 : Nat) : Int) a r prt y0 y1 y2) else impl_Best.l0 k zs (wrap64 (t2 + 1)) (!t3) xs (xs.length : Int) ((i + 1 : Nat) : Int) a r prt d.f0 d.f1 d.f2)) (fun k => by rw [impl_Best.l0, if_pos (by omega), if_pos (by omega), if_pos (by omega), hr.out, w.out]) ?_
  refine Ev.bind (hasInt_ev prt d.f0 (by omega)) ?_
  by_cases c : hasI prt d.f0 = true
  ·rw [bestFrom_has c]
   exact Ev.pos c (ih b fr ld y0 y1 y2 hb)
  refine Ev.neg c (Ev.bind (impl_loadOf_ev a r d.f0 (by omega) (by omega)) (Ev.bind (hasInt_ev zs d.f1 (by omega)) ?_))
  rw [wd.out]
  rcases hb with ⟨rfl, rfl⟩ | ⟨q, rfl, rfl, rfl, rfl, rfl, hq⟩
  ·rw [bestFrom_none c]
   exact Ev.pos (by omega) (ihd _)
  ·have hqb := devsFrom_mem xs.length xs none hok q hq
   have lq := loadOf_le q.f0 r
   have ihq := ih (some q) fr (((loadOf q.f0 r : Nat) : Int) + 1) q.f0 q.f1 q.f2 (Or.inr ⟨q, rfl, rfl, rfl, rfl, rfl, hq⟩)
   rw [show wrap64 ((((loadOf d.f0 r : Nat) : Int) + 1) * q.f2) = (((loadOf d.f0 r : Nat) : Int) + 1) * q.f2 from wmul (by omega) (by omega) (by omega), show wrap64 ((((loadOf q.f0 r : Nat) : Int) + 1) * d.f2) = (((loadOf q.f0 r : Nat) : Int) + 1) * d.f2 from wmul (by omega) (by omega) (by omega)]
   refine Ev.neg (by omega) ?_
   rw [bestFrom_some c]
   generalize hasI zs d.f1 = hz1 at *
   cases hz1 with
   | true =>
    rw [if_neg (fun hc => by cases hc.1)]
    refine Ev.pos rfl ?_
    cases fr with
    | true =>
     rw [if_neg (fun hc => by cases hc.1)]
     exact Ev.neg (by decide) ihq
    | false =>
     refine Ev.pos rfl ?_
     by_cases e2 : lighter r d q
     ·rw [if_pos ⟨rfl, e2⟩]
      exact Ev.pos e2 (ihd _)
     ·rw [if_neg (fun hc => e2 hc.2)]
      exact Ev.neg e2 ihq
   | false =>
    refine Ev.neg (by decide) ?_
    cases fr with
    | true =>
     rw [if_neg (fun hc => by cases hc.2)]
     refine Ev.pos rfl (Ev.pos rfl ?_)
     by_cases e2 : lighter r d q
     ·rw [if_pos ⟨rfl, e2⟩]
      exact Ev.pos e2 (ihd _)
     ·rw [if_neg (fun hc => e2 hc.2)]
      exact Ev.neg e2 ihq
    | false =>
     rw [if_pos ⟨rfl, rfl⟩]
     exact Ev.neg (by decide) (ihd _)
def bestOf (r : List S29) (prt : List Int) (l : List S76) : Option S76 := if devsOk l = true then bestFrom r prt (zonesOf prt l) none false l else none
theorem best_ev (a : Int) (r : List S29) (prt : List Int) (l : List S76) (hl : l.length ≤ 1048576) (hr1 : r.length ≤ 1048576) (hr2 : lens r ≤ 1099511627776) (hp : prt.length ≤ 1048576) :
  Ev (fun k => spec_Best.f k a r prt l) (idOf (bestOf r prt l)) ∧ Ev (fun k => impl_Best.f k a r prt l) (idOf (bestOf r prt l)) := by
 obtain ⟨z1, z2⟩ := zones_ev prt l hp hl
 have hz : (zonesOf prt l).length ≤ 1048576 := by
  have := zonesFrom_len l prt []
  rw [List.length_nil, Nat.zero_add] at this
  exact Nat.le_trans this hp
 obtain ⟨d1, d2⟩ := devsOk_ev l (by omega)
 simp only [spec_Best.f, impl_Best.f]
 rw [bestOf]
 refine ⟨Ev.bind z1 ?_, Ev.bind d2 ?_⟩
 ·by_cases c : devsOk l = true
  ·rw [if_pos c]
   exact spec_best_l0 l c hl r hr1 hr2 prt _ hp hz a l 0 none false (-1) rfl (Or.inl ⟨rfl, rfl⟩)
  ·rw [if_neg c]
   have stop : Ev (fun k => spec_Best.j1 k l (zonesOf prt l) (-1) false ((0 : Nat) : Int) false a r prt) (-1) := Ev.step (f := fun _ => some (-1)) (fun k => by rw [spec_Best.j1, if_neg (by decide), if_pos (by omega)]) (Ev.now _)
   by_cases c0 : (0 : Int) < (l.length : Int)
   ·refine Ev.step (f := fun k => (spec_DevsOk.f k l).bind fun t1 => spec_Best.j1 k l (zonesOf prt l) (-1) false ((0 : Nat) : Int) t1 a r prt) (fun k => by rw [spec_Best.l0, if_pos (by omega)]; rfl) (Ev.bind d1 ?_)
    rw [Bool.eq_false_iff.mpr c]
    exact stop
   ·exact Ev.step (f := fun k => spec_Best.j1 k l (zonesOf prt l) (-1) false ((0 : Nat) : Int) false a r prt) (fun k => by rw [spec_Best.l0, if_neg (by omega)]; rfl) stop
 ·by_cases c : devsOk l = true
  ·rw [if_pos c]
   exact Ev.pos c (Ev.bind z2 (impl_best_l0 l c hl r hr1 hr2 prt _ hp hz a l 0 none false 0 (-1) 0 0 rfl (Or.inl ⟨rfl, rfl⟩)))
  ·rw [if_neg c]
   exact Ev.neg c (Ev.now _)
def addDevs (l : List S76) (init : List S29) : Nat → List Int → List Int
 | 0, ds => ds
 | n + 1, ds => addDevs l init n (ds ++ [idOf (bestOf (init ++ [⟨ds⟩]) ds l)])
def addParts (l : List S76) (reps : Nat) : Nat → List S29 → List S29
 | 0, ps => ps
 | n + 1, ps => addParts l reps n (ps ++ [⟨addDevs l ps reps []⟩])
theorem addDevs_len (l : List S76) (init : List S29) : ∀ (n : Nat) (ds : List Int), (addDevs l init n ds).length = ds.length + n
 | 0, _ => rfl
 | n + 1, ds => by rw [addDevs, addDevs_len l init n]; simp; omega
theorem addParts_len (l : List S76) (reps : Nat) : ∀ (n : Nat) (ps : List S29), (∀ x ∈ ps, x.f0.length = reps) → (addParts l reps n ps).length = ps.length + n ∧ ∀ x ∈ addParts l reps n ps, x.f0.length = reps
 | 0, ps, h => ⟨rfl, h⟩
 | n + 1, ps, h => by
  rw [addParts]
  obtain ⟨h1, h2⟩ := addParts_len l reps n (ps ++ [⟨addDevs l ps reps []⟩]) (fun x hx => by
   rcases List.mem_append.1 hx with hx | hx
   ·exact h x hx
   ·rw [List.mem_singleton.1 hx]; dsimp only; rw [addDevs_len]; simp)
  exact ⟨by rw [h1]; simp; omega, h2⟩
theorem rdT_last (init : List S29) (x : S29) : rd_T29 (init ++ [x]) (init.length : Int) = x := by
 unfold rd_T29; rw [Int.toNat_natCast, List.getD_eq_getElem?_getD, List.getElem?_append_right (Nat.le_refl _), Nat.sub_self]; rfl
theorem lens_init {init : List S29} {ds : List Int} (hi : init.length ≤ 64) (hx : ∀ x ∈ init, x.f0.length ≤ 5) (hd : ds.length ≤ 5) : (init ++ [(⟨ds⟩ : S29)]).length ≤ 1048576 ∧ lens (init ++ [(⟨ds⟩ : S29)]) ≤ 1099511627776 := by
 have h1 : (init ++ [(⟨ds⟩ : S29)]).length ≤ 65 := by simp; omega
 have h2 := lens_le 5 (init ++ [(⟨ds⟩ : S29)]) (fun x hx' => by
  rcases List.mem_append.1 hx' with hx' | hx'
  ·exact hx x hx'
  ·rw [List.mem_singleton.1 hx']; exact hd)
 exact ⟨by omega, by omega⟩
theorem build_l1 (l : List S76) (hl : l.length ≤ 1048576) (n rr : Int) (reps : Nat) (hreps : reps ≤ 5) (init : List S29) (hi : init.length ≤ 64) (hx : ∀ x ∈ init, x.f0.length ≤ 5) (R : Int × List S29 × Bool) :
  ∀ (m : Nat) (ds : List Int), ds.length + m = reps → Ev (fun k => spec_Build.l0 k l n (reps : Int) (wrap64 ((init.length : Int) + 1)) rr (init ++ [⟨addDevs l init m ds⟩])) R → Ev (fun k => spec_Build.l1 k l n (reps : Int) (init.length : Int) (ds.length : Int) rr (init ++ [⟨ds⟩])) R
 | 0, ds, h, hr => Ev.step (fun k => by rw [spec_Build.l1, if_neg (by omega)]; rfl) hr
 | m + 1, ds, h, hr => by
  have hrd : Hd (rd_T29 (init ++ [(⟨ds⟩ : S29)]) (init.length : Int) = ⟨ds⟩) := ⟨rdT_last init ⟨ds⟩⟩
  have w : Hd (wrap64 ((ds.length : Int) + 1) = ((ds.length + 1 : Nat) : Int)) := ⟨w64s (n := 6) (by omega) (by omega)⟩
  obtain ⟨q1, q2⟩ := lens_init hi hx (show ds.length ≤ 5 by omega)
  have b := (best_ev rr (init ++ [⟨ds⟩]) ds l hl q1 q2 (by omega)).1
  rw [addDevs] at hr
  have ih := build_l1 l hl n rr reps hreps init hi hx R m (ds ++ [idOf (bestOf (init ++ [⟨ds⟩]) ds l)]) (by simp; omega) hr
  have hlen : ((init.length : Nat) : Int) < ((init ++ [(⟨ds⟩ : S29)]).length : Int) := by rw [List.length_append, List.length_singleton]; omega
  refine Ev.step (f := fun k => (spec_Best.f k rr (init ++ [(⟨ds⟩ : S29)]) ds l).bind fun t => if ds.length < 17592186044416 then spec_Build.l1 k l n (reps : Int) (init.length : Int) ((ds.length + 1 : Nat) : Int) rr ((init ++ [(⟨ds⟩ : S29)]).set (init.length : Int).toNat (⟨ds ++ [t]⟩ : S29)) else none) (fun k => by rw [spec_Build.l1, if_pos (by omega), if_pos (by omega), if_pos hlen, hrd.out, w.out]) (Ev.bind b (Ev.pos (by omega) ?_))
  rw [Int.toNat_natCast, set_mid, List.append_nil]
  rw [List.length_append, List.length_singleton] at ih
  exact ih
theorem build_l0 (l : List S76) (hl : l.length ≤ 1048576) (rr : Int) (reps : Nat) (hreps : reps ≤ 5) (n : Nat) (hn : n ≤ 64) : ∀ (m : Nat) (ps : List S29), ps.length + m = n → (∀ x ∈ ps, x.f0.length ≤ 5) →
  Ev (fun k => spec_Build.l0 k l (n : Int) (reps : Int) (ps.length : Int) rr ps) (rr, addParts l reps m ps, true)
 | 0, ps, h, _ => Ev.step (f := fun _ => some (rr, ps, true)) (fun k => by rw [spec_Build.l0, if_neg (by omega)]) (Ev.now _)
 | m + 1, ps, h, hx => by
  have w : wrap64 ((ps.length : Int) + 1) = ((ps.length + 1 : Nat) : Int) := w64s (n := 64) (by omega) (by omega)
  have ih := build_l0 l hl rr reps hreps n hn m (ps ++ [⟨addDevs l ps reps []⟩]) (by simp; omega) (fun x hx' => by
   rcases List.mem_append.1 hx' with hx' | hx'
   ·exact hx x hx'
   ·rw [List.mem_singleton.1 hx']; dsimp only; rw [addDevs_len]; simp; omega)
  rw [List.length_append, List.length_singleton] at ih
  have i1 := build_l1 l hl (n : Int) rr reps hreps ps (by omega) hx (rr, addParts l reps (m + 1) ps, true) reps [] (by simp) (by rw [w]; exact ih)
  clear w
  exact Ev.step (fun k => by rw [spec_Build.l0, if_pos (by omega), if_pos (by omega)]; rfl) i1
theorem ibuild_l1 (l : List S76) (hl : l.length ≤ 1048576) (n rr : Int) (reps : Nat) (hreps : reps ≤ 5) (init : List S29) (hi : init.length ≤ 64) (hx : ∀ x ∈ init, x.f0.length ≤ 5) (R : Int × List S29 × Bool) :
  ∀ (m : Nat) (ds : List Int), ds.length + m = reps → Ev (fun k => impl_Build.l0 k l (reps : Int) n (wrap64 ((init.length : Int) + 1)) rr (init ++ [⟨addDevs l init m ds⟩])) R → Ev (fun k => impl_Build.l1 k l (reps : Int) (init.length : Int) n (init.length : Int) (reps : Int) (ds.length : Int) rr (init ++ [⟨ds⟩])) R
 | 0, ds, h, hr => Ev.step (fun k => by rw [impl_Build.l1, if_neg (by omega)]; rfl) hr
 | m + 1, ds, h, hr => by
  have hrd : Hd (rd_T29 (init ++ [(⟨ds⟩ : S29)]) (init.length : Int) = ⟨ds⟩) := ⟨rdT_last init ⟨ds⟩⟩
  have w : Hd (wrap64 ((ds.length : Int) + 1) = ((ds.length + 1 : Nat) : Int)) := ⟨w64s (n := 6) (by omega) (by omega)⟩
  obtain ⟨q1, q2⟩ := lens_init hi hx (show ds.length ≤ 5 by omega)
  have b := (best_ev rr (init ++ [⟨ds⟩]) ds l hl q1 q2 (by omega)).2
  rw [addDevs] at hr
  have ih := ibuild_l1 l hl n rr reps hreps init hi hx R m (ds ++ [idOf (bestOf (init ++ [⟨ds⟩]) ds l)]) (by simp; omega) hr
  have hlen : ((init.length : Nat) : Int) < ((init ++ [(⟨ds⟩ : S29)]).length : Int) := by rw [List.length_append, List.length_singleton]; omega
  refine Ev.step (f := fun k => (impl_Best.f k rr (init ++ [(⟨ds⟩ : S29)]) ds l).bind fun t => if ds.length < 17592186044416 then impl_Build.l1 k l (reps : Int) (init.length : Int) n (init.length : Int) (reps : Int) ((ds.length + 1 : Nat) : Int) rr ((init ++ [(⟨ds⟩ : S29)]).set (init.length : Int).toNat (⟨ds ++ [t]⟩ : S29)) else none) (fun k => by rw [impl_Build.l1, if_pos (by omega), if_pos (by omega), if_pos hlen, hrd.out, w.out]) (Ev.bind b (Ev.pos (by omega) ?_))
  rw [Int.toNat_natCast, set_mid, List.append_nil]
  rw [List.length_append, List.length_singleton] at ih
  exact ih
theorem ibuild_l0 (l : List S76) (hl : l.length ≤ 1048576) (rr : Int) (reps : Nat) (hreps : reps ≤ 5) (n : Nat) (hn : n ≤ 64) : ∀ (m : Nat) (ps : List S29), ps.length + m = n → (∀ x ∈ ps, x.f0.length ≤ 5) →
  Ev (fun k => impl_Build.l0 k l (reps : Int) (n : Int) (ps.length : Int) rr ps) (rr, addParts l reps m ps, true)
 | 0, ps, h, _ => Ev.step (f := fun _ => some (rr, ps, true)) (fun k => by rw [impl_Build.l0, if_neg (by omega)]) (Ev.now _)
 | m + 1, ps, h, hx => by
  have w : wrap64 ((ps.length : Int) + 1) = ((ps.length + 1 : Nat) : Int) := w64s (n := 64) (by omega) (by omega)
  have ih := ibuild_l0 l hl rr reps hreps n hn m (ps ++ [⟨addDevs l ps reps []⟩]) (by simp; omega) (fun x hx' => by
   rcases List.mem_append.1 hx' with hx' | hx'
   ·exact hx x hx'
   ·rw [List.mem_singleton.1 hx']; dsimp only; rw [addDevs_len]; simp; omega)
  rw [List.length_append, List.length_singleton] at ih
  have i1 := ibuild_l1 l hl (n : Int) rr reps hreps ps (by omega) hx (rr, addParts l reps (m + 1) ps, true) reps [] (by simp) (by rw [w]; exact ih)
  clear w
  exact Ev.step (fun k => by rw [impl_Build.l0, if_pos (by omega), if_pos (by omega)]; rfl) i1
def mayBuild (l : List S76) (n reps : Int) : Bool := devsOk l && decide (1 ≤ n ∧ n ≤ 64) && decide (1 ≤ reps ∧ reps ≤ 5) && decide (reps ≤ l.length)
def buildOf (l : List S76) (n reps : Int) : Int × List S29 × Bool := if mayBuild l n reps = true then (reps, addParts l reps.toNat n.toNat [], true) else (0, [], false)
theorem buildBoth_ev (l : List S76) (hl : l.length ≤ 1048576) (n reps : Int) : Ev (fun k => spec_Build.f k l n reps) (buildOf l n reps) ∧ Ev (fun k => impl_Build.f k l n reps) (buildOf l n reps) := by
 obtain ⟨d1, d2⟩ := devsOk_ev l (by omega)
 have e1 : ∀ b : Bool, b = true → Ev (fun k => spec_Build.j0 k l n reps b) (0, [], false) := fun b hb => Ev.step (f := fun _ => some (0, [], false)) (fun k => by rw [spec_Build.j0, if_pos hb]) (Ev.now _)
 have e2 : ∀ b : Bool, b = true → Ev (fun k => impl_Build.j0 k l n reps b) (0, [], false) := fun b hb => Ev.step (f := fun _ => some (0, [], false)) (fun k => by rw [impl_Build.j0, if_pos hb]) (Ev.now _)
 simp only [spec_Build.f, impl_Build.f, l1In_eq, in_eq, Option.bind_some]
 rw [buildOf, mayBuild]
 by_cases c1 : devsOk l = true
 ·by_cases c2 : 1 ≤ n ∧ n ≤ 64
  ·by_cases c3 : 1 ≤ reps ∧ reps ≤ 5
   ·by_cases c4 : reps ≤ l.length
    ·rw [if_pos (by simp [c1, c2, c3, c4])]
     obtain ⟨n, rfl⟩ := Int.eq_ofNat_of_zero_le (show 0 ≤ n by omega)
     obtain ⟨reps, rfl⟩ := Int.eq_ofNat_of_zero_le (show 0 ≤ reps by omega)
     rw [Int.toNat_natCast, Int.toNat_natCast]
     refine ⟨Ev.bind d1 (Ev.pos c1 (Ev.pos (by simpa using c2) (Ev.pos (by simpa using c3) ?_))), Ev.bind d2 (Ev.pos c1 (Ev.pos (by simpa using c2) (Ev.pos (by simpa using c3) ?_)))⟩
     ·rw [decide_eq_false (show ¬(reps : Int) > (l.length : Int) by omega)]
      exact Ev.step (fun k => by rw [spec_Build.j0, if_neg (by decide)]; rfl) (build_l0 l hl (reps : Int) reps (by omega) n (by omega) n [] (by simp) (by simp))
     ·rw [decide_eq_false (show ¬(l.length : Int) < (reps : Int) by omega)]
      exact Ev.step (fun k => by rw [impl_Build.j0, if_neg (by decide)]; rfl) (ibuild_l0 l hl (reps : Int) reps (by omega) n (by omega) n [] (by simp) (by simp))
    ·rw [if_neg (by simp [c4])]
     refine ⟨Ev.bind d1 (Ev.pos c1 (Ev.pos (by simpa using c2) (Ev.pos (by simpa using c3) ?_))), Ev.bind d2 (Ev.pos c1 (Ev.pos (by simpa using c2) (Ev.pos (by simpa using c3) ?_)))⟩
     ·exact e1 _ (decide_eq_true (by omega))
     ·exact e2 _ (decide_eq_true (by omega))
   ·rw [if_neg (by simp [c3])]
    exact ⟨Ev.bind d1 (Ev.pos c1 (Ev.pos (by simpa using c2) (Ev.neg (by simpa using c3) (e1 _ rfl)))), Ev.bind d2 (Ev.pos c1 (Ev.pos (by simpa using c2) (Ev.neg (by simpa using c3) (e2 _ rfl))))⟩
  ·rw [if_neg (by simp [c2])]
   exact ⟨Ev.bind d1 (Ev.pos c1 (Ev.neg (by simpa using c2) (e1 _ rfl))), Ev.bind d2 (Ev.pos c1 (Ev.neg (by simpa using c2) (e2 _ rfl)))⟩
 ·rw [if_neg (by simp [c1])]
  exact ⟨Ev.bind d1 (Ev.neg c1 (e1 _ rfl)), Ev.bind d2 (Ev.neg c1 (e2 _ rfl))⟩
theorem buildOf_fits (l : List S76) (n reps : Int) : (buildOf l n reps).2.1.length ≤ 64 ∧ ∀ x ∈ (buildOf l n reps).2.1, x.f0.length ≤ 5 := by
 rw [buildOf]
 by_cases c : mayBuild l n reps = true
 ·rw [if_pos c]
  simp only [mayBuild, Bool.and_eq_true, decide_eq_true_eq] at c
  obtain ⟨h1, h2⟩ := addParts_len l reps.toNat n.toNat [] (by simp)
  refine ⟨by rw [h1, List.length_nil]; omega, fun x hx => by have := h2 x hx; omega⟩
 ·rw [if_neg c]
  exact ⟨Nat.zero_le _, fun x hx => by cases hx⟩
theorem szDevS_eq (l : List S99) (n : Int) (hl : l.length ≤ 9223372036854775807) (h0 : 0 ≤ n) (h1 : n ≤ 1048576) : laws_szDevS.f l n = some (if n < l.length then -1 else n - l.length) := by
 unfold laws_szDevS.f
 rw [w64 (by omega) (by omega)]
 by_cases h : n < l.length
 ·rw [if_pos (by omega), if_pos h]
 ·rw [if_neg (by omega), if_neg h]
def toDev (x : S99) : S76 := ⟨x.f0, x.f1, x.f2⟩
theorem rdT_at99 {xs : List S99} {i : Nat} {a : S99} {t : List S99} (h : xs.drop i = a :: t) : rd_T99 xs (i : Int) = a := by
 unfold rd_T99; rw [Int.toNat_natCast]; exact (drop_cons' h _).2.1
theorem toDevS_l0 (xs : List S99) (hN : xs.length ≤ 4611686018427387904) : ∀ (l : List S99) (i : Nat) (A acc : List S76), xs.drop i = l → A.length = i → acc = A ++ List.replicate l.length z76 → Ev (fun k => laws_toDevS.l0 k xs acc (i : Int)) (A ++ l.map toDev)
 | [], i, A, acc, h, hA, ha => by
  have h1 := drop_nil' h
  subst ha
  refine Ev.step (f := fun _ => some (A ++ [])) (fun k => ?_) (Ev.now _)
  rw [laws_toDevS.l0, if_neg (by omega)]
  rfl
 | a :: t, i, A, acc, h, hA, ha => by
  obtain ⟨h1, _, h3⟩ := drop_cons' h z99
  have ih := toDevS_l0 xs hN t (i + 1) (A ++ [toDev a]) _ h3 (by simp [hA]) rfl
  subst ha
  have e : (A ++ List.replicate (a :: t).length z76).set ((i : Int)).toNat (toDev a) = (A ++ [toDev a]) ++ List.replicate t.length z76 := by
   rw [Int.toNat_natCast, ← hA]; exact set_copy A _ (toDev a) t.length
  refine Ev.step (f := fun k => laws_toDevS.l0 k xs ((A ++ [toDev a]) ++ List.replicate t.length z76) ((i + 1 : Nat) : Int)) (fun k => ?_) (Ev.eq ih (by simp))
  rw [laws_toDevS.l0, if_pos (by omega), if_pos (by omega), rdT_at99 h, laws_toDev.f, Option.bind_some, if_pos (by simp only [List.length_append, List.length_replicate, List.length_cons]; omega), w64s h1 hN, ← e]
  rfl
theorem toDevS_ev (xs : List S99) (hN : xs.length ≤ 1048576) : Ev (fun k => laws_toDevS.f k xs) (xs.map toDev) := by
 refine Ev.congr (f := fun k => laws_toDevS.l0 k xs (List.replicate xs.length z76) ((0 : Nat) : Int)) (fun k => ?_) (toDevS_l0 xs (by omega) xs 0 [] _ rfl rfl rfl)
 rw [laws_toDevS.f, if_pos (by omega), if_pos (by omega), Int.toNat_natCast]; rfl
theorem eqDevS_l0 (xs : List S76) (hN : xs.length ≤ 4611686018427387904) : ∀ (l : List S76) (i : Nat), xs.drop i = l → Ev (fun k => laws_eqDevS.l0 k xs xs (i : Int)) true
 | [], i, h => by
  have h1 := drop_nil' h
  refine Ev.step (f := fun _ => some true) (fun k => ?_) (Ev.now _)
  rw [laws_eqDevS.l0, if_neg (by omega)]
 | a :: t, i, h => by
  obtain ⟨h1, _, h3⟩ := drop_cons' h z76
  refine Ev.step (f := fun k => laws_eqDevS.l0 k xs xs ((i + 1 : Nat) : Int)) (fun k => ?_) (eqDevS_l0 xs hN t (i + 1) h3)
  rw [laws_eqDevS.l0, if_pos (by omega), if_pos (by omega), if_pos (by omega), laws_eqDev.f, if_pos rfl, if_pos rfl, if_pos rfl, Option.bind_some, if_pos rfl, w64s h1 hN]
theorem eqDevS_ev (xs : List S76) (hN : xs.length ≤ 4611686018427387904) : Ev (fun k => laws_eqDevS.f k xs xs) true := by
 refine Ev.congr (f := fun k => laws_eqDevS.l0 k xs xs ((0 : Nat) : Int)) (fun k => ?_) (eqDevS_l0 xs hN xs 0 rfl)
 rw [laws_eqDevS.f, if_pos rfl]; rfl
theorem eqIntS_l0 (xs : List Int) (hN : xs.length ≤ 4611686018427387904) : ∀ (l : List Int) (i : Nat), xs.drop i = l → Ev (fun k => laws_eqIntS.l0 k xs xs (i : Int)) true
 | [], i, h => by
  have h1 := drop_nil' h
  refine Ev.step (f := fun _ => some true) (fun k => ?_) (Ev.now _)
  rw [laws_eqIntS.l0, if_neg (by omega)]
 | a :: t, i, h => by
  obtain ⟨h1, _, h3⟩ := drop_cons' h 0
  refine Ev.step (f := fun k => laws_eqIntS.l0 k xs xs ((i + 1 : Nat) : Int)) (fun k => ?_) (eqIntS_l0 xs hN t (i + 1) h3)
  rw [laws_eqIntS.l0, if_pos (by omega), if_pos (by omega), if_pos (by omega), if_pos rfl, w64s h1 hN]
theorem eqIntS_ev (xs : List Int) (hN : xs.length ≤ 4611686018427387904) : Ev (fun k => laws_eqIntS.f k xs xs) true := by
 refine Ev.congr (f := fun k => laws_eqIntS.l0 k xs xs ((0 : Nat) : Int)) (fun k => ?_) (eqIntS_l0 xs hN xs 0 rfl)
 rw [laws_eqIntS.f, if_pos rfl]; rfl
theorem eqPart_ev (xs : List Int) (hN : xs.length ≤ 4611686018427387904) : Ev (fun k => laws_eqPart.f k xs xs) true := by
 simp only [laws_eqPart.f]
 refine Ev.bind (eqIntS_ev xs hN) ?_
 exact Ev.pos rfl (Ev.now _)
theorem eqPartS_l0 (xs : List S29) (hN : xs.length ≤ 4611686018427387904) (hx : ∀ x ∈ xs, x.f0.length ≤ 4611686018427387904) : ∀ (l : List S29) (i : Nat), xs.drop i = l → Ev (fun k => laws_eqPartS.l0 k xs xs (i : Int)) true
 | [], i, h => by
  have h1 := drop_nil' h
  refine Ev.step (f := fun _ => some true) (fun k => ?_) (Ev.now _)
  rw [laws_eqPartS.l0, if_neg (by omega)]
 | a :: t, i, h => by
  obtain ⟨h1, _, h3⟩ := drop_cons' h z29
  have hal : a.f0.length ≤ 4611686018427387904 := hx a (List.mem_of_mem_drop (by rw [h]; exact List.mem_cons_self))
  refine Ev.step (f := fun k => (laws_eqPart.f k a.f0 a.f0).bind fun t1 => if t1 = true then laws_eqPartS.l0 k xs xs ((i + 1 : Nat) : Int) else some false) (fun k => ?_) ?_
  ·rw [laws_eqPartS.l0, if_pos (by omega), if_pos (by omega), if_pos (by omega), rdT_at29 h, w64s h1 hN]
  ·refine Ev.bind (eqPart_ev a.f0 hal) ?_
   exact Ev.pos rfl (eqPartS_l0 xs hN hx t (i + 1) h3)
theorem eqRing_ev (a : Int) (xs : List S29) (hN : xs.length ≤ 4611686018427387904) (hx : ∀ x ∈ xs, x.f0.length ≤ 4611686018427387904) : Ev (fun k => laws_eqRing.f k a xs a xs) true := by
 simp only [laws_eqRing.f, laws_eqPartS.f, if_true]
 refine Ev.bind (a := true) (eqPartS_l0 xs hN hx xs 0 rfl) ?_
 exact Ev.pos rfl (Ev.now _)
def mkI : List Int → Int → List Int
 | [], _ => []
 | _ :: t, c => c :: mkI t (c + 1)
theorem markIntS_l0 : ∀ (l : List Int) (i : Nat) (A xs : List Int) (c : Int), xs = A ++ l → A.length = i → 0 ≤ c → c + l.length ≤ 4611686018427387904 → i + l.length ≤ 4611686018427387904 → Ev (fun k => laws_markIntS.l0 k xs c (i : Int)) (c + l.length, A ++ mkI l c)
 | [], i, A, xs, c, h, hA, h0, h1, h2 => by
  subst h
  refine Ev.step (f := fun _ => some (c + ([] : List Int).length, A ++ mkI [] c)) (fun k => ?_) (Ev.now _)
  rw [laws_markIntS.l0, if_neg (by simp; omega)]
  simp [mkI]
 | a :: t, i, A, xs, c, h, hA, h0, h1, h2 => by
  simp only [List.length_cons] at h1 h2
  have ih := markIntS_l0 t (i + 1) (A ++ [c]) _ (c + 1) rfl (by simp [hA]) (by omega) (by omega) (by omega)
  subst h
  have e : (A ++ a :: t).set ((i : Int)).toNat c = (A ++ [c]) ++ t := by
   rw [Int.toNat_natCast, ← hA]; exact set_mid A a _ t
  refine Ev.step (f := fun k => laws_markIntS.l0 k ((A ++ [c]) ++ t) (c + 1) ((i + 1 : Nat) : Int)) (fun k => ?_) (Ev.eq ih (by simp [mkI]; omega))
  rw [laws_markIntS.l0, if_pos (by simp; omega), if_pos (by omega), e, w64 (by omega) (by omega), w64s (n := i + 1) (by omega) (by omega)]
theorem markIntS_ev (xs : List Int) (c : Int) (h0 : 0 ≤ c) (h1 : c + xs.length ≤ 4611686018427387904) : Ev (fun k => laws_markIntS.f k xs c) (c + xs.length, mkI xs c) := by
 refine Ev.congr (f := fun k => laws_markIntS.l0 k xs c ((0 : Nat) : Int)) (fun k => rfl) (markIntS_l0 xs 0 [] xs c rfl rfl h0 h1 (by omega))
def mkP : List S29 → Int → List S29
 | [], _ => []
 | p :: t, c => ⟨mkI p.f0 c⟩ :: mkP t (c + p.f0.length)
theorem rdT_mid29 (A : List S29) (x : S29) (t : List S29) : rd_T29 (A ++ x :: t) (A.length : Int) = x := by
 unfold rd_T29; rw [Int.toNat_natCast, List.getD_eq_getElem?_getD, List.getElem?_append_right (Nat.le_refl _), Nat.sub_self]; rfl
theorem markPartS_l0 : ∀ (l : List S29) (i : Nat) (A xs : List S29) (c : Int), xs = A ++ l → A.length = i → 0 ≤ c → c + lens l ≤ 4611686018427387904 → i + l.length ≤ 4611686018427387904 → Ev (fun k => laws_markPartS.l0 k xs c (i : Int)) (c + lens l, A ++ mkP l c)
 | [], i, A, xs, c, h, hA, h0, h1, h2 => by
  subst h
  refine Ev.step (f := fun _ => some (c + (lens [] : Nat), A ++ mkP [] c)) (fun k => ?_) (Ev.now _)
  rw [laws_markPartS.l0, if_neg (by simp; omega)]
  simp [mkP, lens]
 | a :: t, i, A, xs, c, h, hA, h0, h1, h2 => by
  simp only [List.length_cons, lens] at h1 h2
  have ih := markPartS_l0 t (i + 1) (A ++ [⟨mkI a.f0 c⟩]) _ (c + a.f0.length) rfl (by simp [hA]) (by omega) (by omega) (by omega)
  subst h
  have e : (A ++ a :: t).set ((i : Int)).toNat (⟨mkI a.f0 c⟩ : S29) = (A ++ [⟨mkI a.f0 c⟩]) ++ t := by
   rw [Int.toNat_natCast, ← hA]; exact set_mid A a _ t
  have hr : rd_T29 (A ++ a :: t) (i : Int) = a := by rw [← hA]; exact rdT_mid29 _ _ _
  refine Ev.step (f := fun k => (laws_markIntS.f k a.f0 c).bind fun q => laws_markPartS.l0 k ((A ++ a :: t).set ((i : Int)).toNat (⟨q.2⟩ : S29)) q.1 ((i + 1 : Nat) : Int)) (fun k => ?_) ?_
  ·rw [laws_markPartS.l0, if_pos (by simp; omega), if_pos (by omega), hr, w64s (n := i + 1) (by omega) (by omega)]
  ·refine Ev.bind (markIntS_ev a.f0 c h0 (by omega)) ?_
   simp only [e]
   exact Ev.eq ih (by simp [mkP, lens]; omega)
theorem markRing_ev (a : Int) (xs : List S29) (c : Int) (h0 : 0 ≤ c) (h1 : c + lens xs ≤ 4611686018427387904) (h2 : xs.length ≤ 4611686018427387904) : Ev (fun k => laws_markRing.f k a xs c) (c + lens xs, mkP xs c) := by
 refine Ev.congr (f := fun k => laws_markPartS.l0 k xs c ((0 : Nat) : Int)) (fun k => rfl) (markPartS_l0 xs 0 [] xs c rfl rfl h0 h1 (by omega))
theorem heldIntS_l0 : ∀ (l : List Int) (i : Nat) (A xs : List Int) (c : Int), xs = A ++ mkI l c → A.length = i → 0 ≤ c → c + l.length ≤ 4611686018427387904 → i + l.length ≤ 4611686018427387904 → Ev (fun k => laws_heldIntS.l0 k xs c (i : Int)) (c + l.length)
 | [], i, A, xs, c, h, hA, h0, h1, h2 => by
  subst h
  refine Ev.step (f := fun _ => some (c + ([] : List Int).length)) (fun k => ?_) (Ev.now _)
  rw [laws_heldIntS.l0, if_neg (by simp [mkI]; omega)]
  simp
 | a :: t, i, A, xs, c, h, hA, h0, h1, h2 => by
  simp only [List.length_cons] at h1 h2
  have ih := heldIntS_l0 t (i + 1) (A ++ [c]) _ (c + 1) rfl (by simp [hA]) (by omega) (by omega) (by omega)
  rw [mkI] at h
  have e : A ++ c :: mkI t (c + 1) = (A ++ [c]) ++ mkI t (c + 1) := by simp
  have hr : rd (A ++ c :: mkI t (c + 1)) (i : Int) = c := by rw [← hA]; exact rd_mid _ _ _
  refine Ev.step (f := fun k => laws_heldIntS.l0 k ((A ++ [c]) ++ mkI t (c + 1)) (c + 1) ((i + 1 : Nat) : Int)) (fun k => ?_) (Ev.eq ih (by simp; omega))
  subst h
  rw [laws_heldIntS.l0, if_pos (by simp; omega), if_pos (by omega), if_pos hr, w64 (by omega) (by omega), w64s (n := i + 1) (by omega) (by omega), e]
theorem heldIntS_ev (xs : List Int) (c : Int) (h0 : 0 ≤ c) (h1 : c + xs.length ≤ 4611686018427387904) : Ev (fun k => laws_heldIntS.f k (mkI xs c) c) (c + xs.length) := by
 refine Ev.congr (f := fun k => laws_heldIntS.l0 k (mkI xs c) c ((0 : Nat) : Int)) (fun k => rfl) (heldIntS_l0 xs 0 [] _ c rfl rfl h0 h1 (by omega))
theorem heldPartS_l0 : ∀ (l : List S29) (i : Nat) (A xs : List S29) (c : Int), xs = A ++ mkP l c → A.length = i → 0 ≤ c → c + lens l ≤ 4611686018427387904 → i + l.length ≤ 4611686018427387904 → Ev (fun k => laws_heldPartS.l0 k xs c (i : Int)) (c + lens l)
 | [], i, A, xs, c, h, hA, h0, h1, h2 => by
  subst h
  refine Ev.step (f := fun _ => some (c + (lens [] : Nat))) (fun k => ?_) (Ev.now _)
  rw [laws_heldPartS.l0, if_neg (by simp [mkP]; omega)]
  simp [lens]
 | a :: t, i, A, xs, c, h, hA, h0, h1, h2 => by
  simp only [List.length_cons, lens] at h1 h2
  have ih := heldPartS_l0 t (i + 1) (A ++ [⟨mkI a.f0 c⟩]) _ (c + a.f0.length) rfl (by simp [hA]) (by omega) (by omega) (by omega)
  rw [mkP] at h
  have e : A ++ ⟨mkI a.f0 c⟩ :: mkP t (c + a.f0.length) = (A ++ [⟨mkI a.f0 c⟩]) ++ mkP t (c + a.f0.length) := by simp
  have hr : rd_T29 (A ++ ⟨mkI a.f0 c⟩ :: mkP t (c + a.f0.length)) (i : Int) = ⟨mkI a.f0 c⟩ := by rw [← hA]; exact rdT_mid29 _ _ _
  refine Ev.step (f := fun k => (laws_heldIntS.f k (mkI a.f0 c) c).bind fun q => if q < 0 then some (-1) else laws_heldPartS.l0 k ((A ++ [⟨mkI a.f0 c⟩]) ++ mkP t (c + a.f0.length)) q ((i + 1 : Nat) : Int)) (fun k => ?_) ?_
  ·subst h
   rw [laws_heldPartS.l0, if_pos (by simp; omega), if_pos (by omega), hr, w64s (n := i + 1) (by omega) (by omega), e]
  ·refine Ev.bind (heldIntS_ev a.f0 c h0 (by omega)) ?_
   exact Ev.neg (by omega) (Ev.eq ih (by simp [lens]; omega))
theorem heldRing_ev (a : Int) (xs : List S29) (c : Int) (h0 : 0 ≤ c) (h1 : c + lens xs ≤ 4611686018427387904) (h2 : xs.length ≤ 4611686018427387904) : Ev (fun k => laws_heldRing.f k a (mkP xs c) c) (c + lens xs) := by
 simp only [laws_heldRing.f]
 refine Ev.bind (a := c + lens xs) (Ev.congr (f := fun k => laws_heldPartS.l0 k (mkP xs c) c ((0 : Nat) : Int)) (fun k => rfl) (heldPartS_l0 xs 0 [] _ c rfl rfl h0 h1 (by omega))) ?_
 exact Ev.neg (by omega) (Ev.now _)
def mkD : List S76 → Int → List S76
 | [], _ => []
 | _ :: t, c => ⟨c, c + 1, c + 2⟩ :: mkD t (c + 3)
theorem rdT_mid76 (A : List S76) (x : S76) (t : List S76) : rd_T76 (A ++ x :: t) (A.length : Int) = x := by
 unfold rd_T76; rw [Int.toNat_natCast, List.getD_eq_getElem?_getD, List.getElem?_append_right (Nat.le_refl _), Nat.sub_self]; rfl
theorem set_here {α : Type} (A : List α) (x v : α) (t : List α) : (A ++ x :: t).set ((A.length : Int)).toNat v = A ++ v :: t := by
 rw [Int.toNat_natCast, List.set_append_right _ _ (Nat.le_refl _), Nat.sub_self, List.set_cons_zero]
theorem markDevS_l0 : ∀ (l : List S76) (i : Nat) (A xs : List S76) (c : Int), xs = A ++ l → A.length = i → 0 ≤ c → c + 3 * l.length ≤ 4611686018427387904 → i + l.length ≤ 4611686018427387904 → Ev (fun k => laws_markDevS.l0 k xs c (i : Int)) (c + 3 * l.length, A ++ mkD l c)
 | [], i, A, xs, c, h, hA, h0, h1, h2 => by
  subst h
  refine Ev.step (f := fun _ => some (c + 3 * ([] : List S76).length, A ++ mkD [] c)) (fun k => ?_) (Ev.now _)
  rw [laws_markDevS.l0, if_neg (by simp; omega)]
  simp [mkD]
 | a :: t, i, A, xs, c, h, hA, h0, h1, h2 => by
  simp only [List.length_cons] at h1 h2
  have ih := markDevS_l0 t (i + 1) (A ++ [⟨c, c + 1, c + 2⟩]) _ (c + 3) rfl (by simp [hA]) (by omega) (by omega) (by omega)
  subst h
  subst hA
  have w1 : wrap64 (c + 1) = c + 1 := w64 (by omega) (by omega)
  have w2 : wrap64 (c + 1 + 1) = c + 2 := by rw [w64 (by omega) (by omega)]; omega
  have w3 : wrap64 (c + 2 + 1) = c + 3 := by rw [w64 (by omega) (by omega)]; omega
  refine Ev.step (f := fun k => laws_markDevS.l0 k ((A ++ [⟨c, c + 1, c + 2⟩]) ++ t) (c + 3) ((A.length + 1 : Nat) : Int)) (fun k => ?_) (Ev.eq ih (by simp [mkD]; omega))
  have wi : wrap64 ((A.length : Int) + 1) = ((A.length + 1 : Nat) : Int) := w64s (n := A.length + 1) (by omega) (by omega)
  rw [laws_markDevS.l0, if_pos (by simp; omega), if_pos (by omega), rdT_mid76, set_here, Option.bind_some, rdT_mid76, set_here, Option.bind_some, rdT_mid76, set_here, w1, w2, w3, wi]
  simp
theorem markDevS_ev (xs : List S76) (c : Int) (h0 : 0 ≤ c) (h1 : c + 3 * xs.length ≤ 4611686018427387904) : Ev (fun k => laws_markDevS.f k xs c) (c + 3 * xs.length, mkD xs c) := by
 refine Ev.congr (f := fun k => laws_markDevS.l0 k xs c ((0 : Nat) : Int)) (fun k => rfl) (markDevS_l0 xs 0 [] xs c rfl rfl h0 h1 (by omega))
end Go.Proofs.Ytbhllgifciaepaa.PureFnExactBuild
namespace Go.Proofs.Ytbhllgifciaepaa.Pure
open Go.RowKit Go.Proofs.Ytbhllgifciaepaa.PFnExactBuild Go.Proofs.YtbhllgifciaepaaW.PrintWords Go.Proofs.YtbhllgifciaepaaW.PrintLast Go.Proofs.YtbhllgifciaepaaW.PrintMore Go.Proofs.Ytbhllgifciaepaa.Base Go.Proofs.Ytbhllgifciaepaa.PureFnExactBuild
set_option linter.unusedVariables false
attribute [local irreducible] Go.bits IntKind.wrap shl shr
theorem FnExactBuild (m : List S99) (n reps : Int) (hm : m.length ≤ 9223372036854775807 ∧ ∀ x ∈ m, I64 x.f0 ∧ I64 x.f1 ∧ I64 x.f2) (_ : I64 n) (_ : I64 reps) : ∃ k, laws_FnExactBuild.f k m n reps = some true := by
 apply Ev.rounds (g := fun k => laws_FnExactBuild.f k m n reps)
 simp only [laws_FnExactBuild.f]
 refine Ev.got (szDevS_eq m 1048576 hm.1 (by omega) (by omega)) ?_
 by_cases c2 : (1048576 : Int) < m.length
 ·exact Ev.pos (by rw [if_pos c2]; omega) (Ev.now _)
 refine Ev.neg (by rw [if_neg c2]; omega) ?_
 have hm1 : (m.map toDev).length ≤ 1048576 := by rw [List.length_map]; omega
 obtain ⟨q1, q2⟩ := buildBoth_ev (m.map toDev) hm1 n reps
 obtain ⟨b1, b2⟩ := buildOf_fits (m.map toDev) n reps
 have t2 := toDevS_ev m (by omega)
 have e3 := eqDevS_ev (m.map toDev) (by omega)
 have hlen := lens_le 5 _ b2
 generalize buildOf (m.map toDev) n reps = q at *
 obtain ⟨qa, qb, qc⟩ := q
 dsimp only at b1 b2 hlen
 have e1 := eqRing_ev qa qb (by omega) (fun x hx => Nat.le_trans (b2 x hx) (by omega))
 refine Ev.bind t2 (Ev.bind q1 (Ev.bind t2 (Ev.bind q2 (Ev.bind e1 (Ev.pos rfl (Ev.neg (by simp) (Ev.bind t2 (Ev.bind e3 (Ev.pos rfl ?_)))))))))
 refine Ev.bind (markDevS_ev (m.map toDev) 1 (by omega) (by omega)) ?_
 refine Ev.neg (by simp only; omega) (Ev.bind e1 (Ev.pos rfl ?_))
 refine Ev.bind (markRing_ev qa qb 1 (by omega) (by omega) (by omega)) ?_
 refine Ev.bind (heldRing_ev qa qb 1 (by omega) (by omega) (by omega)) ?_
 refine Ev.neg (by omega) (Ev.pos rfl (Ev.bind t2 (Ev.bind q2 (Ev.bind e1 (Ev.pos rfl (Ev.neg (by simp) ?_))))))
 refine Ev.bind (heldRing_ev qa qb 1 (by omega) (by omega) (by omega)) ?_
 exact Ev.neg (by omega) (Ev.pos rfl (Ev.now _))
end Go.Proofs.Ytbhllgifciaepaa.Pure
