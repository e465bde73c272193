/- Trimmed by a program of this session (trim.py). Not trusted: Lean checks it. -/
import Derived.Test.YtpbjbfimnfghkaaTLRebalancedPFnRebalancedx20
import Derived.Test.YtpbjbfimnfghkaaTLRebalancedBase
namespace Go.Proofs.Ytpbjbfimnfghkaa.PureFnRebalanced
open Go.RowKit Go.Proofs.Ytpbjbfimnfghkaa.PFnRebalanced Go.Proofs.YtpbjbfimnfghkaaW.PrintWords Go.Proofs.YtpbjbfimnfghkaaW.PrintLast Go.Proofs.YtpbjbfimnfghkaaW.PrintMore Go.Proofs.Ytpbjbfimnfghkaa.Base
set_option linter.unusedVariables false
attribute [local irreducible] Go.bits IntKind.wrap shl shr
theorem rdT_at35 {xs : List S35} {i : Nat} {a : S35} {t : List S35} (h : xs.drop i = a :: t) : rd_T35 xs (i : Int) = a := by
 unfold rd_T35; rw [Int.toNat_natCast]; exact (drop_cons' h _).2.1
theorem copyInts_eq (xs : List Int) (h : xs.length ≤ 10000000000) : impl_copyInts.f xs = some xs := by
 rw [impl_copyInts.f, if_pos (by simp; omega), List.nil_append]
theorem implCopy_l0 (a : Int) (ps : List S35) (hN : ps.length ≤ 1048576) (hx : ∀ x ∈ ps, x.f0.length ≤ 1048576) : ∀ (t : List S35) (i : Nat) (acc : List S35), ps.drop i = t → acc.length = i → acc ++ t = ps → Ev (fun k => impl_copyRing.l0 k ps (ps.length : Int) (i : Int) a acc) (a, ps)
 | [], i, acc, h, hi, he => by
  have h1 := drop_nil' h
  rw [List.append_nil] at he
  subst he
  refine Ev.step (f := fun _ => some (a, acc)) (fun k => ?_) (Ev.now _)
  rw [impl_copyRing.l0, if_neg (by omega)]
 | p :: t, i, acc, h, hi, he => by
  obtain ⟨h1, _, h3⟩ := drop_cons' h z35
  have hrd : Hd (rd_T35 ps (i : Int) = p) := ⟨rdT_at35 h⟩
  have w : Hd (wrap64 ((i : Int) + 1) = ((i + 1 : Nat) : Int)) := ⟨w64s h1 (by omega)⟩
  have ih := implCopy_l0 a ps hN hx t (i + 1) (acc ++ [p]) h3 (by simp [hi]) (by simp [he])
  have hp := hx p (List.mem_of_mem_drop (by rw [h]; exact List.mem_cons_self))
  refine Ev.step (fun k => by rw [impl_copyRing.l0, if_pos (by omega), if_pos (by omega), if_pos (by omega), hrd.out, w.out]) ?_
  exact Ev.got (copyInts_eq p.f0 (by omega)) (Ev.pos (by omega) ih)
theorem specCopy_l0 (a : Int) (ps : List S35) (hN : ps.length ≤ 1048576) (hx : ∀ x ∈ ps, x.f0.length ≤ 1048576) : ∀ (t : List S35) (i : Nat) (acc : List S35), ps.drop i = t → acc.length = i → acc ++ t = ps → Ev (fun k => spec_l5Copy.l0 k (i : Int) a ps a acc) (a, ps)
 | [], i, acc, h, hi, he => by
  have h1 := drop_nil' h
  rw [List.append_nil] at he
  subst he
  refine Ev.step (f := fun _ => some (a, acc)) (fun k => ?_) (Ev.now _)
  rw [spec_l5Copy.l0, if_neg (by omega)]
 | p :: t, i, acc, h, hi, he => by
  obtain ⟨h1, _, h3⟩ := drop_cons' h z35
  have hrd : Hd (rd_T35 ps (i : Int) = p) := ⟨rdT_at35 h⟩
  have w : Hd (wrap64 ((i : Int) + 1) = ((i + 1 : Nat) : Int)) := ⟨w64s h1 (by omega)⟩
  have ih := specCopy_l0 a ps hN hx t (i + 1) (acc ++ [p]) h3 (by simp [hi]) (by simp [he])
  have hp := hx p (List.mem_of_mem_drop (by rw [h]; exact List.mem_cons_self))
  refine Ev.step (fun k => by rw [spec_l5Copy.l0, if_pos (by omega), hrd.out, w.out]) ?_
  exact Ev.some_bind (Ev.pos (by omega) (Ev.pos (by simp; omega) (Ev.pos (by omega) ih)))
theorem copyRing_ev (a : Int) (ps : List S35) (hN : ps.length ≤ 1048576) (hx : ∀ x ∈ ps, x.f0.length ≤ 1048576) : Ev (fun k => impl_copyRing.f k a ps) (a, ps) ∧ Ev (fun k => spec_l5Copy.f k a ps) (a, ps) :=
 ⟨implCopy_l0 a ps hN hx ps 0 [] rfl rfl rfl, specCopy_l0 a ps hN hx ps 0 [] rfl rfl rfl⟩
theorem l1In_eq (x a b : Int) : spec_l1In.f x a b = some (decide (a ≤ x ∧ x ≤ b)) := by
 unfold spec_l1In.f
 by_cases h : x ≥ a
 ·rw [if_pos h]; simp [show a ≤ x from h]
 ·rw [if_neg h]; simp [show ¬ a ≤ x from h]
theorem in_eq (x a b : Int) : impl_in.f x a b = some (decide (a ≤ x ∧ x ≤ b)) := by
 unfold impl_in.f
 by_cases h : x ≥ a
 ·rw [if_pos h]; simp [show a ≤ x from h]
 ·rw [if_neg h]; simp [show ¬ a ≤ x from h]
theorem rdT_at61 {xs : List S61} {i : Nat} {a : S61} {t : List S61} (h : xs.drop i = a :: t) : rd_T61 xs (i : Int) = a := by
 unfold rd_T61; rw [Int.toNat_natCast]; exact (drop_cons' h _).2.1
def devsFrom (len : Nat) : Option S61 → List S61 → Bool
 | _, [] => decide (1 ≤ (len : Int) ∧ (len : Int) ≤ 12)
 | pr, d :: t => if (0 ≤ d.f0 ∧ d.f0 ≤ 20) ∧ (0 ≤ d.f1 ∧ d.f1 ≤ 20) ∧ (1 ≤ d.f2 ∧ d.f2 ≤ 1000) ∧ (∀ q, pr = some q → q.f0 < d.f0) then devsFrom len (some d) t else false
def devsOk (l : List S61) : Bool := devsFrom l.length none l
theorem devsOk_l0 (xs : List S61) (hN : xs.length ≤ 4611686018427387904) : ∀ (l : List S61) (i : Nat) (pr : Option S61), xs.drop i = l → (∀ q, pr = some q ↔ ∃ j, i = j + 1 ∧ xs[j]? = some q) →
  Ev (fun k => spec_DevsOk.l0 k xs (i : Int)) (devsFrom xs.length pr l) ∧ Ev (fun k => impl_DevsOk.l0 k xs xs (xs.length : Int) (i : Int)) (devsFrom xs.length pr l)
 | [], i, pr, h, hp => by
  have h1 := drop_nil' h
  refine ⟨Ev.step (f := fun _ => some (devsFrom xs.length pr [])) (fun k => ?_) (Ev.now _), Ev.step (f := fun _ => some (devsFrom xs.length pr [])) (fun k => ?_) (Ev.now _)⟩
  ·rw [spec_DevsOk.l0, if_neg (by omega), l1In_eq]; rfl
  ·rw [impl_DevsOk.l0, if_neg (by omega), in_eq]; rfl
 | d :: t, i, pr, h, hp => by
  obtain ⟨h1, hd, h3⟩ := drop_cons' h z61
  have hdi : xs[i]? = some d := by
   rw [List.getElem?_eq_getElem h1]; rw [List.getD_eq_getElem?_getD, List.getElem?_eq_getElem h1] at hd; exact congrArg some hd
  have hr : Hd (rd_T61 xs (i : Int) = d) := ⟨rdT_at61 h⟩
  have w : Hd (wrap64 ((i : Int) + 1) = ((i + 1 : Nat) : Int)) := ⟨w64s h1 hN⟩
  obtain ⟨i1, i2⟩ := devsOk_l0 xs hN t (i + 1) (some d) h3 (fun q => ⟨fun e => ⟨i, rfl, by rw [← e]; exact hdi⟩, fun ⟨j, e1, e2⟩ => by
   have : j = i := by omega
   subst this
   rw [hdi] at e2; exact e2⟩)
  rw [devsFrom]
  by_cases c0 : 0 ≤ d.f0 ∧ d.f0 ≤ 20
  ·by_cases c1 : 0 ≤ d.f1 ∧ d.f1 ≤ 20
   ·by_cases c2 : 1 ≤ d.f2 ∧ d.f2 ≤ 1000
    ·rcases Nat.eq_zero_or_pos i with hi | hi
     ·have hn : pr = none := by
       cases pr with
       | none => rfl
       | some q => obtain ⟨j, e1, _⟩ := (hp q).1 rfl; omega
      rw [if_pos ⟨c0, c1, c2, fun q e => by rw [hn] at e; cases e⟩]
      refine ⟨Ev.step (fun k => ?_) i1, Ev.step (fun k => ?_) i2⟩
      ·rw [spec_DevsOk.l0, if_pos (by omega), if_pos (by omega), hr.out, l1In_eq, Option.bind_some, decide_eq_true c0, if_pos rfl, l1In_eq, Option.bind_some, decide_eq_true c1, if_pos rfl, l1In_eq, Option.bind_some, decide_eq_true c2, if_pos rfl, if_neg (by omega), w.out]
      ·rw [impl_DevsOk.l0, if_pos (by omega), if_pos (by omega), if_pos (by omega), hr.out, in_eq, Option.bind_some, decide_eq_true c0, if_pos rfl, in_eq, Option.bind_some, decide_eq_true c1, if_pos rfl, in_eq, Option.bind_some, decide_eq_true c2, if_pos rfl, if_neg (by omega), w.out]
     ·obtain ⟨j, rfl⟩ : ∃ j, i = j + 1 := ⟨i - 1, by omega⟩
      have hj : j < xs.length := by omega
      have hq : pr = some xs[j] := (hp xs[j]).2 ⟨j, rfl, List.getElem?_eq_getElem hj⟩
      have wm : Hd (wrap64 (((j + 1 : Nat) : Int) - 1) = (j : Int)) := ⟨by rw [w64 (by omega) (by omega)]; omega⟩
      have hrj : Hd (rd_T61 xs (j : Int) = xs[j]) := ⟨by
       unfold rd_T61; rw [Int.toNat_natCast, List.getD_eq_getElem?_getD, List.getElem?_eq_getElem hj]; rfl⟩
      by_cases c3 : xs[j].f0 < d.f0
      ·rw [if_pos ⟨c0, c1, c2, fun q e => by rw [hq] at e; injection e with e; rw [← e]; exact c3⟩]
       refine ⟨Ev.step (fun k => ?_) i1, Ev.step (fun k => ?_) i2⟩
       ·rw [spec_DevsOk.l0, if_pos (by omega), if_pos (by omega), hr.out, l1In_eq, Option.bind_some, decide_eq_true c0, if_pos rfl, l1In_eq, Option.bind_some, decide_eq_true c1, if_pos rfl, l1In_eq, Option.bind_some, decide_eq_true c2, if_pos rfl, if_pos (by omega), wm.out, if_pos (by omega), if_pos (by omega), hrj.out, if_neg (by omega), w.out]
       ·rw [impl_DevsOk.l0, if_pos (by omega), if_pos (by omega), if_pos (by omega), hr.out, in_eq, Option.bind_some, decide_eq_true c0, if_pos rfl, in_eq, Option.bind_some, decide_eq_true c1, if_pos rfl, in_eq, Option.bind_some, decide_eq_true c2, if_pos rfl, if_pos (by omega), wm.out, if_pos (by omega), if_pos (by omega), hrj.out, if_neg (by omega), w.out]
      ·rw [if_neg (fun hc => c3 (hc.2.2.2 _ hq))]
       refine ⟨Ev.step (f := fun _ => some false) (fun k => ?_) (Ev.now _), Ev.step (f := fun _ => some false) (fun k => ?_) (Ev.now _)⟩
       ·rw [spec_DevsOk.l0, if_pos (by omega), if_pos (by omega), hr.out, l1In_eq, Option.bind_some, decide_eq_true c0, if_pos rfl, l1In_eq, Option.bind_some, decide_eq_true c1, if_pos rfl, l1In_eq, Option.bind_some, decide_eq_true c2, if_pos rfl, if_pos (by omega), wm.out, if_pos (by omega), if_pos (by omega), hrj.out, if_pos (by omega)]
       ·rw [impl_DevsOk.l0, if_pos (by omega), if_pos (by omega), if_pos (by omega), hr.out, in_eq, Option.bind_some, decide_eq_true c0, if_pos rfl, in_eq, Option.bind_some, decide_eq_true c1, if_pos rfl, in_eq, Option.bind_some, decide_eq_true c2, if_pos rfl, if_pos (by omega), wm.out, if_pos (by omega), if_pos (by omega), hrj.out, if_pos (by omega)]
    ·rw [if_neg (fun hc => c2 hc.2.2.1)]
     refine ⟨Ev.step (f := fun _ => some false) (fun k => ?_) (Ev.now _), Ev.step (f := fun _ => some false) (fun k => ?_) (Ev.now _)⟩
     ·rw [spec_DevsOk.l0, if_pos (by omega), if_pos (by omega), hr.out, l1In_eq, Option.bind_some, decide_eq_true c0, if_pos rfl, l1In_eq, Option.bind_some, decide_eq_true c1, if_pos rfl, l1In_eq, Option.bind_some, decide_eq_false c2, if_neg (by decide)]
     ·rw [impl_DevsOk.l0, if_pos (by omega), if_pos (by omega), if_pos (by omega), hr.out, in_eq, Option.bind_some, decide_eq_true c0, if_pos rfl, in_eq, Option.bind_some, decide_eq_true c1, if_pos rfl, in_eq, Option.bind_some, decide_eq_false c2, if_neg (by decide)]
   ·rw [if_neg (fun hc => c1 hc.2.1)]
    refine ⟨Ev.step (f := fun _ => some false) (fun k => ?_) (Ev.now _), Ev.step (f := fun _ => some false) (fun k => ?_) (Ev.now _)⟩
    ·rw [spec_DevsOk.l0, if_pos (by omega), if_pos (by omega), hr.out, l1In_eq, Option.bind_some, decide_eq_true c0, if_pos rfl, l1In_eq, Option.bind_some, decide_eq_false c1, if_neg (by decide)]
    ·rw [impl_DevsOk.l0, if_pos (by omega), if_pos (by omega), if_pos (by omega), hr.out, in_eq, Option.bind_some, decide_eq_true c0, if_pos rfl, in_eq, Option.bind_some, decide_eq_false c1, if_neg (by decide)]
  ·rw [if_neg (fun hc => c0 hc.1)]
   refine ⟨Ev.step (f := fun _ => some false) (fun k => ?_) (Ev.now _), Ev.step (f := fun _ => some false) (fun k => ?_) (Ev.now _)⟩
   ·rw [spec_DevsOk.l0, if_pos (by omega), if_pos (by omega), hr.out, l1In_eq, Option.bind_some, decide_eq_false c0, if_neg (by decide)]
   ·rw [impl_DevsOk.l0, if_pos (by omega), if_pos (by omega), if_pos (by omega), hr.out, in_eq, Option.bind_some, decide_eq_false c0, if_neg (by decide)]
theorem devsOk_ev (xs : List S61) (hN : xs.length ≤ 4611686018427387904) : Ev (fun k => spec_DevsOk.f k xs) (devsOk xs) ∧ Ev (fun k => impl_DevsOk.f k xs) (devsOk xs) :=
 devsOk_l0 xs hN xs 0 none rfl (fun q => ⟨fun e => (by cases e), fun ⟨j, e, _⟩ => (by omega)⟩)
def hasI : List Int → Int → Bool
 | [], _ => false
 | a :: t, x => if a = x then true else hasI t x
theorem hasI_iff (l : List Int) (x : Int) : hasI l x = true ↔ x ∈ l := by
 induction l with
 | nil => simp [hasI]
 | cons a t ih =>
  rw [hasI, List.mem_cons]
  by_cases h : a = x
  ·rw [if_pos h]; simp [h]
  ·rw [if_neg h, ih]
   exact ⟨Or.inr, fun hc => hc.elim (fun e => absurd e.symm h) id⟩
theorem l4Has_l0 (xs : List Int) (x : Int) (hN : xs.length ≤ 4611686018427387904) : ∀ (l : List Int) (i : Nat), xs.drop i = l → Ev (fun k => spec_l4Has.l0 k xs x (i : Int)) (hasI l x)
 | [], i, h => by
  have h1 := drop_nil' h
  refine Ev.step (f := fun _ => some false) (fun k => ?_) (Ev.now _)
  rw [spec_l4Has.l0, if_neg (by omega)]
 | a :: t, i, h => by
  obtain ⟨h1, _, h3⟩ := drop_cons' h 0
  refine Ev.step (f := fun k => if a = x then some true else spec_l4Has.l0 k xs x ((i + 1 : Nat) : Int)) (fun k => ?_) ?_
  ·rw [spec_l4Has.l0, if_pos (by omega), if_pos (by omega), rd_at h, w64s h1 hN]
  ·by_cases c : a = x
   ·rw [hasI, if_pos c]; exact Ev.pos c (Ev.now _)
   ·rw [hasI, if_neg c]; exact Ev.neg c (l4Has_l0 xs x hN t (i + 1) h3)
theorem l4Has_ev (xs : List Int) (x : Int) (hN : xs.length ≤ 4611686018427387904) : Ev (fun k => spec_l4Has.f k xs x) (hasI xs x) := l4Has_l0 xs x hN xs 0 rfl
theorem hasInt_l0 (xs : List Int) (x : Int) (hN : xs.length ≤ 4611686018427387904) : ∀ (l : List Int) (i : Nat), xs.drop i = l → Ev (fun k => impl_hasInt.l0 k x xs (xs.length : Int) (i : Int)) (hasI l x)
 | [], i, h => by
  have h1 := drop_nil' h
  refine Ev.step (f := fun _ => some false) (fun k => ?_) (Ev.now _)
  rw [impl_hasInt.l0, if_neg (by omega)]
 | a :: t, i, h => by
  obtain ⟨h1, _, h3⟩ := drop_cons' h 0
  refine Ev.step (f := fun k => if a = x then some true else impl_hasInt.l0 k x xs (xs.length : Int) ((i + 1 : Nat) : Int)) (fun k => ?_) ?_
  ·rw [impl_hasInt.l0, if_pos (by omega), if_pos (by omega), if_pos (by omega), rd_at h, w64s h1 hN]
  ·by_cases c : a = x
   ·rw [hasI, if_pos c]; exact Ev.pos c (Ev.now _)
   ·rw [hasI, if_neg c]; exact Ev.neg c (hasInt_l0 xs x hN t (i + 1) h3)
theorem hasInt_ev (xs : List Int) (x : Int) (hN : xs.length ≤ 4611686018427387904) : Ev (fun k => impl_hasInt.f k xs x) (hasI xs x) := hasInt_l0 xs x hN xs 0 rfl
def apartFrom : List Int → List Int → Bool
 | _, [] => true
 | pre, a :: t => if hasI pre a = true then false else apartFrom (pre ++ [a]) t
def apartI (l : List Int) : Bool := apartFrom [] l
theorem apart_l0 (xs : List Int) (hN : xs.length ≤ 4611686018427387904) (reps : Int) : ∀ (l : List Int) (i : Nat), xs.drop i = l →
  Ev (fun k => spec_l5Part.l0 k reps (i : Int) xs) (apartFrom (xs.take i) l && ((xs.length : Int) == reps)) ∧ Ev (fun k => impl_apart.l0 k xs xs (xs.length : Int) (i : Int)) (apartFrom (xs.take i) l)
 | [], i, h => by
  have h1 := drop_nil' h
  refine ⟨Ev.step (f := fun _ => some ((xs.length : Int) == reps)) (fun k => ?_) (Ev.eq (Ev.now _) (by rw [apartFrom, Bool.true_and])), Ev.step (f := fun _ => some true) (fun k => ?_) (Ev.now _)⟩
  ·rw [spec_l5Part.l0, if_neg (by omega)]
  ·rw [impl_apart.l0, if_neg (by omega)]
 | a :: t, i, h => by
  obtain ⟨h1, _, h3⟩ := drop_cons' h 0
  have hr : Hd (rd xs (i : Int) = a) := ⟨rd_at h⟩
  have w : Hd (wrap64 ((i : Int) + 1) = ((i + 1 : Nat) : Int)) := ⟨w64s h1 (by omega)⟩
  have ht : xs.take (i + 1) = xs.take i ++ [a] := by
   rw [List.take_succ_eq_append_getElem h1]
   have := List.drop_eq_getElem_cons h1
   rw [h] at this
   injection this with e _
   rw [← e]
  have hl : (xs.take i).length ≤ 4611686018427387904 := by rw [List.length_take]; omega
  obtain ⟨i1, i2⟩ := apart_l0 xs hN reps t (i + 1) h3
  rw [ht] at i1 i2
  rw [apartFrom]
  refine ⟨Ev.step (f := fun k => (spec_l4Has.f k (xs.take i) a).bind fun t1 => if t1 = true then some false else spec_l5Part.l0 k reps ((i + 1 : Nat) : Int) xs) (fun k => ?_) (Ev.bind (l4Has_ev (xs.take i) a hl) ?_), Ev.step (f := fun k => (impl_hasInt.f k (xs.take i) a).bind fun t1 => if t1 = true then some false else impl_apart.l0 k xs xs (xs.length : Int) ((i + 1 : Nat) : Int)) (fun k => ?_) (Ev.bind (hasInt_ev (xs.take i) a hl) ?_)⟩
  ·rw [spec_l5Part.l0, if_pos (by omega), if_pos (by omega), if_pos (by omega), hr.out, w.out, Int.toNat_natCast]
  ·by_cases c : hasI (xs.take i) a = true
   ·rw [if_pos c]; exact Ev.pos c (Ev.now _)
   ·rw [if_neg c]; exact Ev.neg c i1
  ·rw [impl_apart.l0, if_pos (by omega), if_pos (by omega), if_pos (by omega), if_pos (by omega), hr.out, w.out, Int.toNat_natCast]
  ·by_cases c : hasI (xs.take i) a = true
   ·rw [if_pos c]; exact Ev.pos c (Ev.now _)
   ·rw [if_neg c]; exact Ev.neg c i2
theorem l5Part_ev (xs : List Int) (reps : Int) (hN : xs.length ≤ 4611686018427387904) : Ev (fun k => spec_l5Part.f k xs reps) (apartI xs && ((xs.length : Int) == reps)) :=
 (apart_l0 xs hN reps xs 0 rfl).1
theorem apart_ev (xs : List Int) (hN : xs.length ≤ 4611686018427387904) : Ev (fun k => impl_apart.f k xs) (apartI xs) :=
 (apart_l0 xs hN 0 xs 0 rfl).2
def partsWell (reps : Int) : List S35 → Bool
 | [] => true
 | p :: t => if ((p.f0.length : Int) == reps) = true then (if apartI p.f0 = true then partsWell reps t else false) else false
theorem partsWell_len (reps : Int) : ∀ ps : List S35, partsWell reps ps = true → ∀ p ∈ ps, (p.f0.length : Int) = reps
 | [], _, p, hp => by cases hp
 | q :: t, h, p, hp => by
  rw [partsWell] at h
  by_cases c : ((q.f0.length : Int) == reps) = true
  ·rw [if_pos c] at h
   by_cases c2 : apartI q.f0 = true
   ·rw [if_pos c2] at h
    rcases List.mem_cons.1 hp with rfl | hp
    ·exact beq_iff_eq.1 c
    ·exact partsWell_len reps t h p hp
   ·rw [if_neg c2] at h; cases h
  ·rw [if_neg c] at h; cases h
theorem well_l0 (reps : Int) (ps : List S35) (hN : ps.length ≤ 1048576) (hx : ∀ x ∈ ps, x.f0.length ≤ 1048576) : ∀ (t : List S35) (i : Nat), ps.drop i = t →
  Ev (fun k => impl_canMove.l0 k ps (ps.length : Int) (i : Int) reps ps) (partsWell reps t) ∧ Ev (fun k => spec_l6Ok.l0 k (i : Int) reps ps) (partsWell reps t)
 | [], i, h => by
  have h1 := drop_nil' h
  refine ⟨Ev.step (f := fun _ => some true) (fun k => ?_) (Ev.now _), Ev.step (f := fun _ => some true) (fun k => ?_) (Ev.now _)⟩
  ·rw [impl_canMove.l0, if_neg (by omega)]
  ·rw [spec_l6Ok.l0, if_neg (by omega)]
 | p :: t, i, h => by
  obtain ⟨h1, _, h3⟩ := drop_cons' h z35
  have hrd : Hd (rd_T35 ps (i : Int) = p) := ⟨rdT_at35 h⟩
  have w : Hd (wrap64 ((i : Int) + 1) = ((i + 1 : Nat) : Int)) := ⟨w64s h1 (by omega)⟩
  obtain ⟨i1, i2⟩ := well_l0 reps ps hN hx t (i + 1) h3
  have hp := hx p (List.mem_of_mem_drop (by rw [h]; exact List.mem_cons_self))
  have a1 := apart_ev p.f0 (by omega)
  have a2 := l5Part_ev p.f0 reps (by omega)
  refine ⟨Ev.step (fun k => by rw [impl_canMove.l0, if_pos (by omega), if_pos (by omega), if_pos (by omega), hrd.out, w.out]) ?_, Ev.step (fun k => by rw [spec_l6Ok.l0, if_pos (by omega), if_pos (by omega), hrd.out, w.out]) (Ev.bind a2 ?_)⟩
  ·rw [partsWell]
   by_cases c : (p.f0.length : Int) = reps
   ·rw [if_pos (beq_iff_eq.2 c)]
    refine Ev.pos c (Ev.bind a1 ?_)
    by_cases c2 : apartI p.f0 = true
    ·rw [if_pos c2]; exact Ev.pos c2 i1
    ·rw [if_neg c2]; exact Ev.neg c2 (Ev.now _)
   ·rw [if_neg (fun q => c (beq_iff_eq.1 q))]
    exact Ev.neg c (Ev.now _)
  ·rw [partsWell]
   by_cases c : ((p.f0.length : Int) == reps) = true
   ·rw [if_pos c, c]
    by_cases c2 : apartI p.f0 = true
    ·rw [if_pos c2, c2]; exact Ev.pos rfl i2
    ·rw [if_neg c2, Bool.eq_false_iff.mpr c2]; exact Ev.neg (by simp) (Ev.now _)
   ·rw [if_neg c, Bool.eq_false_iff.mpr c]
    exact Ev.neg (by simp) (Ev.now _)
def mayMove (reps : Int) (ps : List S35) (l : List S61) : Bool := if devsOk l = true then (if (1 ≤ reps ∧ reps ≤ 5) then (if reps > (l.length : Int) then false else (if (1 ≤ (ps.length : Int) ∧ (ps.length : Int) ≤ 64) then partsWell reps ps else false)) else false) else false
theorem mayMove_is (reps : Int) (ps : List S35) (l : List S61) (h : mayMove reps ps l = true) : devsOk l = true ∧ ps.length ≤ 64 ∧ ∀ p ∈ ps, p.f0.length ≤ 5 := by
 unfold mayMove at h
 by_cases c1 : devsOk l = true
 ·rw [if_pos c1] at h
  by_cases c2 : (1 ≤ reps ∧ reps ≤ 5)
  ·rw [if_pos c2] at h
   by_cases c3 : reps > (l.length : Int)
   ·rw [if_pos c3] at h; cases h
   ·rw [if_neg c3] at h
    by_cases c4 : (1 ≤ (ps.length : Int) ∧ (ps.length : Int) ≤ 64)
    ·rw [if_pos c4] at h
     exact ⟨c1, by omega, fun p hp => by have := partsWell_len reps ps h p hp; omega⟩
    ·rw [if_neg c4] at h; cases h
  ·rw [if_neg c2] at h; cases h
 ·rw [if_neg c1] at h; cases h
theorem mayMove_ev (reps : Int) (ps : List S35) (l : List S61) (hl : l.length ≤ 1048576) (hN : ps.length ≤ 1048576) (hx : ∀ x ∈ ps, x.f0.length ≤ 1048576) : Ev (fun k => impl_canMove.f k reps ps l) (mayMove reps ps l) ∧ Ev (fun k => spec_l6Ok.f k reps ps l) (mayMove reps ps l) := by
 obtain ⟨d1, d2⟩ := devsOk_ev l (by omega)
 obtain ⟨w1, w2⟩ := well_l0 reps ps hN hx ps 0 rfl
 have n1 : Ev (fun k => impl_canMove.j0 k true reps ps) false := Ev.step (f := fun _ => some false) (fun k => by rw [impl_canMove.j0, if_pos rfl]) (Ev.now _)
 have n2 : Ev (fun k => spec_l6Ok.j0 k true reps ps) false := Ev.step (f := fun _ => some false) (fun k => by rw [spec_l6Ok.j0, if_pos rfl]) (Ev.now _)
 have y1 : Ev (fun k => impl_canMove.j0 k false reps ps) (partsWell reps ps) := Ev.step (fun k => by rw [impl_canMove.j0, if_neg (by simp)]; rfl) w1
 have y2 : Ev (fun k => spec_l6Ok.j0 k false reps ps) (partsWell reps ps) := Ev.step (fun k => by rw [spec_l6Ok.j0, if_neg (by simp)]; rfl) w2
 simp only [impl_canMove.f, spec_l6Ok.f]
 unfold mayMove
 refine ⟨Ev.bind d2 ?_, Ev.bind d1 ?_⟩
 ·by_cases c1 : devsOk l = true
  ·rw [if_pos c1]
   refine Ev.pos c1 (Ev.got (in_eq _ _ _) ?_)
   by_cases c2 : (1 ≤ reps ∧ reps ≤ 5)
   ·rw [if_pos c2]
    refine Ev.pos (decide_eq_true c2) ?_
    by_cases c3 : reps > (l.length : Int)
    ·rw [if_pos c3]; exact Ev.pos c3 n1
    ·rw [if_neg c3]
     refine Ev.neg c3 (Ev.got (in_eq _ _ _) ?_)
     by_cases c4 : (1 ≤ (ps.length : Int) ∧ (ps.length : Int) ≤ 64)
     ·rw [if_pos c4, decide_eq_true c4]; exact y1
     ·rw [if_neg c4, decide_eq_false c4]; exact n1
   ·rw [if_neg c2]
    exact Ev.neg (by rw [decide_eq_true_eq]; exact c2) n1
  ·rw [if_neg c1]; exact Ev.neg c1 n1
 ·by_cases c1 : devsOk l = true
  ·rw [if_pos c1]
   refine Ev.pos c1 (Ev.got (l1In_eq _ _ _) ?_)
   by_cases c2 : (1 ≤ reps ∧ reps ≤ 5)
   ·rw [if_pos c2]
    refine Ev.pos (decide_eq_true c2) ?_
    by_cases c3 : reps > (l.length : Int)
    ·rw [if_pos c3]; exact Ev.pos c3 n2
    ·rw [if_neg c3]
     refine Ev.neg c3 (Ev.got (l1In_eq _ _ _) ?_)
     by_cases c4 : (1 ≤ (ps.length : Int) ∧ (ps.length : Int) ≤ 64)
     ·rw [if_pos c4, decide_eq_true c4]; exact y2
     ·rw [if_neg c4, decide_eq_false c4]; exact n2
   ·rw [if_neg c2]
    exact Ev.neg (by rw [decide_eq_true_eq]; exact c2) n2
  ·rw [if_neg c1]; exact Ev.neg c1 n2
def devAt (id : Int) : List S61 → Int × Int × Int × Bool
 | [] => (0, 0, 0, false)
 | d :: t => if d.f0 = id then (d.f0, d.f1, d.f2, true) else devAt id t
theorem devAt_l0i (xs : List S61) (id : Int) (hN : xs.length ≤ 4611686018427387904) : ∀ (l : List S61) (i : Nat), xs.drop i = l → Ev (fun k => impl_DevAt.l0 k id xs (xs.length : Int) (i : Int)) (devAt id l)
 | [], i, h => by
  have h1 := drop_nil' h
  refine Ev.step (f := fun _ => some (0, 0, 0, false)) (fun k => ?_) (Ev.now _)
  rw [impl_DevAt.l0, if_neg (by omega)]
 | a :: t, i, h => by
  obtain ⟨h1, _, h3⟩ := drop_cons' h z61
  have ih := devAt_l0i xs id hN t (i + 1) h3
  refine Ev.step (f := fun k => if a.f0 = id then some (a.f0, a.f1, a.f2, true) else impl_DevAt.l0 k id xs (xs.length : Int) ((i + 1 : Nat) : Int)) (fun k => ?_) ?_
  ·rw [impl_DevAt.l0, if_pos (by omega), if_pos (by omega), if_pos (by omega), rdT_at61 h, w64s h1 hN]
  ·by_cases c : a.f0 = id
   ·rw [devAt, if_pos c]; exact Ev.pos c (Ev.now _)
   ·rw [devAt, if_neg c]; exact Ev.neg c ih
theorem devAt_l0s (xs : List S61) (id : Int) (hN : xs.length ≤ 4611686018427387904) : ∀ (l : List S61) (i : Nat), xs.drop i = l → Ev (fun k => spec_DevAt.l0 k xs id (i : Int)) (devAt id l)
 | [], i, h => by
  have h1 := drop_nil' h
  refine Ev.step (f := fun _ => some (0, 0, 0, false)) (fun k => ?_) (Ev.now _)
  rw [spec_DevAt.l0, if_neg (by omega)]
 | a :: t, i, h => by
  obtain ⟨h1, _, h3⟩ := drop_cons' h z61
  have ih := devAt_l0s xs id hN t (i + 1) h3
  refine Ev.step (f := fun k => if a.f0 = id then some (a.f0, a.f1, a.f2, true) else spec_DevAt.l0 k xs id ((i + 1 : Nat) : Int)) (fun k => ?_) ?_
  ·rw [spec_DevAt.l0, if_pos (by omega), if_pos (by omega), rdT_at61 h, w64s h1 hN]
  ·by_cases c : a.f0 = id
   ·rw [devAt, if_pos c]; exact Ev.pos c (Ev.now _)
   ·rw [devAt, if_neg c]; exact Ev.neg c ih
theorem devAt_ev (xs : List S61) (id : Int) (hN : xs.length ≤ 4611686018427387904) : Ev (fun k => spec_DevAt.f k xs id) (devAt id xs) ∧ Ev (fun k => impl_DevAt.f k xs id) (devAt id xs) :=
 ⟨devAt_l0s xs id hN xs 0 rfl, devAt_l0i xs id hN xs 0 rfl⟩
def lostI (l : List S61) : List Int → Nat → Int
 | [], _ => -1
 | id :: t, i => if (devAt id l).2.2.2 = true then lostI l t (i + 1) else (i : Int)
theorem lostI_is (l : List S61) : ∀ (t : List Int) (i : Nat), (lostI l t i = -1 ∧ ∀ id ∈ t, (devAt id l).2.2.2 = true) ∨ ((i : Int) ≤ lostI l t i ∧ lostI l t i < i + t.length)
 | [], i => .inl ⟨rfl, fun _ h => by cases h⟩
 | id :: t, i => by
  rw [lostI]
  by_cases c : (devAt id l).2.2.2 = true
  ·rw [if_pos c]
   rcases lostI_is l t (i + 1) with h | h
   ·refine .inl ⟨h.1, fun x hx => ?_⟩
    rcases List.mem_cons.1 hx with rfl | hx
    ·exact c
    ·exact h.2 x hx
   ·right; simp only [List.length_cons]; omega
  ·rw [if_neg c]; right; simp only [List.length_cons]; omega
theorem lost_l0 (l : List S61) (hl : l.length ≤ 1048576) (xs : List Int) (hN : xs.length ≤ 1048576) : ∀ (t : List Int) (i : Nat), xs.drop i = t →
  Ev (fun k => impl_lost.l0 k l xs (xs.length : Int) (i : Int)) (lostI l t i) ∧ Ev (fun k => spec_l6Lost.l0 k l (i : Int) xs) (lostI l t i)
 | [], i, h => by
  have h1 := drop_nil' h
  refine ⟨Ev.step (f := fun _ => some (-1)) (fun k => ?_) (Ev.now _), Ev.step (f := fun _ => some (-1)) (fun k => ?_) (Ev.now _)⟩
  ·rw [impl_lost.l0, if_neg (by omega)]
  ·rw [spec_l6Lost.l0, if_neg (by omega)]
 | id :: t, i, h => by
  obtain ⟨h1, _, h3⟩ := drop_cons' h 0
  have hr : Hd (rd xs (i : Int) = id) := ⟨rd_at h⟩
  have w : Hd (wrap64 ((i : Int) + 1) = ((i + 1 : Nat) : Int)) := ⟨w64s h1 (by omega)⟩
  obtain ⟨i1, i2⟩ := lost_l0 l hl xs hN t (i + 1) h3
  obtain ⟨d1, d2⟩ := devAt_ev l id (by omega)
  rw [lostI]
  refine ⟨Ev.step (fun k => by rw [impl_lost.l0, if_pos (by omega), if_pos (by omega), if_pos (by omega), hr.out, w.out]) (Ev.bind d2 ?_), Ev.step (fun k => by rw [spec_l6Lost.l0, if_pos (by omega), if_pos (by omega), hr.out, w.out]) (Ev.bind d1 ?_)⟩
  all_goals
   by_cases c : (devAt id l).2.2.2 = true
   ·rw [if_pos c]; exact Ev.pos c (by assumption)
   ·rw [if_neg c]; exact Ev.neg c (Ev.now _)
theorem lost_ev (l : List S61) (hl : l.length ≤ 1048576) (xs : List Int) (hN : xs.length ≤ 1048576) : Ev (fun k => impl_lost.f k xs l) (lostI l xs 0) ∧ Ev (fun k => spec_l6Lost.f k xs l) (lostI l xs 0) := lost_l0 l hl xs hN xs 0 rfl
def cntI (id : Int) : List Int → Nat
 | [] => 0
 | a :: t => (if a = id then 1 else 0) + cntI id t
def loadOf (id : Int) : List S35 → Nat
 | [] => 0
 | p :: t => cntI id p.f0 + loadOf id t
def lens : List S35 → Nat
 | [] => 0
 | p :: t => p.f0.length + lens t
theorem cntI_le (id : Int) : ∀ l : List Int, cntI id l ≤ l.length
 | [] => Nat.le_refl _
 | a :: t => by
  have := cntI_le id t
  rw [cntI, List.length_cons]
  split <;> omega
theorem loadOf_le (id : Int) : ∀ l : List S35, loadOf id l ≤ lens l
 | [] => Nat.le_refl _
 | p :: t => by
  have h1 := loadOf_le id t
  have h2 := cntI_le id p.f0
  rw [loadOf, lens]
  omega
theorem lens_le (m : Nat) : ∀ l : List S35, (∀ x ∈ l, x.f0.length ≤ m) → lens l ≤ l.length * m
 | [], _ => Nat.zero_le _
 | p :: t, h => by
  have h1 := lens_le m t (fun x hx => h x (List.mem_cons_of_mem _ hx))
  have h2 := h p List.mem_cons_self
  rw [lens, List.length_cons, Nat.succ_mul]
  omega
theorem spec_loadOf_l1 (ps : List S35) (p : S35) (id reps : Int) (i : Nat) (hi : i < ps.length) (hp : rd_T35 ps (i : Int) = p) (hN : p.f0.length ≤ 4611686018427387904) (r : Int) :
  ∀ (l : List Int) (j : Nat) (n : Nat), p.f0.drop j = l → n + l.length ≤ 4611686018427387904 → Ev (fun k => spec_LoadOf.l0 k id ((n + cntI id l : Nat) : Int) (wrap64 ((i : Int) + 1)) reps ps) r → Ev (fun k => spec_LoadOf.l1 k id (n : Int) (i : Int) (j : Int) reps ps) r
 | [], j, n, h, hn, hr => by
  have h1 := drop_nil' h
  refine Ev.step (fun k => ?_) hr
  rw [spec_LoadOf.l1, if_pos (by omega), if_pos (by omega), hp, if_neg (by omega)]
  rfl
 | a :: t, j, n, h, hn, hr => by
  obtain ⟨h1, _, h3⟩ := drop_cons' h 0
  rw [List.length_cons] at hn
  have hrd : Hd (rd p.f0 (j : Int) = a) := ⟨rd_at h⟩
  have w : Hd (wrap64 ((j : Int) + 1) = ((j + 1 : Nat) : Int)) := ⟨w64s h1 hN⟩
  have wn : Hd (wrap64 ((n : Int) + 1) = ((n + 1 : Nat) : Int)) := ⟨w64s (n := n + 1) (by omega) (by omega)⟩
  by_cases c : a = id
  ·rw [cntI, if_pos c] at hr
   refine Ev.step (fun k => ?_) (spec_loadOf_l1 ps p id reps i hi hp hN r t (j + 1) (n + 1) h3 (by omega) (by rw [show n + 1 + cntI id t = n + (1 + cntI id t) by omega]; exact hr))
   rw [spec_LoadOf.l1, if_pos (by omega), if_pos (by omega), hp, if_pos (by omega), if_pos (by omega), hrd.out, if_pos c, w.out, wn.out]
  ·rw [cntI, if_neg c, Nat.zero_add] at hr
   refine Ev.step (fun k => ?_) (spec_loadOf_l1 ps p id reps i hi hp hN r t (j + 1) n h3 (by omega) hr)
   rw [spec_LoadOf.l1, if_pos (by omega), if_pos (by omega), hp, if_pos (by omega), if_pos (by omega), hrd.out, if_neg c, w.out]
theorem spec_loadOf_l0 (ps : List S35) (id reps : Int) (hN : ps.length ≤ 4611686018427387904) : ∀ (l : List S35) (i n : Nat), ps.drop i = l → n + lens l ≤ 4611686018427387904 → Ev (fun k => spec_LoadOf.l0 k id (n : Int) (i : Int) reps ps) ((n + loadOf id l : Nat) : Int)
 | [], i, n, h, hn => by
  have h1 := drop_nil' h
  refine Ev.step (f := fun _ => some (n : Int)) (fun k => ?_) (Ev.now _)
  rw [spec_LoadOf.l0, if_neg (by omega)]
 | p :: t, i, n, h, hn => by
  obtain ⟨h1, _, h3⟩ := drop_cons' h z35
  rw [lens] at hn
  have hc := cntI_le id p.f0
  have ih := spec_loadOf_l0 ps id reps hN t (i + 1) (n + cntI id p.f0) h3 (by omega)
  have hr : Ev (fun k => spec_LoadOf.l1 k id (n : Int) (i : Int) ((0 : Nat) : Int) reps ps) ((n + loadOf id (p :: t) : Nat) : Int) :=
   spec_loadOf_l1 ps p id reps i h1 (rdT_at35 h) (by omega) _ p.f0 0 n rfl (by omega) (by rw [w64s h1 hN, loadOf, ← Nat.add_assoc]; exact ih)
  refine Ev.step (fun k => ?_) hr
  rw [spec_LoadOf.l0, if_pos (by omega)]
  rfl
theorem spec_loadOf_ev (a : Int) (ps : List S35) (id : Int) (hN : ps.length ≤ 4611686018427387904) (hl : lens ps ≤ 4611686018427387904) : Ev (fun k => spec_LoadOf.f k a ps id) ((loadOf id ps : Nat) : Int) := by
 have h := spec_loadOf_l0 ps id a hN ps 0 0 rfl (by omega)
 rw [Nat.zero_add] at h
 exact h
theorem impl_loadOf_l1 (ps : List S35) (xs : List Int) (id : Int) (n0 i : Int) (hN : xs.length ≤ 4611686018427387904) (r : Int) :
  ∀ (l : List Int) (j : Nat) (n : Nat), xs.drop j = l → n + l.length ≤ 4611686018427387904 → Ev (fun k => impl_LoadOf.l0 k id ((n + cntI id l : Nat) : Int) ps n0 (wrap64 (i + 1))) r → Ev (fun k => impl_LoadOf.l1 k id (n : Int) ps n0 i xs (xs.length : Int) (j : Int)) r
 | [], j, n, h, hn, hr => by
  have h1 := drop_nil' h
  refine Ev.step (fun k => ?_) hr
  rw [impl_LoadOf.l1, if_neg (by omega)]
  rfl
 | a :: t, j, n, h, hn, hr => by
  obtain ⟨h1, _, h3⟩ := drop_cons' h 0
  rw [List.length_cons] at hn
  have hrd : Hd (rd xs (j : Int) = a) := ⟨rd_at h⟩
  have w : Hd (wrap64 ((j : Int) + 1) = ((j + 1 : Nat) : Int)) := ⟨w64s h1 hN⟩
  have wn : Hd (wrap64 ((n : Int) + 1) = ((n + 1 : Nat) : Int)) := ⟨w64s (n := n + 1) (by omega) (by omega)⟩
  by_cases c : a = id
  ·rw [cntI, if_pos c] at hr
   refine Ev.step (fun k => ?_) (impl_loadOf_l1 ps xs id n0 i hN r t (j + 1) (n + 1) h3 (by omega) (by rw [show n + 1 + cntI id t = n + (1 + cntI id t) by omega]; exact hr))
   rw [impl_LoadOf.l1, if_pos (by omega), if_pos (by omega), if_pos (by omega), hrd.out, if_pos c, w.out, wn.out]
  ·rw [cntI, if_neg c, Nat.zero_add] at hr
   refine Ev.step (fun k => ?_) (impl_loadOf_l1 ps xs id n0 i hN r t (j + 1) n h3 (by omega) hr)
   rw [impl_LoadOf.l1, if_pos (by omega), if_pos (by omega), if_pos (by omega), hrd.out, if_neg c, w.out]
theorem impl_loadOf_l0 (ps : List S35) (id : Int) (hN : ps.length ≤ 4611686018427387904) : ∀ (l : List S35) (i n : Nat), ps.drop i = l → n + lens l ≤ 4611686018427387904 → Ev (fun k => impl_LoadOf.l0 k id (n : Int) ps (ps.length : Int) (i : Int)) ((n + loadOf id l : Nat) : Int)
 | [], i, n, h, hn => by
  have h1 := drop_nil' h
  refine Ev.step (f := fun _ => some (n : Int)) (fun k => ?_) (Ev.now _)
  rw [impl_LoadOf.l0, if_neg (by omega)]
 | p :: t, i, n, h, hn => by
  obtain ⟨h1, _, h3⟩ := drop_cons' h z35
  rw [lens] at hn
  have hc := cntI_le id p.f0
  have ih := impl_loadOf_l0 ps id hN t (i + 1) (n + cntI id p.f0) h3 (by omega)
  have hr : Ev (fun k => impl_LoadOf.l1 k id (n : Int) ps (ps.length : Int) (i : Int) p.f0 (p.f0.length : Int) ((0 : Nat) : Int)) ((n + loadOf id (p :: t) : Nat) : Int) :=
   impl_loadOf_l1 ps p.f0 id _ _ (by omega) _ p.f0 0 n rfl (by omega) (by rw [w64s h1 hN, loadOf, ← Nat.add_assoc]; exact ih)
  refine Ev.step (fun k => ?_) hr
  rw [impl_LoadOf.l0, if_pos (by omega), if_pos (by omega), if_pos (by omega), rdT_at35 h]
  rfl
theorem impl_loadOf_ev (a : Int) (ps : List S35) (id : Int) (hN : ps.length ≤ 4611686018427387904) (hl : lens ps ≤ 4611686018427387904) : Ev (fun k => impl_LoadOf.f k a ps id) ((loadOf id ps : Nat) : Int) := by
 have h := impl_loadOf_l0 ps id hN ps 0 0 rfl (by omega)
 rw [Nat.zero_add] at h
 exact h
theorem devsFrom_mem (n : Nat) : ∀ (l : List S61) (pr : Option S61), devsFrom n pr l = true → ∀ d ∈ l, (0 ≤ d.f0 ∧ d.f0 ≤ 20) ∧ (0 ≤ d.f1 ∧ d.f1 ≤ 20) ∧ (1 ≤ d.f2 ∧ d.f2 ≤ 1000)
 | [], _, _, d, hd => by cases hd
 | a :: t, pr, h, d, hd => by
  rw [devsFrom] at h
  by_cases c : (0 ≤ a.f0 ∧ a.f0 ≤ 20) ∧ (0 ≤ a.f1 ∧ a.f1 ≤ 20) ∧ (1 ≤ a.f2 ∧ a.f2 ≤ 1000) ∧ (∀ q, pr = some q → q.f0 < a.f0)
  ·rw [if_pos c] at h
   rcases List.mem_cons.1 hd with rfl | hd
   ·exact ⟨c.1, c.2.1, c.2.2.1⟩
   ·exact devsFrom_mem n t (some a) h d hd
  ·rw [if_neg c] at h
   cases h
def zoneOf (l : List S61) (id : Int) : Option Int := if (devAt id l).2.2.2 = true then some (devAt id l).2.1 else none
def zonesFrom (l : List S61) : List Int → List Int → List Int
 | acc, [] => acc
 | acc, id :: t => match zoneOf l id with
  | none => zonesFrom l acc t
  | some z => if hasI acc z = true then zonesFrom l acc t else zonesFrom l (acc ++ [z]) t
theorem zones_l0 (l : List S61) (ids : List Int) (hl : l.length ≤ 1048576) (hN : ids.length ≤ 1048576) : ∀ (t : List Int) (i : Nat) (acc : List Int), ids.drop i = t → acc.length ≤ i →
  Ev (fun k => spec_l5Zones.l0 k ids l acc (i : Int)) (zonesFrom l acc t) ∧ Ev (fun k => impl_zonesIn.l0 k l acc ids (ids.length : Int) (i : Int)) (zonesFrom l acc t)
 | [], i, acc, h, ha => by
  have h1 := drop_nil' h
  refine ⟨Ev.step (f := fun _ => some acc) (fun k => ?_) (Ev.now _), Ev.step (f := fun _ => some acc) (fun k => ?_) (Ev.now _)⟩
  ·rw [spec_l5Zones.l0, if_neg (by omega)]
  ·rw [impl_zonesIn.l0, if_neg (by omega)]
 | id :: t, i, acc, h, ha => by
  obtain ⟨h1, _, h3⟩ := drop_cons' h 0
  have hr : Hd (rd ids (i : Int) = id) := ⟨rd_at h⟩
  have w : Hd (wrap64 ((i : Int) + 1) = ((i + 1 : Nat) : Int)) := ⟨w64s h1 (by omega)⟩
  obtain ⟨d1, d2⟩ := devAt_ev l id (by omega)
  have ih := fun acc' (ha' : acc'.length ≤ i + 1) => zones_l0 l ids hl hN t (i + 1) acc' h3 ha'
  rw [zonesFrom, zoneOf]
  by_cases c : (devAt id l).2.2.2 = true
  ·simp only [if_pos c]
   by_cases c2 : hasI acc (devAt id l).2.1 = true
   ·rw [if_pos c2]
    refine ⟨Ev.step (fun k => by rw [spec_l5Zones.l0, if_pos (by omega), if_pos (by omega), hr.out, w.out]) ?_, Ev.step (fun k => by rw [impl_zonesIn.l0, if_pos (by omega), if_pos (by omega), if_pos (by omega), hr.out, w.out]) ?_⟩
    ·exact Ev.bind d1 (Ev.pos c (Ev.bind (l4Has_ev acc _ (by omega)) (Ev.pos c2 (ih acc (by omega)).1)))
    ·exact Ev.bind d2 (Ev.pos c (Ev.bind (hasInt_ev acc _ (by omega)) (Ev.pos c2 (ih acc (by omega)).2)))
   ·rw [if_neg c2]
    refine ⟨Ev.step (fun k => by rw [spec_l5Zones.l0, if_pos (by omega), if_pos (by omega), hr.out, w.out]) ?_, Ev.step (fun k => by rw [impl_zonesIn.l0, if_pos (by omega), if_pos (by omega), if_pos (by omega), hr.out, w.out]) ?_⟩
    ·exact Ev.bind d1 (Ev.pos c (Ev.bind (l4Has_ev acc _ (by omega)) (Ev.neg c2 (Ev.pos (by omega) (ih _ (by simp; omega)).1))))
    ·exact Ev.bind d2 (Ev.pos c (Ev.bind (hasInt_ev acc _ (by omega)) (Ev.neg c2 (Ev.pos (by omega) (ih _ (by simp; omega)).2))))
  ·simp only [if_neg c]
   refine ⟨Ev.step (fun k => by rw [spec_l5Zones.l0, if_pos (by omega), if_pos (by omega), hr.out, w.out]) ?_, Ev.step (fun k => by rw [impl_zonesIn.l0, if_pos (by omega), if_pos (by omega), if_pos (by omega), hr.out, w.out]) ?_⟩
   ·exact Ev.bind d1 (Ev.neg c (ih acc (by omega)).1)
   ·exact Ev.bind d2 (Ev.neg c (ih acc (by omega)).2)
def zonesOf (ids : List Int) (l : List S61) : List Int := zonesFrom l [] ids
theorem zones_ev (ids : List Int) (l : List S61) (hN : ids.length ≤ 1048576) (hl : l.length ≤ 1048576) : Ev (fun k => spec_l5Zones.f k ids l) (zonesOf ids l) ∧ Ev (fun k => impl_zonesIn.f k ids l) (zonesOf ids l) :=
 zones_l0 l ids hl hN ids 0 [] rfl (Nat.le_refl _)
theorem zonesFrom_len (l : List S61) : ∀ (t acc : List Int), (zonesFrom l acc t).length ≤ acc.length + t.length
 | [], acc => by rw [zonesFrom]; simp
 | id :: t, acc => by
  rw [zonesFrom]
  rw [List.length_cons]
  split
  ·have := zonesFrom_len l t acc; omega
  ·split
   ·have := zonesFrom_len l t acc; omega
   ·next z _ _ => have := zonesFrom_len l t (acc ++ [z]); rw [List.length_append] at this; simp at this; omega
theorem wmul {n : Nat} {w : Int} (hn : n ≤ 1099511627776) (h0 : 1 ≤ w) (h1 : w ≤ 1000) : wrap64 (((n : Int) + 1) * w) = ((n : Int) + 1) * w := by
 have h2 : ((n : Int) + 1) * w ≤ 1099511627777 * 1000 := Int.mul_le_mul (by omega) h1 (by omega) (by omega)
 have h3 : 0 ≤ ((n : Int) + 1) * w := Int.mul_nonneg (by omega) (by omega)
 exact w64 (by omega) (by omega)
theorem wone {n : Nat} (hn : n ≤ 1099511627776) : wrap64 ((n : Int) + 1) = (n : Int) + 1 := w64 (by omega) (by omega)
abbrev lighter (r : List S35) (d q : S61) : Prop := ((loadOf d.f0 r : Nat) + 1 : Int) * q.f2 < ((loadOf q.f0 r : Nat) + 1 : Int) * d.f2
def bestFrom (r : List S35) (prt zs : List Int) : Option S61 → Bool → List S61 → Option S61
 | b, _, [] => b
 | b, fr, d :: t => if hasI prt d.f0 = true then bestFrom r prt zs b fr t else
  match b with
  | none => bestFrom r prt zs (some d) (!hasI zs d.f1) t
  | some q => if hasI zs d.f1 = false ∧ fr = false then bestFrom r prt zs (some d) true t
   else if (!hasI zs d.f1) = fr ∧ lighter r d q then bestFrom r prt zs (some d) fr t else bestFrom r prt zs (some q) fr t
theorem bestFrom_has {r : List S35} {prt zs : List Int} {b : Option S61} {fr : Bool} {d : S61} {t : List S61} (c : hasI prt d.f0 = true) : bestFrom r prt zs b fr (d :: t) = bestFrom r prt zs b fr t := by
 conv => lhs; unfold bestFrom
 rw [if_pos c]
theorem bestFrom_none {r : List S35} {prt zs : List Int} {fr : Bool} {d : S61} {t : List S61} (c : ¬hasI prt d.f0 = true) : bestFrom r prt zs none fr (d :: t) = bestFrom r prt zs (some d) (!hasI zs d.f1) t := by
 conv => lhs; unfold bestFrom
 rw [if_neg c]
theorem bestFrom_some {r : List S35} {prt zs : List Int} {q : S61} {fr : Bool} {d : S61} {t : List S61} (c : ¬hasI prt d.f0 = true) : bestFrom r prt zs (some q) fr (d :: t) = (if hasI zs d.f1 = false ∧ fr = false then bestFrom r prt zs (some d) true t
   else if (!hasI zs d.f1) = fr ∧ lighter r d q then bestFrom r prt zs (some d) fr t else bestFrom r prt zs (some q) fr t) := by
 conv => lhs; unfold bestFrom
 rw [if_neg c]
def idOf : Option S61 → Int
 | none => -1
 | some q => q.f0
theorem spec_best_l0 (xs : List S61) (hok : devsOk xs = true) (hN : xs.length ≤ 1048576) (r : List S35) (hr1 : r.length ≤ 1048576) (hr2 : lens r ≤ 1099511627776) (prt zs : List Int) (hp : prt.length ≤ 1048576) (hz : zs.length ≤ 1048576) (a : Int) :
  ∀ (t : List S61) (i : Nat) (b : Option S61) (fr : Bool) (x8 : Int), xs.drop i = t → (b = none ∧ x8 = -1 ∨ ∃ (q : S61) (j : Nat), b = some q ∧ x8 = (j : Int) ∧ xs[j]? = some q) →
   Ev (fun k => spec_Best.l0 k xs zs x8 fr (i : Int) a r prt) (idOf (bestFrom r prt zs b fr t))
 | [], i, b, fr, x8, h, hb => by
  have h1 := drop_nil' h
  refine Ev.step (f := fun k => spec_Best.j1 k xs zs x8 fr (i : Int) false a r prt) (fun k => by rw [spec_Best.l0, if_neg (by omega)]) ?_
  rcases hb with ⟨rfl, rfl⟩ | ⟨q, j, rfl, rfl, hj⟩
  ·exact Ev.step (f := fun _ => some (-1)) (fun k => by rw [spec_Best.j1, if_neg (by decide), if_pos (by omega)]) (Ev.now _)
  ·have hjl : j < xs.length := (List.getElem?_eq_some_iff.1 hj).1
   have hrd : rd_T61 xs (j : Int) = q := by unfold rd_T61; rw [Int.toNat_natCast, List.getD_eq_getElem?_getD, hj]; rfl
   exact Ev.step (f := fun _ => some q.f0) (fun k => by rw [spec_Best.j1, if_neg (by decide), if_neg (by omega), if_pos (by omega), if_pos (by omega), hrd]) (Ev.now _)
 | d :: t, i, b, fr, x8, h, hb => by
  obtain ⟨h1, hd0, h3⟩ := drop_cons' h z61
  have hdi : xs[i]? = some d := by
   rw [List.getElem?_eq_getElem h1]; rw [List.getD_eq_getElem?_getD, List.getElem?_eq_getElem h1] at hd0; exact congrArg some hd0
  have hr : Hd (rd_T61 xs (i : Int) = d) := ⟨rdT_at61 h⟩
  have w : Hd (wrap64 ((i : Int) + 1) = ((i + 1 : Nat) : Int)) := ⟨w64s h1 (by omega)⟩
  have hdb := devsFrom_mem xs.length xs none hok d (List.mem_of_mem_drop (by rw [h]; exact List.mem_cons_self))
  have ih := fun b' fr' x' hb' => spec_best_l0 xs hok hN r hr1 hr2 prt zs hp hz a t (i + 1) b' fr' x' h3 hb'
  have ihd := fun fr' => ih (some d) fr' (i : Int) (Or.inr ⟨d, i, rfl, rfl, hdi⟩)
  refine Ev.step (f := fun k => (spec_DevsOk.f k xs).bind fun t1 => spec_Best.j1 k xs zs x8 fr (i : Int) t1 a r prt) (fun k => by rw [spec_Best.l0, if_pos (by omega)]) (Ev.bind (devsOk_ev xs (by omega)).1 ?_)
  rw [hok]
  refine Ev.step (f := fun k => (spec_l4Has.f k prt d.f0).bind fun t1 => if t1 = true then spec_Best.l0 k xs zs x8 fr ((i + 1 : Nat) : Int) a r prt else (spec_l4Has.f k zs d.f1).bind fun t2 => if x8 < 0 then spec_Best.j2 k xs zs x8 fr (i : Int) (!t2) true a r prt d.f0 d.f1 d.f2 else if t2 = true then spec_Best.j2 k xs zs x8 fr (i : Int) (!t2) false a r prt d.f0 d.f1 d.f2 else spec_Best.j2 k xs zs x8 fr (i : Int) (!t2) (!fr) a r prt d.f0 d.f1 d.f2) (fun k => by rw [spec_Best.j1, if_pos rfl, if_pos (by omega), if_pos (by omega), hr.out, w.out]) ?_
  refine Ev.bind (l4Has_ev prt d.f0 (by omega)) ?_
  by_cases c : hasI prt d.f0 = true
  ·rw [bestFrom_has c]
   exact Ev.pos c (ih b fr x8 hb)
  refine Ev.neg c (Ev.bind (l4Has_ev zs d.f1 (by omega)) ?_)
  have take : ∀ is : Bool, Ev (fun k => spec_Best.j2 k xs zs x8 fr (i : Int) is true a r prt d.f0 d.f1 d.f2) (idOf (bestFrom r prt zs (some d) is t)) := fun is =>
   Ev.step (f := fun k => spec_Best.l0 k xs zs (i : Int) is ((i + 1 : Nat) : Int) a r prt) (fun k => by rw [spec_Best.j2, if_pos rfl, w.out]) (ihd is)
  rcases hb with ⟨rfl, rfl⟩ | ⟨q, j, rfl, rfl, hj⟩
  ·rw [bestFrom_none c]
   exact Ev.pos (by omega) (take _)
  ·have hjl : j < xs.length := (List.getElem?_eq_some_iff.1 hj).1
   have hrd : Hd (rd_T61 xs (j : Int) = q) := ⟨by unfold rd_T61; rw [Int.toNat_natCast, List.getD_eq_getElem?_getD, hj]; rfl⟩
   have hqb := devsFrom_mem xs.length xs none hok q (List.mem_of_getElem? hj)
   have ihq := ih (some q) fr (j : Int) (Or.inr ⟨q, j, rfl, rfl, hj⟩)
   have ld := loadOf_le d.f0 r
   have lq := loadOf_le q.f0 r
   have m1 : Hd (wrap64 (wrap64 (((loadOf d.f0 r : Nat) : Int) + 1) * q.f2) = (((loadOf d.f0 r : Nat) : Int) + 1) * q.f2) := ⟨by rw [wone (by omega)]; exact wmul (by omega) (by omega) (by omega)⟩
   have m2 : Hd (wrap64 (wrap64 (((loadOf q.f0 r : Nat) : Int) + 1) * d.f2) = (((loadOf q.f0 r : Nat) : Int) + 1) * d.f2) := ⟨by rw [wone (by omega)]; exact wmul (by omega) (by omega) (by omega)⟩
   have cmp : ∀ is : Bool, Ev (fun k => spec_Best.j2 k xs zs (j : Int) fr (i : Int) is false a r prt d.f0 d.f1 d.f2) (idOf (if is = fr ∧ lighter r d q then bestFrom r prt zs (some d) fr t else bestFrom r prt zs (some q) fr t)) := by
    intro is
    refine Ev.step (f := fun k => if (is == fr) = true then (spec_LoadOf.f k a r d.f0).bind fun t1 => if 0 ≤ (j : Int) then if (j : Int) < (xs.length : Int) then (spec_LoadOf.f k a r q.f0).bind fun t2 => if wrap64 (wrap64 (t1 + 1) * q.f2) < wrap64 (wrap64 (t2 + 1) * d.f2) then spec_Best.l0 k xs zs (i : Int) fr ((i + 1 : Nat) : Int) a r prt else spec_Best.l0 k xs zs (j : Int) fr ((i + 1 : Nat) : Int) a r prt else none else none else spec_Best.l0 k xs zs (j : Int) fr ((i + 1 : Nat) : Int) a r prt) (fun k => by rw [spec_Best.j2, if_neg (by decide), hrd.out, w.out]) ?_
    by_cases e : is = fr
    ·refine Ev.pos (by rw [e, beq_self_eq_true]) (Ev.bind (spec_loadOf_ev a r d.f0 (by omega) (by omega)) (Ev.pos (by omega) (Ev.pos (by omega) (Ev.bind (spec_loadOf_ev a r q.f0 (by omega) (by omega)) ?_))))
     rw [m1.out, m2.out]
     by_cases e2 : lighter r d q
     ·rw [if_pos ⟨e, e2⟩]
      exact Ev.pos e2 (ihd fr)
     ·rw [if_neg (fun hc => e2 hc.2)]
      exact Ev.neg e2 ihq
    ·rw [if_neg (fun hc => e hc.1)]
     exact Ev.neg (by rw [beq_iff_eq]; exact e) ihq
   refine Ev.neg (by omega) ?_
   rw [bestFrom_some c]
   generalize hasI zs d.f1 = hz1 at *
   cases hz1 with
   | true =>
    rw [if_neg (fun hc => by cases hc.1)]
    exact Ev.pos rfl (cmp _)
   | false =>
    refine Ev.neg (by decide) ?_
    cases fr with
    | true =>
     rw [if_neg (fun hc => by cases hc.2)]
     exact cmp _
    | false =>
     rw [if_pos ⟨rfl, rfl⟩]
     exact take _
theorem impl_best_l0 (xs : List S61) (hok : devsOk xs = true) (hN : xs.length ≤ 1048576) (r : List S35) (hr1 : r.length ≤ 1048576) (hr2 : lens r ≤ 1099511627776) (prt zs : List Int) (hp : prt.length ≤ 1048576) (hz : zs.length ≤ 1048576) (a : Int) :
  ∀ (t : List S61) (i : Nat) (b : Option S61) (fr : Bool) (ld y0 y1 y2 : Int), xs.drop i = t → (b = none ∧ y0 = -1 ∨ ∃ q : S61, b = some q ∧ y0 = q.f0 ∧ y1 = q.f1 ∧ y2 = q.f2 ∧ ld = ((loadOf q.f0 r : Nat) : Int) + 1 ∧ q ∈ xs) →
   Ev (fun k => impl_Best.l0 k zs ld fr xs (xs.length : Int) (i : Int) a r prt y0 y1 y2) (idOf (bestFrom r prt zs b fr t))
 | [], i, b, fr, ld, y0, y1, y2, h, hb => by
  have h1 := drop_nil' h
  have e : idOf b = y0 := by
   rcases hb with ⟨rfl, rfl⟩ | ⟨q, rfl, rfl, _⟩ <;> rfl
  refine Ev.step (f := fun _ => some y0) (fun k => by rw [impl_Best.l0, if_neg (by omega)]) ?_
  rw [bestFrom, e]
  exact Ev.now _
 | d :: t, i, b, fr, ld, y0, y1, y2, h, hb => by
  obtain ⟨h1, hd0, h3⟩ := drop_cons' h z61
  have hr : Hd (rd_T61 xs (i : Int) = d) := ⟨rdT_at61 h⟩
  have w : Hd (wrap64 ((i : Int) + 1) = ((i + 1 : Nat) : Int)) := ⟨w64s h1 (by omega)⟩
  have hdm : d ∈ xs := List.mem_of_mem_drop (by rw [h]; exact List.mem_cons_self)
  have hdb := devsFrom_mem xs.length xs none hok d hdm
  have ldd := loadOf_le d.f0 r
  have wd : Hd (wrap64 (((loadOf d.f0 r : Nat) : Int) + 1) = ((loadOf d.f0 r : Nat) : Int) + 1) := ⟨wone (by omega)⟩
  have ih := fun b' fr' ld' y0' y1' y2' hb' => impl_best_l0 xs hok hN r hr1 hr2 prt zs hp hz a t (i + 1) b' fr' ld' y0' y1' y2' h3 hb'
  have ihd := fun fr' => ih (some d) fr' (((loadOf d.f0 r : Nat) : Int) + 1) d.f0 d.f1 d.f2 (Or.inr ⟨d, rfl, rfl, rfl, rfl, rfl, hdm⟩)
  refine Ev.step (f := fun k => (impl_hasInt.f k prt d.f0).bind fun t1 => if t1 = true then impl_Best.l0 k zs ld fr xs (xs.length : Int) ((i + 1 : Nat) : Int) a r prt y0 y1 y2 else (impl_LoadOf.f k a r d.f0).bind fun t2 => (impl_hasInt.f k zs d.f1).bind fun t3 => if y0 < 0 then impl_Best.l0 k zs (wrap64 (t2 + 1)) (!t3) xs (xs.length : Int) ((i + 1 : Nat) : Int) a r prt d.f0 d.f1 d.f2 else if t3 = true then (if ((!t3) == fr) = true then (if wrap64 (wrap64 (t2 + 1) * y2) < wrap64 (ld * d.f2) then impl_Best.l0 k zs (wrap64 (t2 + 1)) (!t3) xs (xs.length : Int) ((i + 1 : Nat) : Int) a r prt d.f0 d.f1 d.f2 else impl_Best.l0 k zs ld fr xs (xs.length : Int) ((i + 1 : Nat) : Int) a r prt y0 y1 y2) else impl_Best.l0 k zs ld fr xs (xs.length : Int) ((i + 1 : Nat) : Int) a r prt y0 y1 y2) else (if fr = true then (if ((!t3) == fr) = true then (if wrap64 (wrap64 (t2 + 1) * y2) < wrap64 (ld * d.f2) then impl_Best.l0 k zs (wrap64 (t2 + 1)) (!t3) xs (xs.length : Int) ((i + 1 : Nat) : Int) a r prt d.f0 d.f1 d.f2 else impl_Best.l0 k zs ld fr xs (xs.length : Int) ((i + 1 : Nat) : Int) a r prt y0 y1 y2) else impl_Best.l0 k zs ld fr xs (xs.length : Int) ((i + 1 : Nat) : Int) a r prt y0 y1 y2) else impl_Best.l0 k zs (wrap64 (t2 + 1)) (!t3) xs (xs.length : Int) ((i + 1 : Nat) : Int) a r prt d.f0 d.f1 d.f2)) (fun k => by rw [impl_Best.l0, if_pos (by omega), if_pos (by omega), if_pos (by omega), hr.out, w.out]) ?_
  refine Ev.bind (hasInt_ev prt d.f0 (by omega)) ?_
  by_cases c : hasI prt d.f0 = true
  ·rw [bestFrom_has c]
   exact Ev.pos c (ih b fr ld y0 y1 y2 hb)
  refine Ev.neg c (Ev.bind (impl_loadOf_ev a r d.f0 (by omega) (by omega)) (Ev.bind (hasInt_ev zs d.f1 (by omega)) ?_))
  rw [wd.out]
  rcases hb with ⟨rfl, rfl⟩ | ⟨q, rfl, rfl, rfl, rfl, rfl, hq⟩
  ·rw [bestFrom_none c]
   exact Ev.pos (by omega) (ihd _)
  ·have hqb := devsFrom_mem xs.length xs none hok q hq
   have lq := loadOf_le q.f0 r
   have ihq := ih (some q) fr (((loadOf q.f0 r : Nat) : Int) + 1) q.f0 q.f1 q.f2 (Or.inr ⟨q, rfl, rfl, rfl, rfl, rfl, hq⟩)
   rw [show wrap64 ((((loadOf d.f0 r : Nat) : Int) + 1) * q.f2) = (((loadOf d.f0 r : Nat) : Int) + 1) * q.f2 from wmul (by omega) (by omega) (by omega), show wrap64 ((((loadOf q.f0 r : Nat) : Int) + 1) * d.f2) = (((loadOf q.f0 r : Nat) : Int) + 1) * d.f2 from wmul (by omega) (by omega) (by omega)]
   refine Ev.neg (by omega) ?_
   rw [bestFrom_some c]
   generalize hasI zs d.f1 = hz1 at *
   cases hz1 with
   | true =>
    rw [if_neg (fun hc => by cases hc.1)]
    refine Ev.pos rfl ?_
    cases fr with
    | true =>
     rw [if_neg (fun hc => by cases hc.1)]
     exact Ev.neg (by decide) ihq
    | false =>
     refine Ev.pos rfl ?_
     by_cases e2 : lighter r d q
     ·rw [if_pos ⟨rfl, e2⟩]
      exact Ev.pos e2 (ihd _)
     ·rw [if_neg (fun hc => e2 hc.2)]
      exact Ev.neg e2 ihq
   | false =>
    refine Ev.neg (by decide) ?_
    cases fr with
    | true =>
     rw [if_neg (fun hc => by cases hc.2)]
     refine Ev.pos rfl (Ev.pos rfl ?_)
     by_cases e2 : lighter r d q
     ·rw [if_pos ⟨rfl, e2⟩]
      exact Ev.pos e2 (ihd _)
     ·rw [if_neg (fun hc => e2 hc.2)]
      exact Ev.neg e2 ihq
    | false =>
     rw [if_pos ⟨rfl, rfl⟩]
     exact Ev.neg (by decide) (ihd _)
def bestOf (r : List S35) (prt : List Int) (l : List S61) : Option S61 := if devsOk l = true then bestFrom r prt (zonesOf prt l) none false l else none
theorem best_ev (a : Int) (r : List S35) (prt : List Int) (l : List S61) (hl : l.length ≤ 1048576) (hr1 : r.length ≤ 1048576) (hr2 : lens r ≤ 1099511627776) (hp : prt.length ≤ 1048576) :
  Ev (fun k => spec_Best.f k a r prt l) (idOf (bestOf r prt l)) ∧ Ev (fun k => impl_Best.f k a r prt l) (idOf (bestOf r prt l)) := by
 obtain ⟨z1, z2⟩ := zones_ev prt l hp hl
 have hz : (zonesOf prt l).length ≤ 1048576 := by
  have := zonesFrom_len l prt []
  rw [List.length_nil, Nat.zero_add] at this
  exact Nat.le_trans this hp
 obtain ⟨d1, d2⟩ := devsOk_ev l (by omega)
 simp only [spec_Best.f, impl_Best.f]
 rw [bestOf]
 refine ⟨Ev.bind z1 ?_, Ev.bind d2 ?_⟩
 ·by_cases c : devsOk l = true
  ·rw [if_pos c]
   exact spec_best_l0 l c hl r hr1 hr2 prt _ hp hz a l 0 none false (-1) rfl (Or.inl ⟨rfl, rfl⟩)
  ·rw [if_neg c]
   have stop : Ev (fun k => spec_Best.j1 k l (zonesOf prt l) (-1) false ((0 : Nat) : Int) false a r prt) (-1) := Ev.step (f := fun _ => some (-1)) (fun k => by rw [spec_Best.j1, if_neg (by decide), if_pos (by omega)]) (Ev.now _)
   by_cases c0 : (0 : Int) < (l.length : Int)
   ·refine Ev.step (f := fun k => (spec_DevsOk.f k l).bind fun t1 => spec_Best.j1 k l (zonesOf prt l) (-1) false ((0 : Nat) : Int) t1 a r prt) (fun k => by rw [spec_Best.l0, if_pos (by omega)]; rfl) (Ev.bind d1 ?_)
    rw [Bool.eq_false_iff.mpr c]
    exact stop
   ·exact Ev.step (f := fun k => spec_Best.j1 k l (zonesOf prt l) (-1) false ((0 : Nat) : Int) false a r prt) (fun k => by rw [spec_Best.l0, if_neg (by omega)]; rfl) stop
 ·by_cases c : devsOk l = true
  ·rw [if_pos c]
   exact Ev.pos c (Ev.bind z2 (impl_best_l0 l c hl r hr1 hr2 prt _ hp hz a l 0 none false 0 (-1) 0 0 rfl (Or.inl ⟨rfl, rfl⟩)))
  ·rw [if_neg c]
   exact Ev.neg c (Ev.now _)
theorem devAt_fst (id : Int) : ∀ l : List S61, (devAt id l).2.2.2 = true → (devAt id l).1 = id
 | [], h => by rw [devAt] at h; cases h
 | d :: t, h => by
  rw [devAt] at h ⊢
  by_cases c : d.f0 = id
  ·rw [if_pos c]; exact c
  ·rw [if_neg c] at h ⊢; exact devAt_fst id t h
abbrev heavier (l : List S61) (ps : List S35) (best id : Int) : Prop := (devAt best l).2.2.2 = true ∧ (devAt id l).2.1 = (devAt best l).2.1 ∧ ((loadOf id ps : Nat) : Int) - ((loadOf best ps : Nat) : Int) ≥ 2
def heavyI (l : List S61) (ps : List S35) (best : Int) : List Int → Nat → Int
 | [], _ => -1
 | id :: t, i => if heavier l ps best id then (i : Int) else heavyI l ps best t (i + 1)
theorem heavyI_is (l : List S61) (ps : List S35) (best : Int) : ∀ (t : List Int) (i : Nat), heavyI l ps best t i = -1 ∨ ((i : Int) ≤ heavyI l ps best t i ∧ heavyI l ps best t i < i + t.length)
 | [], i => .inl rfl
 | id :: t, i => by
  rw [heavyI]
  by_cases c : heavier l ps best id
  ·rw [if_pos c]; right; simp only [List.length_cons]; omega
  ·rw [if_neg c]
   rcases heavyI_is l ps best t (i + 1) with h | h
   ·exact .inl h
   ·right; simp only [List.length_cons]; omega
theorem heavy_impl (l : List S61) (hl : l.length ≤ 1048576) (a : Int) (ps : List S35) (hps : ps.length ≤ 1048576) (hl2 : lens ps ≤ 1099511627776) (best : Int) (xs : List Int) (hN : xs.length ≤ 1048576) : ∀ (t : List Int) (i : Nat), xs.drop i = t →
  Ev (fun k => impl_heavy.l0 k l best (devAt best l).2.2.2 xs (xs.length : Int) (i : Int) a ps (devAt best l).1 (devAt best l).2.1 (devAt best l).2.2.1) (if heavyI l ps best t i = -1 then ((-1 : Int), (-1 : Int)) else (heavyI l ps best t i, best))
 | [], i, h => by
  have h1 := drop_nil' h
  rw [heavyI, if_pos rfl]
  refine Ev.step (f := fun _ => some (-1, -1)) (fun k => ?_) (Ev.now _)
  rw [impl_heavy.l0, if_neg (by omega)]
 | id :: t, i, h => by
  obtain ⟨h1, _, h3⟩ := drop_cons' h 0
  have hr : Hd (rd xs (i : Int) = id) := ⟨rd_at h⟩
  have w : Hd (wrap64 ((i : Int) + 1) = ((i + 1 : Nat) : Int)) := ⟨w64s h1 (by omega)⟩
  have ih := heavy_impl l hl a ps hps hl2 best xs hN t (i + 1) h3
  have d2 := (devAt_ev l id (by omega)).2
  have o1 := impl_loadOf_ev a ps id (by omega) (by omega)
  have o2 := impl_loadOf_ev a ps best (by omega) (by omega)
  have b1 := loadOf_le id ps
  have b2 := loadOf_le best ps
  have ws : Hd (wrap64 (((loadOf id ps : Nat) : Int) - ((loadOf best ps : Nat) : Int)) = ((loadOf id ps : Nat) : Int) - ((loadOf best ps : Nat) : Int)) := ⟨w64 (by omega) (by omega)⟩
  rw [heavyI]
  refine Ev.step (fun k => by rw [impl_heavy.l0, if_pos (by omega), if_pos (by omega), if_pos (by omega), hr.out, w.out]) (Ev.bind d2 ?_)
  by_cases c1 : (devAt best l).2.2.2 = true
  ·refine Ev.pos c1 ?_
   by_cases c2 : (devAt id l).2.1 = (devAt best l).2.1
   ·refine Ev.pos c2 (Ev.bind o1 (Ev.bind o2 ?_))
    rw [ws.out]
    by_cases c3 : ((loadOf id ps : Nat) : Int) - ((loadOf best ps : Nat) : Int) ≥ 2
    ·rw [if_pos (⟨c1, c2, c3⟩ : heavier l ps best id), if_neg (by omega)]
     exact Ev.pos c3 (Ev.now _)
    ·rw [if_neg (fun (q : heavier l ps best id) => c3 q.2.2)]
     exact Ev.neg c3 ih
   ·rw [if_neg (fun (q : heavier l ps best id) => c2 q.2.1)]
    exact Ev.neg c2 ih
  ·rw [if_neg (fun (q : heavier l ps best id) => c1 q.1)]
   exact Ev.neg c1 ih
theorem heavy_spec (l : List S61) (hl : l.length ≤ 1048576) (a : Int) (ps : List S35) (hps : ps.length ≤ 1048576) (hl2 : lens ps ≤ 1099511627776) (best : Int) (xs : List Int) (hN : xs.length ≤ 1048576) (hall : ∀ id ∈ xs, (devAt id l).2.2.2 = true) : ∀ (t : List Int) (i : Nat), xs.drop i = t →
  Ev (fun k => spec_l6Heavy.l0 k l best (devAt best l).2.2.2 (i : Int) a ps xs (devAt best l).1 (devAt best l).2.1 (devAt best l).2.2.1) (heavyI l ps best t i)
 | [], i, h => by
  have h1 := drop_nil' h
  rw [heavyI]
  refine Ev.step (f := fun k => spec_l6Heavy.j1 k l best (devAt best l).2.2.2 (i : Int) false a ps xs (devAt best l).1 (devAt best l).2.1 (devAt best l).2.2.1) (fun k => by rw [spec_l6Heavy.l0, if_neg (by omega)]) ?_
  exact Ev.step (f := fun _ => some (-1)) (fun k => by rw [spec_l6Heavy.j1, if_neg (by simp)]) (Ev.now _)
 | id :: t, i, h => by
  obtain ⟨h1, _, h3⟩ := drop_cons' h 0
  have hr : Hd (rd xs (i : Int) = id) := ⟨rd_at h⟩
  have w : Hd (wrap64 ((i : Int) + 1) = ((i + 1 : Nat) : Int)) := ⟨w64s h1 (by omega)⟩
  have ih := heavy_spec l hl a ps hps hl2 best xs hN hall t (i + 1) h3
  have d1 := (devAt_ev l id (by omega)).1
  have hid := hall id (List.mem_of_mem_drop (by rw [h]; exact List.mem_cons_self))
  have hf := devAt_fst id l hid
  have o1 := spec_loadOf_ev a ps id (by omega) (by omega)
  have o2 := spec_loadOf_ev a ps best (by omega) (by omega)
  have b1 := loadOf_le id ps
  have b2 := loadOf_le best ps
  have ws : Hd (wrap64 (((loadOf id ps : Nat) : Int) - ((loadOf best ps : Nat) : Int)) = ((loadOf id ps : Nat) : Int) - ((loadOf best ps : Nat) : Int)) := ⟨w64 (by omega) (by omega)⟩
  rw [heavyI]
  refine Ev.step (fun k => by rw [spec_l6Heavy.l0, if_pos (by omega)]) ?_
  by_cases c1 : (devAt best l).2.2.2 = true
  ·refine Ev.step (fun k => by rw [spec_l6Heavy.j1, if_pos c1, if_pos (by omega), if_pos (by omega), hr.out, w.out]) (Ev.bind d1 (Ev.pos hid ?_))
   by_cases c2 : (devAt id l).2.1 = (devAt best l).2.1
   ·refine Ev.pos c2 ?_
    rw [hf]
    refine Ev.bind o1 (Ev.bind o2 ?_)
    rw [ws.out]
    by_cases c3 : ((loadOf id ps : Nat) : Int) - ((loadOf best ps : Nat) : Int) ≥ 2
    ·rw [if_pos (⟨c1, c2, c3⟩ : heavier l ps best id)]
     exact Ev.pos c3 (Ev.now _)
    ·rw [if_neg (fun q => c3 q.2.2)]
     exact Ev.neg c3 ih
   ·rw [if_neg (fun q => c2 q.2.1)]
    exact Ev.neg c2 ih
  ·have hz : ∀ (s : List Int) (j : Nat), heavyI l ps best s j = -1 := fun s => by
    induction s with
    | nil => intro j; rw [heavyI]
    | cons x s ihs => intro j; rw [heavyI, if_neg (fun q => c1 q.1)]; exact ihs _
   rw [if_neg (fun q => c1 q.1), hz]
   exact Ev.step (f := fun _ => some (-1)) (fun k => by rw [spec_l6Heavy.j1, if_neg c1]) (Ev.now _)
def moveOf (l : List S61) (ps : List S35) (p : List Int) : Int × Int :=
 if lostI l p 0 ≥ 0 then (lostI l p 0, idOf (bestOf ps (p.take (lostI l p 0).toNat ++ p.drop (lostI l p 0 + 1).toNat) l)) else (heavyI l ps (idOf (bestOf ps p l)) p 0, idOf (bestOf ps p l))
def moveAll (l : List S61) : List S35 → List S35 → Nat → List S35 × Nat
 | A, [], n => (A, n)
 | A, p :: t, n => if (moveOf l (A ++ p :: t) p.f0).1 ≥ 0 ∧ (moveOf l (A ++ p :: t) p.f0).2 ≥ 0 then moveAll l (A ++ [⟨p.f0.set (moveOf l (A ++ p :: t) p.f0).1.toNat (moveOf l (A ++ p :: t) p.f0).2⟩]) t (n + 1) else moveAll l (A ++ [p]) t n
theorem move_l0 (l : List S61) (hl : l.length ≤ 1048576) (a : Int) : ∀ (t A : List S35) (n : Nat), (A ++ t).length ≤ 64 → n ≤ A.length → (∀ p ∈ A ++ t, p.f0.length ≤ 5) →
  Ev (fun k => impl_Rebalance.l0 k l (n : Int) ((A ++ t).length : Int) (A.length : Int) a (A ++ t)) (a, (moveAll l A t n).1, ((moveAll l A t n).2 : Int)) ∧ Ev (fun k => spec_Rebalance.l0 k l (n : Int) (A.length : Int) a (A ++ t)) (a, (moveAll l A t n).1, ((moveAll l A t n).2 : Int))
 | [], A, n, hN, hn, hx => by
  rw [moveAll, List.append_nil]
  refine ⟨Ev.step (f := fun _ => some (a, A, (n : Int))) (fun k => ?_) (Ev.now _), Ev.step (f := fun _ => some (a, A, (n : Int))) (fun k => ?_) (Ev.now _)⟩
  ·rw [impl_Rebalance.l0, if_neg (by omega)]
  ·rw [spec_Rebalance.l0, if_neg (by omega)]
 | p :: t, A, n, hN, hn, hx => by
  have hN' := hN
  simp only [List.length_append, List.length_cons] at hN'
  have hp := hx p (by simp)
  have hrd : Hd (rd_T35 (A ++ p :: t) (A.length : Int) = p) := ⟨rdT_at35 (by rw [List.drop_left])⟩
  have w : Hd (wrap64 ((A.length : Int) + 1) = ((A.length + 1 : Nat) : Int)) := ⟨w64 (by omega) (by omega)⟩
  have wn : Hd (wrap64 ((n : Int) + 1) = ((n + 1 : Nat) : Int)) := ⟨w64 (by omega) (by omega)⟩
  have hl2 : lens (A ++ p :: t) ≤ 1099511627776 := by have := lens_le 5 _ hx; omega
  have hset : ∀ q : S35, (A ++ p :: t).set ((A.length : Int)).toNat q = (A ++ [q]) ++ t := fun q => by rw [Int.toNat_natCast]; exact set_mid A p q t
  have hlen : ∀ q : S35, ((A ++ [q]) ++ t).length = (A ++ p :: t).length := fun q => by simp
  have hmem : ∀ q : S35, q.f0.length ≤ 5 → ∀ x ∈ (A ++ [q]) ++ t, x.f0.length ≤ 5 := fun q hq x hx' => by
   simp only [List.append_assoc, List.mem_append, List.mem_cons, List.not_mem_nil, or_false] at hx'
   rcases hx' with h | rfl | h
   ·exact hx x (by simp [h])
   ·exact hq
   ·exact hx x (by simp [h])
  have stay := move_l0 l hl a t (A ++ [p]) n (by rw [hlen]; exact hN) (by simp; omega) (hmem p hp)
  have go := fun (q : S35) (hq : q.f0.length ≤ 5) => move_l0 l hl a t (A ++ [q]) (n + 1) (by rw [hlen]; exact hN) (by simp; omega) (hmem q hq)
  have ea : (A ++ [p]) ++ t = A ++ p :: t := by simp
  have eb : ∀ q : S35, ((A ++ [q]).length : Int) = ((A.length + 1 : Nat) : Int) := fun q => by simp
  rw [ea, eb] at stay
  obtain ⟨s1, s2⟩ := stay
  have go1 : ∀ q : S35, q.f0.length ≤ 5 → Ev (fun k => impl_Rebalance.l0 k l ((n + 1 : Nat) : Int) ((A ++ p :: t).length : Int) ((A.length + 1 : Nat) : Int) a ((A ++ p :: t).set ((A.length : Int)).toNat q)) (a, (moveAll l (A ++ [q]) t (n + 1)).1, ((moveAll l (A ++ [q]) t (n + 1)).2 : Int)) := fun q hq => by
   have := (go q hq).1
   rw [eb, hlen] at this
   rw [hset]; exact this
  have go2 : ∀ q : S35, q.f0.length ≤ 5 → Ev (fun k => spec_Rebalance.l0 k l ((n + 1 : Nat) : Int) ((A.length + 1 : Nat) : Int) a ((A ++ p :: t).set ((A.length : Int)).toNat q)) (a, (moveAll l (A ++ [q]) t (n + 1)).1, ((moveAll l (A ++ [q]) t (n + 1)).2 : Int)) := fun q hq => by
   have := (go q hq).2
   rw [eb] at this
   rw [hset]; exact this
  obtain ⟨l1, l2⟩ := lost_ev l hl p.f0 (by omega)
  have his := lostI_is l p.f0 0
  rw [moveAll]
  unfold moveOf
  by_cases c1 : lostI l p.f0 0 ≥ 0
  ·have hlt : lostI l p.f0 0 < p.f0.length := by rcases his with h | h <;> omega
   simp only [if_pos c1]
   generalize lostI l p.f0 0 = j at *
   have wj : Hd (wrap64 (j + 1) = j + 1) := ⟨w64 (by omega) (by omega)⟩
   have ht : (p.f0.take j.toNat).length ≤ 5 := by rw [List.length_take]; omega
   have hd : (p.f0.drop (j + 1).toNat).length ≤ 5 := by rw [List.length_drop]; omega
   obtain ⟨b1, b2⟩ := best_ev a (A ++ p :: t) (p.f0.take j.toNat ++ p.f0.drop (j + 1).toNat) l hl (by omega) hl2 (by rw [List.length_append]; omega)
   generalize idOf (bestOf (A ++ p :: t) (p.f0.take j.toNat ++ p.f0.drop (j + 1).toNat) l) = tq at *
   refine ⟨Ev.step (fun k => by rw [impl_Rebalance.l0, if_pos (by simp only [List.length_append, List.length_cons]; omega), if_pos (by omega), if_pos (by simp only [List.length_append, List.length_cons]; omega), hrd.out, w.out, wn.out]) (Ev.bind l1 (Ev.pos c1 ?_)), Ev.step (fun k => by rw [spec_Rebalance.l0, if_pos (by simp only [List.length_append, List.length_cons]; omega), if_pos (by omega), hrd.out, w.out, wn.out]) (Ev.bind l2 (Ev.pos c1 (Ev.some_bind ?_)))⟩
   ·refine Ev.pos c1 (Ev.pos (by omega) ?_)
    refine Ev.got (copyInts_eq _ (by omega)) ?_
    rw [wj.out]
    refine Ev.pos (by omega) (Ev.pos (by omega) (Ev.some_bind ?_))
    refine Ev.pos (by omega) (Ev.bind b2 ?_)
    by_cases c2 : tq ≥ 0
    ·rw [if_pos ⟨c1, c2⟩]
     exact Ev.pos c2 (Ev.pos hlt (go1 _ (by simp only [List.length_set]; omega)))
    ·rw [if_neg (fun q => c2 q.2)]
     exact Ev.neg c2 s1
   ·refine Ev.pos c1 (Ev.pos (by omega) (Ev.some_bind ?_))
    refine Ev.pos (by simp only [List.length_nil]; omega) (Ev.some_bind ?_)
    rw [wj.out, List.nil_append]
    refine Ev.pos (by omega) (Ev.pos (by omega) (Ev.some_bind ?_))
    refine Ev.pos (by omega) (Ev.bind b1 ?_)
    by_cases c2 : tq ≥ 0
    ·rw [if_pos ⟨c1, c2⟩]
     exact Ev.pos c2 (Ev.pos hlt (go2 _ (by simp only [List.length_set]; omega)))
    ·rw [if_neg (fun q => c2 q.2)]
     exact Ev.neg c2 s2
  ·have hall : ∀ id ∈ p.f0, (devAt id l).2.2.2 = true := by
    rcases his with h | h
    ·exact h.2
    ·omega
   simp only [if_neg c1]
   obtain ⟨b1, b2⟩ := best_ev a (A ++ p :: t) p.f0 l hl (by omega) hl2 (by omega)
   generalize idOf (bestOf (A ++ p :: t) p.f0 l) = best at *
   have v1 := heavy_impl l hl a (A ++ p :: t) (by omega) hl2 best p.f0 (by omega) p.f0 0 rfl
   have v2 := heavy_spec l hl a (A ++ p :: t) (by omega) hl2 best p.f0 (by omega) hall p.f0 0 rfl
   have hh := heavyI_is l (A ++ p :: t) best p.f0 0
   obtain ⟨e1, e2⟩ := devAt_ev l best (by omega)
   have u1 : Ev (fun k => impl_heavy.f k a (A ++ p :: t) p.f0 l) (if heavyI l (A ++ p :: t) best p.f0 0 = -1 then ((-1 : Int), (-1 : Int)) else (heavyI l (A ++ p :: t) best p.f0 0, best)) := by
    simp only [impl_heavy.f]
    exact Ev.bind b2 (Ev.bind e2 v1)
   have u2 : Ev (fun k => spec_l6Heavy.f k a (A ++ p :: t) p.f0 l best) (heavyI l (A ++ p :: t) best p.f0 0) := by
    simp only [spec_l6Heavy.f]
    exact Ev.bind e1 v2
   generalize heavyI l (A ++ p :: t) best p.f0 0 = j at *
   refine ⟨Ev.step (fun k => by rw [impl_Rebalance.l0, if_pos (by simp only [List.length_append, List.length_cons]; omega), if_pos (by omega), if_pos (by simp only [List.length_append, List.length_cons]; omega), hrd.out, w.out, wn.out]) (Ev.bind l1 (Ev.neg c1 (Ev.bind u1 ?_))), Ev.step (fun k => by rw [spec_Rebalance.l0, if_pos (by simp only [List.length_append, List.length_cons]; omega), if_pos (by omega), hrd.out, w.out, wn.out]) (Ev.bind l2 (Ev.neg c1 (Ev.bind b1 (Ev.bind u2 ?_))))⟩
   ·by_cases c2 : j = -1
    ·rw [if_pos c2, if_neg (fun q => by omega)]
     exact Ev.neg (by simp) s1
    ·rw [if_neg c2]
     have hj : 0 ≤ j ∧ j < p.f0.length := by rcases hh with h | h <;> omega
     refine Ev.pos hj.1 ?_
     by_cases c3 : best ≥ 0
     ·rw [if_pos ⟨hj.1, c3⟩]
      exact Ev.pos c3 (Ev.pos hj.1 (Ev.pos hj.2 (go1 _ (by simp only [List.length_set]; omega))))
     ·rw [if_neg (fun q => c3 q.2)]
      exact Ev.neg c3 s1
   ·by_cases c2 : j ≥ 0
    ·have hj : j < p.f0.length := by rcases hh with h | h <;> omega
     refine Ev.pos c2 ?_
     by_cases c3 : best ≥ 0
     ·rw [if_pos ⟨c2, c3⟩]
      exact Ev.pos c3 (Ev.pos c2 (Ev.pos hj (go2 _ (by simp only [List.length_set]; omega))))
     ·rw [if_neg (fun q => c3 q.2)]
      exact Ev.neg c3 s2
    ·rw [if_neg (fun q => c2 q.1)]
     exact Ev.neg c2 s2
def rebOf (a : Int) (ps : List S35) (l : List S61) : Int × List S35 × Int := if mayMove a ps l = true then (a, (moveAll l [] ps 0).1, ((moveAll l [] ps 0).2 : Int)) else (a, ps, -1)
theorem reb_ev (a : Int) (ps : List S35) (l : List S61) (hl : l.length ≤ 1048576) (hN : ps.length ≤ 1048576) (hx : ∀ x ∈ ps, x.f0.length ≤ 1048576) : Ev (fun k => impl_Rebalance.f k a ps l) (rebOf a ps l) ∧ Ev (fun k => spec_Rebalance.f k a ps l) (rebOf a ps l) := by
 obtain ⟨c1, c2⟩ := copyRing_ev a ps hN hx
 obtain ⟨m1, m2⟩ := mayMove_ev a ps l hl hN hx
 simp only [impl_Rebalance.f, spec_Rebalance.f]
 unfold rebOf
 by_cases c : mayMove a ps l = true
 ·obtain ⟨_, y1, y2⟩ := mayMove_is a ps l c
  obtain ⟨r1, r2⟩ := move_l0 l hl a ps [] 0 y1 (by simp) y2
  rw [if_pos c]
  exact ⟨Ev.bind c1 (Ev.bind m1 (Ev.pos c r1)), Ev.bind c2 (Ev.bind m2 (Ev.pos c r2))⟩
 ·rw [if_neg c]
  exact ⟨Ev.bind c1 (Ev.bind m1 (Ev.neg c (Ev.now _))), Ev.bind c2 (Ev.bind m2 (Ev.neg c (Ev.now _)))⟩
def movP (ys : List Int) : List Int → Nat
 | [] => 0
 | a :: t => (if hasI ys a = true then 0 else 1) + movP ys t
def movL : List S35 → List S35 → Nat
 | p :: s, q :: t => movP q.f0 p.f0 + movL s t
 | _, _ => 0
theorem movP_le (ys : List Int) : ∀ l : List Int, movP ys l ≤ l.length
 | [] => Nat.le_refl _
 | a :: t => by
  have := movP_le ys t
  rw [movP, List.length_cons]
  split <;> omega
theorem impl_moved_l1 (ps qs : List S35) (xs : List Int) (q : S35) (ra rb : Int) (i : Nat) (hj : i < qs.length) (hq : rd_T35 qs (i : Int) = q)
  (hN : xs.length ≤ 4611686018427387904) (hM : q.f0.length ≤ 4611686018427387904) (r : Int) :
  ∀ (l : List Int) (j : Nat) (n : Nat), xs.drop j = l → n + l.length ≤ 4611686018427387904 → Ev (fun k => impl_Moved.l0 k ((n + movP q.f0 l : Nat) : Int) (wrap64 ((i : Int) + 1)) ra ps rb qs) r → Ev (fun k => impl_Moved.l1 k (n : Int) (i : Int) xs (xs.length : Int) (j : Int) ra ps rb qs) r
 | [], j, n, h, hn, hr => by
  have h1 := drop_nil' h
  refine Ev.step (fun k => ?_) hr
  rw [impl_Moved.l1, if_neg (by omega)]
  rfl
 | a :: t, j, n, h, hn, hr => by
  obtain ⟨h1, _, h3⟩ := drop_cons' h 0
  rw [List.length_cons] at hn
  have hrd : Hd (rd xs (j : Int) = a) := ⟨rd_at h⟩
  have w : Hd (wrap64 ((j : Int) + 1) = ((j + 1 : Nat) : Int)) := ⟨w64s h1 hN⟩
  have wn : Hd (wrap64 ((n : Int) + 1) = ((n + 1 : Nat) : Int)) := ⟨w64s (n := n + 1) (by omega) (by omega)⟩
  refine Ev.step (f := fun k => (impl_hasInt.f k q.f0 a).bind fun t1 => if t1 = true then impl_Moved.l1 k (n : Int) (i : Int) xs (xs.length : Int) ((j + 1 : Nat) : Int) ra ps rb qs else impl_Moved.l1 k ((n + 1 : Nat) : Int) (i : Int) xs (xs.length : Int) ((j + 1 : Nat) : Int) ra ps rb qs) (fun k => ?_) ?_
  ·rw [impl_Moved.l1, if_pos (by omega), if_pos (by omega), if_pos (by omega), if_pos (by omega), if_pos (by omega), hq, hrd.out, w.out, wn.out]
  ·refine Ev.bind (hasInt_ev q.f0 a hM) ?_
   by_cases c : hasI q.f0 a = true
   ·rw [movP, if_pos c, Nat.zero_add] at hr
    exact Ev.pos c (impl_moved_l1 ps qs xs q ra rb i hj hq hN hM r t (j + 1) n h3 (by omega) hr)
   ·rw [movP, if_neg c] at hr
    exact Ev.neg c (impl_moved_l1 ps qs xs q ra rb i hj hq hN hM r t (j + 1) (n + 1) h3 (by omega) (by rw [show n + 1 + movP q.f0 t = n + (1 + movP q.f0 t) by omega]; exact hr))
theorem impl_moved_l0 (ps qs : List S35) (ra rb : Int) (hN : ps.length ≤ 4611686018427387904) (hM : ∀ x ∈ qs, x.f0.length ≤ 4611686018427387904) : ∀ (l m : List S35) (i n : Nat), ps.drop i = l → qs.drop i = m → n + lens l ≤ 4611686018427387904 → Ev (fun k => impl_Moved.l0 k (n : Int) (i : Int) ra ps rb qs) ((n + movL l m : Nat) : Int)
 | [], m, i, n, h, hm, hn => by
  have h1 := drop_nil' h
  refine Ev.step (f := fun k => impl_Moved.j1 k (n : Int) (i : Int) false ra ps rb qs) (fun k => ?_) (Ev.step (f := fun _ => some (n : Int)) (fun k => ?_) (Ev.eq (Ev.now _) (by cases m <;> rfl)))
  ·rw [impl_Moved.l0, if_neg (by omega)]
  ·rw [impl_Moved.j1, if_neg (by decide)]
 | p :: s, [], i, n, h, hm, hn => by
  obtain ⟨h1, _, _⟩ := drop_cons' h z35
  have h2 := drop_nil' hm
  refine Ev.step (f := fun k => impl_Moved.j1 k (n : Int) (i : Int) false ra ps rb qs) (fun k => ?_) (Ev.step (f := fun _ => some (n : Int)) (fun k => ?_) (Ev.now _))
  ·rw [impl_Moved.l0, if_pos (by omega), decide_eq_false (by omega)]
  ·rw [impl_Moved.j1, if_neg (by decide)]
 | p :: s, q :: t, i, n, h, hm, hn => by
  obtain ⟨h1, _, h3⟩ := drop_cons' h z35
  obtain ⟨g1, _, g3⟩ := drop_cons' hm z35
  rw [lens] at hn
  have hc := movP_le q.f0 p.f0
  have ih := impl_moved_l0 ps qs ra rb hN hM s t (i + 1) (n + movP q.f0 p.f0) h3 g3 (by omega)
  have hr : Ev (fun k => impl_Moved.l1 k (n : Int) (i : Int) p.f0 (p.f0.length : Int) ((0 : Nat) : Int) ra ps rb qs) ((n + movL (p :: s) (q :: t) : Nat) : Int) :=
   impl_moved_l1 ps qs p.f0 q ra rb i g1 (rdT_at35 hm) (by omega) (hM q (List.mem_of_mem_drop (by rw [hm]; exact List.mem_cons_self))) _ p.f0 0 n rfl (by omega) (by rw [w64s h1 hN, movL, ← Nat.add_assoc]; exact ih)
  refine Ev.step (f := fun k => impl_Moved.j1 k (n : Int) (i : Int) true ra ps rb qs) (fun k => ?_) (Ev.step (fun k => ?_) hr)
  ·rw [impl_Moved.l0, if_pos (by omega), decide_eq_true (by omega)]
  ·rw [impl_Moved.j1, if_pos rfl, if_pos (by omega), if_pos (by omega), rdT_at35 h]; rfl
theorem moved_impl (ra rb : Int) (ps qs : List S35) (hN : ps.length ≤ 4611686018427387904) (hM : ∀ x ∈ qs, x.f0.length ≤ 4611686018427387904) (hl : lens ps ≤ 4611686018427387904) : Ev (fun k => impl_Moved.f k ra ps rb qs) ((movL ps qs : Nat) : Int) := by
 have h2 := impl_moved_l0 ps qs ra rb hN hM ps qs 0 0 rfl rfl (by omega)
 rw [Nat.zero_add] at h2
 exact h2
def allIn (l : List S61) : List Int → Bool
 | [] => true
 | id :: t => if (devAt id l).2.2.2 = true then allIn l t else false
def partsOk (reps : Int) (l : List S61) : List S35 → Bool
 | [] => true
 | p :: t => if (p.f0.length : Int) = reps ∧ apartI p.f0 = true then (if allIn l p.f0 = true then partsOk reps l t else false) else false
theorem spec_ring_l1 (l : List S61) (hl : l.length ≤ 4611686018427387904) (ps : List S35) (p : S35) (reps : Int) (i : Nat) (hi : i < ps.length) (hp : rd_T35 ps (i : Int) = p) (hN : p.f0.length ≤ 4611686018427387904) (r : Bool) (hr : Ev (fun k => spec_RingOk.l0 k l (wrap64 ((i : Int) + 1)) reps ps) r) :
  ∀ (t : List Int) (j : Nat), p.f0.drop j = t → Ev (fun k => spec_RingOk.l1 k l (i : Int) (j : Int) reps ps) (if allIn l t = true then r else false)
 | [], j, h => by
  have h1 := drop_nil' h
  refine Ev.step (fun k => ?_) hr
  rw [spec_RingOk.l1, if_pos (by omega), if_pos (by omega), hp, if_neg (by omega)]
 | a :: t, j, h => by
  obtain ⟨h1, _, h3⟩ := drop_cons' h 0
  have hrd : Hd (rd p.f0 (j : Int) = a) := ⟨rd_at h⟩
  have w : Hd (wrap64 ((j : Int) + 1) = ((j + 1 : Nat) : Int)) := ⟨w64s h1 hN⟩
  have ih := spec_ring_l1 l hl ps p reps i hi hp hN r hr t (j + 1) h3
  refine Ev.step (f := fun k => (spec_DevAt.f k l a).bind fun b => if b.2.2.2 = true then spec_RingOk.l1 k l (i : Int) ((j + 1 : Nat) : Int) reps ps else some false) (fun k => ?_) (Ev.bind (devAt_ev l a hl).1 ?_)
  ·rw [spec_RingOk.l1, if_pos (by omega), if_pos (by omega), hp, if_pos (by omega), if_pos (by omega), hrd.out, w.out]
  ·rw [allIn]
   by_cases c : (devAt a l).2.2.2 = true
   ·rw [if_pos c]; exact Ev.pos c ih
   ·rw [if_neg c]; exact Ev.neg c (Ev.now _)
theorem impl_ring_l1 (l : List S61) (hl : l.length ≤ 4611686018427387904) (ps : List S35) (xs : List Int) (reps n i : Int) (hN : xs.length ≤ 4611686018427387904) (r : Bool) (hr : Ev (fun k => impl_RingOk.l0 k l ps n (wrap64 (i + 1)) reps ps) r) :
  ∀ (t : List Int) (j : Nat), xs.drop j = t → Ev (fun k => impl_RingOk.l1 k l ps n i xs (xs.length : Int) (j : Int) reps ps) (if allIn l t = true then r else false)
 | [], j, h => by
  have h1 := drop_nil' h
  refine Ev.step (fun k => ?_) hr
  rw [impl_RingOk.l1, if_neg (by omega)]
 | a :: t, j, h => by
  obtain ⟨h1, _, h3⟩ := drop_cons' h 0
  have hrd : Hd (rd xs (j : Int) = a) := ⟨rd_at h⟩
  have w : Hd (wrap64 ((j : Int) + 1) = ((j + 1 : Nat) : Int)) := ⟨w64s h1 hN⟩
  have ih := impl_ring_l1 l hl ps xs reps n i hN r hr t (j + 1) h3
  refine Ev.step (f := fun k => (impl_DevAt.f k l a).bind fun b => if b.2.2.2 = true then impl_RingOk.l1 k l ps n i xs (xs.length : Int) ((j + 1 : Nat) : Int) reps ps else some false) (fun k => ?_) (Ev.bind (devAt_ev l a hl).2 ?_)
  ·rw [impl_RingOk.l1, if_pos (by omega), if_pos (by omega), if_pos (by omega), hrd.out, w.out]
  ·rw [allIn]
   by_cases c : (devAt a l).2.2.2 = true
   ·rw [if_pos c]; exact Ev.pos c ih
   ·rw [if_neg c]; exact Ev.neg c (Ev.now _)
theorem ring_l0 (l : List S61) (hl : l.length ≤ 4611686018427387904) (ps : List S35) (reps : Int) (hN : ps.length ≤ 4611686018427387904) (hx : ∀ x ∈ ps, x.f0.length ≤ 4611686018427387904) : ∀ (t : List S35) (i : Nat), ps.drop i = t →
  Ev (fun k => spec_RingOk.l0 k l (i : Int) reps ps) (partsOk reps l t) ∧ Ev (fun k => impl_RingOk.l0 k l ps (ps.length : Int) (i : Int) reps ps) (partsOk reps l t)
 | [], i, h => by
  have h1 := drop_nil' h
  refine ⟨Ev.step (f := fun _ => some true) (fun k => ?_) (Ev.now _), Ev.step (f := fun _ => some true) (fun k => ?_) (Ev.now _)⟩
  ·rw [spec_RingOk.l0, if_neg (by omega)]
  ·rw [impl_RingOk.l0, if_neg (by omega)]
 | p :: t, i, h => by
  obtain ⟨h1, _, h3⟩ := drop_cons' h z35
  have hrd : Hd (rd_T35 ps (i : Int) = p) := ⟨rdT_at35 h⟩
  have hp : p.f0.length ≤ 4611686018427387904 := hx p (List.mem_of_mem_drop (by rw [h]; exact List.mem_cons_self))
  obtain ⟨i1, i2⟩ := ring_l0 l hl ps reps hN hx t (i + 1) h3
  have w : wrap64 ((i : Int) + 1) = ((i + 1 : Nat) : Int) := w64s h1 hN
  have j1 := spec_ring_l1 l hl ps p reps i h1 hrd.out hp _ (by rw [w]; exact i1) p.f0 0 rfl
  have j2 := impl_ring_l1 l hl ps p.f0 reps (ps.length : Int) (i : Int) hp _ (by rw [w]; exact i2) p.f0 0 rfl
  clear w
  rw [partsOk]
  refine ⟨Ev.step (f := fun k => (spec_l5Part.f k p.f0 reps).bind fun t1 => if t1 = true then spec_RingOk.l1 k l (i : Int) 0 reps ps else some false) (fun k => ?_) (Ev.bind (l5Part_ev p.f0 reps hp) ?_), ?_⟩
  ·rw [spec_RingOk.l0, if_pos (by omega), if_pos (by omega), hrd.out]
  ·by_cases c : (p.f0.length : Int) = reps ∧ apartI p.f0 = true
   ·rw [if_pos c]; exact Ev.pos (by rw [c.2, c.1]; simp) j1
   ·rw [if_neg c]
    refine Ev.neg (fun hc => c ?_) (Ev.now _)
    rw [Bool.and_eq_true, beq_iff_eq] at hc
    exact ⟨hc.2, hc.1⟩
  ·by_cases c0 : (p.f0.length : Int) = reps
   ·refine Ev.step (f := fun k => (impl_apart.f k p.f0).bind fun t1 => impl_RingOk.j2 k l ps (ps.length : Int) (i : Int) (!t1) reps ps p.f0) (fun k => ?_) (Ev.bind (apart_ev p.f0 hp) ?_)
    ·rw [impl_RingOk.l0, if_pos (by omega), if_pos (by omega), if_pos (by omega), hrd.out, if_pos c0]
    ·by_cases c1 : apartI p.f0 = true
     ·rw [if_pos ⟨c0, c1⟩, c1]
      exact Ev.step (fun k => by rw [impl_RingOk.j2, if_neg (by decide)]; rfl) j2
     ·rw [if_neg (fun hc => c1 hc.2), Bool.eq_false_iff.mpr c1]
      exact Ev.step (f := fun _ => some false) (fun k => by rw [impl_RingOk.j2, if_pos (by decide)]) (Ev.now _)
   ·rw [if_neg (fun hc => c0 hc.1)]
    refine Ev.step (f := fun k => impl_RingOk.j2 k l ps (ps.length : Int) (i : Int) true reps ps p.f0) (fun k => ?_) (Ev.step (f := fun _ => some false) (fun k => by rw [impl_RingOk.j2, if_pos rfl]) (Ev.now _))
    rw [impl_RingOk.l0, if_pos (by omega), if_pos (by omega), if_pos (by omega), hrd.out, if_neg c0]
def ringOk (reps : Int) (ps : List S35) (l : List S61) : Bool := if devsOk l = true ∧ (1 ≤ reps ∧ reps ≤ 5) ∧ (1 ≤ (ps.length : Int) ∧ (ps.length : Int) ≤ 64) then partsOk reps l ps else false
theorem ringOk_ev (reps : Int) (ps : List S35) (l : List S61) (hl : l.length ≤ 4611686018427387904) (hN : ps.length ≤ 4611686018427387904) (hx : ∀ x ∈ ps, x.f0.length ≤ 4611686018427387904) :
  Ev (fun k => spec_RingOk.f k reps ps l) (ringOk reps ps l) ∧ Ev (fun k => impl_RingOk.f k reps ps l) (ringOk reps ps l) := by
 obtain ⟨d1, d2⟩ := devsOk_ev l hl
 obtain ⟨r1, r2⟩ := ring_l0 l hl ps reps hN hx ps 0 rfl
 have n1 : Ev (fun k => spec_RingOk.j0 k l true reps ps) false := Ev.step (f := fun _ => some false) (fun k => by rw [spec_RingOk.j0, if_pos rfl]) (Ev.now _)
 have n2 : Ev (fun k => impl_RingOk.j0 k l true reps ps) false := Ev.step (f := fun _ => some false) (fun k => by rw [impl_RingOk.j0, if_pos rfl]) (Ev.now _)
 simp only [spec_RingOk.f, impl_RingOk.f, l1In_eq, in_eq, Option.bind_some, decide_eq_true_eq]
 unfold ringOk
 refine ⟨Ev.bind d1 ?_, Ev.bind d2 ?_⟩
 ·by_cases c1 : devsOk l = true
  ·refine Ev.pos c1 ?_
   by_cases c2 : 1 ≤ reps ∧ reps ≤ 5
   ·refine Ev.pos c2 ?_
    by_cases c3 : 1 ≤ (ps.length : Int) ∧ (ps.length : Int) ≤ 64
    ·rw [if_pos ⟨c1, c2, c3⟩, decide_eq_true c3]
     exact Ev.step (fun k => by rw [Bool.not_true, spec_RingOk.j0, if_neg (by decide)]; rfl) r1
    ·rw [if_neg (fun hc => c3 hc.2.2), decide_eq_false c3]
     exact n1
   ·rw [if_neg (fun hc => c2 hc.2.1)]
    exact Ev.neg c2 n1
  ·rw [if_neg (fun hc => c1 hc.1)]
   exact Ev.neg c1 n1
 ·by_cases c1 : devsOk l = true
  ·refine Ev.pos c1 ?_
   by_cases c2 : 1 ≤ reps ∧ reps ≤ 5
   ·refine Ev.pos c2 ?_
    by_cases c3 : 1 ≤ (ps.length : Int) ∧ (ps.length : Int) ≤ 64
    ·rw [if_pos ⟨c1, c2, c3⟩, decide_eq_true c3]
     exact Ev.step (fun k => by rw [Bool.not_true, impl_RingOk.j0, if_neg (by decide)]; rfl) r2
    ·rw [if_neg (fun hc => c3 hc.2.2), decide_eq_false c3]
     exact n2
   ·rw [if_neg (fun hc => c2 hc.2.1)]
    exact Ev.neg c2 n2
  ·rw [if_neg (fun hc => c1 hc.1)]
   exact Ev.neg c1 n2
theorem devAt_is (id : Int) : ∀ (l : List S61), (∃ d ∈ l, d.f0 = id) → ∃ d ∈ l, d.f0 = id ∧ devAt id l = (d.f0, d.f1, d.f2, true)
 | [], h => by obtain ⟨d, hd, _⟩ := h; cases hd
 | d :: t, h => by
  by_cases c : d.f0 = id
  ·exact ⟨d, List.mem_cons_self, c, by rw [devAt, if_pos c]⟩
  ·obtain ⟨e, he, ee⟩ := h
   obtain ⟨x, hx, h1, h2⟩ := devAt_is id t ⟨e, by
    rcases List.mem_cons.1 he with rfl | he
    ·exact absurd ee c
    ·exact he, ee⟩
   exact ⟨x, List.mem_cons_of_mem _ hx, h1, by rw [devAt, if_neg c]; exact h2⟩
theorem bestFrom_good (r : List S35) (prt zs : List Int) : ∀ (t : List S61) (b : Option S61) (fr : Bool), (∀ q, b = some q → fr = !hasI zs q.f1) → (b = none → fr = false) →
  (bestFrom r prt zs b fr t = none → b = none ∧ ∀ d ∈ t, hasI prt d.f0 = true) ∧
  (∀ q, bestFrom r prt zs b fr t = some q → (b = some q ∨ (q ∈ t ∧ hasI prt q.f0 = false)) ∧ (hasI zs q.f1 = false ∨ (fr = false ∧ ∀ d ∈ t, hasI prt d.f0 = false → hasI zs d.f1 = true)))
 | [], b, fr, h1, h2 => by
  rw [bestFrom]
  refine ⟨fun h => ⟨h, fun d hd => by cases hd⟩, fun q hq => ⟨Or.inl hq, ?_⟩⟩
  have := h1 q hq
  cases c : hasI zs q.f1 with
  | false => exact Or.inl rfl
  | true => rw [c] at this; exact Or.inr ⟨this, fun d hd => by cases hd⟩
 | d :: t, b, fr, h1, h2 => by
  by_cases c : hasI prt d.f0 = true
  ·rw [bestFrom_has c]
   obtain ⟨i1, i2⟩ := bestFrom_good r prt zs t b fr h1 h2
   refine ⟨fun h => ⟨(i1 h).1, fun x hx => ?_⟩, fun q hq => ?_⟩
   ·rcases List.mem_cons.1 hx with rfl | hx
    ·exact c
    ·exact (i1 h).2 x hx
   ·obtain ⟨j1, j2⟩ := i2 q hq
    refine ⟨j1.imp id (fun j => ⟨List.mem_cons_of_mem _ j.1, j.2⟩), j2.imp id (fun j => ⟨j.1, fun x hx hp => ?_⟩)⟩
    rcases List.mem_cons.1 hx with rfl | hx
    ·rw [c] at hp; cases hp
    ·exact j.2 x hx hp
  have c' := Bool.eq_false_iff.mpr c
  cases b with
  | none =>
   rw [bestFrom_none c]
   obtain ⟨i1, i2⟩ := bestFrom_good r prt zs t (some d) (!hasI zs d.f1) (fun q hq => by injection hq with hq; rw [hq]) (fun h => by cases h)
   refine ⟨fun h => (by cases (i1 h).1), fun q hq => ?_⟩
   obtain ⟨j1, j2⟩ := i2 q hq
   refine ⟨Or.inr ?_, j2.imp id (fun j => ⟨h2 rfl, fun x hx hp => ?_⟩)⟩
   ·rcases j1 with e | j1
    ·injection e with e; subst e; exact ⟨List.mem_cons_self, c'⟩
    ·exact ⟨List.mem_cons_of_mem _ j1.1, j1.2⟩
   ·rcases List.mem_cons.1 hx with rfl | hx
    ·simpa using j.1
    ·exact j.2 x hx hp
  | some q0 =>
   rw [bestFrom_some c]
   by_cases c1 : hasI zs d.f1 = false ∧ fr = false
   ·rw [if_pos c1]
    obtain ⟨i1, i2⟩ := bestFrom_good r prt zs t (some d) true (fun q hq => by injection hq with hq; rw [← hq, c1.1]; rfl) (fun h => by cases h)
    refine ⟨fun h => (by cases (i1 h).1), fun q hq => ?_⟩
    obtain ⟨j1, j2⟩ := i2 q hq
    refine ⟨Or.inr ?_, Or.inl (j2.elim id (fun j => by cases j.1))⟩
    rcases j1 with e | j1
    ·injection e with e; subst e; exact ⟨List.mem_cons_self, c'⟩
    ·exact ⟨List.mem_cons_of_mem _ j1.1, j1.2⟩
   rw [if_neg c1]
   by_cases c2 : (!hasI zs d.f1) = fr ∧ lighter r d q0
   ·rw [if_pos c2]
    obtain ⟨i1, i2⟩ := bestFrom_good r prt zs t (some d) fr (fun q hq => by injection hq with hq; rw [← hq]; exact c2.1.symm) (fun h => by cases h)
    refine ⟨fun h => (by cases (i1 h).1), fun q hq => ?_⟩
    obtain ⟨j1, j2⟩ := i2 q hq
    refine ⟨Or.inr ?_, j2.imp id (fun j => ⟨j.1, fun x hx hp => ?_⟩)⟩
    ·rcases j1 with e | j1
     ·injection e with e; subst e; exact ⟨List.mem_cons_self, c'⟩
     ·exact ⟨List.mem_cons_of_mem _ j1.1, j1.2⟩
    ·rcases List.mem_cons.1 hx with rfl | hx
     ·have h3 := c2.1
      rw [j.1] at h3
      simpa using h3
     ·exact j.2 x hx hp
   ·rw [if_neg c2]
    obtain ⟨i1, i2⟩ := bestFrom_good r prt zs t (some q0) fr h1 (fun h => by cases h)
    refine ⟨fun h => (by cases (i1 h).1), fun q hq => ?_⟩
    obtain ⟨j1, j2⟩ := i2 q hq
    refine ⟨j1.imp id (fun j => ⟨List.mem_cons_of_mem _ j.1, j.2⟩), j2.imp id (fun j => ⟨j.1, fun x hx hp => ?_⟩)⟩
    rcases List.mem_cons.1 hx with rfl | hx
    ·cases e : hasI zs x.f1 with
     | true => rfl
     | false => exact absurd ⟨e, j.1⟩ c1
    ·exact j.2 x hx hp
theorem ringOk_parts2 (reps : Int) (ps : List S35) (l : List S61) (h : ringOk reps ps l = true) : devsOk l = true ∧ (1 ≤ reps ∧ reps ≤ 5) ∧ (1 ≤ (ps.length : Int) ∧ (ps.length : Int) ≤ 64) ∧ partsOk reps l ps = true := by
 unfold ringOk at h
 by_cases c : devsOk l = true ∧ (1 ≤ reps ∧ reps ≤ 5) ∧ (1 ≤ (ps.length : Int) ∧ (ps.length : Int) ≤ 64)
 ·rw [if_pos c] at h
  exact ⟨c.1, c.2.1, c.2.2, h⟩
 ·rw [if_neg c] at h; cases h
theorem apart_of2 : ∀ (t pre : List Int), t.Nodup → (∀ a ∈ t, a ∉ pre) → apartFrom pre t = true
 | [], _, _, _ => by rw [apartFrom]
 | a :: t, pre, h, hp => by
  rw [List.nodup_cons] at h
  rw [apartFrom, if_neg (fun c => hp a List.mem_cons_self ((hasI_iff _ _).1 c))]
  refine apart_of2 t _ h.2 (fun x hx hc => ?_)
  rcases List.mem_append.1 hc with hc | hc
  ·exact hp x (List.mem_cons_of_mem _ hx) hc
  ·rw [List.mem_singleton] at hc
   exact h.1 (by rw [← hc]; exact hx)
theorem apart_nodup : ∀ (t pre : List Int), apartFrom pre t = true → t.Nodup ∧ ∀ a ∈ t, a ∉ pre
 | [], _, _ => ⟨List.nodup_nil, fun a h => by cases h⟩
 | a :: t, pre, h => by
  rw [apartFrom] at h
  by_cases c : hasI pre a = true
  ·rw [if_pos c] at h; cases h
  ·rw [if_neg c] at h
   obtain ⟨h1, h2⟩ := apart_nodup t (pre ++ [a]) h
   refine ⟨List.nodup_cons.2 ⟨fun ha => h2 a ha (by simp), h1⟩, fun x hx => ?_⟩
   rcases List.mem_cons.1 hx with rfl | hx
   ·exact fun hp => c ((hasI_iff _ _).2 hp)
   ·exact fun hp => h2 x hx (by simp [hp])
theorem movP_all (ys : List Int) : ∀ l : List Int, (∀ a ∈ l, a ∈ ys) → movP ys l = 0
 | [], _ => rfl
 | a :: t, h => by rw [movP, if_pos ((hasI_iff _ _).2 (h a List.mem_cons_self)), movP_all ys t (fun x hx => h x (List.mem_cons_of_mem _ hx))]
theorem movP_app (ys b : List Int) : ∀ a : List Int, movP ys (a ++ b) = movP ys a + movP ys b
 | [] => by rw [movP, List.nil_append, Nat.zero_add]
 | x :: a => by rw [List.cons_append, movP, movP, movP_app ys b a, Nat.add_assoc]
theorem one_move (A B : List Int) (x q : Int) (hn : (A ++ x :: B).Nodup) (hq : q ∉ A ++ B) (hx : x ≠ q) : (A ++ q :: B).Nodup ∧ movP (A ++ q :: B) (A ++ x :: B) = 1 := by
 obtain ⟨h1, h2⟩ := List.nodup_cons.1 (List.perm_middle.nodup_iff.1 hn)
 refine ⟨List.perm_middle.nodup_iff.2 (List.nodup_cons.2 ⟨hq, h2⟩), ?_⟩
 have c : ¬ hasI (A ++ q :: B) x = true := fun c => by
  have := (hasI_iff _ _).1 c
  rw [List.mem_append, List.mem_cons] at this
  rcases this with h | h | h
  ·exact h1 (List.mem_append_left _ h)
  ·exact hx h
  ·exact h1 (List.mem_append_right _ h)
 rw [movP_app, movP, movP_all _ A (fun a ha => List.mem_append_left _ ha), movP_all _ B (fun a ha => List.mem_append_right _ (List.mem_cons_of_mem _ ha)), if_neg c]
theorem bestOf_in (ps : List S35) (prt : List Int) (l : List S61) (q : S61) (h : bestOf ps prt l = some q) : q ∈ l ∧ q.f0 ∉ prt ∧ (devAt q.f0 l).2.2.2 = true := by
 unfold bestOf at h
 by_cases c : devsOk l = true
 ·rw [if_pos c] at h
  rcases ((bestFrom_good ps prt (zonesOf prt l) l none false (fun q h => by cases h) (fun _ => rfl)).2 q h).1 with h1 | h1
  ·cases h1
  ·obtain ⟨d, _, _, e⟩ := devAt_is q.f0 l ⟨q, h1.1, rfl⟩
   exact ⟨h1.1, fun hc => (by rw [(hasI_iff _ _).2 hc] at h1; cases h1.2), by rw [e]⟩
 ·rw [if_neg c] at h; cases h
theorem lostI_at (l : List S61) : ∀ (t : List Int) (i : Nat), lostI l t i ≥ 0 → ∃ A x B, t = A ++ x :: B ∧ lostI l t i = ((i + A.length : Nat) : Int) ∧ (devAt x l).2.2.2 = false
 | [], i, h => by rw [lostI] at h; omega
 | id :: t, i, h => by
  rw [lostI] at h ⊢
  by_cases c : (devAt id l).2.2.2 = true
  ·rw [if_pos c] at h ⊢
   obtain ⟨A, x, B, e1, e2, e3⟩ := lostI_at l t (i + 1) h
   exact ⟨id :: A, x, B, by rw [e1]; rfl, by rw [e2, List.length_cons]; omega, e3⟩
  ·rw [if_neg c]
   exact ⟨[], id, t, rfl, rfl, Bool.eq_false_iff.mpr c⟩
theorem split_at : ∀ (p : List Int) (j : Nat), j < p.length → ∃ A x B, p = A ++ x :: B ∧ A.length = j
 | [], j, h => by simp at h
 | a :: t, 0, _ => ⟨[], a, t, rfl, rfl⟩
 | a :: t, j + 1, h => by
  obtain ⟨A, x, B, e1, e2⟩ := split_at t j (by simpa using h)
  exact ⟨a :: A, x, B, by rw [e1]; rfl, by rw [List.length_cons, e2]⟩
theorem moveOf_good (l : List S61) (ps : List S35) (p : List Int) (h : (moveOf l ps p).1 ≥ 0 ∧ (moveOf l ps p).2 ≥ 0) :
  ∃ A x B, p = A ++ x :: B ∧ (moveOf l ps p).1 = (A.length : Int) ∧ (moveOf l ps p).2 ∉ A ++ B ∧ x ≠ (moveOf l ps p).2 ∧ (devAt (moveOf l ps p).2 l).2.2.2 = true := by
 unfold moveOf at h ⊢
 by_cases c : lostI l p 0 ≥ 0
 ·simp only [if_pos c] at h ⊢
  obtain ⟨A, x, B, e1, e2, e3⟩ := lostI_at l p 0 c
  rw [Nat.zero_add] at e2
  have eq : p.take (lostI l p 0).toNat ++ p.drop (lostI l p 0 + 1).toNat = A ++ B := by
   rw [e2, show ((A.length : Int) + 1).toNat = A.length + 1 by omega, Int.toNat_natCast, e1, List.take_left, ← List.drop_drop, List.drop_left]; rfl
  rw [eq] at h ⊢
  cases hb : bestOf ps (A ++ B) l with
  | none => rw [hb, idOf] at h; omega
  | some q =>
   obtain ⟨_, g2, g3⟩ := bestOf_in ps (A ++ B) l q hb
   exact ⟨A, x, B, e1, e2, g2, fun hc => (by rw [hc, show idOf (some q) = q.f0 from rfl, g3] at e3; cases e3), g3⟩
 ·simp only [if_neg c] at h ⊢
  cases hb : bestOf ps p l with
  | none => rw [hb, idOf] at h; omega
  | some q =>
   rw [hb] at h
   obtain ⟨_, g2, g3⟩ := bestOf_in ps p l q hb
   have hh := heavyI_is l ps (idOf (some q)) p 0
   obtain ⟨A, x, B, e1, e2⟩ := split_at p (heavyI l ps (idOf (some q)) p 0).toNat (by omega)
   refine ⟨A, x, B, e1, by omega, fun hc => g2 ?_, fun hc => g2 ?_, g3⟩
   ·rw [e1]; rcases List.mem_append.1 hc with hc | hc
    ·exact List.mem_append_left _ hc
    ·exact List.mem_append_right _ (List.mem_cons_of_mem _ hc)
   ·rw [← show x = q.f0 from hc, e1]; exact List.mem_append_right _ List.mem_cons_self
theorem allIn_iff (l : List S61) : ∀ p : List Int, allIn l p = true ↔ ∀ a ∈ p, (devAt a l).2.2.2 = true
 | [] => ⟨fun _ a h => (by cases h), fun _ => rfl⟩
 | a :: t => by
  rw [allIn]
  by_cases c : (devAt a l).2.2.2 = true
  ·rw [if_pos c, allIn_iff l t]
   refine ⟨fun h x hx => ?_, fun h x hx => h x (List.mem_cons_of_mem _ hx)⟩
   rcases List.mem_cons.1 hx with rfl | hx
   ·exact c
   ·exact h x hx
  ·rw [if_neg c]
   exact ⟨fun h => (by cases h), fun h => absurd (h a List.mem_cons_self) c⟩
def rels (l : List S61) : List S35 → List S35 → Prop
 | [], [] => True
 | p :: s, q :: t => (q.f0.length = p.f0.length ∧ q.f0.Nodup ∧ (allIn l p.f0 = true → allIn l q.f0 = true) ∧ movP q.f0 p.f0 ≤ 1) ∧ rels l s t
 | _, _ => False
theorem moveAll_good (l : List S61) : ∀ (t A : List S35) (n : Nat), (∀ p ∈ t, apartI p.f0 = true) → ∃ R, (moveAll l A t n).1 = A ++ R ∧ rels l t R ∧ (moveAll l A t n).2 = n + movL t R
 | [], A, n, h => ⟨[], by rw [moveAll, List.append_nil], trivial, rfl⟩
 | p :: t, A, n, h => by
  have hp := (apart_nodup p.f0 [] (h p List.mem_cons_self)).1
  have ht := fun x hx => h x (List.mem_cons_of_mem p hx)
  rw [moveAll]
  by_cases c : (moveOf l (A ++ p :: t) p.f0).1 ≥ 0 ∧ (moveOf l (A ++ p :: t) p.f0).2 ≥ 0
  ·obtain ⟨B1, x, B2, e1, e2, e3, e4, e5⟩ := moveOf_good l (A ++ p :: t) p.f0 c
   rw [if_pos c]
   generalize moveOf l (A ++ p :: t) p.f0 = mv at *
   obtain ⟨m1, q⟩ := mv
   dsimp only at *
   rw [e1] at hp
   obtain ⟨o1, o2⟩ := one_move B1 B2 x q hp e3 e4
   have es : p.f0.set m1.toNat q = B1 ++ q :: B2 := by rw [e2, e1, Int.toNat_natCast, set_mid]; simp
   rw [es]
   obtain ⟨R, r1, r2, r3⟩ := moveAll_good l t (A ++ [⟨B1 ++ q :: B2⟩]) (n + 1) ht
   refine ⟨⟨B1 ++ q :: B2⟩ :: R, by rw [r1, List.append_assoc]; rfl, ⟨⟨?_, o1, fun ha => ?_, ?_⟩, r2⟩, ?_⟩
   ·rw [e1]; simp
   ·rw [e1] at ha
    have ha' := (allIn_iff l _).1 ha
    refine (allIn_iff l _).2 (fun z hz => ?_)
    rcases List.mem_append.1 hz with hz | hz
    ·exact ha' z (List.mem_append_left _ hz)
    ·rcases List.mem_cons.1 hz with rfl | hz
     ·exact e5
     ·exact ha' z (List.mem_append_right _ (List.mem_cons_of_mem _ hz))
   ·rw [e1, o2]; exact Nat.le_refl _
   ·rw [r3, movL, e1, o2]; omega
  ·rw [if_neg c]
   obtain ⟨R, r1, r2, r3⟩ := moveAll_good l t (A ++ [p]) n ht
   have z := movP_all p.f0 p.f0 (fun a ha => ha)
   exact ⟨p :: R, by rw [r1, List.append_assoc]; rfl, ⟨⟨rfl, hp, id, by rw [z]; omega⟩, r2⟩, by rw [r3, movL, z]; omega⟩
theorem rels_len (l : List S61) : ∀ s t : List S35, rels l s t → t.length = s.length
 | [], [], _ => rfl
 | [], _ :: _, h => h.elim
 | _ :: _, [], h => h.elim
 | p :: s, q :: t, h => by rw [List.length_cons, List.length_cons, rels_len l s t h.2]
theorem rels_fits (l : List S61) (m : Nat) : ∀ s t : List S35, rels l s t → (∀ x ∈ s, x.f0.length ≤ m) → ∀ x ∈ t, x.f0.length ≤ m
 | [], [], _, _, x, hx => by cases hx
 | [], _ :: _, h, _, _, _ => h.elim
 | _ :: _, [], h, _, _, _ => h.elim
 | p :: s, q :: t, h, hs, x, hx => by
  rcases List.mem_cons.1 hx with rfl | hx
  ·rw [h.1.1]; exact hs p List.mem_cons_self
  ·exact rels_fits l m s t h.2 (fun y hy => hs y (List.mem_cons_of_mem _ hy)) x hx
theorem rels_ok (l : List S61) (a : Int) : ∀ s t : List S35, rels l s t → partsOk a l s = true → partsOk a l t = true
 | [], [], _, _ => rfl
 | [], _ :: _, h, _ => h.elim
 | _ :: _, [], h, _ => h.elim
 | p :: s, q :: t, h, hs => by
  rw [partsOk] at hs ⊢
  by_cases c : (p.f0.length : Int) = a ∧ apartI p.f0 = true
  ·rw [if_pos c] at hs
   by_cases c2 : allIn l p.f0 = true
   ·rw [if_pos c2] at hs
    rw [if_pos ⟨by rw [h.1.1]; exact c.1, apart_of2 q.f0 [] h.1.2.1 (fun a ha hc => by cases hc)⟩, if_pos (h.1.2.2.1 c2)]
    exact rels_ok l a s t h.2 hs
   ·rw [if_neg c2] at hs; cases hs
  ·rw [if_neg c] at hs; cases hs
theorem partsWell_apart (a : Int) : ∀ ps : List S35, partsWell a ps = true → ∀ p ∈ ps, apartI p.f0 = true
 | [], _, p, hp => by cases hp
 | q :: t, h, p, hp => by
  rw [partsWell] at h
  by_cases c : ((q.f0.length : Int) == a) = true
  ·rw [if_pos c] at h
   by_cases c2 : apartI q.f0 = true
   ·rw [if_pos c2] at h
    rcases List.mem_cons.1 hp with rfl | hp
    ·exact c2
    ·exact partsWell_apart a t h p hp
   ·rw [if_neg c2] at h; cases h
  ·rw [if_neg c] at h; cases h
theorem mayMove_parts (reps : Int) (ps : List S35) (l : List S61) (h : mayMove reps ps l = true) : partsWell reps ps = true ∧ 1 ≤ reps ∧ reps ≤ 5 := by
 unfold mayMove at h
 by_cases c1 : devsOk l = true
 ·rw [if_pos c1] at h
  by_cases c2 : (1 ≤ reps ∧ reps ≤ 5)
  ·rw [if_pos c2] at h
   by_cases c3 : reps > (l.length : Int)
   ·rw [if_pos c3] at h; cases h
   ·rw [if_neg c3] at h
    by_cases c4 : (1 ≤ (ps.length : Int) ∧ (ps.length : Int) ≤ 64)
    ·rw [if_pos c4] at h; exact ⟨h, c2⟩
    ·rw [if_neg c4] at h; cases h
  ·rw [if_neg c2] at h; cases h
 ·rw [if_neg c1] at h; cases h
def addDevs (l : List S61) (init : List S35) : Nat → List Int → List Int
 | 0, ds => ds
 | n + 1, ds => addDevs l init n (ds ++ [idOf (bestOf (init ++ [⟨ds⟩]) ds l)])
def addParts (l : List S61) (reps : Nat) : Nat → List S35 → List S35
 | 0, ps => ps
 | n + 1, ps => addParts l reps n (ps ++ [⟨addDevs l ps reps []⟩])
theorem addDevs_len (l : List S61) (init : List S35) : ∀ (n : Nat) (ds : List Int), (addDevs l init n ds).length = ds.length + n
 | 0, _ => rfl
 | n + 1, ds => by rw [addDevs, addDevs_len l init n]; simp; omega
theorem addParts_len (l : List S61) (reps : Nat) : ∀ (n : Nat) (ps : List S35), (∀ x ∈ ps, x.f0.length = reps) → (addParts l reps n ps).length = ps.length + n ∧ ∀ x ∈ addParts l reps n ps, x.f0.length = reps
 | 0, ps, h => ⟨rfl, h⟩
 | n + 1, ps, h => by
  rw [addParts]
  obtain ⟨h1, h2⟩ := addParts_len l reps n (ps ++ [⟨addDevs l ps reps []⟩]) (fun x hx => by
   rcases List.mem_append.1 hx with hx | hx
   ·exact h x hx
   ·rw [List.mem_singleton.1 hx]; dsimp only; rw [addDevs_len]; simp)
  exact ⟨by rw [h1]; simp; omega, h2⟩
theorem rdT_last (init : List S35) (x : S35) : rd_T35 (init ++ [x]) (init.length : Int) = x := by
 unfold rd_T35; rw [Int.toNat_natCast, List.getD_eq_getElem?_getD, List.getElem?_append_right (Nat.le_refl _), Nat.sub_self]; rfl
theorem lens_init {init : List S35} {ds : List Int} (hi : init.length ≤ 64) (hx : ∀ x ∈ init, x.f0.length ≤ 5) (hd : ds.length ≤ 5) : (init ++ [(⟨ds⟩ : S35)]).length ≤ 1048576 ∧ lens (init ++ [(⟨ds⟩ : S35)]) ≤ 1099511627776 := by
 have h1 : (init ++ [(⟨ds⟩ : S35)]).length ≤ 65 := by simp; omega
 have h2 := lens_le 5 (init ++ [(⟨ds⟩ : S35)]) (fun x hx' => by
  rcases List.mem_append.1 hx' with hx' | hx'
  ·exact hx x hx'
  ·rw [List.mem_singleton.1 hx']; exact hd)
 exact ⟨by omega, by omega⟩
theorem build_l1 (l : List S61) (hl : l.length ≤ 1048576) (n rr : Int) (reps : Nat) (hreps : reps ≤ 5) (init : List S35) (hi : init.length ≤ 64) (hx : ∀ x ∈ init, x.f0.length ≤ 5) (R : Int × List S35 × Bool) :
  ∀ (m : Nat) (ds : List Int), ds.length + m = reps → Ev (fun k => spec_Build.l0 k l n (reps : Int) (wrap64 ((init.length : Int) + 1)) rr (init ++ [⟨addDevs l init m ds⟩])) R → Ev (fun k => spec_Build.l1 k l n (reps : Int) (init.length : Int) (ds.length : Int) rr (init ++ [⟨ds⟩])) R
 | 0, ds, h, hr => Ev.step (fun k => by rw [spec_Build.l1, if_neg (by omega)]; rfl) hr
 | m + 1, ds, h, hr => by
  have hrd : Hd (rd_T35 (init ++ [(⟨ds⟩ : S35)]) (init.length : Int) = ⟨ds⟩) := ⟨rdT_last init ⟨ds⟩⟩
  have w : Hd (wrap64 ((ds.length : Int) + 1) = ((ds.length + 1 : Nat) : Int)) := ⟨w64s (n := 6) (by omega) (by omega)⟩
  obtain ⟨q1, q2⟩ := lens_init hi hx (show ds.length ≤ 5 by omega)
  have b := (best_ev rr (init ++ [⟨ds⟩]) ds l hl q1 q2 (by omega)).1
  rw [addDevs] at hr
  have ih := build_l1 l hl n rr reps hreps init hi hx R m (ds ++ [idOf (bestOf (init ++ [⟨ds⟩]) ds l)]) (by simp; omega) hr
  have hlen : ((init.length : Nat) : Int) < ((init ++ [(⟨ds⟩ : S35)]).length : Int) := by rw [List.length_append, List.length_singleton]; omega
  refine Ev.step (f := fun k => (spec_Best.f k rr (init ++ [(⟨ds⟩ : S35)]) ds l).bind fun t => if ds.length < 17592186044416 then spec_Build.l1 k l n (reps : Int) (init.length : Int) ((ds.length + 1 : Nat) : Int) rr ((init ++ [(⟨ds⟩ : S35)]).set (init.length : Int).toNat (⟨ds ++ [t]⟩ : S35)) else none) (fun k => by rw [spec_Build.l1, if_pos (by omega), if_pos (by omega), if_pos hlen, hrd.out, w.out]) (Ev.bind b (Ev.pos (by omega) ?_))
  rw [Int.toNat_natCast, set_mid, List.append_nil]
  rw [List.length_append, List.length_singleton] at ih
  exact ih
theorem build_l0 (l : List S61) (hl : l.length ≤ 1048576) (rr : Int) (reps : Nat) (hreps : reps ≤ 5) (n : Nat) (hn : n ≤ 64) : ∀ (m : Nat) (ps : List S35), ps.length + m = n → (∀ x ∈ ps, x.f0.length ≤ 5) →
  Ev (fun k => spec_Build.l0 k l (n : Int) (reps : Int) (ps.length : Int) rr ps) (rr, addParts l reps m ps, true)
 | 0, ps, h, _ => Ev.step (f := fun _ => some (rr, ps, true)) (fun k => by rw [spec_Build.l0, if_neg (by omega)]) (Ev.now _)
 | m + 1, ps, h, hx => by
  have w : wrap64 ((ps.length : Int) + 1) = ((ps.length + 1 : Nat) : Int) := w64s (n := 64) (by omega) (by omega)
  have ih := build_l0 l hl rr reps hreps n hn m (ps ++ [⟨addDevs l ps reps []⟩]) (by simp; omega) (fun x hx' => by
   rcases List.mem_append.1 hx' with hx' | hx'
   ·exact hx x hx'
   ·rw [List.mem_singleton.1 hx']; dsimp only; rw [addDevs_len]; simp; omega)
  rw [List.length_append, List.length_singleton] at ih
  have i1 := build_l1 l hl (n : Int) rr reps hreps ps (by omega) hx (rr, addParts l reps (m + 1) ps, true) reps [] (by simp) (by rw [w]; exact ih)
  clear w
  exact Ev.step (fun k => by rw [spec_Build.l0, if_pos (by omega), if_pos (by omega)]; rfl) i1
theorem build_ev (l : List S61) (hl : l.length ≤ 1048576) (hok : devsOk l = true) (n reps : Nat) (hn : 1 ≤ n ∧ n ≤ 64) (hr : 1 ≤ reps ∧ reps ≤ 5) (hrl : reps ≤ l.length) :
  Ev (fun k => spec_Build.f k l (n : Int) (reps : Int)) ((reps : Int), addParts l reps n [], true) := by
 simp only [spec_Build.f, l1In_eq, Option.bind_some]
 refine Ev.bind (devsOk_ev l (by omega)).1 (Ev.pos hok ?_)
 refine Ev.pos (by simp; omega) (Ev.pos (by simp; omega) ?_)
 rw [decide_eq_false (show ¬(reps : Int) > (l.length : Int) by omega)]
 exact Ev.step (fun k => by rw [spec_Build.j0, if_neg (by decide)]; rfl) (build_l0 l hl (reps : Int) reps hr.2 n hn.2 n [] (by simp) (by simp))
def Cur (b : List Int) (i : Int) : Prop := b.length ≤ 1048576 ∧ 0 ≤ i ∧ i ≤ b.length
theorem new_l0 (b : List Int) (hN : b.length ≤ 1048576) (d : Nat) : ∀ (i : Nat) (h : Int), i + d = b.length → ∃ h', Ev (fun k => spec_l1New.l0 k b h (i : Int)) (b, 0, h') := by
 induction d with
 | zero =>
  intro i h hd
  refine ⟨h, Ev.step (f := fun _ => some (b, 0, h)) (fun k => ?_) (Ev.now _)⟩
  rw [spec_l1New.l0, if_neg (by omega)]
 | succ d ih =>
  intro i h hd
  by_cases c : (i : Int) < 4000
  ·obtain ⟨h', e⟩ := ih (i + 1) (Go.bits .and .i64 (wrap64 ((wrap64 ((wrap64 (h * 137)) + (wrap64 (rd b i)))) + 11)) 1073741823) (by omega)
   refine ⟨h', Ev.step (fun k => ?_) e⟩
   rw [spec_l1New.l0, if_pos (by omega), if_pos c, if_pos (by omega), w64s (i := i) (n := b.length) (by omega) (by omega)]
  ·refine ⟨h, Ev.step (f := fun _ => some (b, 0, h)) (fun k => ?_) (Ev.now _)⟩
   rw [spec_l1New.l0, if_pos (by omega), if_neg c]
theorem new_ev (b : List Int) (hN : b.length ≤ 1048576) : ∃ h', Ev (fun k => spec_l1New.f k b) (b, 0, h') ∧ Cur b 0 := by
 obtain ⟨h', e⟩ := new_l0 b hN b.length 0 (wrap64 (378378 + (b.length : Int))) (by omega)
 exact ⟨h', e, hN, by omega, by omega⟩
theorem byte_ok (b : List Int) (i h : Int) (hc : Cur b i) : ∃ x i' h', spec_l1Byte.f b i h = some (x, i', h') ∧ 0 ≤ x ∧ x ≤ 255 ∧ Cur b i' := by
 obtain ⟨c1, c2, c3⟩ := hc
 unfold spec_l1Byte.f
 by_cases c : i < (b.length : Int)
 ·rw [if_pos c, if_pos c2]
  refine ⟨_, _, _, rfl, (and255 _).1, (and255 _).2, c1, ?_⟩
  rw [w64 (by omega) (by omega)]
  omega
 ·rw [if_neg c]
  exact ⟨_, _, _, rfl, (and255 _).1, (and255 _).2, c1, c2, c3⟩
theorem tmod_in {x n : Int} (h0 : 0 ≤ x) (hn : 0 < n) : 0 ≤ Int.tmod x n ∧ Int.tmod x n < n := by
 rw [Int.tmod_eq_emod_of_nonneg h0]
 exact ⟨Int.emod_nonneg _ (by omega), Int.emod_lt_of_pos _ hn⟩
theorem below_ok (b : List Int) (i h n : Int) (hc : Cur b i) : ∃ x i' h', spec_l1Below.f b i h n = some (x, i', h') ∧ 0 ≤ x ∧ (0 < n → x < n) ∧ (n ≤ 0 → x = 0) ∧ Cur b i' := by
 unfold spec_l1Below.f
 by_cases c0 : n ≤ 0
 ·rw [if_pos c0]
  exact ⟨0, i, h, rfl, Int.le_refl _, fun h1 => absurd h1 (by omega), fun _ => rfl, hc⟩
 ·rw [if_neg c0]
  obtain ⟨x, i1, h1, e1, x0, x1, hc1⟩ := byte_ok b i h hc
  by_cases c1 : n ≤ 256
  ·rw [if_pos c1, e1, Option.bind_some, if_neg (by omega)]
   have ht := tmod_in x0 (show 0 < n by omega)
   exact ⟨_, _, _, rfl, ht.1, fun _ => ht.2, fun hq => absurd hq c0, hc1⟩
  ·obtain ⟨y, i2, h2, e2, y0, y1, hc2⟩ := byte_ok b i1 h1 hc1
   obtain ⟨z, i3, h3, e3, z0, z1, hc3⟩ := byte_ok b i2 h2 hc2
   rw [if_neg c1, e1, Option.bind_some, e2, Option.bind_some, e3, Option.bind_some, if_neg (by omega)]
   have w : wrap64 (wrap64 (wrap64 (x * 65536) + wrap64 (y * 256)) + z) = x * 65536 + y * 256 + z := by
    rw [w64 (x := x * 65536) (by omega) (by omega), w64 (x := y * 256) (by omega) (by omega), w64 (x := x * 65536 + y * 256) (by omega) (by omega), w64 (by omega) (by omega)]
   have ht := tmod_in (x := x * 65536 + y * 256 + z) (by omega) (show 0 < n by omega)
   refine ⟨_, _, _, rfl, ?_, fun _ => ?_, fun hq => absurd hq c0, hc3⟩
   ·simp only [w]; exact ht.1
   ·simp only [w]; exact ht.2
theorem int_ok (b : List Int) (i h : Int) (l : List Int) (hl : 0 < l.length) (hc : Cur b i) : ∃ x i' h', spec_l1Int.f b i h l = some (x, i', h') ∧ x ∈ l ∧ Cur b i' := by
 obtain ⟨x, i1, h1, e1, x0, x1, _, hc1⟩ := below_ok b i h (l.length : Int) hc
 have x2 := x1 (by omega)
 unfold spec_l1Int.f
 rw [e1, Option.bind_some, if_pos x0, if_pos x2]
 exact ⟨_, _, _, rfl, rd_mem x0 x2, hc1⟩
theorem devsFrom_ok (n : Nat) (h1 : 1 ≤ n) (h2 : n ≤ 12) : ∀ (l : List S61) (pr : Option S61), (∀ d ∈ l, (0 ≤ d.f0 ∧ d.f0 ≤ 20) ∧ (0 ≤ d.f1 ∧ d.f1 ≤ 20) ∧ (1 ≤ d.f2 ∧ d.f2 ≤ 1000)) → l.Pairwise (fun a b => a.f0 < b.f0) → (∀ q, pr = some q → ∀ d ∈ l, q.f0 < d.f0) → devsFrom n pr l = true
 | [], _, _, _, _ => by rw [devsFrom]; exact decide_eq_true (by omega)
 | d :: t, pr, hb, hp, hq => by
  rw [List.pairwise_cons] at hp
  have hd := hb d List.mem_cons_self
  rw [devsFrom, if_pos ⟨hd.1, hd.2.1, hd.2.2, fun q e => hq q e d List.mem_cons_self⟩]
  exact devsFrom_ok n h1 h2 t (some d) (fun x hx => hb x (List.mem_cons_of_mem _ hx)) hp.2 (fun q e x hx => by injection e with e; subst e; exact hp.1 x hx)
theorem draw4_l0 (b : List Int) (zones : Int) (hz : 1 ≤ zones ∧ zones ≤ 4) : ∀ (m : Nat) (acc : List S61) (id p h : Int), acc.length + m ≤ 6 → Cur b p → (id ≤ 2 * (acc.length : Int) ∧ 0 ≤ id) → (∀ d ∈ acc, (0 ≤ d.f0 ∧ d.f0 ≤ id) ∧ (0 ≤ d.f1 ∧ d.f1 ≤ 20) ∧ (1 ≤ d.f2 ∧ d.f2 ≤ 1000)) → acc.Pairwise (fun a b => a.f0 < b.f0) →
  ∃ (l : List S61) (p' h' : Int), Ev (fun k => spec_l4Draw.l0 k acc zones id (m : Int) b p h) (l, p', h') ∧ l.length = acc.length + m ∧ (∀ d ∈ l, (0 ≤ d.f0 ∧ d.f0 ≤ 20) ∧ (0 ≤ d.f1 ∧ d.f1 ≤ 20) ∧ (1 ≤ d.f2 ∧ d.f2 ≤ 1000)) ∧ l.Pairwise (fun a b => a.f0 < b.f0) ∧ Cur b p'
 | 0, acc, id, p, h, hm, hc, hi, ha, hp => by
  refine ⟨acc, p, h, Ev.step (f := fun _ => some (acc, p, h)) (fun k => ?_) (Ev.now _), rfl, fun d hd => ?_, hp, hc⟩
  ·rw [spec_l4Draw.l0, if_neg (by omega)]
  ·have := ha d hd
   omega
 | m + 1, acc, id, p, h, hm, hc, hi, ha, hp => by
  obtain ⟨x, p1, h1, e1, hx, hc1⟩ := int_ok b p h [1, 1, 2] (by decide) hc
  obtain ⟨y, p2, h2, e2, y0, y1, _, hc2⟩ := below_ok b p1 h1 zones hc1
  obtain ⟨z, p3, h3, e3, hz3, hc3⟩ := int_ok b p2 h2 [1, 1, 1, 2, 10, 100] (by decide) hc2
  have hx2 : 1 ≤ x ∧ x ≤ 2 := by
   simp only [List.mem_cons, List.not_mem_nil, or_false] at hx
   omega
  have hz2 : 1 ≤ z ∧ z ≤ 100 := by
   simp only [List.mem_cons, List.not_mem_nil, or_false] at hz3
   omega
  have y2 := y1 (by omega)
  have w : Hd (wrap64 (id + x) = id + x) := ⟨w64 (by omega) (by omega)⟩
  have wm : Hd (wrap64 (((m + 1 : Nat) : Int) - 1) = (m : Int)) := ⟨by rw [w64 (by omega) (by omega)]; omega⟩
  obtain ⟨l, p', h', e, q1, q2, q3, q4⟩ := draw4_l0 b zones hz m (acc ++ [⟨id + x, y, z⟩]) (id + x) p3 h3 (by simp; omega) hc3 (by simp; omega) (fun d hd => by
   rcases List.mem_append.1 hd with hd | hd
   ·have := ha d hd; omega
   ·rw [List.mem_singleton.1 hd]; dsimp only; omega) (by
   rw [List.pairwise_append]
   refine ⟨hp, List.pairwise_singleton _ _, fun a ha' c hc' => ?_⟩
   have := ha a ha'
   rw [List.mem_singleton.1 hc']; dsimp only; omega)
  refine ⟨l, p', h', Ev.step (fun k => ?_) e, by rw [q1]; simp; omega, q2, q3, q4⟩
  rw [spec_l4Draw.l0, if_pos (by omega), e1, Option.bind_some, e2, Option.bind_some, e3, Option.bind_some, if_pos (by omega), w.out, wm.out]
theorem draw4_ok (b : List Int) (i h : Int) (hc : Cur b i) : ∃ (l : List S61) (i' h' : Int), Ev (fun k => spec_l4Draw.f k b i h) (l, i', h') ∧ 2 ≤ l.length ∧ l.length ≤ 6 ∧ devsOk l = true ∧ Cur b i' := by
 obtain ⟨x, p1, h1, e1, x0, x1, _, hc1⟩ := below_ok b i h 4 hc
 obtain ⟨y, p2, h2, e2, y0, y1, _, hc2⟩ := below_ok b p1 h1 5 hc1
 have x2 := x1 (by omega)
 have y2 := y1 (by omega)
 obtain ⟨l, p', h', e, q1, q2, q3, q4⟩ := draw4_l0 b (1 + x) (by omega) (2 + y).toNat [] 0 p2 h2 (by simp; omega) hc2 (by simp) (by simp) (by simp)
 rw [List.length_nil, Nat.zero_add] at q1
 refine ⟨l, p', h', ?_, by omega, by omega, ?_, q4⟩
 ·simp only [spec_l4Draw.f]
  refine Ev.got e1 (Ev.got e2 ?_)
  dsimp only
  rw [w64 (x := 1 + x) (by omega) (by omega), w64 (x := 2 + y) (by omega) (by omega)]
  rw [show ((2 + y).toNat : Int) = 2 + y by omega] at e
  exact e
 ·exact devsFrom_ok l.length (by omega) (by omega) l none q2 q3 (fun q e => by cases e)
theorem any4_ok (b : List Int) (i h : Int) (hc : Cur b i) : ∃ (l : List S61) (i' h' : Int), Ev (fun k => spec_l4Any.f k b i h) (l, i', h') ∧ l.length ≤ 6 ∧ Cur b i' := by
 obtain ⟨l, p1, h1, e1, l0, l1, _, hc1⟩ := draw4_ok b i h hc
 obtain ⟨x, p2, h2, e2, x0, x1, _, hc2⟩ := below_ok b p1 h1 (l.length : Int) hc1
 obtain ⟨y, p3, h3, e3, y0, y1, _, hc3⟩ := below_ok b p2 h2 12 hc2
 have x2 := x1 (by omega)
 simp only [spec_l4Any.f]
 by_cases c0 : y = 0
 ·obtain ⟨z, p4, h4, e4, _, hc4⟩ := int_ok b p3 h3 [(-1), 0, 20, 21] (by decide) hc3
  exact ⟨_, _, _, Ev.bind e1 (Ev.got e2 (Ev.got e3 (Ev.pos c0 (Ev.got e4 (Ev.pos x0 (Ev.pos x2 (Ev.now _))))))), by rw [List.length_set]; exact l1, hc4⟩
 by_cases c1 : y = 1
 ·obtain ⟨z, p4, h4, e4, _, hc4⟩ := int_ok b p3 h3 [(-1), 20, 21] (by decide) hc3
  exact ⟨_, _, _, Ev.bind e1 (Ev.got e2 (Ev.got e3 (Ev.neg c0 (Ev.pos c1 (Ev.got e4 (Ev.pos x0 (Ev.pos x2 (Ev.now _)))))))), by rw [List.length_set]; exact l1, hc4⟩
 by_cases c2 : y = 2
 ·obtain ⟨z, p4, h4, e4, _, hc4⟩ := int_ok b p3 h3 [0, 1000, 1001] (by decide) hc3
  exact ⟨_, _, _, Ev.bind e1 (Ev.got e2 (Ev.got e3 (Ev.neg c0 (Ev.neg c1 (Ev.pos c2 (Ev.got e4 (Ev.pos x0 (Ev.pos x2 (Ev.now _))))))))), by rw [List.length_set]; exact l1, hc4⟩
 by_cases c3 : y = 3
 ·exact ⟨_, _, _, Ev.bind e1 (Ev.got e2 (Ev.got e3 (Ev.neg c0 (Ev.neg c1 (Ev.neg c2 (Ev.pos c3 (Ev.pos (Int.natCast_nonneg _) (Ev.now _)))))))), by rw [List.length_take]; omega, hc3⟩
 ·exact ⟨_, _, _, Ev.bind e1 (Ev.got e2 (Ev.got e3 (Ev.neg c0 (Ev.neg c1 (Ev.neg c2 (Ev.neg c3 (Ev.now _))))))), l1, hc3⟩
theorem draw5_ok (b : List Int) (i h : Int) (hc : Cur b i) : ∃ (l : List S61) (n reps : Nat) (i' h' : Int), Ev (fun k => spec_l5Draw.f k b i h) (l, (reps : Int), addParts l reps n [], i', h') ∧ 2 ≤ l.length ∧ l.length ≤ 6 ∧ devsOk l = true ∧ (1 ≤ n ∧ n ≤ 16) ∧ (1 ≤ reps ∧ reps ≤ 3 ∧ reps ≤ l.length) ∧ Cur b i' := by
 obtain ⟨l, p1, h1, e1, l0, l1, hok, hc1⟩ := draw4_ok b i h hc
 obtain ⟨x, p2, h2, e2, x0, x1, _, hc2⟩ := below_ok b p1 h1 3 hc1
 obtain ⟨y, p3, h3, e3, hy, hc3⟩ := int_ok b p2 h2 [4, 8, 1, 5, 16] (by decide) hc2
 have x2 := x1 (by omega)
 have hy2 : 1 ≤ y ∧ y ≤ 16 := by
  simp only [List.mem_cons, List.not_mem_nil, or_false] at hy
  omega
 obtain ⟨n, rfl⟩ := Int.eq_ofNat_of_zero_le (show 0 ≤ y by omega)
 have w : Hd (wrap64 (1 + x) = 1 + x) := ⟨w64 (by omega) (by omega)⟩
 by_cases c : 1 + x > (l.length : Int)
 ·refine ⟨l, n, l.length, p3, h3, ?_, l0, l1, hok, by omega, by omega, hc3⟩
  simp only [spec_l5Draw.f]
  refine Ev.bind e1 (Ev.got e2 ?_)
  rw [w.out]
  exact Ev.pos c (Ev.got e3 (Ev.bind (build_ev l (by omega) hok n l.length (by omega) (by omega) (by omega)) (Ev.now _)))
 ·refine ⟨l, n, (1 + x).toNat, p3, h3, ?_, l0, l1, hok, by omega, by omega, hc3⟩
  simp only [spec_l5Draw.f]
  refine Ev.bind e1 (Ev.got e2 ?_)
  rw [w.out]
  have hb := build_ev l (by omega) hok n (1 + x).toNat (by omega) (by omega) (by omega)
  have hxx : (((1 + x).toNat : Nat) : Int) = 1 + x := by omega
  rw [hxx] at hb ⊢
  exact Ev.neg c (Ev.got e3 (Ev.bind hb (Ev.now _)))
def Small (l : List S61) (ps : List S35) : Prop := l.length ≤ 6 ∧ ps.length ≤ 16 ∧ ∀ x ∈ ps, x.f0.length ≤ 4
theorem any5_ok (b : List Int) (i h : Int) (hc : Cur b i) : ∃ (l : List S61) (a : Int) (ps : List S35) (i' h' : Int), Ev (fun k => spec_l5Any.f k b i h) (l, a, ps, i', h') ∧ Small l ps ∧ Cur b i' := by
 obtain ⟨l, n, reps, p1, h1, e1, l0, l1, hok, hn, hr, hc1⟩ := draw5_ok b i h hc
 obtain ⟨q1, q2⟩ := addParts_len l reps n [] (by simp)
 generalize addParts l reps n [] = ps at *
 rw [List.length_nil, Nat.zero_add] at q1
 obtain ⟨x, p2, h2, e2, x0, x1, _, hc2⟩ := below_ok b p1 h1 (ps.length : Int) hc1
 obtain ⟨y, p3, h3, e3, y0, y1, _, hc3⟩ := below_ok b p2 h2 10 hc2
 have x2 := x1 (by omega)
 have hm : (rd_T35 ps x).f0.length = reps := q2 _ (by
  unfold rd_T35
  rw [List.getD_eq_getElem?_getD, List.getElem?_eq_getElem (by omega), Option.getD_some]
  exact List.getElem_mem _)
 have hset : ∀ v : S35, v.f0.length ≤ 4 → Small l (ps.set x.toNat v) := fun v hv => ⟨l1, by rw [List.length_set]; omega, fun z hz => by
  rcases List.mem_or_eq_of_mem_set hz with hz | rfl
  ·rw [q2 z hz]; omega
  ·exact hv⟩
 have hsm : Small l ps := ⟨l1, by omega, fun z hz => by rw [q2 z hz]; omega⟩
 simp only [spec_l5Any.f]
 by_cases c0 : y = 0
 ·obtain ⟨z, p4, h4, e4, _, hc4⟩ := int_ok b p3 h3 [0, 1, 2, 6] (by decide) hc3
  exact ⟨_, _, _, _, _, Ev.bind e1 (Ev.got e2 (Ev.got e3 (Ev.pos c0 (Ev.got e4 (Ev.now _))))), hsm, hc4⟩
 by_cases c1 : y = 1
 ·obtain ⟨z, p4, h4, e4, _, _, _, hc4⟩ := below_ok b p3 h3 9 hc3
  exact ⟨_, _, _, _, _, Ev.bind e1 (Ev.got e2 (Ev.got e3 (Ev.neg c0 (Ev.pos c1 (Ev.pos x0 (Ev.pos x2 (Ev.got e4 (Ev.pos (by dsimp only; omega) (Ev.now _))))))))), hset _ (by simp; omega), hc4⟩
 by_cases c2 : y = 2
 ·obtain ⟨z, p4, h4, e4, _, _, _, hc4⟩ := below_ok b p3 h3 9 hc3
  exact ⟨_, _, _, _, _, Ev.bind e1 (Ev.got e2 (Ev.got e3 (Ev.neg c0 (Ev.neg c1 (Ev.pos c2 (Ev.pos x0 (Ev.pos x2 (Ev.got e4 (Ev.pos (by dsimp only; omega) (Ev.now _)))))))))), hset _ (by simp; omega), hc4⟩
 by_cases c3 : y = 3
 ·obtain ⟨l', p4, h4, e4, hl', hc4⟩ := any4_ok b p3 h3 hc3
  exact ⟨_, _, _, _, _, Ev.bind e1 (Ev.got e2 (Ev.got e3 (Ev.neg c0 (Ev.neg c1 (Ev.neg c2 (Ev.pos c3 (Ev.bind e4 (Ev.now _)))))))), ⟨hl', hsm.2.1, hsm.2.2⟩, hc4⟩
 by_cases c4 : y = 4
 ·exact ⟨_, _, _, _, _, Ev.bind e1 (Ev.got e2 (Ev.got e3 (Ev.neg c0 (Ev.neg c1 (Ev.neg c2 (Ev.neg c3 (Ev.pos c4 (Ev.pos (Int.natCast_nonneg _) (Ev.now _))))))))), ⟨l1, by simp, by simp⟩, hc3⟩
 ·exact ⟨_, _, _, _, _, Ev.bind e1 (Ev.got e2 (Ev.got e3 (Ev.neg c0 (Ev.neg c1 (Ev.neg c2 (Ev.neg c3 (Ev.neg c4 (Ev.now _)))))))), hsm, hc3⟩
theorem once_ok (b : List Int) (i h n : Int) (hc : Cur b i) : ∃ x i' h', spec_l1Once.f b i h n = some (x, i', h') ∧ Cur b i' := by
 obtain ⟨x, i1, h1, e1, _, _, _, hc1⟩ := below_ok b i h n hc
 unfold spec_l1Once.f
 rw [e1, Option.bind_some]
 exact ⟨_, _, _, rfl, hc1⟩
theorem other_ok (b : List Int) (i h : Int) (l : List S61) (hl : l.length ≤ 6) (hc : Cur b i) : ∃ (l' : List S61) (i' h' : Int), Ev (fun k => spec_l6Other.f k b i h l) (l', i', h') ∧ l'.length ≤ 7 := by
 obtain ⟨x, p1, h1, e1, x0, x1, _, hc1⟩ := below_ok b i h 3 hc
 simp only [spec_l6Other.f, Option.bind_some, List.nil_append, List.length_nil]
 by_cases c0 : x = 0
 ·by_cases c1 : (l.length : Int) > 1
  ·obtain ⟨y, p2, h2, e2, y0, y1, _, _⟩ := below_ok b p1 h1 (l.length : Int) hc1
   have y2 := y1 (by omega)
   have w : Hd (wrap64 (y + 1) = y + 1) := ⟨w64 (by omega) (by omega)⟩
   refine ⟨l.take y.toNat ++ l.drop (y + 1).toNat, p2, h2, ?_, by rw [List.length_append, List.length_take, List.length_drop]; omega⟩
   refine Ev.pos (by omega) (Ev.got e1 (Ev.pos c0 (Ev.pos c1 (Ev.got e2 ?_))))
   simp only [w.out]
   exact Ev.pos y0 (Ev.pos (by omega) (Ev.pos (by rw [List.length_take]; omega) (Ev.pos (by omega) (Ev.pos (by omega) (Ev.pos (by rw [List.length_take, List.length_drop]; omega) (Ev.now _))))))
  ·exact ⟨l, p1, h1, Ev.pos (by omega) (Ev.got e1 (Ev.pos c0 (Ev.neg c1 (Ev.now _)))), by omega⟩
 by_cases c1 : x = 1
 ·have n1 : Ev (fun k => spec_l6Other.j0 k l false b p1 h1) (l, p1, h1) := Ev.step (f := fun _ => some (l, p1, h1)) (fun k => by rw [spec_l6Other.j0, if_neg (by decide)]) (Ev.now _)
  by_cases c2 : (l.length : Int) > 0
  ·have w : Hd (wrap64 ((l.length : Int) - 1) = (l.length : Int) - 1) := ⟨w64 (by omega) (by omega)⟩
   by_cases c3 : (rd_T61 l ((l.length : Int) - 1)).f0 < 19
   ·obtain ⟨y, p2, h2, e2, _, _, _, hc2⟩ := below_ok b p1 h1 4 hc1
    obtain ⟨z, p3, h3, e3, _, _⟩ := int_ok b p2 h2 [1, 10] (by decide) hc2
    refine ⟨l ++ [⟨wrap64 ((rd_T61 l ((l.length : Int) - 1)).f0 + 1), y, z⟩], p3, h3, ?_, by rw [List.length_append]; simp; omega⟩
    refine Ev.pos (by omega) (Ev.got e1 (Ev.neg c0 (Ev.pos c1 (Ev.pos c2 ?_))))
    simp only [w.out]
    refine Ev.pos (by omega) (Ev.pos (by omega) ?_)
    rw [decide_eq_true c3]
    refine Ev.step (fun k => by rw [spec_l6Other.j0, if_pos rfl, w.out]) ?_
    exact Ev.pos (by omega) (Ev.pos (by omega) (Ev.got e2 (Ev.got e3 (Ev.pos (by omega) (Ev.now _)))))
   ·refine ⟨l, p1, h1, ?_, by omega⟩
    refine Ev.pos (by omega) (Ev.got e1 (Ev.neg c0 (Ev.pos c1 (Ev.pos c2 ?_))))
    simp only [w.out]
    refine Ev.pos (by omega) (Ev.pos (by omega) ?_)
    rw [decide_eq_false c3]
    exact n1
  ·exact ⟨l, p1, h1, Ev.pos (by omega) (Ev.got e1 (Ev.neg c0 (Ev.pos c1 (Ev.neg c2 n1)))), by omega⟩
 ·exact ⟨l, p1, h1, Ev.pos (by omega) (Ev.got e1 (Ev.neg c0 (Ev.neg c1 (Ev.now _)))), by omega⟩
theorem drawReb_ev (b : List Int) (hN : b.length ≤ 1048576) : ∃ (l : List S61) (a : Int) (ps : List S35), Ev (fun k => spec_DrawRebalance.f k b) (a, ps, l) ∧ l.length ≤ 7 ∧ ps.length ≤ 16 ∧ ∀ x ∈ ps, x.f0.length ≤ 4 := by
 obtain ⟨g, e0, hc0⟩ := new_ev b hN
 obtain ⟨l, n, reps, p1, h1, e1, l0, l1, _, hn, hr, hc1⟩ := draw5_ok b 0 g hc0
 obtain ⟨q1, q2⟩ := addParts_len l reps n [] (by simp)
 rw [List.length_nil, Nat.zero_add] at q1
 obtain ⟨x, p2, h2, e2, hc2⟩ := once_ok b p1 h1 6 hc1
 simp only [spec_DrawRebalance.f]
 by_cases c : x = true
 ·obtain ⟨l', a', ps', p3, h3, e3, ⟨s1, s2, s3⟩, hc3⟩ := any5_ok b p2 h2 hc2
  obtain ⟨l'', p4, h4, e4, hl4⟩ := other_ok b p3 h3 l' s1 hc3
  exact ⟨l'', a', ps', Ev.bind e0 (Ev.bind e1 (Ev.got e2 (Ev.pos c (Ev.bind e3 (Ev.bind e4 (Ev.now _)))))), hl4, s2, s3⟩
 ·obtain ⟨l'', p4, h4, e4, hl4⟩ := other_ok b p2 h2 l l1 hc2
  exact ⟨l'', _, _, Ev.bind e0 (Ev.bind e1 (Ev.got e2 (Ev.neg c (Ev.bind e4 (Ev.now _))))), hl4, by show (addParts l reps n []).length ≤ 16; omega, fun y hy => by rw [q2 y hy]; omega⟩
theorem lawHas_l0 (xs : List Int) (x : Int) (hN : xs.length ≤ 4611686018427387904) : ∀ (l : List Int) (i : Nat), xs.drop i = l → Ev (fun k => laws_has.l0 k xs x (i : Int)) (hasI l x)
 | [], i, h => by
  have h1 := drop_nil' h
  refine Ev.step (f := fun _ => some false) (fun k => ?_) (Ev.now _)
  rw [laws_has.l0, if_neg (by omega)]
 | a :: t, i, h => by
  obtain ⟨h1, _, h3⟩ := drop_cons' h 0
  refine Ev.step (f := fun k => if a = x then some true else laws_has.l0 k xs x ((i + 1 : Nat) : Int)) (fun k => ?_) ?_
  ·rw [laws_has.l0, if_pos (by omega), if_pos (by omega), rd_at h, w64s h1 hN]
  ·by_cases c : a = x
   ·rw [hasI, if_pos c]; exact Ev.pos c (Ev.now _)
   ·rw [hasI, if_neg c]; exact Ev.neg c (lawHas_l0 xs x hN t (i + 1) h3)
theorem lawHas_ev (xs : List Int) (x : Int) (hN : xs.length ≤ 4611686018427387904) : Ev (fun k => laws_has.f k xs x) (hasI xs x) := lawHas_l0 xs x hN xs 0 rfl
theorem big_eq (l : List Int) : laws_big.f l = some (decide ((l.length : Int) > 1048576)) := rfl
end Go.Proofs.Ytpbjbfimnfghkaa.PureFnRebalanced
namespace Go.Proofs.Ytpbjbfimnfghkaa.Pure
open Go.RowKit Go.Proofs.Ytpbjbfimnfghkaa.PFnRebalanced Go.Proofs.YtpbjbfimnfghkaaW.PrintWords Go.Proofs.YtpbjbfimnfghkaaW.PrintLast Go.Proofs.YtpbjbfimnfghkaaW.PrintMore Go.Proofs.Ytpbjbfimnfghkaa.Base Go.Proofs.Ytpbjbfimnfghkaa.PureFnRebalanced
set_option linter.unusedVariables false
attribute [local irreducible] Go.bits IntKind.wrap shl shr
theorem one_cut {xs : List S35} {i : Nat} {p : S35} {t : List S35} (h : xs.drop i = p :: t) : (xs.take (i + 1)).drop i = [p] := by
 rw [List.drop_take, h, Nat.add_sub_cancel_left]; rfl
theorem rebd_l1 (l : List S61) (n a : Int) (ps R : List S35) (i : Nat) (q : S35) (hq : Hd (rd_T35 R (i : Int) = q)) (hi : i < R.length) (ha : (q.f0.length : Int) = a) (hN : q.f0.length ≤ 5) (hn : q.f0.Nodup)
  (hr : Ev (fun k => laws_FnRebalanced.l0 k l n (wrap64 ((i : Int) + 1)) a ps a R) true) : ∀ (u : List Int) (j : Nat), q.f0.drop j = u → Ev (fun k => laws_FnRebalanced.l1 k l n (i : Int) (j : Int) a ps a R) true
 | [], j, h => by
  have h1 := drop_nil' h
  exact Ev.step (fun k => by rw [laws_FnRebalanced.l1, if_neg (by omega)]) hr
 | x :: u, j, h => by
  obtain ⟨h1, _, h3⟩ := drop_cons' h 0
  have hx : Hd (rd q.f0 (j : Int) = x) := ⟨rd_at h⟩
  have w : Hd (wrap64 ((j : Int) + 1) = ((j + 1 : Nat) : Int)) := ⟨w64s h1 (by omega)⟩
  have ih := rebd_l1 l n a ps R i q hq hi ha hN hn hr u (j + 1) h3
  have hno : hasI (q.f0.take j) x = false := by
   have e : q.f0.take j ++ x :: u = q.f0 := by rw [← h]; exact List.take_append_drop j q.f0
   rw [← e] at hn
   have hc := (List.nodup_cons.1 (List.perm_middle.nodup_iff.1 hn)).1
   exact Bool.eq_false_iff.mpr (fun c => hc (List.mem_append_left _ ((hasI_iff _ _).1 c)))
  refine Ev.step (fun k => by rw [laws_FnRebalanced.l1, if_pos (by omega), if_pos (by omega), if_pos (by omega), if_pos (by omega), hq.out, if_pos (by omega), if_pos (by omega), hx.out, w.out, Int.toNat_natCast]) ?_
  exact Ev.bind (lawHas_ev (q.f0.take j) x (by rw [List.length_take]; omega)) (Ev.neg (by rw [hno]; simp) ih)
theorem rebd_l0 (l : List S61) (hl : l.length ≤ 7) (n a : Int) (ps R : List S35) (hN : ps.length ≤ 16) (hx : ∀ x ∈ ps, (x.f0.length : Int) = a) (ha : 1 ≤ a ∧ a ≤ 5) (hR : rels l ps R) (hn : ((movL ps R : Nat) : Int) = n) :
  ∀ (s t : List S35) (i : Nat), ps.drop i = s → R.drop i = t → rels l s t → Ev (fun k => laws_FnRebalanced.l0 k l n (i : Int) a ps a R) true
 | [], t, i, h, hm, hr => by
  have h1 := drop_nil' h
  have hRl := rels_len l ps R hR
  have hx5 : ∀ x ∈ ps, x.f0.length ≤ 5 := fun x h => by have := hx x h; omega
  have hR5 := rels_fits l 5 ps R hR hx5
  have hlen := lens_le 5 ps hx5
  have r1 := (ringOk_ev a ps l (by omega) (by omega) (fun x h => by have := hx5 x h; omega)).1
  have r3 := (ringOk_ev a R l (by omega) (by omega) (fun x h => by have := hR5 x h; omega)).2
  refine Ev.step (fun k => by rw [laws_FnRebalanced.l0, if_neg (by omega)]) (Ev.bind (moved_impl a a ps R (by omega) (fun x h => by have := hR5 x h; omega) (by omega)) (Ev.pos hn (Ev.bind r1 ?_)))
  by_cases c : ringOk a ps l = true
  ·have c2 : ringOk a R l = true := by
    obtain ⟨o1, o2, o3, o4⟩ := ringOk_parts2 a ps l c
    unfold ringOk; rw [if_pos ⟨o1, o2, by omega⟩]; exact rels_ok l a ps R hR o4
   rw [c2] at r3
   exact Ev.pos c (Ev.bind r3 (Ev.now _))
  ·exact Ev.neg c (Ev.now _)
 | _ :: _, [], _, _, _, hr => hr.elim
 | p :: s, q :: t, i, h, hm, hr => by
  obtain ⟨h1, _, h3⟩ := drop_cons' h z35
  obtain ⟨g1, _, g3⟩ := drop_cons' hm z35
  have hrd : Hd (rd_T35 R (i : Int) = q) := ⟨rdT_at35 hm⟩
  have w : Hd (wrap64 ((i : Int) + 1) = ((i + 1 : Nat) : Int)) := ⟨w64s h1 (by omega)⟩
  have hp := hx p (List.mem_of_mem_drop (by rw [h]; exact List.mem_cons_self))
  obtain ⟨⟨k1, k2, _, k4⟩, k5⟩ := hr
  have ih := rebd_l0 l hl n a ps R hN hx ha hR hn s t (i + 1) h3 g3 k5
  have d1 := one_cut h
  have d2 := one_cut hm
  have mv := moved_impl a a [p] [q] (by simp) (fun x hx' => by rw [List.mem_singleton.1 hx']; omega) (by simp only [lens]; omega)
  rw [show movL [p] [q] = movP q.f0 p.f0 from rfl] at mv
  have r := rebd_l1 l n a ps R i q hrd g1 (by omega) (by omega) k2 (by rw [w.out]; exact ih) q.f0 0 rfl
  refine Ev.step (fun k => by rw [laws_FnRebalanced.l0, if_pos (by omega), if_pos (by omega), w.out, if_pos (by omega), if_pos (by omega), if_pos (by omega), hrd.out, Int.toNat_natCast, Int.toNat_natCast, d1, d2]) (Ev.bind mv ?_)
  refine Ev.neg (by omega) ?_
  refine Ev.pos (by omega) ?_
  exact Ev.step (f := fun k => laws_FnRebalanced.l1 k l n (i : Int) ((0 : Nat) : Int) a ps a R) (fun k => by rw [laws_FnRebalanced.j2, if_neg (by rw [bne_iff_ne]; omega)]; rfl) r
theorem FnRebalanced (code : List Int) (h0 : Bytes code) : ∃ k, laws_FnRebalanced.f k code = some true := by
 apply Ev.rounds (g := fun k => laws_FnRebalanced.f k code)
 simp only [laws_FnRebalanced.f]
 refine Ev.got (big_eq code) ?_
 by_cases hb : (code.length : Int) > 1048576
 ·exact Ev.pos (decide_eq_true hb) (Ev.now _)
 refine Ev.neg (by rw [decide_eq_true_eq]; exact hb) ?_
 obtain ⟨l, a, ps, e1, hl, hp, hq⟩ := drawReb_ev code (by omega)
 obtain ⟨q1, q2⟩ := reb_ev a ps l (by omega) (by omega) (fun x hx => by have := hq x hx; omega)
 refine Ev.bind e1 (Ev.bind q1 (Ev.bind q2 (Ev.pos rfl ?_)))
 by_cases c : mayMove a ps l = true
 ·obtain ⟨z1, z2⟩ := mayMove_parts a ps l c
  obtain ⟨R, r1, r2, r3⟩ := moveAll_good l ps [] 0 (partsWell_apart a ps z1)
  have e : rebOf a ps l = (a, R, ((movL ps R : Nat) : Int)) := by unfold rebOf; rw [if_pos c, r1, r3, List.nil_append, Nat.zero_add]
  rw [e]
  exact Ev.step (f := fun k => laws_FnRebalanced.l0 k l ((movL ps R : Nat) : Int) ((0 : Nat) : Int) a ps a R) (fun k => by dsimp only; rw [laws_FnRebalanced.j0, if_neg (by rw [decide_eq_true_eq]; omega)]; rfl) (rebd_l0 l hl _ a ps R hp (partsWell_len a ps z1) z2 r2 rfl ps R 0 rfl rfl r2)
 ·have e : rebOf a ps l = (a, ps, -1) := by unfold rebOf; rw [if_neg c]
  rw [e]
  exact Ev.step (f := fun _ => some true) (fun k => by dsimp only; rw [laws_FnRebalanced.j0, if_pos (by simp), if_pos rfl, beq_self_eq_true]) (Ev.now _)
end Go.Proofs.Ytpbjbfimnfghkaa.Pure
