/- Trimmed by a program of this session (trim.py). Not trusted: Lean checks it. -/
import Derived.Test.YtpbjbfimnfghkaaTXRebalancePFnExactRebalancex15
import Derived.Test.YtpbjbfimnfghkaaTXRebalanceBase
namespace Go.Proofs.Ytpbjbfimnfghkaa.PureFnExactRebalance
open Go.RowKit Go.Proofs.Ytpbjbfimnfghkaa.PFnExactRebalance Go.Proofs.YtpbjbfimnfghkaaW.PrintWords Go.Proofs.YtpbjbfimnfghkaaW.PrintLast Go.Proofs.YtpbjbfimnfghkaaW.PrintMore Go.Proofs.Ytpbjbfimnfghkaa.Base
set_option linter.unusedVariables false
attribute [local irreducible] Go.bits IntKind.wrap shl shr
theorem rdT_at35 {xs : List S35} {i : Nat} {a : S35} {t : List S35} (h : xs.drop i = a :: t) : rd_T35 xs (i : Int) = a := by
 unfold rd_T35; rw [Int.toNat_natCast]; exact (drop_cons' h _).2.1
theorem copyInts_eq (xs : List Int) (h : xs.length ≤ 10000000000) : impl_copyInts.f xs = some xs := by
 rw [impl_copyInts.f, if_pos (by simp; omega), List.nil_append]
theorem implCopy_l0 (a : Int) (ps : List S35) (hN : ps.length ≤ 1048576) (hx : ∀ x ∈ ps, x.f0.length ≤ 1048576) : ∀ (t : List S35) (i : Nat) (acc : List S35), ps.drop i = t → acc.length = i → acc ++ t = ps → Ev (fun k => impl_copyRing.l0 k ps (ps.length : Int) (i : Int) a acc) (a, ps)
 | [], i, acc, h, hi, he => by
  have h1 := drop_nil' h
  rw [List.append_nil] at he
  subst he
  refine Ev.step (f := fun _ => some (a, acc)) (fun k => ?_) (Ev.now _)
  rw [impl_copyRing.l0, if_neg (by omega)]
 | p :: t, i, acc, h, hi, he => by
  obtain ⟨h1, _, h3⟩ := drop_cons' h z35
  have hrd : Hd (rd_T35 ps (i : Int) = p) := ⟨rdT_at35 h⟩
  have w : Hd (wrap64 ((i : Int) + 1) = ((i + 1 : Nat) : Int)) := ⟨w64s h1 (by omega)⟩
  have ih := implCopy_l0 a ps hN hx t (i + 1) (acc ++ [p]) h3 (by simp [hi]) (by simp [he])
  have hp := hx p (List.mem_of_mem_drop (by rw [h]; exact List.mem_cons_self))
  refine Ev.step (fun k => by rw [impl_copyRing.l0, if_pos (by omega), if_pos (by omega), if_pos (by omega), hrd.out, w.out]) ?_
  exact Ev.got (copyInts_eq p.f0 (by omega)) (Ev.pos (by omega) ih)
theorem specCopy_l0 (a : Int) (ps : List S35) (hN : ps.length ≤ 1048576) (hx : ∀ x ∈ ps, x.f0.length ≤ 1048576) : ∀ (t : List S35) (i : Nat) (acc : List S35), ps.drop i = t → acc.length = i → acc ++ t = ps → Ev (fun k => spec_l5Copy.l0 k (i : Int) a ps a acc) (a, ps)
 | [], i, acc, h, hi, he => by
  have h1 := drop_nil' h
  rw [List.append_nil] at he
  subst he
  refine Ev.step (f := fun _ => some (a, acc)) (fun k => ?_) (Ev.now _)
  rw [spec_l5Copy.l0, if_neg (by omega)]
 | p :: t, i, acc, h, hi, he => by
  obtain ⟨h1, _, h3⟩ := drop_cons' h z35
  have hrd : Hd (rd_T35 ps (i : Int) = p) := ⟨rdT_at35 h⟩
  have w : Hd (wrap64 ((i : Int) + 1) = ((i + 1 : Nat) : Int)) := ⟨w64s h1 (by omega)⟩
  have ih := specCopy_l0 a ps hN hx t (i + 1) (acc ++ [p]) h3 (by simp [hi]) (by simp [he])
  have hp := hx p (List.mem_of_mem_drop (by rw [h]; exact List.mem_cons_self))
  refine Ev.step (fun k => by rw [spec_l5Copy.l0, if_pos (by omega), hrd.out, w.out]) ?_
  exact Ev.some_bind (Ev.pos (by omega) (Ev.pos (by simp; omega) (Ev.pos (by omega) ih)))
theorem copyRing_ev (a : Int) (ps : List S35) (hN : ps.length ≤ 1048576) (hx : ∀ x ∈ ps, x.f0.length ≤ 1048576) : Ev (fun k => impl_copyRing.f k a ps) (a, ps) ∧ Ev (fun k => spec_l5Copy.f k a ps) (a, ps) :=
 ⟨implCopy_l0 a ps hN hx ps 0 [] rfl rfl rfl, specCopy_l0 a ps hN hx ps 0 [] rfl rfl rfl⟩
theorem l1In_eq (x a b : Int) : spec_l1In.f x a b = some (decide (a ≤ x ∧ x ≤ b)) := by
 unfold spec_l1In.f
 by_cases h : x ≥ a
 ·rw [if_pos h]; simp [show a ≤ x from h]
 ·rw [if_neg h]; simp [show ¬ a ≤ x from h]
theorem in_eq (x a b : Int) : impl_in.f x a b = some (decide (a ≤ x ∧ x ≤ b)) := by
 unfold impl_in.f
 by_cases h : x ≥ a
 ·rw [if_pos h]; simp [show a ≤ x from h]
 ·rw [if_neg h]; simp [show ¬ a ≤ x from h]
theorem rdT_at61 {xs : List S61} {i : Nat} {a : S61} {t : List S61} (h : xs.drop i = a :: t) : rd_T61 xs (i : Int) = a := by
 unfold rd_T61; rw [Int.toNat_natCast]; exact (drop_cons' h _).2.1
def devsFrom (len : Nat) : Option S61 → List S61 → Bool
 | _, [] => decide (1 ≤ (len : Int) ∧ (len : Int) ≤ 12)
 | pr, d :: t => if (0 ≤ d.f0 ∧ d.f0 ≤ 20) ∧ (0 ≤ d.f1 ∧ d.f1 ≤ 20) ∧ (1 ≤ d.f2 ∧ d.f2 ≤ 1000) ∧ (∀ q, pr = some q → q.f0 < d.f0) then devsFrom len (some d) t else false
def devsOk (l : List S61) : Bool := devsFrom l.length none l
theorem devsOk_l0 (xs : List S61) (hN : xs.length ≤ 4611686018427387904) : ∀ (l : List S61) (i : Nat) (pr : Option S61), xs.drop i = l → (∀ q, pr = some q ↔ ∃ j, i = j + 1 ∧ xs[j]? = some q) →
  Ev (fun k => spec_DevsOk.l0 k xs (i : Int)) (devsFrom xs.length pr l) ∧ Ev (fun k => impl_DevsOk.l0 k xs xs (xs.length : Int) (i : Int)) (devsFrom xs.length pr l)
 | [], i, pr, h, hp => by
  have h1 := drop_nil' h
  refine ⟨Ev.step (f := fun _ => some (devsFrom xs.length pr [])) (fun k => ?_) (Ev.now _), Ev.step (f := fun _ => some (devsFrom xs.length pr [])) (fun k => ?_) (Ev.now _)⟩
  ·rw [spec_DevsOk.l0, if_neg (by omega), l1In_eq]; rfl
  ·rw [impl_DevsOk.l0, if_neg (by omega), in_eq]; rfl
 | d :: t, i, pr, h, hp => by
  obtain ⟨h1, hd, h3⟩ := drop_cons' h z61
  have hdi : xs[i]? = some d := by
   rw [List.getElem?_eq_getElem h1]; rw [List.getD_eq_getElem?_getD, List.getElem?_eq_getElem h1] at hd; exact congrArg some hd
  have hr : Hd (rd_T61 xs (i : Int) = d) := ⟨rdT_at61 h⟩
  have w : Hd (wrap64 ((i : Int) + 1) = ((i + 1 : Nat) : Int)) := ⟨w64s h1 hN⟩
  obtain ⟨i1, i2⟩ := devsOk_l0 xs hN t (i + 1) (some d) h3 (fun q => ⟨fun e => ⟨i, rfl, by rw [← e]; exact hdi⟩, fun ⟨j, e1, e2⟩ => by
   have : j = i := by omega
   subst this
   rw [hdi] at e2; exact e2⟩)
  rw [devsFrom]
  by_cases c0 : 0 ≤ d.f0 ∧ d.f0 ≤ 20
  ·by_cases c1 : 0 ≤ d.f1 ∧ d.f1 ≤ 20
   ·by_cases c2 : 1 ≤ d.f2 ∧ d.f2 ≤ 1000
    ·rcases Nat.eq_zero_or_pos i with hi | hi
     ·have hn : pr = none := by
       cases pr with
       | none => rfl
       | some q => obtain ⟨j, e1, _⟩ := (hp q).1 rfl; omega
      rw [if_pos ⟨c0, c1, c2, fun q e => by rw [hn] at e; cases e⟩]
      refine ⟨Ev.step (fun k => ?_) i1, Ev.step (fun k => ?_) i2⟩
      ·rw [spec_DevsOk.l0, if_pos (by omega), if_pos (by omega), hr.out, l1In_eq, Option.bind_some, decide_eq_true c0, if_pos rfl, l1In_eq, Option.bind_some, decide_eq_true c1, if_pos rfl, l1In_eq, Option.bind_some, decide_eq_true c2, if_pos rfl, if_neg (by omega), w.out]
      ·rw [impl_DevsOk.l0, if_pos (by omega), if_pos (by omega), if_pos (by omega), hr.out, in_eq, Option.bind_some, decide_eq_true c0, if_pos rfl, in_eq, Option.bind_some, decide_eq_true c1, if_pos rfl, in_eq, Option.bind_some, decide_eq_true c2, if_pos rfl, if_neg (by omega), w.out]
     ·obtain ⟨j, rfl⟩ : ∃ j, i = j + 1 := ⟨i - 1, by omega⟩
      have hj : j < xs.length := by omega
      have hq : pr = some xs[j] := (hp xs[j]).2 ⟨j, rfl, List.getElem?_eq_getElem hj⟩
      have wm : Hd (wrap64 (((j + 1 : Nat) : Int) - 1) = (j : Int)) := ⟨by rw [w64 (by omega) (by omega)]; omega⟩
      have hrj : Hd (rd_T61 xs (j : Int) = xs[j]) := ⟨by
       unfold rd_T61; rw [Int.toNat_natCast, List.getD_eq_getElem?_getD, List.getElem?_eq_getElem hj]; rfl⟩
      by_cases c3 : xs[j].f0 < d.f0
      ·rw [if_pos ⟨c0, c1, c2, fun q e => by rw [hq] at e; injection e with e; rw [← e]; exact c3⟩]
       refine ⟨Ev.step (fun k => ?_) i1, Ev.step (fun k => ?_) i2⟩
       ·rw [spec_DevsOk.l0, if_pos (by omega), if_pos (by omega), hr.out, l1In_eq, Option.bind_some, decide_eq_true c0, if_pos rfl, l1In_eq, Option.bind_some, decide_eq_true c1, if_pos rfl, l1In_eq, Option.bind_some, decide_eq_true c2, if_pos rfl, if_pos (by omega), wm.out, if_pos (by omega), if_pos (by omega), hrj.out, if_neg (by omega), w.out]
       ·rw [impl_DevsOk.l0, if_pos (by omega), if_pos (by omega), if_pos (by omega), hr.out, in_eq, Option.bind_some, decide_eq_true c0, if_pos rfl, in_eq, Option.bind_some, decide_eq_true c1, if_pos rfl, in_eq, Option.bind_some, decide_eq_true c2, if_pos rfl, if_pos (by omega), wm.out, if_pos (by omega), if_pos (by omega), hrj.out, if_neg (by omega), w.out]
      ·rw [if_neg (fun hc => c3 (hc.2.2.2 _ hq))]
       refine ⟨Ev.step (f := fun _ => some false) (fun k => ?_) (Ev.now _), Ev.step (f := fun _ => some false) (fun k => ?_) (Ev.now _)⟩
       ·rw [spec_DevsOk.l0, if_pos (by omega), if_pos (by omega), hr.out, l1In_eq, Option.bind_some, decide_eq_true c0, if_pos rfl, l1In_eq, Option.bind_some, decide_eq_true c1, if_pos rfl, l1In_eq, Option.bind_some, decide_eq_true c2, if_pos rfl, if_pos (by omega), wm.out, if_pos (by omega), if_pos (by omega), hrj.out, if_pos (by omega)]
       ·rw [impl_DevsOk.l0, if_pos (by omega), if_pos (by omega), if_pos (by omega), hr.out, in_eq, Option.bind_some, decide_eq_true c0, if_pos rfl, in_eq, Option.bind_some, decide_eq_true c1, if_pos rfl, in_eq, Option.bind_some, decide_eq_true c2, if_pos rfl, if_pos (by omega), wm.out, if_pos (by omega), if_pos (by omega), hrj.out, if_pos (by omega)]
    ·rw [if_neg (fun hc => c2 hc.2.2.1)]
     refine ⟨Ev.step (f := fun _ => some false) (fun k => ?_) (Ev.now _), Ev.step (f := fun _ => some false) (fun k => ?_) (Ev.now _)⟩
     ·rw [spec_DevsOk.l0, if_pos (by omega), if_pos (by omega), hr.out, l1In_eq, Option.bind_some, decide_eq_true c0, if_pos rfl, l1In_eq, Option.bind_some, decide_eq_true c1, if_pos rfl, l1In_eq, Option.bind_some, decide_eq_false c2, if_neg (by decide)]
     ·rw [impl_DevsOk.l0, if_pos (by omega), if_pos (by omega), if_pos (by omega), hr.out, in_eq, Option.bind_some, decide_eq_true c0, if_pos rfl, in_eq, Option.bind_some, decide_eq_true c1, if_pos rfl, in_eq, Option.bind_some, decide_eq_false c2, if_neg (by decide)]
   ·rw [if_neg (fun hc => c1 hc.2.1)]
    refine ⟨Ev.step (f := fun _ => some false) (fun k => ?_) (Ev.now _), Ev.step (f := fun _ => some false) (fun k => ?_) (Ev.now _)⟩
    ·rw [spec_DevsOk.l0, if_pos (by omega), if_pos (by omega), hr.out, l1In_eq, Option.bind_some, decide_eq_true c0, if_pos rfl, l1In_eq, Option.bind_some, decide_eq_false c1, if_neg (by decide)]
    ·rw [impl_DevsOk.l0, if_pos (by omega), if_pos (by omega), if_pos (by omega), hr.out, in_eq, Option.bind_some, decide_eq_true c0, if_pos rfl, in_eq, Option.bind_some, decide_eq_false c1, if_neg (by decide)]
  ·rw [if_neg (fun hc => c0 hc.1)]
   refine ⟨Ev.step (f := fun _ => some false) (fun k => ?_) (Ev.now _), Ev.step (f := fun _ => some false) (fun k => ?_) (Ev.now _)⟩
   ·rw [spec_DevsOk.l0, if_pos (by omega), if_pos (by omega), hr.out, l1In_eq, Option.bind_some, decide_eq_false c0, if_neg (by decide)]
   ·rw [impl_DevsOk.l0, if_pos (by omega), if_pos (by omega), if_pos (by omega), hr.out, in_eq, Option.bind_some, decide_eq_false c0, if_neg (by decide)]
theorem devsOk_ev (xs : List S61) (hN : xs.length ≤ 4611686018427387904) : Ev (fun k => spec_DevsOk.f k xs) (devsOk xs) ∧ Ev (fun k => impl_DevsOk.f k xs) (devsOk xs) :=
 devsOk_l0 xs hN xs 0 none rfl (fun q => ⟨fun e => (by cases e), fun ⟨j, e, _⟩ => (by omega)⟩)
def hasI : List Int → Int → Bool
 | [], _ => false
 | a :: t, x => if a = x then true else hasI t x
theorem l4Has_l0 (xs : List Int) (x : Int) (hN : xs.length ≤ 4611686018427387904) : ∀ (l : List Int) (i : Nat), xs.drop i = l → Ev (fun k => spec_l4Has.l0 k xs x (i : Int)) (hasI l x)
 | [], i, h => by
  have h1 := drop_nil' h
  refine Ev.step (f := fun _ => some false) (fun k => ?_) (Ev.now _)
  rw [spec_l4Has.l0, if_neg (by omega)]
 | a :: t, i, h => by
  obtain ⟨h1, _, h3⟩ := drop_cons' h 0
  refine Ev.step (f := fun k => if a = x then some true else spec_l4Has.l0 k xs x ((i + 1 : Nat) : Int)) (fun k => ?_) ?_
  ·rw [spec_l4Has.l0, if_pos (by omega), if_pos (by omega), rd_at h, w64s h1 hN]
  ·by_cases c : a = x
   ·rw [hasI, if_pos c]; exact Ev.pos c (Ev.now _)
   ·rw [hasI, if_neg c]; exact Ev.neg c (l4Has_l0 xs x hN t (i + 1) h3)
theorem l4Has_ev (xs : List Int) (x : Int) (hN : xs.length ≤ 4611686018427387904) : Ev (fun k => spec_l4Has.f k xs x) (hasI xs x) := l4Has_l0 xs x hN xs 0 rfl
theorem hasInt_l0 (xs : List Int) (x : Int) (hN : xs.length ≤ 4611686018427387904) : ∀ (l : List Int) (i : Nat), xs.drop i = l → Ev (fun k => impl_hasInt.l0 k x xs (xs.length : Int) (i : Int)) (hasI l x)
 | [], i, h => by
  have h1 := drop_nil' h
  refine Ev.step (f := fun _ => some false) (fun k => ?_) (Ev.now _)
  rw [impl_hasInt.l0, if_neg (by omega)]
 | a :: t, i, h => by
  obtain ⟨h1, _, h3⟩ := drop_cons' h 0
  refine Ev.step (f := fun k => if a = x then some true else impl_hasInt.l0 k x xs (xs.length : Int) ((i + 1 : Nat) : Int)) (fun k => ?_) ?_
  ·rw [impl_hasInt.l0, if_pos (by omega), if_pos (by omega), if_pos (by omega), rd_at h, w64s h1 hN]
  ·by_cases c : a = x
   ·rw [hasI, if_pos c]; exact Ev.pos c (Ev.now _)
   ·rw [hasI, if_neg c]; exact Ev.neg c (hasInt_l0 xs x hN t (i + 1) h3)
theorem hasInt_ev (xs : List Int) (x : Int) (hN : xs.length ≤ 4611686018427387904) : Ev (fun k => impl_hasInt.f k xs x) (hasI xs x) := hasInt_l0 xs x hN xs 0 rfl
def apartFrom : List Int → List Int → Bool
 | _, [] => true
 | pre, a :: t => if hasI pre a = true then false else apartFrom (pre ++ [a]) t
def apartI (l : List Int) : Bool := apartFrom [] l
theorem apart_l0 (xs : List Int) (hN : xs.length ≤ 4611686018427387904) (reps : Int) : ∀ (l : List Int) (i : Nat), xs.drop i = l →
  Ev (fun k => spec_l5Part.l0 k reps (i : Int) xs) (apartFrom (xs.take i) l && ((xs.length : Int) == reps)) ∧ Ev (fun k => impl_apart.l0 k xs xs (xs.length : Int) (i : Int)) (apartFrom (xs.take i) l)
 | [], i, h => by
  have h1 := drop_nil' h
  refine ⟨Ev.step (f := fun _ => some ((xs.length : Int) == reps)) (fun k => ?_) (Ev.eq (Ev.now _) (by rw [apartFrom, Bool.true_and])), Ev.step (f := fun _ => some true) (fun k => ?_) (Ev.now _)⟩
  ·rw [spec_l5Part.l0, if_neg (by omega)]
  ·rw [impl_apart.l0, if_neg (by omega)]
 | a :: t, i, h => by
  obtain ⟨h1, _, h3⟩ := drop_cons' h 0
  have hr : Hd (rd xs (i : Int) = a) := ⟨rd_at h⟩
  have w : Hd (wrap64 ((i : Int) + 1) = ((i + 1 : Nat) : Int)) := ⟨w64s h1 (by omega)⟩
  have ht : xs.take (i + 1) = xs.take i ++ [a] := by
   rw [List.take_succ_eq_append_getElem h1]
   have := List.drop_eq_getElem_cons h1
   rw [h] at this
   injection this with e _
   rw [← e]
  have hl : (xs.take i).length ≤ 4611686018427387904 := by rw [List.length_take]; omega
  obtain ⟨i1, i2⟩ := apart_l0 xs hN reps t (i + 1) h3
  rw [ht] at i1 i2
  rw [apartFrom]
  refine ⟨Ev.step (f := fun k => (spec_l4Has.f k (xs.take i) a).bind fun t1 => if t1 = true then some false else spec_l5Part.l0 k reps ((i + 1 : Nat) : Int) xs) (fun k => ?_) (Ev.bind (l4Has_ev (xs.take i) a hl) ?_), Ev.step (f := fun k => (impl_hasInt.f k (xs.take i) a).bind fun t1 => if t1 = true then some false else impl_apart.l0 k xs xs (xs.length : Int) ((i + 1 : Nat) : Int)) (fun k => ?_) (Ev.bind (hasInt_ev (xs.take i) a hl) ?_)⟩
  ·rw [spec_l5Part.l0, if_pos (by omega), if_pos (by omega), if_pos (by omega), hr.out, w.out, Int.toNat_natCast]
  ·by_cases c : hasI (xs.take i) a = true
   ·rw [if_pos c]; exact Ev.pos c (Ev.now _)
   ·rw [if_neg c]; exact Ev.neg c i1
  ·rw [impl_apart.l0, if_pos (by omega), if_pos (by omega), if_pos (by omega), if_pos (by omega), hr.out, w.out, Int.toNat_natCast]
  ·by_cases c : hasI (xs.take i) a = true
   ·rw [if_pos c]; exact Ev.pos c (Ev.now _)
   ·rw [if_neg c]; exact Ev.neg c i2
theorem l5Part_ev (xs : List Int) (reps : Int) (hN : xs.length ≤ 4611686018427387904) : Ev (fun k => spec_l5Part.f k xs reps) (apartI xs && ((xs.length : Int) == reps)) :=
 (apart_l0 xs hN reps xs 0 rfl).1
theorem apart_ev (xs : List Int) (hN : xs.length ≤ 4611686018427387904) : Ev (fun k => impl_apart.f k xs) (apartI xs) :=
 (apart_l0 xs hN 0 xs 0 rfl).2
def partsWell (reps : Int) : List S35 → Bool
 | [] => true
 | p :: t => if ((p.f0.length : Int) == reps) = true then (if apartI p.f0 = true then partsWell reps t else false) else false
theorem partsWell_len (reps : Int) : ∀ ps : List S35, partsWell reps ps = true → ∀ p ∈ ps, (p.f0.length : Int) = reps
 | [], _, p, hp => by cases hp
 | q :: t, h, p, hp => by
  rw [partsWell] at h
  by_cases c : ((q.f0.length : Int) == reps) = true
  ·rw [if_pos c] at h
   by_cases c2 : apartI q.f0 = true
   ·rw [if_pos c2] at h
    rcases List.mem_cons.1 hp with rfl | hp
    ·exact beq_iff_eq.1 c
    ·exact partsWell_len reps t h p hp
   ·rw [if_neg c2] at h; cases h
  ·rw [if_neg c] at h; cases h
theorem well_l0 (reps : Int) (ps : List S35) (hN : ps.length ≤ 1048576) (hx : ∀ x ∈ ps, x.f0.length ≤ 1048576) : ∀ (t : List S35) (i : Nat), ps.drop i = t →
  Ev (fun k => impl_canMove.l0 k ps (ps.length : Int) (i : Int) reps ps) (partsWell reps t) ∧ Ev (fun k => spec_l6Ok.l0 k (i : Int) reps ps) (partsWell reps t)
 | [], i, h => by
  have h1 := drop_nil' h
  refine ⟨Ev.step (f := fun _ => some true) (fun k => ?_) (Ev.now _), Ev.step (f := fun _ => some true) (fun k => ?_) (Ev.now _)⟩
  ·rw [impl_canMove.l0, if_neg (by omega)]
  ·rw [spec_l6Ok.l0, if_neg (by omega)]
 | p :: t, i, h => by
  obtain ⟨h1, _, h3⟩ := drop_cons' h z35
  have hrd : Hd (rd_T35 ps (i : Int) = p) := ⟨rdT_at35 h⟩
  have w : Hd (wrap64 ((i : Int) + 1) = ((i + 1 : Nat) : Int)) := ⟨w64s h1 (by omega)⟩
  obtain ⟨i1, i2⟩ := well_l0 reps ps hN hx t (i + 1) h3
  have hp := hx p (List.mem_of_mem_drop (by rw [h]; exact List.mem_cons_self))
  have a1 := apart_ev p.f0 (by omega)
  have a2 := l5Part_ev p.f0 reps (by omega)
  refine ⟨Ev.step (fun k => by rw [impl_canMove.l0, if_pos (by omega), if_pos (by omega), if_pos (by omega), hrd.out, w.out]) ?_, Ev.step (fun k => by rw [spec_l6Ok.l0, if_pos (by omega), if_pos (by omega), hrd.out, w.out]) (Ev.bind a2 ?_)⟩
  ·rw [partsWell]
   by_cases c : (p.f0.length : Int) = reps
   ·rw [if_pos (beq_iff_eq.2 c)]
    refine Ev.pos c (Ev.bind a1 ?_)
    by_cases c2 : apartI p.f0 = true
    ·rw [if_pos c2]; exact Ev.pos c2 i1
    ·rw [if_neg c2]; exact Ev.neg c2 (Ev.now _)
   ·rw [if_neg (fun q => c (beq_iff_eq.1 q))]
    exact Ev.neg c (Ev.now _)
  ·rw [partsWell]
   by_cases c : ((p.f0.length : Int) == reps) = true
   ·rw [if_pos c, c]
    by_cases c2 : apartI p.f0 = true
    ·rw [if_pos c2, c2]; exact Ev.pos rfl i2
    ·rw [if_neg c2, Bool.eq_false_iff.mpr c2]; exact Ev.neg (by simp) (Ev.now _)
   ·rw [if_neg c, Bool.eq_false_iff.mpr c]
    exact Ev.neg (by simp) (Ev.now _)
def mayMove (reps : Int) (ps : List S35) (l : List S61) : Bool := if devsOk l = true then (if (1 ≤ reps ∧ reps ≤ 5) then (if reps > (l.length : Int) then false else (if (1 ≤ (ps.length : Int) ∧ (ps.length : Int) ≤ 64) then partsWell reps ps else false)) else false) else false
theorem mayMove_is (reps : Int) (ps : List S35) (l : List S61) (h : mayMove reps ps l = true) : devsOk l = true ∧ ps.length ≤ 64 ∧ ∀ p ∈ ps, p.f0.length ≤ 5 := by
 unfold mayMove at h
 by_cases c1 : devsOk l = true
 ·rw [if_pos c1] at h
  by_cases c2 : (1 ≤ reps ∧ reps ≤ 5)
  ·rw [if_pos c2] at h
   by_cases c3 : reps > (l.length : Int)
   ·rw [if_pos c3] at h; cases h
   ·rw [if_neg c3] at h
    by_cases c4 : (1 ≤ (ps.length : Int) ∧ (ps.length : Int) ≤ 64)
    ·rw [if_pos c4] at h
     exact ⟨c1, by omega, fun p hp => by have := partsWell_len reps ps h p hp; omega⟩
    ·rw [if_neg c4] at h; cases h
  ·rw [if_neg c2] at h; cases h
 ·rw [if_neg c1] at h; cases h
theorem mayMove_ev (reps : Int) (ps : List S35) (l : List S61) (hl : l.length ≤ 1048576) (hN : ps.length ≤ 1048576) (hx : ∀ x ∈ ps, x.f0.length ≤ 1048576) : Ev (fun k => impl_canMove.f k reps ps l) (mayMove reps ps l) ∧ Ev (fun k => spec_l6Ok.f k reps ps l) (mayMove reps ps l) := by
 obtain ⟨d1, d2⟩ := devsOk_ev l (by omega)
 obtain ⟨w1, w2⟩ := well_l0 reps ps hN hx ps 0 rfl
 have n1 : Ev (fun k => impl_canMove.j0 k true reps ps) false := Ev.step (f := fun _ => some false) (fun k => by rw [impl_canMove.j0, if_pos rfl]) (Ev.now _)
 have n2 : Ev (fun k => spec_l6Ok.j0 k true reps ps) false := Ev.step (f := fun _ => some false) (fun k => by rw [spec_l6Ok.j0, if_pos rfl]) (Ev.now _)
 have y1 : Ev (fun k => impl_canMove.j0 k false reps ps) (partsWell reps ps) := Ev.step (fun k => by rw [impl_canMove.j0, if_neg (by simp)]; rfl) w1
 have y2 : Ev (fun k => spec_l6Ok.j0 k false reps ps) (partsWell reps ps) := Ev.step (fun k => by rw [spec_l6Ok.j0, if_neg (by simp)]; rfl) w2
 simp only [impl_canMove.f, spec_l6Ok.f]
 unfold mayMove
 refine ⟨Ev.bind d2 ?_, Ev.bind d1 ?_⟩
 ·by_cases c1 : devsOk l = true
  ·rw [if_pos c1]
   refine Ev.pos c1 (Ev.got (in_eq _ _ _) ?_)
   by_cases c2 : (1 ≤ reps ∧ reps ≤ 5)
   ·rw [if_pos c2]
    refine Ev.pos (decide_eq_true c2) ?_
    by_cases c3 : reps > (l.length : Int)
    ·rw [if_pos c3]; exact Ev.pos c3 n1
    ·rw [if_neg c3]
     refine Ev.neg c3 (Ev.got (in_eq _ _ _) ?_)
     by_cases c4 : (1 ≤ (ps.length : Int) ∧ (ps.length : Int) ≤ 64)
     ·rw [if_pos c4, decide_eq_true c4]; exact y1
     ·rw [if_neg c4, decide_eq_false c4]; exact n1
   ·rw [if_neg c2]
    exact Ev.neg (by rw [decide_eq_true_eq]; exact c2) n1
  ·rw [if_neg c1]; exact Ev.neg c1 n1
 ·by_cases c1 : devsOk l = true
  ·rw [if_pos c1]
   refine Ev.pos c1 (Ev.got (l1In_eq _ _ _) ?_)
   by_cases c2 : (1 ≤ reps ∧ reps ≤ 5)
   ·rw [if_pos c2]
    refine Ev.pos (decide_eq_true c2) ?_
    by_cases c3 : reps > (l.length : Int)
    ·rw [if_pos c3]; exact Ev.pos c3 n2
    ·rw [if_neg c3]
     refine Ev.neg c3 (Ev.got (l1In_eq _ _ _) ?_)
     by_cases c4 : (1 ≤ (ps.length : Int) ∧ (ps.length : Int) ≤ 64)
     ·rw [if_pos c4, decide_eq_true c4]; exact y2
     ·rw [if_neg c4, decide_eq_false c4]; exact n2
   ·rw [if_neg c2]
    exact Ev.neg (by rw [decide_eq_true_eq]; exact c2) n2
  ·rw [if_neg c1]; exact Ev.neg c1 n2
def devAt (id : Int) : List S61 → Int × Int × Int × Bool
 | [] => (0, 0, 0, false)
 | d :: t => if d.f0 = id then (d.f0, d.f1, d.f2, true) else devAt id t
theorem devAt_l0i (xs : List S61) (id : Int) (hN : xs.length ≤ 4611686018427387904) : ∀ (l : List S61) (i : Nat), xs.drop i = l → Ev (fun k => impl_DevAt.l0 k id xs (xs.length : Int) (i : Int)) (devAt id l)
 | [], i, h => by
  have h1 := drop_nil' h
  refine Ev.step (f := fun _ => some (0, 0, 0, false)) (fun k => ?_) (Ev.now _)
  rw [impl_DevAt.l0, if_neg (by omega)]
 | a :: t, i, h => by
  obtain ⟨h1, _, h3⟩ := drop_cons' h z61
  have ih := devAt_l0i xs id hN t (i + 1) h3
  refine Ev.step (f := fun k => if a.f0 = id then some (a.f0, a.f1, a.f2, true) else impl_DevAt.l0 k id xs (xs.length : Int) ((i + 1 : Nat) : Int)) (fun k => ?_) ?_
  ·rw [impl_DevAt.l0, if_pos (by omega), if_pos (by omega), if_pos (by omega), rdT_at61 h, w64s h1 hN]
  ·by_cases c : a.f0 = id
   ·rw [devAt, if_pos c]; exact Ev.pos c (Ev.now _)
   ·rw [devAt, if_neg c]; exact Ev.neg c ih
theorem devAt_l0s (xs : List S61) (id : Int) (hN : xs.length ≤ 4611686018427387904) : ∀ (l : List S61) (i : Nat), xs.drop i = l → Ev (fun k => spec_DevAt.l0 k xs id (i : Int)) (devAt id l)
 | [], i, h => by
  have h1 := drop_nil' h
  refine Ev.step (f := fun _ => some (0, 0, 0, false)) (fun k => ?_) (Ev.now _)
  rw [spec_DevAt.l0, if_neg (by omega)]
 | a :: t, i, h => by
  obtain ⟨h1, _, h3⟩ := drop_cons' h z61
  have ih := devAt_l0s xs id hN t (i + 1) h3
  refine Ev.step (f := fun k => if a.f0 = id then some (a.f0, a.f1, a.f2, true) else spec_DevAt.l0 k xs id ((i + 1 : Nat) : Int)) (fun k => ?_) ?_
  ·rw [spec_DevAt.l0, if_pos (by omega), if_pos (by omega), rdT_at61 h, w64s h1 hN]
  ·by_cases c : a.f0 = id
   ·rw [devAt, if_pos c]; exact Ev.pos c (Ev.now _)
   ·rw [devAt, if_neg c]; exact Ev.neg c ih
theorem devAt_ev (xs : List S61) (id : Int) (hN : xs.length ≤ 4611686018427387904) : Ev (fun k => spec_DevAt.f k xs id) (devAt id xs) ∧ Ev (fun k => impl_DevAt.f k xs id) (devAt id xs) :=
 ⟨devAt_l0s xs id hN xs 0 rfl, devAt_l0i xs id hN xs 0 rfl⟩
def lostI (l : List S61) : List Int → Nat → Int
 | [], _ => -1
 | id :: t, i => if (devAt id l).2.2.2 = true then lostI l t (i + 1) else (i : Int)
theorem lostI_is (l : List S61) : ∀ (t : List Int) (i : Nat), (lostI l t i = -1 ∧ ∀ id ∈ t, (devAt id l).2.2.2 = true) ∨ ((i : Int) ≤ lostI l t i ∧ lostI l t i < i + t.length)
 | [], i => .inl ⟨rfl, fun _ h => by cases h⟩
 | id :: t, i => by
  rw [lostI]
  by_cases c : (devAt id l).2.2.2 = true
  ·rw [if_pos c]
   rcases lostI_is l t (i + 1) with h | h
   ·refine .inl ⟨h.1, fun x hx => ?_⟩
    rcases List.mem_cons.1 hx with rfl | hx
    ·exact c
    ·exact h.2 x hx
   ·right; simp only [List.length_cons]; omega
  ·rw [if_neg c]; right; simp only [List.length_cons]; omega
theorem lost_l0 (l : List S61) (hl : l.length ≤ 1048576) (xs : List Int) (hN : xs.length ≤ 1048576) : ∀ (t : List Int) (i : Nat), xs.drop i = t →
  Ev (fun k => impl_lost.l0 k l xs (xs.length : Int) (i : Int)) (lostI l t i) ∧ Ev (fun k => spec_l6Lost.l0 k l (i : Int) xs) (lostI l t i)
 | [], i, h => by
  have h1 := drop_nil' h
  refine ⟨Ev.step (f := fun _ => some (-1)) (fun k => ?_) (Ev.now _), Ev.step (f := fun _ => some (-1)) (fun k => ?_) (Ev.now _)⟩
  ·rw [impl_lost.l0, if_neg (by omega)]
  ·rw [spec_l6Lost.l0, if_neg (by omega)]
 | id :: t, i, h => by
  obtain ⟨h1, _, h3⟩ := drop_cons' h 0
  have hr : Hd (rd xs (i : Int) = id) := ⟨rd_at h⟩
  have w : Hd (wrap64 ((i : Int) + 1) = ((i + 1 : Nat) : Int)) := ⟨w64s h1 (by omega)⟩
  obtain ⟨i1, i2⟩ := lost_l0 l hl xs hN t (i + 1) h3
  obtain ⟨d1, d2⟩ := devAt_ev l id (by omega)
  rw [lostI]
  refine ⟨Ev.step (fun k => by rw [impl_lost.l0, if_pos (by omega), if_pos (by omega), if_pos (by omega), hr.out, w.out]) (Ev.bind d2 ?_), Ev.step (fun k => by rw [spec_l6Lost.l0, if_pos (by omega), if_pos (by omega), hr.out, w.out]) (Ev.bind d1 ?_)⟩
  all_goals
   by_cases c : (devAt id l).2.2.2 = true
   ·rw [if_pos c]; exact Ev.pos c (by assumption)
   ·rw [if_neg c]; exact Ev.neg c (Ev.now _)
theorem lost_ev (l : List S61) (hl : l.length ≤ 1048576) (xs : List Int) (hN : xs.length ≤ 1048576) : Ev (fun k => impl_lost.f k xs l) (lostI l xs 0) ∧ Ev (fun k => spec_l6Lost.f k xs l) (lostI l xs 0) := lost_l0 l hl xs hN xs 0 rfl
def cntI (id : Int) : List Int → Nat
 | [] => 0
 | a :: t => (if a = id then 1 else 0) + cntI id t
def loadOf (id : Int) : List S35 → Nat
 | [] => 0
 | p :: t => cntI id p.f0 + loadOf id t
def lens : List S35 → Nat
 | [] => 0
 | p :: t => p.f0.length + lens t
theorem cntI_le (id : Int) : ∀ l : List Int, cntI id l ≤ l.length
 | [] => Nat.le_refl _
 | a :: t => by
  have := cntI_le id t
  rw [cntI, List.length_cons]
  split <;> omega
theorem loadOf_le (id : Int) : ∀ l : List S35, loadOf id l ≤ lens l
 | [] => Nat.le_refl _
 | p :: t => by
  have h1 := loadOf_le id t
  have h2 := cntI_le id p.f0
  rw [loadOf, lens]
  omega
theorem lens_le (m : Nat) : ∀ l : List S35, (∀ x ∈ l, x.f0.length ≤ m) → lens l ≤ l.length * m
 | [], _ => Nat.zero_le _
 | p :: t, h => by
  have h1 := lens_le m t (fun x hx => h x (List.mem_cons_of_mem _ hx))
  have h2 := h p List.mem_cons_self
  rw [lens, List.length_cons, Nat.succ_mul]
  omega
theorem spec_loadOf_l1 (ps : List S35) (p : S35) (id reps : Int) (i : Nat) (hi : i < ps.length) (hp : rd_T35 ps (i : Int) = p) (hN : p.f0.length ≤ 4611686018427387904) (r : Int) :
  ∀ (l : List Int) (j : Nat) (n : Nat), p.f0.drop j = l → n + l.length ≤ 4611686018427387904 → Ev (fun k => spec_LoadOf.l0 k id ((n + cntI id l : Nat) : Int) (wrap64 ((i : Int) + 1)) reps ps) r → Ev (fun k => spec_LoadOf.l1 k id (n : Int) (i : Int) (j : Int) reps ps) r
 | [], j, n, h, hn, hr => by
  have h1 := drop_nil' h
  refine Ev.step (fun k => ?_) hr
  rw [spec_LoadOf.l1, if_pos (by omega), if_pos (by omega), hp, if_neg (by omega)]
  rfl
 | a :: t, j, n, h, hn, hr => by
  obtain ⟨h1, _, h3⟩ := drop_cons' h 0
  rw [List.length_cons] at hn
  have hrd : Hd (rd p.f0 (j : Int) = a) := ⟨rd_at h⟩
  have w : Hd (wrap64 ((j : Int) + 1) = ((j + 1 : Nat) : Int)) := ⟨w64s h1 hN⟩
  have wn : Hd (wrap64 ((n : Int) + 1) = ((n + 1 : Nat) : Int)) := ⟨w64s (n := n + 1) (by omega) (by omega)⟩
  by_cases c : a = id
  ·rw [cntI, if_pos c] at hr
   refine Ev.step (fun k => ?_) (spec_loadOf_l1 ps p id reps i hi hp hN r t (j + 1) (n + 1) h3 (by omega) (by rw [show n + 1 + cntI id t = n + (1 + cntI id t) by omega]; exact hr))
   rw [spec_LoadOf.l1, if_pos (by omega), if_pos (by omega), hp, if_pos (by omega), if_pos (by omega), hrd.out, if_pos c, w.out, wn.out]
  ·rw [cntI, if_neg c, Nat.zero_add] at hr
   refine Ev.step (fun k => ?_) (spec_loadOf_l1 ps p id reps i hi hp hN r t (j + 1) n h3 (by omega) hr)
   rw [spec_LoadOf.l1, if_pos (by omega), if_pos (by omega), hp, if_pos (by omega), if_pos (by omega), hrd.out, if_neg c, w.out]
theorem spec_loadOf_l0 (ps : List S35) (id reps : Int) (hN : ps.length ≤ 4611686018427387904) : ∀ (l : List S35) (i n : Nat), ps.drop i = l → n + lens l ≤ 4611686018427387904 → Ev (fun k => spec_LoadOf.l0 k id (n : Int) (i : Int) reps ps) ((n + loadOf id l : Nat) : Int)
 | [], i, n, h, hn => by
  have h1 := drop_nil' h
  refine Ev.step (f := fun _ => some (n : Int)) (fun k => ?_) (Ev.now _)
  rw [spec_LoadOf.l0, if_neg (by omega)]
 | p :: t, i, n, h, hn => by
  obtain ⟨h1, _, h3⟩ := drop_cons' h z35
  rw [lens] at hn
  have hc := cntI_le id p.f0
  have ih := spec_loadOf_l0 ps id reps hN t (i + 1) (n + cntI id p.f0) h3 (by omega)
  have hr : Ev (fun k => spec_LoadOf.l1 k id (n : Int) (i : Int) ((0 : Nat) : Int) reps ps) ((n + loadOf id (p :: t) : Nat) : Int) :=
   spec_loadOf_l1 ps p id reps i h1 (rdT_at35 h) (by omega) _ p.f0 0 n rfl (by omega) (by rw [w64s h1 hN, loadOf, ← Nat.add_assoc]; exact ih)
  refine Ev.step (fun k => ?_) hr
  rw [spec_LoadOf.l0, if_pos (by omega)]
  rfl
theorem spec_loadOf_ev (a : Int) (ps : List S35) (id : Int) (hN : ps.length ≤ 4611686018427387904) (hl : lens ps ≤ 4611686018427387904) : Ev (fun k => spec_LoadOf.f k a ps id) ((loadOf id ps : Nat) : Int) := by
 have h := spec_loadOf_l0 ps id a hN ps 0 0 rfl (by omega)
 rw [Nat.zero_add] at h
 exact h
theorem impl_loadOf_l1 (ps : List S35) (xs : List Int) (id : Int) (n0 i : Int) (hN : xs.length ≤ 4611686018427387904) (r : Int) :
  ∀ (l : List Int) (j : Nat) (n : Nat), xs.drop j = l → n + l.length ≤ 4611686018427387904 → Ev (fun k => impl_LoadOf.l0 k id ((n + cntI id l : Nat) : Int) ps n0 (wrap64 (i + 1))) r → Ev (fun k => impl_LoadOf.l1 k id (n : Int) ps n0 i xs (xs.length : Int) (j : Int)) r
 | [], j, n, h, hn, hr => by
  have h1 := drop_nil' h
  refine Ev.step (fun k => ?_) hr
  rw [impl_LoadOf.l1, if_neg (by omega)]
  rfl
 | a :: t, j, n, h, hn, hr => by
  obtain ⟨h1, _, h3⟩ := drop_cons' h 0
  rw [List.length_cons] at hn
  have hrd : Hd (rd xs (j : Int) = a) := ⟨rd_at h⟩
  have w : Hd (wrap64 ((j : Int) + 1) = ((j + 1 : Nat) : Int)) := ⟨w64s h1 hN⟩
  have wn : Hd (wrap64 ((n : Int) + 1) = ((n + 1 : Nat) : Int)) := ⟨w64s (n := n + 1) (by omega) (by omega)⟩
  by_cases c : a = id
  ·rw [cntI, if_pos c] at hr
   refine Ev.step (fun k => ?_) (impl_loadOf_l1 ps xs id n0 i hN r t (j + 1) (n + 1) h3 (by omega) (by rw [show n + 1 + cntI id t = n + (1 + cntI id t) by omega]; exact hr))
   rw [impl_LoadOf.l1, if_pos (by omega), if_pos (by omega), if_pos (by omega), hrd.out, if_pos c, w.out, wn.out]
  ·rw [cntI, if_neg c, Nat.zero_add] at hr
   refine Ev.step (fun k => ?_) (impl_loadOf_l1 ps xs id n0 i hN r t (j + 1) n h3 (by omega) hr)
   rw [impl_LoadOf.l1, if_pos (by omega), if_pos (by omega), if_pos (by omega), hrd.out, if_neg c, w.out]
theorem impl_loadOf_l0 (ps : List S35) (id : Int) (hN : ps.length ≤ 4611686018427387904) : ∀ (l : List S35) (i n : Nat), ps.drop i = l → n + lens l ≤ 4611686018427387904 → Ev (fun k => impl_LoadOf.l0 k id (n : Int) ps (ps.length : Int) (i : Int)) ((n + loadOf id l : Nat) : Int)
 | [], i, n, h, hn => by
  have h1 := drop_nil' h
  refine Ev.step (f := fun _ => some (n : Int)) (fun k => ?_) (Ev.now _)
  rw [impl_LoadOf.l0, if_neg (by omega)]
 | p :: t, i, n, h, hn => by
  obtain ⟨h1, _, h3⟩ := drop_cons' h z35
  rw [lens] at hn
  have hc := cntI_le id p.f0
  have ih := impl_loadOf_l0 ps id hN t (i + 1) (n + cntI id p.f0) h3 (by omega)
  have hr : Ev (fun k => impl_LoadOf.l1 k id (n : Int) ps (ps.length : Int) (i : Int) p.f0 (p.f0.length : Int) ((0 : Nat) : Int)) ((n + loadOf id (p :: t) : Nat) : Int) :=
   impl_loadOf_l1 ps p.f0 id _ _ (by omega) _ p.f0 0 n rfl (by omega) (by rw [w64s h1 hN, loadOf, ← Nat.add_assoc]; exact ih)
  refine Ev.step (fun k => ?_) hr
  rw [impl_LoadOf.l0, if_pos (by omega), if_pos (by omega), if_pos (by omega), rdT_at35 h]
  rfl
theorem impl_loadOf_ev (a : Int) (ps : List S35) (id : Int) (hN : ps.length ≤ 4611686018427387904) (hl : lens ps ≤ 4611686018427387904) : Ev (fun k => impl_LoadOf.f k a ps id) ((loadOf id ps : Nat) : Int) := by
 have h := impl_loadOf_l0 ps id hN ps 0 0 rfl (by omega)
 rw [Nat.zero_add] at h
 exact h
theorem devsFrom_mem (n : Nat) : ∀ (l : List S61) (pr : Option S61), devsFrom n pr l = true → ∀ d ∈ l, (0 ≤ d.f0 ∧ d.f0 ≤ 20) ∧ (0 ≤ d.f1 ∧ d.f1 ≤ 20) ∧ (1 ≤ d.f2 ∧ d.f2 ≤ 1000)
 | [], _, _, d, hd => by cases hd
 | a :: t, pr, h, d, hd => by
  rw [devsFrom] at h
  by_cases c : (0 ≤ a.f0 ∧ a.f0 ≤ 20) ∧ (0 ≤ a.f1 ∧ a.f1 ≤ 20) ∧ (1 ≤ a.f2 ∧ a.f2 ≤ 1000) ∧ (∀ q, pr = some q → q.f0 < a.f0)
  ·rw [if_pos c] at h
   rcases List.mem_cons.1 hd with rfl | hd
   ·exact ⟨c.1, c.2.1, c.2.2.1⟩
   ·exact devsFrom_mem n t (some a) h d hd
  ·rw [if_neg c] at h
   cases h
def zoneOf (l : List S61) (id : Int) : Option Int := if (devAt id l).2.2.2 = true then some (devAt id l).2.1 else none
def zonesFrom (l : List S61) : List Int → List Int → List Int
 | acc, [] => acc
 | acc, id :: t => match zoneOf l id with
  | none => zonesFrom l acc t
  | some z => if hasI acc z = true then zonesFrom l acc t else zonesFrom l (acc ++ [z]) t
theorem zones_l0 (l : List S61) (ids : List Int) (hl : l.length ≤ 1048576) (hN : ids.length ≤ 1048576) : ∀ (t : List Int) (i : Nat) (acc : List Int), ids.drop i = t → acc.length ≤ i →
  Ev (fun k => spec_l5Zones.l0 k ids l acc (i : Int)) (zonesFrom l acc t) ∧ Ev (fun k => impl_zonesIn.l0 k l acc ids (ids.length : Int) (i : Int)) (zonesFrom l acc t)
 | [], i, acc, h, ha => by
  have h1 := drop_nil' h
  refine ⟨Ev.step (f := fun _ => some acc) (fun k => ?_) (Ev.now _), Ev.step (f := fun _ => some acc) (fun k => ?_) (Ev.now _)⟩
  ·rw [spec_l5Zones.l0, if_neg (by omega)]
  ·rw [impl_zonesIn.l0, if_neg (by omega)]
 | id :: t, i, acc, h, ha => by
  obtain ⟨h1, _, h3⟩ := drop_cons' h 0
  have hr : Hd (rd ids (i : Int) = id) := ⟨rd_at h⟩
  have w : Hd (wrap64 ((i : Int) + 1) = ((i + 1 : Nat) : Int)) := ⟨w64s h1 (by omega)⟩
  obtain ⟨d1, d2⟩ := devAt_ev l id (by omega)
  have ih := fun acc' (ha' : acc'.length ≤ i + 1) => zones_l0 l ids hl hN t (i + 1) acc' h3 ha'
  rw [zonesFrom, zoneOf]
  by_cases c : (devAt id l).2.2.2 = true
  ·simp only [if_pos c]
   by_cases c2 : hasI acc (devAt id l).2.1 = true
   ·rw [if_pos c2]
    refine ⟨Ev.step (fun k => by rw [spec_l5Zones.l0, if_pos (by omega), if_pos (by omega), hr.out, w.out]) ?_, Ev.step (fun k => by rw [impl_zonesIn.l0, if_pos (by omega), if_pos (by omega), if_pos (by omega), hr.out, w.out]) ?_⟩
    ·exact Ev.bind d1 (Ev.pos c (Ev.bind (l4Has_ev acc _ (by omega)) (Ev.pos c2 (ih acc (by omega)).1)))
    ·exact Ev.bind d2 (Ev.pos c (Ev.bind (hasInt_ev acc _ (by omega)) (Ev.pos c2 (ih acc (by omega)).2)))
   ·rw [if_neg c2]
    refine ⟨Ev.step (fun k => by rw [spec_l5Zones.l0, if_pos (by omega), if_pos (by omega), hr.out, w.out]) ?_, Ev.step (fun k => by rw [impl_zonesIn.l0, if_pos (by omega), if_pos (by omega), if_pos (by omega), hr.out, w.out]) ?_⟩
    ·exact Ev.bind d1 (Ev.pos c (Ev.bind (l4Has_ev acc _ (by omega)) (Ev.neg c2 (Ev.pos (by omega) (ih _ (by simp; omega)).1))))
    ·exact Ev.bind d2 (Ev.pos c (Ev.bind (hasInt_ev acc _ (by omega)) (Ev.neg c2 (Ev.pos (by omega) (ih _ (by simp; omega)).2))))
  ·simp only [if_neg c]
   refine ⟨Ev.step (fun k => by rw [spec_l5Zones.l0, if_pos (by omega), if_pos (by omega), hr.out, w.out]) ?_, Ev.step (fun k => by rw [impl_zonesIn.l0, if_pos (by omega), if_pos (by omega), if_pos (by omega), hr.out, w.out]) ?_⟩
   ·exact Ev.bind d1 (Ev.neg c (ih acc (by omega)).1)
   ·exact Ev.bind d2 (Ev.neg c (ih acc (by omega)).2)
def zonesOf (ids : List Int) (l : List S61) : List Int := zonesFrom l [] ids
theorem zones_ev (ids : List Int) (l : List S61) (hN : ids.length ≤ 1048576) (hl : l.length ≤ 1048576) : Ev (fun k => spec_l5Zones.f k ids l) (zonesOf ids l) ∧ Ev (fun k => impl_zonesIn.f k ids l) (zonesOf ids l) :=
 zones_l0 l ids hl hN ids 0 [] rfl (Nat.le_refl _)
theorem zonesFrom_len (l : List S61) : ∀ (t acc : List Int), (zonesFrom l acc t).length ≤ acc.length + t.length
 | [], acc => by rw [zonesFrom]; simp
 | id :: t, acc => by
  rw [zonesFrom]
  rw [List.length_cons]
  split
  ·have := zonesFrom_len l t acc; omega
  ·split
   ·have := zonesFrom_len l t acc; omega
   ·next z _ _ => have := zonesFrom_len l t (acc ++ [z]); rw [List.length_append] at this; simp at this; omega
theorem wmul {n : Nat} {w : Int} (hn : n ≤ 1099511627776) (h0 : 1 ≤ w) (h1 : w ≤ 1000) : wrap64 (((n : Int) + 1) * w) = ((n : Int) + 1) * w := by
 have h2 : ((n : Int) + 1) * w ≤ 1099511627777 * 1000 := Int.mul_le_mul (by omega) h1 (by omega) (by omega)
 have h3 : 0 ≤ ((n : Int) + 1) * w := Int.mul_nonneg (by omega) (by omega)
 exact w64 (by omega) (by omega)
theorem wone {n : Nat} (hn : n ≤ 1099511627776) : wrap64 ((n : Int) + 1) = (n : Int) + 1 := w64 (by omega) (by omega)
abbrev lighter (r : List S35) (d q : S61) : Prop := ((loadOf d.f0 r : Nat) + 1 : Int) * q.f2 < ((loadOf q.f0 r : Nat) + 1 : Int) * d.f2
def bestFrom (r : List S35) (prt zs : List Int) : Option S61 → Bool → List S61 → Option S61
 | b, _, [] => b
 | b, fr, d :: t => if hasI prt d.f0 = true then bestFrom r prt zs b fr t else
  match b with
  | none => bestFrom r prt zs (some d) (!hasI zs d.f1) t
  | some q => if hasI zs d.f1 = false ∧ fr = false then bestFrom r prt zs (some d) true t
   else if (!hasI zs d.f1) = fr ∧ lighter r d q then bestFrom r prt zs (some d) fr t else bestFrom r prt zs (some q) fr t
theorem bestFrom_has {r : List S35} {prt zs : List Int} {b : Option S61} {fr : Bool} {d : S61} {t : List S61} (c : hasI prt d.f0 = true) : bestFrom r prt zs b fr (d :: t) = bestFrom r prt zs b fr t := by
 conv => lhs; unfold bestFrom
 rw [if_pos c]
theorem bestFrom_none {r : List S35} {prt zs : List Int} {fr : Bool} {d : S61} {t : List S61} (c : ¬hasI prt d.f0 = true) : bestFrom r prt zs none fr (d :: t) = bestFrom r prt zs (some d) (!hasI zs d.f1) t := by
 conv => lhs; unfold bestFrom
 rw [if_neg c]
theorem bestFrom_some {r : List S35} {prt zs : List Int} {q : S61} {fr : Bool} {d : S61} {t : List S61} (c : ¬hasI prt d.f0 = true) : bestFrom r prt zs (some q) fr (d :: t) = (if hasI zs d.f1 = false ∧ fr = false then bestFrom r prt zs (some d) true t
   else if (!hasI zs d.f1) = fr ∧ lighter r d q then bestFrom r prt zs (some d) fr t else bestFrom r prt zs (some q) fr t) := by
 conv => lhs; unfold bestFrom
 rw [if_neg c]
def idOf : Option S61 → Int
 | none => -1
 | some q => q.f0
theorem spec_best_l0 (xs : List S61) (hok : devsOk xs = true) (hN : xs.length ≤ 1048576) (r : List S35) (hr1 : r.length ≤ 1048576) (hr2 : lens r ≤ 1099511627776) (prt zs : List Int) (hp : prt.length ≤ 1048576) (hz : zs.length ≤ 1048576) (a : Int) :
  ∀ (t : List S61) (i : Nat) (b : Option S61) (fr : Bool) (x8 : Int), xs.drop i = t → (b = none ∧ x8 = -1 ∨ ∃ (q : S61) (j : Nat), b = some q ∧ x8 = (j : Int) ∧ xs[j]? = some q) →
   Ev (fun k => spec_Best.l0 k xs zs x8 fr (i : Int) a r prt) (idOf (bestFrom r prt zs b fr t))
 | [], i, b, fr, x8, h, hb => by
  have h1 := drop_nil' h
  refine Ev.step (f := fun k => spec_Best.j1 k xs zs x8 fr (i : Int) false a r prt) (fun k => by rw [spec_Best.l0, if_neg (by omega)]) ?_
  rcases hb with ⟨rfl, rfl⟩ | ⟨q, j, rfl, rfl, hj⟩
  ·exact Ev.step (f := fun _ => some (-1)) (fun k => by rw [spec_Best.j1, if_neg (by decide), if_pos (by omega)]) (Ev.now _)
  ·have hjl : j < xs.length := (List.getElem?_eq_some_iff.1 hj).1
   have hrd : rd_T61 xs (j : Int) = q := by unfold rd_T61; rw [Int.toNat_natCast, List.getD_eq_getElem?_getD, hj]; rfl
   exact Ev.step (f := fun _ => some q.f0) (fun k => by rw [spec_Best.j1, if_neg (by decide), if_neg (by omega), if_pos (by omega), if_pos (by omega), hrd]) (Ev.now _)
 | d :: t, i, b, fr, x8, h, hb => by
  obtain ⟨h1, hd0, h3⟩ := drop_cons' h z61
  have hdi : xs[i]? = some d := by
   rw [List.getElem?_eq_getElem h1]; rw [List.getD_eq_getElem?_getD, List.getElem?_eq_getElem h1] at hd0; exact congrArg some hd0
  have hr : Hd (rd_T61 xs (i : Int) = d) := ⟨rdT_at61 h⟩
  have w : Hd (wrap64 ((i : Int) + 1) = ((i + 1 : Nat) : Int)) := ⟨w64s h1 (by omega)⟩
  have hdb := devsFrom_mem xs.length xs none hok d (List.mem_of_mem_drop (by rw [h]; exact List.mem_cons_self))
  have ih := fun b' fr' x' hb' => spec_best_l0 xs hok hN r hr1 hr2 prt zs hp hz a t (i + 1) b' fr' x' h3 hb'
  have ihd := fun fr' => ih (some d) fr' (i : Int) (Or.inr ⟨d, i, rfl, rfl, hdi⟩)
  refine Ev.step (f := fun k => (spec_DevsOk.f k xs).bind fun t1 => spec_Best.j1 k xs zs x8 fr (i : Int) t1 a r prt) (fun k => by rw [spec_Best.l0, if_pos (by omega)]) (Ev.bind (devsOk_ev xs (by omega)).1 ?_)
  rw [hok]
  refine Ev.step (f := fun k => (spec_l4Has.f k prt d.f0).bind fun t1 => if t1 = true then spec_Best.l0 k xs zs x8 fr ((i + 1 : Nat) : Int) a r prt else (spec_l4Has.f k zs d.f1).bind fun t2 => if x8 < 0 then spec_Best.j2 k xs zs x8 fr (i : Int) (!t2) true a r prt d.f0 d.f1 d.f2 else if t2 = true then spec_Best.j2 k xs zs x8 fr (i : Int) (!t2) false a r prt d.f0 d.f1 d.f2 else spec_Best.j2 k xs zs x8 fr (i : Int) (!t2) (!fr) a r prt d.f0 d.f1 d.f2) (fun k => by rw [spec_Best.j1, if_pos rfl, if_pos (by omega), if_pos (by omega), hr.out, w.out]) ?_
  refine Ev.bind (l4Has_ev prt d.f0 (by omega)) ?_
  by_cases c : hasI prt d.f0 = true
  ·rw [bestFrom_has c]
   exact Ev.pos c (ih b fr x8 hb)
  refine Ev.neg c (Ev.bind (l4Has_ev zs d.f1 (by omega)) ?_)
  have take : ∀ is : Bool, Ev (fun k => spec_Best.j2 k xs zs x8 fr (i : Int) is true a r prt d.f0 d.f1 d.f2) (idOf (bestFrom r prt zs (some d) is t)) := fun is =>
   Ev.step (f := fun k => spec_Best.l0 k xs zs (i : Int) is ((i + 1 : Nat) : Int) a r prt) (fun k => by rw [spec_Best.j2, if_pos rfl, w.out]) (ihd is)
  rcases hb with ⟨rfl, rfl⟩ | ⟨q, j, rfl, rfl, hj⟩
  ·rw [bestFrom_none c]
   exact Ev.pos (by omega) (take _)
  ·have hjl : j < xs.length := (List.getElem?_eq_some_iff.1 hj).1
   have hrd : Hd (rd_T61 xs (j : Int) = q) := ⟨by unfold rd_T61; rw [Int.toNat_natCast, List.getD_eq_getElem?_getD, hj]; rfl⟩
   have hqb := devsFrom_mem xs.length xs none hok q (List.mem_of_getElem? hj)
   have ihq := ih (some q) fr (j : Int) (Or.inr ⟨q, j, rfl, rfl, hj⟩)
   have ld := loadOf_le d.f0 r
   have lq := loadOf_le q.f0 r
   have m1 : Hd (wrap64 (wrap64 (((loadOf d.f0 r : Nat) : Int) + 1) * q.f2) = (((loadOf d.f0 r : Nat) : Int) + 1) * q.f2) := ⟨by rw [wone (by omega)]; exact wmul (by omega) (by omega) (by omega)⟩
   have m2 : Hd (wrap64 (wrap64 (((loadOf q.f0 r : Nat) : Int) + 1) * d.f2) = (((loadOf q.f0 r : Nat) : Int) + 1) * d.f2) := ⟨by rw [wone (by omega)]; exact wmul (by omega) (by omega) (by omega)⟩
   have cmp : ∀ is : Bool, Ev (fun k => spec_Best.j2 k xs zs (j : Int) fr (i : Int) is false a r prt d.f0 d.f1 d.f2) (idOf (if is = fr ∧ lighter r d q then bestFrom r prt zs (some d) fr t else bestFrom r prt zs (some q) fr t)) := by
    intro is
    refine Ev.step (f := fun k => if (is == fr) = true then (spec_LoadOf.f k a r d.f0).bind fun t1 => if 0 ≤ (j : Int) then if (j : Int) < (xs.length : Int) then (spec_LoadOf.f k a r q.f0).bind fun t2 => if wrap64 (wrap64 (t1 + 1) * q.f2) < wrap64 (wrap64 (t2 + 1) * d.f2) then spec_Best.l0 k xs zs (i : Int) fr ((i + 1 : Nat) : Int) a r prt else spec_Best.l0 k xs zs (j : Int) fr ((i + 1 : Nat) : Int) a r prt else none else none else spec_Best.l0 k xs zs (j : Int) fr ((i + 1 : Nat) : Int) a r prt) (fun k => by rw [spec_Best.j2, if_neg (by decide), hrd.out, w.out]) ?_
    by_cases e : is = fr
    ·refine Ev.pos (by rw [e, beq_self_eq_true]) (Ev.bind (spec_loadOf_ev a r d.f0 (by omega) (by omega)) (Ev.pos (by omega) (Ev.pos (by omega) (Ev.bind (spec_loadOf_ev a r q.f0 (by omega) (by omega)) ?_))))
     rw [m1.out, m2.out]
     by_cases e2 : lighter r d q
     ·rw [if_pos ⟨e, e2⟩]
      exact Ev.pos e2 (ihd fr)
     ·rw [if_neg (fun hc => e2 hc.2)]
      exact Ev.neg e2 ihq
    ·rw [if_neg (fun hc => e hc.1)]
     exact Ev.neg (by rw [beq_iff_eq]; exact e) ihq
   refine Ev.neg (by omega) ?_
   rw [bestFrom_some c]
   generalize hasI zs d.f1 = hz1 at *
   cases hz1 with
   | true =>
    rw [if_neg (fun hc => by cases hc.1)]
    exact Ev.pos rfl (cmp _)
   | false =>
    refine Ev.neg (by decide) ?_
    cases fr with
    | true =>
     rw [if_neg (fun hc => by cases hc.2)]
     exact cmp _
    | false =>
     rw [if_pos ⟨rfl, rfl⟩]
     exact take _
theorem impl_best_l0 (xs : List S61) (hok : devsOk xs = true) (hN : xs.length ≤ 1048576) (r : List S35) (hr1 : r.length ≤ 1048576) (hr2 : lens r ≤ 1099511627776) (prt zs : List Int) (hp : prt.length ≤ 1048576) (hz : zs.length ≤ 1048576) (a : Int) :
  ∀ (t : List S61) (i : Nat) (b : Option S61) (fr : Bool) (ld y0 y1 y2 : Int), xs.drop i = t → (b = none ∧ y0 = -1 ∨ ∃ q : S61, b = some q ∧ y0 = q.f0 ∧ y1 = q.f1 ∧ y2 = q.f2 ∧ ld = ((loadOf q.f0 r : Nat) : Int) + 1 ∧ q ∈ xs) →
   Ev (fun k => impl_Best.l0 k zs ld fr xs (xs.length : Int) (i : Int) a r prt y0 y1 y2) (idOf (bestFrom r prt zs b fr t))
 | [], i, b, fr, ld, y0, y1, y2, h, hb => by
  have h1 := drop_nil' h
  have e : idOf b = y0 := by
   rcases hb with ⟨rfl, rfl⟩ | ⟨q, rfl, rfl, _⟩ <;> rfl
  refine Ev.step (f := fun _ => some y0) (fun k => by rw [impl_Best.l0, if_neg (by omega)]) ?_
  rw [bestFrom, e]
  exact Ev.now _
 | d :: t, i, b, fr, ld, y0, y1, y2, h, hb => by
  obtain ⟨h1, hd0, h3⟩ := drop_cons' h z61
  have hr : Hd (rd_T61 xs (i : Int) = d) := ⟨rdT_at61 h⟩
  have w : Hd (wrap64 ((i : Int) + 1) = ((i + 1 : Nat) : Int)) := ⟨w64s h1 (by omega)⟩
  have hdm : d ∈ xs := List.mem_of_mem_drop (by rw [h]; exact List.mem_cons_self)
  have hdb := devsFrom_mem xs.length xs none hok d hdm
  have ldd := loadOf_le d.f0 r
  have wd : Hd (wrap64 (((loadOf d.f0 r : Nat) : Int) + 1) = ((loadOf d.f0 r : Nat) : Int) + 1) := ⟨wone (by omega)⟩
  have ih := fun b' fr' ld' y0' y1' y2' hb' => impl_best_l0 xs hok hN r hr1 hr2 prt zs hp hz a t (i + 1) b' fr' ld' y0' y1' y2' h3 hb'
  have ihd := fun fr' => ih (some d) fr' (((loadOf d.f0 r : Nat) : Int) + 1) d.f0 d.f1 d.f2 (Or.inr ⟨d, rfl, rfl, rfl, rfl, rfl, hdm⟩)
  refine Ev.step (f := fun k => (impl_hasInt.f k prt d.f0).bind fun t1 => if t1 = true then impl_Best.l0 k zs ld fr xs (xs.length : Int) ((i + 1 : Nat) : Int) a r prt y0 y1 y2 else (impl_LoadOf.f k a r d.f0).bind fun t2 => (impl_hasInt.f k zs d.f1).bind fun t3 => if y0 < 0 then impl_Best.l0 k zs (wrap64 (t2 + 1)) (!t3) xs (xs.length : Int) ((i + 1 : Nat) : Int) a r prt d.f0 d.f1 d.f2 else if t3 = true then (if ((!t3) == fr) = true then (if wrap64 (wrap64 (t2 + 1) * y2) < wrap64 (ld * d.f2) then impl_Best.l0 k zs (wrap64 (t2 + 1)) (!t3) xs (xs.length : Int) ((i + 1 : Nat) : Int) a r prt d.f0 d.f1 d.f2 else impl_Best.l0 k zs ld fr xs (xs.length : Int) ((i + 1 : Nat) : Int) a r prt y0 y1 y2) else impl_Best.l0 k zs ld fr xs (xs.length : Int) ((i + 1 : Nat) : Int) a r prt y0 y1 y2) else (if fr = true then (if ((!t3) == fr) = true then (if wrap64 (wrap64 (t2 + 1) * y2) < wrap64 (ld * d.f2) then impl_Best.l0 k zs (wrap64 (t2 + 1)) (!t3) xs (xs.length : Int) ((i + 1 : Nat) : Int) a r prt d.f0 d.f1 d.f2 else impl_Best.l0 k zs ld fr xs (xs.length : Int) ((i + 1 : Nat) : Int) a r prt y0 y1 y2) else impl_Best.l0 k zs ld fr xs (xs.length : Int) ((i + 1 : Nat) : Int) a r prt y0 y1 y2) else impl_Best.l0 k zs (wrap64 (t2 + 1)) (!t3) xs (xs.length : Int) ((i + 1 : Nat) : Int) a r prt d.f0 d.f1 d.f2)) (fun k => by rw [impl_Best.l0, if_pos (by omega), if_pos (by omega), if_pos (by omega), hr.out, w.out]) ?_
  refine Ev.bind (hasInt_ev prt d.f0 (by omega)) ?_
  by_cases c : hasI prt d.f0 = true
  ·rw [bestFrom_has c]
   exact Ev.pos c (ih b fr ld y0 y1 y2 hb)
  refine Ev.neg c (Ev.bind (impl_loadOf_ev a r d.f0 (by omega) (by omega)) (Ev.bind (hasInt_ev zs d.f1 (by omega)) ?_))
  rw [wd.out]
  rcases hb with ⟨rfl, rfl⟩ | ⟨q, rfl, rfl, rfl, rfl, rfl, hq⟩
  ·rw [bestFrom_none c]
   exact Ev.pos (by omega) (ihd _)
  ·have hqb := devsFrom_mem xs.length xs none hok q hq
   have lq := loadOf_le q.f0 r
   have ihq := ih (some q) fr (((loadOf q.f0 r : Nat) : Int) + 1) q.f0 q.f1 q.f2 (Or.inr ⟨q, rfl, rfl, rfl, rfl, rfl, hq⟩)
   rw [show wrap64 ((((loadOf d.f0 r : Nat) : Int) + 1) * q.f2) = (((loadOf d.f0 r : Nat) : Int) + 1) * q.f2 from wmul (by omega) (by omega) (by omega), show wrap64 ((((loadOf q.f0 r : Nat) : Int) + 1) * d.f2) = (((loadOf q.f0 r : Nat) : Int) + 1) * d.f2 from wmul (by omega) (by omega) (by omega)]
   refine Ev.neg (by omega) ?_
   rw [bestFrom_some c]
   generalize hasI zs d.f1 = hz1 at *
   cases hz1 with
   | true =>
    rw [if_neg (fun hc => by cases hc.1)]
    refine Ev.pos rfl ?_
    cases fr with
    | true =>
     rw [if_neg (fun hc => by cases hc.1)]
     exact Ev.neg (by decide) ihq
    | false =>
     refine Ev.pos rfl ?_
     by_cases e2 : lighter r d q
     ·rw [if_pos ⟨rfl, e2⟩]
      exact Ev.pos e2 (ihd _)
     ·rw [if_neg (fun hc => e2 hc.2)]
      exact Ev.neg e2 ihq
   | false =>
    refine Ev.neg (by decide) ?_
    cases fr with
    | true =>
     rw [if_neg (fun hc => by cases hc.2)]
     refine Ev.pos rfl (Ev.pos rfl ?_)
     by_cases e2 : lighter r d q
     ·rw [if_pos ⟨rfl, e2⟩]
      exact Ev.pos e2 (ihd _)
     ·rw [if_neg (fun hc => e2 hc.2)]
      exact Ev.neg e2 ihq
    | false =>
     rw [if_pos ⟨rfl, rfl⟩]
     exact Ev.neg (by decide) (ihd _)
def bestOf (r : List S35) (prt : List Int) (l : List S61) : Option S61 := if devsOk l = true then bestFrom r prt (zonesOf prt l) none false l else none
theorem best_ev (a : Int) (r : List S35) (prt : List Int) (l : List S61) (hl : l.length ≤ 1048576) (hr1 : r.length ≤ 1048576) (hr2 : lens r ≤ 1099511627776) (hp : prt.length ≤ 1048576) :
  Ev (fun k => spec_Best.f k a r prt l) (idOf (bestOf r prt l)) ∧ Ev (fun k => impl_Best.f k a r prt l) (idOf (bestOf r prt l)) := by
 obtain ⟨z1, z2⟩ := zones_ev prt l hp hl
 have hz : (zonesOf prt l).length ≤ 1048576 := by
  have := zonesFrom_len l prt []
  rw [List.length_nil, Nat.zero_add] at this
  exact Nat.le_trans this hp
 obtain ⟨d1, d2⟩ := devsOk_ev l (by omega)
 simp only [spec_Best.f, impl_Best.f]
 rw [bestOf]
 refine ⟨Ev.bind z1 ?_, Ev.bind d2 ?_⟩
 ·by_cases c : devsOk l = true
  ·rw [if_pos c]
   exact spec_best_l0 l c hl r hr1 hr2 prt _ hp hz a l 0 none false (-1) rfl (Or.inl ⟨rfl, rfl⟩)
  ·rw [if_neg c]
   have stop : Ev (fun k => spec_Best.j1 k l (zonesOf prt l) (-1) false ((0 : Nat) : Int) false a r prt) (-1) := Ev.step (f := fun _ => some (-1)) (fun k => by rw [spec_Best.j1, if_neg (by decide), if_pos (by omega)]) (Ev.now _)
   by_cases c0 : (0 : Int) < (l.length : Int)
   ·refine Ev.step (f := fun k => (spec_DevsOk.f k l).bind fun t1 => spec_Best.j1 k l (zonesOf prt l) (-1) false ((0 : Nat) : Int) t1 a r prt) (fun k => by rw [spec_Best.l0, if_pos (by omega)]; rfl) (Ev.bind d1 ?_)
    rw [Bool.eq_false_iff.mpr c]
    exact stop
   ·exact Ev.step (f := fun k => spec_Best.j1 k l (zonesOf prt l) (-1) false ((0 : Nat) : Int) false a r prt) (fun k => by rw [spec_Best.l0, if_neg (by omega)]; rfl) stop
 ·by_cases c : devsOk l = true
  ·rw [if_pos c]
   exact Ev.pos c (Ev.bind z2 (impl_best_l0 l c hl r hr1 hr2 prt _ hp hz a l 0 none false 0 (-1) 0 0 rfl (Or.inl ⟨rfl, rfl⟩)))
  ·rw [if_neg c]
   exact Ev.neg c (Ev.now _)
theorem devAt_fst (id : Int) : ∀ l : List S61, (devAt id l).2.2.2 = true → (devAt id l).1 = id
 | [], h => by rw [devAt] at h; cases h
 | d :: t, h => by
  rw [devAt] at h ⊢
  by_cases c : d.f0 = id
  ·rw [if_pos c]; exact c
  ·rw [if_neg c] at h ⊢; exact devAt_fst id t h
abbrev heavier (l : List S61) (ps : List S35) (best id : Int) : Prop := (devAt best l).2.2.2 = true ∧ (devAt id l).2.1 = (devAt best l).2.1 ∧ ((loadOf id ps : Nat) : Int) - ((loadOf best ps : Nat) : Int) ≥ 2
def heavyI (l : List S61) (ps : List S35) (best : Int) : List Int → Nat → Int
 | [], _ => -1
 | id :: t, i => if heavier l ps best id then (i : Int) else heavyI l ps best t (i + 1)
theorem heavyI_is (l : List S61) (ps : List S35) (best : Int) : ∀ (t : List Int) (i : Nat), heavyI l ps best t i = -1 ∨ ((i : Int) ≤ heavyI l ps best t i ∧ heavyI l ps best t i < i + t.length)
 | [], i => .inl rfl
 | id :: t, i => by
  rw [heavyI]
  by_cases c : heavier l ps best id
  ·rw [if_pos c]; right; simp only [List.length_cons]; omega
  ·rw [if_neg c]
   rcases heavyI_is l ps best t (i + 1) with h | h
   ·exact .inl h
   ·right; simp only [List.length_cons]; omega
theorem heavy_impl (l : List S61) (hl : l.length ≤ 1048576) (a : Int) (ps : List S35) (hps : ps.length ≤ 1048576) (hl2 : lens ps ≤ 1099511627776) (best : Int) (xs : List Int) (hN : xs.length ≤ 1048576) : ∀ (t : List Int) (i : Nat), xs.drop i = t →
  Ev (fun k => impl_heavy.l0 k l best (devAt best l).2.2.2 xs (xs.length : Int) (i : Int) a ps (devAt best l).1 (devAt best l).2.1 (devAt best l).2.2.1) (if heavyI l ps best t i = -1 then ((-1 : Int), (-1 : Int)) else (heavyI l ps best t i, best))
 | [], i, h => by
  have h1 := drop_nil' h
  rw [heavyI, if_pos rfl]
  refine Ev.step (f := fun _ => some (-1, -1)) (fun k => ?_) (Ev.now _)
  rw [impl_heavy.l0, if_neg (by omega)]
 | id :: t, i, h => by
  obtain ⟨h1, _, h3⟩ := drop_cons' h 0
  have hr : Hd (rd xs (i : Int) = id) := ⟨rd_at h⟩
  have w : Hd (wrap64 ((i : Int) + 1) = ((i + 1 : Nat) : Int)) := ⟨w64s h1 (by omega)⟩
  have ih := heavy_impl l hl a ps hps hl2 best xs hN t (i + 1) h3
  have d2 := (devAt_ev l id (by omega)).2
  have o1 := impl_loadOf_ev a ps id (by omega) (by omega)
  have o2 := impl_loadOf_ev a ps best (by omega) (by omega)
  have b1 := loadOf_le id ps
  have b2 := loadOf_le best ps
  have ws : Hd (wrap64 (((loadOf id ps : Nat) : Int) - ((loadOf best ps : Nat) : Int)) = ((loadOf id ps : Nat) : Int) - ((loadOf best ps : Nat) : Int)) := ⟨w64 (by omega) (by omega)⟩
  rw [heavyI]
  refine Ev.step (fun k => by rw [impl_heavy.l0, if_pos (by omega), if_pos (by omega), if_pos (by omega), hr.out, w.out]) (Ev.bind d2 ?_)
  by_cases c1 : (devAt best l).2.2.2 = true
  ·refine Ev.pos c1 ?_
   by_cases c2 : (devAt id l).2.1 = (devAt best l).2.1
   ·refine Ev.pos c2 (Ev.bind o1 (Ev.bind o2 ?_))
    rw [ws.out]
    by_cases c3 : ((loadOf id ps : Nat) : Int) - ((loadOf best ps : Nat) : Int) ≥ 2
    ·rw [if_pos (⟨c1, c2, c3⟩ : heavier l ps best id), if_neg (by omega)]
     exact Ev.pos c3 (Ev.now _)
    ·rw [if_neg (fun (q : heavier l ps best id) => c3 q.2.2)]
     exact Ev.neg c3 ih
   ·rw [if_neg (fun (q : heavier l ps best id) => c2 q.2.1)]
    exact Ev.neg c2 ih
  ·rw [if_neg (fun (q : heavier l ps best id) => c1 q.1)]
   exact Ev.neg c1 ih
theorem heavy_spec (l : List S61) (hl : l.length ≤ 1048576) (a : Int) (ps : List S35) (hps : ps.length ≤ 1048576) (hl2 : lens ps ≤ 1099511627776) (best : Int) (xs : List Int) (hN : xs.length ≤ 1048576) (hall : ∀ id ∈ xs, (devAt id l).2.2.2 = true) : ∀ (t : List Int) (i : Nat), xs.drop i = t →
  Ev (fun k => spec_l6Heavy.l0 k l best (devAt best l).2.2.2 (i : Int) a ps xs (devAt best l).1 (devAt best l).2.1 (devAt best l).2.2.1) (heavyI l ps best t i)
 | [], i, h => by
  have h1 := drop_nil' h
  rw [heavyI]
  refine Ev.step (f := fun k => spec_l6Heavy.j1 k l best (devAt best l).2.2.2 (i : Int) false a ps xs (devAt best l).1 (devAt best l).2.1 (devAt best l).2.2.1) (fun k => by rw [spec_l6Heavy.l0, if_neg (by omega)]) ?_
  exact Ev.step (f := fun _ => some (-1)) (fun k => by rw [spec_l6Heavy.j1, if_neg (by simp)]) (Ev.now _)
 | id :: t, i, h => by
  obtain ⟨h1, _, h3⟩ := drop_cons' h 0
  have hr : Hd (rd xs (i : Int) = id) := ⟨rd_at h⟩
  have w : Hd (wrap64 ((i : Int) + 1) = ((i + 1 : Nat) : Int)) := ⟨w64s h1 (by omega)⟩
  have ih := heavy_spec l hl a ps hps hl2 best xs hN hall t (i + 1) h3
  have d1 := (devAt_ev l id (by omega)).1
  have hid := hall id (List.mem_of_mem_drop (by rw [h]; exact List.mem_cons_self))
  have hf := devAt_fst id l hid
  have o1 := spec_loadOf_ev a ps id (by omega) (by omega)
  have o2 := spec_loadOf_ev a ps best (by omega) (by omega)
  have b1 := loadOf_le id ps
  have b2 := loadOf_le best ps
  have ws : Hd (wrap64 (((loadOf id ps : Nat) : Int) - ((loadOf best ps : Nat) : Int)) = ((loadOf id ps : Nat) : Int) - ((loadOf best ps : Nat) : Int)) := ⟨w64 (by omega) (by omega)⟩
  rw [heavyI]
  refine Ev.step (fun k => by rw [spec_l6Heavy.l0, if_pos (by omega)]) ?_
  by_cases c1 : (devAt best l).2.2.2 = true
  ·refine Ev.step (fun k => by rw [spec_l6Heavy.j1, if_pos c1, if_pos (by omega), if_pos (by omega), hr.out, w.out]) (Ev.bind d1 (Ev.pos hid ?_))
   by_cases c2 : (devAt id l).2.1 = (devAt best l).2.1
   ·refine Ev.pos c2 ?_
    rw [hf]
    refine Ev.bind o1 (Ev.bind o2 ?_)
    rw [ws.out]
    by_cases c3 : ((loadOf id ps : Nat) : Int) - ((loadOf best ps : Nat) : Int) ≥ 2
    ·rw [if_pos (⟨c1, c2, c3⟩ : heavier l ps best id)]
     exact Ev.pos c3 (Ev.now _)
    ·rw [if_neg (fun q => c3 q.2.2)]
     exact Ev.neg c3 ih
   ·rw [if_neg (fun q => c2 q.2.1)]
    exact Ev.neg c2 ih
  ·have hz : ∀ (s : List Int) (j : Nat), heavyI l ps best s j = -1 := fun s => by
    induction s with
    | nil => intro j; rw [heavyI]
    | cons x s ihs => intro j; rw [heavyI, if_neg (fun q => c1 q.1)]; exact ihs _
   rw [if_neg (fun q => c1 q.1), hz]
   exact Ev.step (f := fun _ => some (-1)) (fun k => by rw [spec_l6Heavy.j1, if_neg c1]) (Ev.now _)
def moveOf (l : List S61) (ps : List S35) (p : List Int) : Int × Int :=
 if lostI l p 0 ≥ 0 then (lostI l p 0, idOf (bestOf ps (p.take (lostI l p 0).toNat ++ p.drop (lostI l p 0 + 1).toNat) l)) else (heavyI l ps (idOf (bestOf ps p l)) p 0, idOf (bestOf ps p l))
def moveAll (l : List S61) : List S35 → List S35 → Nat → List S35 × Nat
 | A, [], n => (A, n)
 | A, p :: t, n => if (moveOf l (A ++ p :: t) p.f0).1 ≥ 0 ∧ (moveOf l (A ++ p :: t) p.f0).2 ≥ 0 then moveAll l (A ++ [⟨p.f0.set (moveOf l (A ++ p :: t) p.f0).1.toNat (moveOf l (A ++ p :: t) p.f0).2⟩]) t (n + 1) else moveAll l (A ++ [p]) t n
theorem moveAll_len (l : List S61) : ∀ (t A : List S35) (n : Nat), (∀ p ∈ A ++ t, p.f0.length ≤ 5) → (moveAll l A t n).1.length = A.length + t.length ∧ (∀ p ∈ (moveAll l A t n).1, p.f0.length ≤ 5) ∧ (moveAll l A t n).2 ≤ n + t.length
 | [], A, n, h => by rw [moveAll]; exact ⟨rfl, fun p hp => h p (by simp [hp]), by simp⟩
 | p :: t, A, n, h => by
  have hp := h p (by simp)
  rw [moveAll]
  split
  ·have ih := moveAll_len l t (A ++ [⟨p.f0.set (moveOf l (A ++ p :: t) p.f0).1.toNat (moveOf l (A ++ p :: t) p.f0).2⟩]) (n + 1) (fun q hq => by
    simp only [List.append_assoc, List.mem_append, List.mem_cons, List.not_mem_nil, or_false, List.mem_singleton] at hq
    rcases hq with hq | rfl | hq
    ·exact h q (by simp [hq])
    ·simp only [List.length_set]; exact hp
    ·exact h q (by simp [hq]))
   simp only [List.length_append, List.length_cons, List.length_nil] at ih ⊢
   exact ⟨by omega, ih.2.1, by omega⟩
  ·have ih := moveAll_len l t (A ++ [p]) n (fun q hq => by
    simp only [List.append_assoc, List.mem_append, List.mem_cons, List.not_mem_nil, or_false, List.mem_singleton] at hq
    rcases hq with hq | rfl | hq
    ·exact h q (by simp [hq])
    ·exact hp
    ·exact h q (by simp [hq]))
   simp only [List.length_append, List.length_cons, List.length_nil] at ih ⊢
   exact ⟨by omega, ih.2.1, by omega⟩
theorem move_l0 (l : List S61) (hl : l.length ≤ 1048576) (a : Int) : ∀ (t A : List S35) (n : Nat), (A ++ t).length ≤ 64 → n ≤ A.length → (∀ p ∈ A ++ t, p.f0.length ≤ 5) →
  Ev (fun k => impl_Rebalance.l0 k l (n : Int) ((A ++ t).length : Int) (A.length : Int) a (A ++ t)) (a, (moveAll l A t n).1, ((moveAll l A t n).2 : Int)) ∧ Ev (fun k => spec_Rebalance.l0 k l (n : Int) (A.length : Int) a (A ++ t)) (a, (moveAll l A t n).1, ((moveAll l A t n).2 : Int))
 | [], A, n, hN, hn, hx => by
  rw [moveAll, List.append_nil]
  refine ⟨Ev.step (f := fun _ => some (a, A, (n : Int))) (fun k => ?_) (Ev.now _), Ev.step (f := fun _ => some (a, A, (n : Int))) (fun k => ?_) (Ev.now _)⟩
  ·rw [impl_Rebalance.l0, if_neg (by omega)]
  ·rw [spec_Rebalance.l0, if_neg (by omega)]
 | p :: t, A, n, hN, hn, hx => by
  have hN' := hN
  simp only [List.length_append, List.length_cons] at hN'
  have hp := hx p (by simp)
  have hrd : Hd (rd_T35 (A ++ p :: t) (A.length : Int) = p) := ⟨rdT_at35 (by rw [List.drop_left])⟩
  have w : Hd (wrap64 ((A.length : Int) + 1) = ((A.length + 1 : Nat) : Int)) := ⟨w64 (by omega) (by omega)⟩
  have wn : Hd (wrap64 ((n : Int) + 1) = ((n + 1 : Nat) : Int)) := ⟨w64 (by omega) (by omega)⟩
  have hl2 : lens (A ++ p :: t) ≤ 1099511627776 := by have := lens_le 5 _ hx; omega
  have hset : ∀ q : S35, (A ++ p :: t).set ((A.length : Int)).toNat q = (A ++ [q]) ++ t := fun q => by rw [Int.toNat_natCast]; exact set_mid A p q t
  have hlen : ∀ q : S35, ((A ++ [q]) ++ t).length = (A ++ p :: t).length := fun q => by simp
  have hmem : ∀ q : S35, q.f0.length ≤ 5 → ∀ x ∈ (A ++ [q]) ++ t, x.f0.length ≤ 5 := fun q hq x hx' => by
   simp only [List.append_assoc, List.mem_append, List.mem_cons, List.not_mem_nil, or_false, List.mem_singleton] at hx'
   rcases hx' with h | rfl | h
   ·exact hx x (by simp [h])
   ·exact hq
   ·exact hx x (by simp [h])
  have stay := move_l0 l hl a t (A ++ [p]) n (by rw [hlen]; exact hN) (by simp; omega) (hmem p hp)
  have go := fun (q : S35) (hq : q.f0.length ≤ 5) => move_l0 l hl a t (A ++ [q]) (n + 1) (by rw [hlen]; exact hN) (by simp; omega) (hmem q hq)
  have ea : (A ++ [p]) ++ t = A ++ p :: t := by simp
  have eb : ∀ q : S35, ((A ++ [q]).length : Int) = ((A.length + 1 : Nat) : Int) := fun q => by simp
  rw [ea, eb] at stay
  obtain ⟨s1, s2⟩ := stay
  have go1 : ∀ q : S35, q.f0.length ≤ 5 → Ev (fun k => impl_Rebalance.l0 k l ((n + 1 : Nat) : Int) ((A ++ p :: t).length : Int) ((A.length + 1 : Nat) : Int) a ((A ++ p :: t).set ((A.length : Int)).toNat q)) (a, (moveAll l (A ++ [q]) t (n + 1)).1, ((moveAll l (A ++ [q]) t (n + 1)).2 : Int)) := fun q hq => by
   have := (go q hq).1
   rw [eb, hlen] at this
   rw [hset]; exact this
  have go2 : ∀ q : S35, q.f0.length ≤ 5 → Ev (fun k => spec_Rebalance.l0 k l ((n + 1 : Nat) : Int) ((A.length + 1 : Nat) : Int) a ((A ++ p :: t).set ((A.length : Int)).toNat q)) (a, (moveAll l (A ++ [q]) t (n + 1)).1, ((moveAll l (A ++ [q]) t (n + 1)).2 : Int)) := fun q hq => by
   have := (go q hq).2
   rw [eb] at this
   rw [hset]; exact this
  obtain ⟨l1, l2⟩ := lost_ev l hl p.f0 (by omega)
  have his := lostI_is l p.f0 0
  rw [moveAll]
  unfold moveOf
  by_cases c1 : lostI l p.f0 0 ≥ 0
  ·have hlt : lostI l p.f0 0 < p.f0.length := by rcases his with h | h <;> omega
   simp only [if_pos c1]
   generalize lostI l p.f0 0 = j at *
   have wj : Hd (wrap64 (j + 1) = j + 1) := ⟨w64 (by omega) (by omega)⟩
   have ht : (p.f0.take j.toNat).length ≤ 5 := by rw [List.length_take]; omega
   have hd : (p.f0.drop (j + 1).toNat).length ≤ 5 := by rw [List.length_drop]; omega
   obtain ⟨b1, b2⟩ := best_ev a (A ++ p :: t) (p.f0.take j.toNat ++ p.f0.drop (j + 1).toNat) l hl (by omega) hl2 (by rw [List.length_append]; omega)
   generalize idOf (bestOf (A ++ p :: t) (p.f0.take j.toNat ++ p.f0.drop (j + 1).toNat) l) = tq at *
   refine ⟨Ev.step (fun k => by rw [impl_Rebalance.l0, if_pos (by simp only [List.length_append, List.length_cons]; omega), if_pos (by omega), if_pos (by simp only [List.length_append, List.length_cons]; omega), hrd.out, w.out, wn.out]) (Ev.bind l1 (Ev.pos c1 ?_)), Ev.step (fun k => by rw [spec_Rebalance.l0, if_pos (by simp only [List.length_append, List.length_cons]; omega), if_pos (by omega), hrd.out, w.out, wn.out]) (Ev.bind l2 (Ev.pos c1 (Ev.some_bind ?_)))⟩
   ·refine Ev.pos c1 (Ev.pos (by omega) ?_)
    refine Ev.got (copyInts_eq _ (by omega)) ?_
    rw [wj.out]
    refine Ev.pos (by omega) (Ev.pos (by omega) (Ev.some_bind ?_))
    refine Ev.pos (by omega) (Ev.bind b2 ?_)
    by_cases c2 : tq ≥ 0
    ·rw [if_pos ⟨c1, c2⟩]
     exact Ev.pos c2 (Ev.pos hlt (go1 _ (by simp only [List.length_set]; omega)))
    ·rw [if_neg (fun q => c2 q.2)]
     exact Ev.neg c2 s1
   ·refine Ev.pos c1 (Ev.pos (by omega) (Ev.some_bind ?_))
    refine Ev.pos (by simp only [List.length_nil]; omega) (Ev.some_bind ?_)
    rw [wj.out, List.nil_append]
    refine Ev.pos (by omega) (Ev.pos (by omega) (Ev.some_bind ?_))
    refine Ev.pos (by omega) (Ev.bind b1 ?_)
    by_cases c2 : tq ≥ 0
    ·rw [if_pos ⟨c1, c2⟩]
     exact Ev.pos c2 (Ev.pos hlt (go2 _ (by simp only [List.length_set]; omega)))
    ·rw [if_neg (fun q => c2 q.2)]
     exact Ev.neg c2 s2
  ·have hall : ∀ id ∈ p.f0, (devAt id l).2.2.2 = true := by
    rcases his with h | h
    ·exact h.2
    ·omega
   simp only [if_neg c1]
   obtain ⟨b1, b2⟩ := best_ev a (A ++ p :: t) p.f0 l hl (by omega) hl2 (by omega)
   generalize idOf (bestOf (A ++ p :: t) p.f0 l) = best at *
   have v1 := heavy_impl l hl a (A ++ p :: t) (by omega) hl2 best p.f0 (by omega) p.f0 0 rfl
   have v2 := heavy_spec l hl a (A ++ p :: t) (by omega) hl2 best p.f0 (by omega) hall p.f0 0 rfl
   have hh := heavyI_is l (A ++ p :: t) best p.f0 0
   obtain ⟨e1, e2⟩ := devAt_ev l best (by omega)
   have u1 : Ev (fun k => impl_heavy.f k a (A ++ p :: t) p.f0 l) (if heavyI l (A ++ p :: t) best p.f0 0 = -1 then ((-1 : Int), (-1 : Int)) else (heavyI l (A ++ p :: t) best p.f0 0, best)) := by
    simp only [impl_heavy.f]
    exact Ev.bind b2 (Ev.bind e2 v1)
   have u2 : Ev (fun k => spec_l6Heavy.f k a (A ++ p :: t) p.f0 l best) (heavyI l (A ++ p :: t) best p.f0 0) := by
    simp only [spec_l6Heavy.f]
    exact Ev.bind e1 v2
   generalize heavyI l (A ++ p :: t) best p.f0 0 = j at *
   refine ⟨Ev.step (fun k => by rw [impl_Rebalance.l0, if_pos (by simp only [List.length_append, List.length_cons]; omega), if_pos (by omega), if_pos (by simp only [List.length_append, List.length_cons]; omega), hrd.out, w.out, wn.out]) (Ev.bind l1 (Ev.neg c1 (Ev.bind u1 ?_))), Ev.step (fun k => by rw [spec_Rebalance.l0, if_pos (by simp only [List.length_append, List.length_cons]; omega), if_pos (by omega), hrd.out, w.out, wn.out]) (Ev.bind l2 (Ev.neg c1 (Ev.bind b1 (Ev.bind u2 ?_))))⟩
   ·by_cases c2 : j = -1
    ·rw [if_pos c2, if_neg (fun q => by omega)]
     exact Ev.neg (by simp) s1
    ·rw [if_neg c2]
     have hj : 0 ≤ j ∧ j < p.f0.length := by rcases hh with h | h <;> omega
     refine Ev.pos hj.1 ?_
     by_cases c3 : best ≥ 0
     ·rw [if_pos ⟨hj.1, c3⟩]
      exact Ev.pos c3 (Ev.pos hj.1 (Ev.pos hj.2 (go1 _ (by simp only [List.length_set]; omega))))
     ·rw [if_neg (fun q => c3 q.2)]
      exact Ev.neg c3 s1
   ·by_cases c2 : j ≥ 0
    ·have hj : j < p.f0.length := by rcases hh with h | h <;> omega
     refine Ev.pos c2 ?_
     by_cases c3 : best ≥ 0
     ·rw [if_pos ⟨c2, c3⟩]
      exact Ev.pos c3 (Ev.pos c2 (Ev.pos hj (go2 _ (by simp only [List.length_set]; omega))))
     ·rw [if_neg (fun q => c3 q.2)]
      exact Ev.neg c3 s2
    ·rw [if_neg (fun q => c2 q.1)]
     exact Ev.neg c2 s2
def rebOf (a : Int) (ps : List S35) (l : List S61) : Int × List S35 × Int := if mayMove a ps l = true then (a, (moveAll l [] ps 0).1, ((moveAll l [] ps 0).2 : Int)) else (a, ps, -1)
theorem reb_ev (a : Int) (ps : List S35) (l : List S61) (hl : l.length ≤ 1048576) (hN : ps.length ≤ 1048576) (hx : ∀ x ∈ ps, x.f0.length ≤ 1048576) : Ev (fun k => impl_Rebalance.f k a ps l) (rebOf a ps l) ∧ Ev (fun k => spec_Rebalance.f k a ps l) (rebOf a ps l) := by
 obtain ⟨c1, c2⟩ := copyRing_ev a ps hN hx
 obtain ⟨m1, m2⟩ := mayMove_ev a ps l hl hN hx
 simp only [impl_Rebalance.f, spec_Rebalance.f]
 unfold rebOf
 by_cases c : mayMove a ps l = true
 ·obtain ⟨_, y1, y2⟩ := mayMove_is a ps l c
  obtain ⟨r1, r2⟩ := move_l0 l hl a ps [] 0 y1 (by simp) y2
  rw [if_pos c]
  exact ⟨Ev.bind c1 (Ev.bind m1 (Ev.pos c r1)), Ev.bind c2 (Ev.bind m2 (Ev.pos c r2))⟩
 ·rw [if_neg c]
  exact ⟨Ev.bind c1 (Ev.bind m1 (Ev.neg c (Ev.now _))), Ev.bind c2 (Ev.bind m2 (Ev.neg c (Ev.now _)))⟩
theorem reb_fits (a : Int) (ps : List S35) (l : List S61) (m : Nat) (hm : 5 ≤ m) (hx : ∀ x ∈ ps, x.f0.length ≤ m) : (rebOf a ps l).2.1.length = ps.length ∧ ∀ x ∈ (rebOf a ps l).2.1, x.f0.length ≤ m := by
 unfold rebOf
 by_cases c : mayMove a ps l = true
 ·obtain ⟨_, y1, y2⟩ := mayMove_is a ps l c
  obtain ⟨z1, z2, _⟩ := moveAll_len l ps [] 0 y2
  rw [if_pos c]
  refine ⟨by simpa using z1, fun x h => Nat.le_trans (z2 x h) hm⟩
 ·rw [if_neg c]; exact ⟨rfl, hx⟩
theorem szPart_eq (l : List Int) (n : Int) (hl : l.length ≤ 9223372036854775807) (h0 : 0 ≤ n) (h1 : n ≤ 1048576) : laws_szPart.f l n = some (if n < l.length then -1 else n - l.length) := by
 unfold laws_szPart.f laws_szIntS.f
 rw [w64 (by omega) (by omega)]
 by_cases h : n < l.length
 ·rw [if_pos (by omega), Option.bind_some, if_pos (by omega), if_pos h]
 ·rw [if_neg (by omega), Option.bind_some, if_neg (by omega), if_neg h]
def Fits (l : List S96) : Prop := l.length ≤ 1048576 ∧ ∀ x ∈ l, x.f0.length ≤ 1048576
theorem rdT_at96 {xs : List S96} {i : Nat} {a : S96} {t : List S96} (h : xs.drop i = a :: t) : rd_T96 xs (i : Int) = a := by
 unfold rd_T96; rw [Int.toNat_natCast]; exact (drop_cons' h _).2.1
theorem szPartS_l0 (xs : List S96) (hN : xs.length ≤ 4611686018427387904) (hx : ∀ x ∈ xs, x.f0.length ≤ 9223372036854775807) : ∀ (l : List S96) (i : Nat) (n : Int), xs.drop i = l → 0 ≤ n → n ≤ 1048576 → ∃ r, Ev (fun k => laws_szPartS.l0 k xs n (i : Int)) r ∧ (r < 0 ∨ (0 ≤ r ∧ r ≤ n ∧ ∀ x ∈ l, x.f0.length ≤ 1048576))
 | [], i, n, h, h0, h1 => by
  have hl := drop_nil' h
  refine ⟨n, Ev.step (f := fun _ => some n) (fun k => ?_) (Ev.now _), Or.inr ⟨h0, Int.le_refl _, by simp⟩⟩
  rw [laws_szPartS.l0, if_neg (by omega)]
 | a :: t, i, n, h, h0, h1 => by
  obtain ⟨hl, _, h3⟩ := drop_cons' h z96
  have ha : a.f0.length ≤ 9223372036854775807 := hx a (List.mem_of_mem_drop (by rw [h]; exact List.mem_cons_self))
  have hz := szPart_eq a.f0 n ha h0 h1
  have w : Hd (wrap64 ((i : Int) + 1) = ((i + 1 : Nat) : Int)) := ⟨w64s hl hN⟩
  have hr : Hd (rd_T96 xs (i : Int) = a) := ⟨rdT_at96 h⟩
  by_cases c : n < a.f0.length
  ·rw [if_pos c] at hz
   refine ⟨-1, Ev.step (f := fun _ => some (-1)) (fun k => ?_) (Ev.now _), Or.inl (by omega)⟩
   rw [laws_szPartS.l0, if_pos (by omega), if_pos (by omega), hr.out, hz, Option.bind_some, if_pos (by omega)]
  ·rw [if_neg c] at hz
   obtain ⟨r, r1, r2⟩ := szPartS_l0 xs hN hx t (i + 1) (n - a.f0.length) h3 (by omega) (by omega)
   refine ⟨r, Ev.step (fun k => ?_) r1, r2.imp id (fun ⟨q0, q1, q2⟩ => ⟨q0, by omega, fun x hm => ?_⟩)⟩
   ·rw [laws_szPartS.l0, if_pos (by omega), if_pos (by omega), hr.out, hz, Option.bind_some, if_neg (by omega), w.out]
   ·rcases List.mem_cons.1 hm with rfl | hm
    ·omega
    ·exact q2 x hm
theorem szRing_ev (a : Int) (l : List S96) (n : Int) (hl : l.length ≤ 9223372036854775807) (hx : ∀ x ∈ l, x.f0.length ≤ 9223372036854775807) (h0 : 0 ≤ n) (h1 : n ≤ 1048576) : ∃ r, Ev (fun k => laws_szRing.f k a l n) r ∧ (r < 0 ∨ (0 ≤ r ∧ r ≤ n ∧ Fits l)) := by
 simp only [laws_szRing.f, laws_szPartS.f]
 have w : Hd (wrap64 (n - (l.length : Int)) = n - l.length) := ⟨w64 (by omega) (by omega)⟩
 simp only [w.out]
 by_cases c : n - (l.length : Int) < 0
 ·simp only [if_pos c]
  refine ⟨-1, Ev.some_bind (Ev.pos (by omega) (Ev.now _)), Or.inl (by omega)⟩
 ·simp only [if_neg c]
  obtain ⟨r, r1, r2⟩ := szPartS_l0 l (by omega) hx l 0 (n - l.length) rfl (by omega) (by omega)
  by_cases c2 : r < 0
  ·exact ⟨-1, Ev.bind r1 (Ev.pos c2 (Ev.now _)), Or.inl (by omega)⟩
  ·refine ⟨r, Ev.bind r1 (Ev.neg c2 (Ev.now _)), Or.inr ?_⟩
   rcases r2 with r2 | ⟨q0, q1, q2⟩
   ·exact absurd r2 c2
   ·exact ⟨q0, by omega, by omega, q2⟩
theorem szDevS_eq (l : List S83) (n : Int) (hl : l.length ≤ 9223372036854775807) (h0 : 0 ≤ n) (h1 : n ≤ 1048576) : laws_szDevS.f l n = some (if n < l.length then -1 else n - l.length) := by
 unfold laws_szDevS.f
 rw [w64 (by omega) (by omega)]
 by_cases h : n < l.length
 ·rw [if_pos (by omega), if_pos h]
 ·rw [if_neg (by omega), if_neg h]
theorem toIntS_l0 (xs : List Int) (hN : xs.length ≤ 4611686018427387904) : ∀ (l : List Int) (i : Nat) (A acc : List Int), xs.drop i = l → A.length = i → acc = A ++ List.replicate l.length 0 → Ev (fun k => laws_toIntS.l0 k xs acc (i : Int)) (A ++ l)
 | [], i, A, acc, h, hA, ha => by
  have h1 := drop_nil' h
  subst ha
  refine Ev.step (f := fun _ => some (A ++ [])) (fun k => ?_) (Ev.now _)
  rw [laws_toIntS.l0, if_neg (by omega)]
  rfl
 | a :: t, i, A, acc, h, hA, ha => by
  obtain ⟨h1, _, h3⟩ := drop_cons' h 0
  have ih := toIntS_l0 xs hN t (i + 1) (A ++ [a]) _ h3 (by simp [hA]) rfl
  subst ha
  have e : (A ++ List.replicate (a :: t).length 0).set ((i : Int)).toNat (rd xs i) = (A ++ [a]) ++ List.replicate t.length 0 := by
   rw [rd_at h, Int.toNat_natCast, ← hA]; exact set_copy A 0 a t.length
  refine Ev.step (f := fun k => laws_toIntS.l0 k xs ((A ++ [a]) ++ List.replicate t.length 0) ((i + 1 : Nat) : Int)) (fun k => ?_) (Ev.eq ih (by simp))
  rw [laws_toIntS.l0, if_pos (by omega), if_pos (by omega), if_pos (by simp only [List.length_append, List.length_replicate, List.length_cons]; omega), e, w64s h1 hN]
theorem toIntS_ev (xs : List Int) (hN : xs.length ≤ 1048576) : Ev (fun k => laws_toIntS.f k xs) xs := by
 refine Ev.congr (f := fun k => laws_toIntS.l0 k xs (List.replicate xs.length 0) ((0 : Nat) : Int)) (fun k => ?_) (toIntS_l0 xs (by omega) xs 0 [] _ rfl rfl rfl)
 rw [laws_toIntS.f, if_pos (by omega), if_pos (by omega), Int.toNat_natCast]; rfl
theorem toPart_ev (xs : List Int) (hN : xs.length ≤ 1048576) : Ev (fun k => laws_toPart.f k xs) xs := by
 simp only [laws_toPart.f]
 refine Ev.bind (toIntS_ev xs hN) ?_
 exact Ev.now _
def toPart (x : S96) : S35 := ⟨x.f0⟩
theorem toPartS_l0 (xs : List S96) (hN : xs.length ≤ 4611686018427387904) (hx : ∀ x ∈ xs, x.f0.length ≤ 1048576) : ∀ (l : List S96) (i : Nat) (A acc : List S35), xs.drop i = l → A.length = i → acc = A ++ List.replicate l.length z35 → Ev (fun k => laws_toPartS.l0 k xs acc (i : Int)) (A ++ l.map toPart)
 | [], i, A, acc, h, hA, ha => by
  have h1 := drop_nil' h
  subst ha
  refine Ev.step (f := fun _ => some (A ++ [])) (fun k => ?_) (Ev.now _)
  rw [laws_toPartS.l0, if_neg (by omega)]
  rfl
 | a :: t, i, A, acc, h, hA, ha => by
  obtain ⟨h1, _, h3⟩ := drop_cons' h z96
  have hal : a.f0.length ≤ 1048576 := hx a (List.mem_of_mem_drop (by rw [h]; exact List.mem_cons_self))
  have ih := toPartS_l0 xs hN hx t (i + 1) (A ++ [toPart a]) _ h3 (by simp [hA]) rfl
  subst ha
  have e : (A ++ List.replicate (a :: t).length z35).set ((i : Int)).toNat (toPart a) = (A ++ [toPart a]) ++ List.replicate t.length z35 := by
   rw [Int.toNat_natCast, ← hA]; exact set_copy A _ (toPart a) t.length
  have hacc : ((i : Int)) < ((A ++ List.replicate (a :: t).length z35).length : Int) := by
   simp only [List.length_append, List.length_replicate, List.length_cons]; omega
  refine Ev.step (f := fun k => (laws_toPart.f k a.f0).bind fun t1 => if ((i : Int)) < ((A ++ List.replicate (a :: t).length z35).length : Int) then laws_toPartS.l0 k xs ((A ++ List.replicate (a :: t).length z35).set ((i : Int)).toNat ⟨t1⟩) (wrap64 ((i : Int) + 1)) else none) (fun k => ?_) ?_
  ·rw [laws_toPartS.l0, if_pos (by omega), if_pos (by omega), rdT_at96 h]
  ·refine Ev.bind (toPart_ev a.f0 hal) ?_
   refine Ev.pos hacc ?_
   rw [w64s h1 hN, show (⟨a.f0⟩ : S35) = toPart a from rfl, e]
   exact Ev.eq ih (by simp)
theorem toRing_ev (a : Int) (l : List S96) (hf : Fits l) : Ev (fun k => laws_toRing.f k a l) (a, l.map toPart) := by
 have hf1 := hf.1
 simp only [laws_toRing.f]
 refine Ev.bind (a := l.map toPart) ?_ (Ev.now _)
 refine Ev.congr (f := fun k => laws_toPartS.l0 k l (List.replicate l.length z35) ((0 : Nat) : Int)) (fun k => ?_) (toPartS_l0 l (by omega) hf.2 l 0 [] _ rfl rfl rfl)
 rw [laws_toPartS.f, if_pos (by omega), if_pos (by omega), Int.toNat_natCast]; rfl
def toDev (x : S83) : S61 := ⟨x.f0, x.f1, x.f2⟩
theorem rdT_at83 {xs : List S83} {i : Nat} {a : S83} {t : List S83} (h : xs.drop i = a :: t) : rd_T83 xs (i : Int) = a := by
 unfold rd_T83; rw [Int.toNat_natCast]; exact (drop_cons' h _).2.1
theorem toDevS_l0 (xs : List S83) (hN : xs.length ≤ 4611686018427387904) : ∀ (l : List S83) (i : Nat) (A acc : List S61), xs.drop i = l → A.length = i → acc = A ++ List.replicate l.length z61 → Ev (fun k => laws_toDevS.l0 k xs acc (i : Int)) (A ++ l.map toDev)
 | [], i, A, acc, h, hA, ha => by
  have h1 := drop_nil' h
  subst ha
  refine Ev.step (f := fun _ => some (A ++ [])) (fun k => ?_) (Ev.now _)
  rw [laws_toDevS.l0, if_neg (by omega)]
  rfl
 | a :: t, i, A, acc, h, hA, ha => by
  obtain ⟨h1, _, h3⟩ := drop_cons' h z83
  have ih := toDevS_l0 xs hN t (i + 1) (A ++ [toDev a]) _ h3 (by simp [hA]) rfl
  subst ha
  have e : (A ++ List.replicate (a :: t).length z61).set ((i : Int)).toNat (toDev a) = (A ++ [toDev a]) ++ List.replicate t.length z61 := by
   rw [Int.toNat_natCast, ← hA]; exact set_copy A _ (toDev a) t.length
  refine Ev.step (f := fun k => laws_toDevS.l0 k xs ((A ++ [toDev a]) ++ List.replicate t.length z61) ((i + 1 : Nat) : Int)) (fun k => ?_) (Ev.eq ih (by simp))
  rw [laws_toDevS.l0, if_pos (by omega), if_pos (by omega), rdT_at83 h, laws_toDev.f, Option.bind_some, if_pos (by simp only [List.length_append, List.length_replicate, List.length_cons]; omega), w64s h1 hN, ← e]
  rfl
theorem toDevS_ev (xs : List S83) (hN : xs.length ≤ 1048576) : Ev (fun k => laws_toDevS.f k xs) (xs.map toDev) := by
 refine Ev.congr (f := fun k => laws_toDevS.l0 k xs (List.replicate xs.length z61) ((0 : Nat) : Int)) (fun k => ?_) (toDevS_l0 xs (by omega) xs 0 [] _ rfl rfl rfl)
 rw [laws_toDevS.f, if_pos (by omega), if_pos (by omega), Int.toNat_natCast]; rfl
theorem eqIntS_l0 (xs : List Int) (hN : xs.length ≤ 4611686018427387904) : ∀ (l : List Int) (i : Nat), xs.drop i = l → Ev (fun k => laws_eqIntS.l0 k xs xs (i : Int)) true
 | [], i, h => by
  have h1 := drop_nil' h
  refine Ev.step (f := fun _ => some true) (fun k => ?_) (Ev.now _)
  rw [laws_eqIntS.l0, if_neg (by omega)]
 | a :: t, i, h => by
  obtain ⟨h1, _, h3⟩ := drop_cons' h 0
  refine Ev.step (f := fun k => laws_eqIntS.l0 k xs xs ((i + 1 : Nat) : Int)) (fun k => ?_) (eqIntS_l0 xs hN t (i + 1) h3)
  rw [laws_eqIntS.l0, if_pos (by omega), if_pos (by omega), if_pos (by omega), if_pos rfl, w64s h1 hN]
theorem eqIntS_ev (xs : List Int) (hN : xs.length ≤ 4611686018427387904) : Ev (fun k => laws_eqIntS.f k xs xs) true := by
 refine Ev.congr (f := fun k => laws_eqIntS.l0 k xs xs ((0 : Nat) : Int)) (fun k => ?_) (eqIntS_l0 xs hN xs 0 rfl)
 rw [laws_eqIntS.f, if_pos rfl]; rfl
theorem eqPart_ev (xs : List Int) (hN : xs.length ≤ 4611686018427387904) : Ev (fun k => laws_eqPart.f k xs xs) true := by
 simp only [laws_eqPart.f]
 refine Ev.bind (eqIntS_ev xs hN) ?_
 exact Ev.pos rfl (Ev.now _)
theorem eqPartS_l0 (xs : List S35) (hN : xs.length ≤ 4611686018427387904) (hx : ∀ x ∈ xs, x.f0.length ≤ 4611686018427387904) : ∀ (l : List S35) (i : Nat), xs.drop i = l → Ev (fun k => laws_eqPartS.l0 k xs xs (i : Int)) true
 | [], i, h => by
  have h1 := drop_nil' h
  refine Ev.step (f := fun _ => some true) (fun k => ?_) (Ev.now _)
  rw [laws_eqPartS.l0, if_neg (by omega)]
 | a :: t, i, h => by
  obtain ⟨h1, _, h3⟩ := drop_cons' h z35
  have hal : a.f0.length ≤ 4611686018427387904 := hx a (List.mem_of_mem_drop (by rw [h]; exact List.mem_cons_self))
  refine Ev.step (f := fun k => (laws_eqPart.f k a.f0 a.f0).bind fun t1 => if t1 = true then laws_eqPartS.l0 k xs xs ((i + 1 : Nat) : Int) else some false) (fun k => ?_) ?_
  ·rw [laws_eqPartS.l0, if_pos (by omega), if_pos (by omega), if_pos (by omega), rdT_at35 h, w64s h1 hN]
  ·refine Ev.bind (eqPart_ev a.f0 hal) ?_
   exact Ev.pos rfl (eqPartS_l0 xs hN hx t (i + 1) h3)
theorem eqRing_ev (a : Int) (xs : List S35) (hN : xs.length ≤ 4611686018427387904) (hx : ∀ x ∈ xs, x.f0.length ≤ 4611686018427387904) : Ev (fun k => laws_eqRing.f k a xs a xs) true := by
 simp only [laws_eqRing.f, laws_eqPartS.f, if_true]
 refine Ev.bind (a := true) (eqPartS_l0 xs hN hx xs 0 rfl) ?_
 exact Ev.pos rfl (Ev.now _)
theorem eqDevS_l0 (xs : List S61) (hN : xs.length ≤ 4611686018427387904) : ∀ (l : List S61) (i : Nat), xs.drop i = l → Ev (fun k => laws_eqDevS.l0 k xs xs (i : Int)) true
 | [], i, h => by
  have h1 := drop_nil' h
  refine Ev.step (f := fun _ => some true) (fun k => ?_) (Ev.now _)
  rw [laws_eqDevS.l0, if_neg (by omega)]
 | a :: t, i, h => by
  obtain ⟨h1, _, h3⟩ := drop_cons' h z61
  refine Ev.step (f := fun k => laws_eqDevS.l0 k xs xs ((i + 1 : Nat) : Int)) (fun k => ?_) (eqDevS_l0 xs hN t (i + 1) h3)
  rw [laws_eqDevS.l0, if_pos (by omega), if_pos (by omega), if_pos (by omega), laws_eqDev.f, if_pos rfl, if_pos rfl, if_pos rfl, Option.bind_some, if_pos rfl, w64s h1 hN]
theorem eqDevS_ev (xs : List S61) (hN : xs.length ≤ 4611686018427387904) : Ev (fun k => laws_eqDevS.f k xs xs) true := by
 refine Ev.congr (f := fun k => laws_eqDevS.l0 k xs xs ((0 : Nat) : Int)) (fun k => ?_) (eqDevS_l0 xs hN xs 0 rfl)
 rw [laws_eqDevS.f, if_pos rfl]; rfl
theorem fits_map {l : List S96} (hf : Fits l) : (l.map toPart).length ≤ 1048576 ∧ (∀ x ∈ l.map toPart, x.f0.length ≤ 1048576) ∧ lens (l.map toPart) ≤ 1099511627776 := by
 have h1 : ∀ x ∈ l.map toPart, x.f0.length ≤ 1048576 := by
  intro x hx
  obtain ⟨y, hy, rfl⟩ := List.mem_map.1 hx
  exact hf.2 y hy
 have h2 := lens_le 1048576 _ h1
 have h3 : (l.map toPart).length ≤ 1048576 := by rw [List.length_map]; exact hf.1
 have h4 := Nat.mul_le_mul_right 1048576 h3
 exact ⟨h3, h1, by omega⟩
def mkI : List Int → Int → List Int
 | [], _ => []
 | _ :: t, c => c :: mkI t (c + 1)
theorem markIntS_l0 : ∀ (l : List Int) (i : Nat) (A xs : List Int) (c : Int), xs = A ++ l → A.length = i → 0 ≤ c → c + l.length ≤ 4611686018427387904 → i + l.length ≤ 4611686018427387904 → Ev (fun k => laws_markIntS.l0 k xs c (i : Int)) (c + l.length, A ++ mkI l c)
 | [], i, A, xs, c, h, hA, h0, h1, h2 => by
  subst h
  refine Ev.step (f := fun _ => some (c + ([] : List Int).length, A ++ mkI [] c)) (fun k => ?_) (Ev.now _)
  rw [laws_markIntS.l0, if_neg (by simp; omega)]
  simp [mkI]
 | a :: t, i, A, xs, c, h, hA, h0, h1, h2 => by
  simp only [List.length_cons] at h1 h2
  have ih := markIntS_l0 t (i + 1) (A ++ [c]) _ (c + 1) rfl (by simp [hA]) (by omega) (by omega) (by omega)
  subst h
  have e : (A ++ a :: t).set ((i : Int)).toNat c = (A ++ [c]) ++ t := by
   rw [Int.toNat_natCast, ← hA]; exact set_mid A a _ t
  refine Ev.step (f := fun k => laws_markIntS.l0 k ((A ++ [c]) ++ t) (c + 1) ((i + 1 : Nat) : Int)) (fun k => ?_) (Ev.eq ih (by simp [mkI]; omega))
  rw [laws_markIntS.l0, if_pos (by simp; omega), if_pos (by omega), e, w64 (by omega) (by omega), w64s (n := i + 1) (by omega) (by omega)]
theorem markIntS_ev (xs : List Int) (c : Int) (h0 : 0 ≤ c) (h1 : c + xs.length ≤ 4611686018427387904) : Ev (fun k => laws_markIntS.f k xs c) (c + xs.length, mkI xs c) := by
 refine Ev.congr (f := fun k => laws_markIntS.l0 k xs c ((0 : Nat) : Int)) (fun k => rfl) (markIntS_l0 xs 0 [] xs c rfl rfl h0 h1 (by omega))
def mkP : List S35 → Int → List S35
 | [], _ => []
 | p :: t, c => ⟨mkI p.f0 c⟩ :: mkP t (c + p.f0.length)
theorem rdT_mid35 (A : List S35) (x : S35) (t : List S35) : rd_T35 (A ++ x :: t) (A.length : Int) = x := by
 unfold rd_T35; rw [Int.toNat_natCast, List.getD_eq_getElem?_getD, List.getElem?_append_right (Nat.le_refl _), Nat.sub_self]; rfl
theorem markPartS_l0 : ∀ (l : List S35) (i : Nat) (A xs : List S35) (c : Int), xs = A ++ l → A.length = i → 0 ≤ c → c + lens l ≤ 4611686018427387904 → i + l.length ≤ 4611686018427387904 → Ev (fun k => laws_markPartS.l0 k xs c (i : Int)) (c + lens l, A ++ mkP l c)
 | [], i, A, xs, c, h, hA, h0, h1, h2 => by
  subst h
  refine Ev.step (f := fun _ => some (c + (lens [] : Nat), A ++ mkP [] c)) (fun k => ?_) (Ev.now _)
  rw [laws_markPartS.l0, if_neg (by simp; omega)]
  simp [mkP, lens]
 | a :: t, i, A, xs, c, h, hA, h0, h1, h2 => by
  simp only [List.length_cons, lens] at h1 h2
  have ih := markPartS_l0 t (i + 1) (A ++ [⟨mkI a.f0 c⟩]) _ (c + a.f0.length) rfl (by simp [hA]) (by omega) (by omega) (by omega)
  subst h
  have e : (A ++ a :: t).set ((i : Int)).toNat (⟨mkI a.f0 c⟩ : S35) = (A ++ [⟨mkI a.f0 c⟩]) ++ t := by
   rw [Int.toNat_natCast, ← hA]; exact set_mid A a _ t
  have hr : rd_T35 (A ++ a :: t) (i : Int) = a := by rw [← hA]; exact rdT_mid35 _ _ _
  refine Ev.step (f := fun k => (laws_markIntS.f k a.f0 c).bind fun q => laws_markPartS.l0 k ((A ++ a :: t).set ((i : Int)).toNat (⟨q.2⟩ : S35)) q.1 ((i + 1 : Nat) : Int)) (fun k => ?_) ?_
  ·rw [laws_markPartS.l0, if_pos (by simp; omega), if_pos (by omega), hr, w64s (n := i + 1) (by omega) (by omega)]
  ·refine Ev.bind (markIntS_ev a.f0 c h0 (by omega)) ?_
   simp only [e]
   exact Ev.eq ih (by simp [mkP, lens]; omega)
theorem markRing_ev (a : Int) (xs : List S35) (c : Int) (h0 : 0 ≤ c) (h1 : c + lens xs ≤ 4611686018427387904) (h2 : xs.length ≤ 4611686018427387904) : Ev (fun k => laws_markRing.f k a xs c) (c + lens xs, mkP xs c) := by
 refine Ev.congr (f := fun k => laws_markPartS.l0 k xs c ((0 : Nat) : Int)) (fun k => rfl) (markPartS_l0 xs 0 [] xs c rfl rfl h0 h1 (by omega))
theorem heldIntS_l0 : ∀ (l : List Int) (i : Nat) (A xs : List Int) (c : Int), xs = A ++ mkI l c → A.length = i → 0 ≤ c → c + l.length ≤ 4611686018427387904 → i + l.length ≤ 4611686018427387904 → Ev (fun k => laws_heldIntS.l0 k xs c (i : Int)) (c + l.length)
 | [], i, A, xs, c, h, hA, h0, h1, h2 => by
  subst h
  refine Ev.step (f := fun _ => some (c + ([] : List Int).length)) (fun k => ?_) (Ev.now _)
  rw [laws_heldIntS.l0, if_neg (by simp [mkI]; omega)]
  simp
 | a :: t, i, A, xs, c, h, hA, h0, h1, h2 => by
  simp only [List.length_cons] at h1 h2
  have ih := heldIntS_l0 t (i + 1) (A ++ [c]) _ (c + 1) rfl (by simp [hA]) (by omega) (by omega) (by omega)
  rw [mkI] at h
  have e : A ++ c :: mkI t (c + 1) = (A ++ [c]) ++ mkI t (c + 1) := by simp
  have hr : rd (A ++ c :: mkI t (c + 1)) (i : Int) = c := by rw [← hA]; exact rd_mid _ _ _
  refine Ev.step (f := fun k => laws_heldIntS.l0 k ((A ++ [c]) ++ mkI t (c + 1)) (c + 1) ((i + 1 : Nat) : Int)) (fun k => ?_) (Ev.eq ih (by simp; omega))
  subst h
  rw [laws_heldIntS.l0, if_pos (by simp; omega), if_pos (by omega), if_pos hr, w64 (by omega) (by omega), w64s (n := i + 1) (by omega) (by omega), e]
theorem heldIntS_ev (xs : List Int) (c : Int) (h0 : 0 ≤ c) (h1 : c + xs.length ≤ 4611686018427387904) : Ev (fun k => laws_heldIntS.f k (mkI xs c) c) (c + xs.length) := by
 refine Ev.congr (f := fun k => laws_heldIntS.l0 k (mkI xs c) c ((0 : Nat) : Int)) (fun k => rfl) (heldIntS_l0 xs 0 [] _ c rfl rfl h0 h1 (by omega))
theorem heldPartS_l0 : ∀ (l : List S35) (i : Nat) (A xs : List S35) (c : Int), xs = A ++ mkP l c → A.length = i → 0 ≤ c → c + lens l ≤ 4611686018427387904 → i + l.length ≤ 4611686018427387904 → Ev (fun k => laws_heldPartS.l0 k xs c (i : Int)) (c + lens l)
 | [], i, A, xs, c, h, hA, h0, h1, h2 => by
  subst h
  refine Ev.step (f := fun _ => some (c + (lens [] : Nat))) (fun k => ?_) (Ev.now _)
  rw [laws_heldPartS.l0, if_neg (by simp [mkP]; omega)]
  simp [lens]
 | a :: t, i, A, xs, c, h, hA, h0, h1, h2 => by
  simp only [List.length_cons, lens] at h1 h2
  have ih := heldPartS_l0 t (i + 1) (A ++ [⟨mkI a.f0 c⟩]) _ (c + a.f0.length) rfl (by simp [hA]) (by omega) (by omega) (by omega)
  rw [mkP] at h
  have e : A ++ ⟨mkI a.f0 c⟩ :: mkP t (c + a.f0.length) = (A ++ [⟨mkI a.f0 c⟩]) ++ mkP t (c + a.f0.length) := by simp
  have hr : rd_T35 (A ++ ⟨mkI a.f0 c⟩ :: mkP t (c + a.f0.length)) (i : Int) = ⟨mkI a.f0 c⟩ := by rw [← hA]; exact rdT_mid35 _ _ _
  refine Ev.step (f := fun k => (laws_heldIntS.f k (mkI a.f0 c) c).bind fun q => if q < 0 then some (-1) else laws_heldPartS.l0 k ((A ++ [⟨mkI a.f0 c⟩]) ++ mkP t (c + a.f0.length)) q ((i + 1 : Nat) : Int)) (fun k => ?_) ?_
  ·subst h
   rw [laws_heldPartS.l0, if_pos (by simp; omega), if_pos (by omega), hr, w64s (n := i + 1) (by omega) (by omega), e]
  ·refine Ev.bind (heldIntS_ev a.f0 c h0 (by omega)) ?_
   exact Ev.neg (by omega) (Ev.eq ih (by simp [lens]; omega))
theorem heldRing_ev (a : Int) (xs : List S35) (c : Int) (h0 : 0 ≤ c) (h1 : c + lens xs ≤ 4611686018427387904) (h2 : xs.length ≤ 4611686018427387904) : Ev (fun k => laws_heldRing.f k a (mkP xs c) c) (c + lens xs) := by
 simp only [laws_heldRing.f]
 refine Ev.bind (a := c + lens xs) (Ev.congr (f := fun k => laws_heldPartS.l0 k (mkP xs c) c ((0 : Nat) : Int)) (fun k => rfl) (heldPartS_l0 xs 0 [] _ c rfl rfl h0 h1 (by omega))) ?_
 exact Ev.neg (by omega) (Ev.now _)
def mkD : List S61 → Int → List S61
 | [], _ => []
 | _ :: t, c => ⟨c, c + 1, c + 2⟩ :: mkD t (c + 3)
theorem rdT_mid61 (A : List S61) (x : S61) (t : List S61) : rd_T61 (A ++ x :: t) (A.length : Int) = x := by
 unfold rd_T61; rw [Int.toNat_natCast, List.getD_eq_getElem?_getD, List.getElem?_append_right (Nat.le_refl _), Nat.sub_self]; rfl
theorem set_here {α : Type} (A : List α) (x v : α) (t : List α) : (A ++ x :: t).set ((A.length : Int)).toNat v = A ++ v :: t := by
 rw [Int.toNat_natCast, List.set_append_right _ _ (Nat.le_refl _), Nat.sub_self, List.set_cons_zero]
theorem markDevS_l0 : ∀ (l : List S61) (i : Nat) (A xs : List S61) (c : Int), xs = A ++ l → A.length = i → 0 ≤ c → c + 3 * l.length ≤ 4611686018427387904 → i + l.length ≤ 4611686018427387904 → Ev (fun k => laws_markDevS.l0 k xs c (i : Int)) (c + 3 * l.length, A ++ mkD l c)
 | [], i, A, xs, c, h, hA, h0, h1, h2 => by
  subst h
  refine Ev.step (f := fun _ => some (c + 3 * ([] : List S61).length, A ++ mkD [] c)) (fun k => ?_) (Ev.now _)
  rw [laws_markDevS.l0, if_neg (by simp; omega)]
  simp [mkD]
 | a :: t, i, A, xs, c, h, hA, h0, h1, h2 => by
  simp only [List.length_cons] at h1 h2
  have ih := markDevS_l0 t (i + 1) (A ++ [⟨c, c + 1, c + 2⟩]) _ (c + 3) rfl (by simp [hA]) (by omega) (by omega) (by omega)
  subst h
  subst hA
  have w1 : wrap64 (c + 1) = c + 1 := w64 (by omega) (by omega)
  have w2 : wrap64 (c + 1 + 1) = c + 2 := by rw [w64 (by omega) (by omega)]; omega
  have w3 : wrap64 (c + 2 + 1) = c + 3 := by rw [w64 (by omega) (by omega)]; omega
  refine Ev.step (f := fun k => laws_markDevS.l0 k ((A ++ [⟨c, c + 1, c + 2⟩]) ++ t) (c + 3) ((A.length + 1 : Nat) : Int)) (fun k => ?_) (Ev.eq ih (by simp [mkD]; omega))
  have wi : wrap64 ((A.length : Int) + 1) = ((A.length + 1 : Nat) : Int) := w64s (n := A.length + 1) (by omega) (by omega)
  rw [laws_markDevS.l0, if_pos (by simp; omega), if_pos (by omega), rdT_mid61, set_here, Option.bind_some, rdT_mid61, set_here, Option.bind_some, rdT_mid61, set_here, w1, w2, w3, wi]
  simp
theorem markDevS_ev (xs : List S61) (c : Int) (h0 : 0 ≤ c) (h1 : c + 3 * xs.length ≤ 4611686018427387904) : Ev (fun k => laws_markDevS.f k xs c) (c + 3 * xs.length, mkD xs c) := by
 refine Ev.congr (f := fun k => laws_markDevS.l0 k xs c ((0 : Nat) : Int)) (fun k => rfl) (markDevS_l0 xs 0 [] xs c rfl rfl h0 h1 (by omega))
end Go.Proofs.Ytpbjbfimnfghkaa.PureFnExactRebalance
namespace Go.Proofs.Ytpbjbfimnfghkaa.Pure
open Go.RowKit Go.Proofs.Ytpbjbfimnfghkaa.PFnExactRebalance Go.Proofs.YtpbjbfimnfghkaaW.PrintWords Go.Proofs.YtpbjbfimnfghkaaW.PrintLast Go.Proofs.YtpbjbfimnfghkaaW.PrintMore Go.Proofs.Ytpbjbfimnfghkaa.Base Go.Proofs.Ytpbjbfimnfghkaa.PureFnExactRebalance
set_option linter.unusedVariables false
attribute [local irreducible] Go.bits IntKind.wrap shl shr
theorem FnExactRebalance (a : Int) (l : List S96) (m : List S83) (h0 : I64 a ∧ l.length ≤ 9223372036854775807 ∧ ∀ x ∈ l, x.f0.length ≤ 9223372036854775807 ∧ ∀ y ∈ x.f0, I64 y)
  (hm : m.length ≤ 9223372036854775807 ∧ ∀ x ∈ m, I64 x.f0 ∧ I64 x.f1 ∧ I64 x.f2) : ∃ k, laws_FnExactRebalance.f k a l m = some true := by
 apply Ev.rounds (g := fun k => laws_FnExactRebalance.f k a l m)
 simp only [laws_FnExactRebalance.f]
 obtain ⟨r, r1, r2⟩ := szRing_ev a l 1048576 h0.2.1 (fun x hx => (h0.2.2 x hx).1) (by omega) (by omega)
 refine Ev.bind r1 ?_
 by_cases hr : r < 0
 ·exact Ev.pos hr (Ev.now _)
 rcases r2 with r2 | ⟨hr0, hr1, hf⟩
 ·exact absurd r2 hr
 refine Ev.neg hr ?_
 refine Ev.got (szDevS_eq m r hm.1 hr0 (by omega)) ?_
 by_cases c2 : r < m.length
 ·exact Ev.pos (by rw [if_pos c2]; omega) (Ev.now _)
 refine Ev.neg (by rw [if_neg c2]; omega) ?_
 obtain ⟨f1, f2, f3⟩ := fits_map hf
 have hm1 : (m.map toDev).length ≤ 1048576 := by rw [List.length_map]; omega
 obtain ⟨q1, q2⟩ := reb_ev a (l.map toPart) (m.map toDev) hm1 f1 f2
 obtain ⟨b1, b2⟩ := reb_fits a (l.map toPart) (m.map toDev) 1048576 (by omega) f2
 have t1 := toRing_ev a l hf
 have t2 := toDevS_ev m (by omega)
 have e0 := eqRing_ev a (l.map toPart) (by omega) (fun x hx => Nat.le_trans (f2 x hx) (by omega))
 have e3 := eqDevS_ev (m.map toDev) (by omega)
 have hlen := lens_le 1048576 _ b2
 generalize rebOf a (l.map toPart) (m.map toDev) = q at *
 obtain ⟨qa, qb, qc⟩ := q
 dsimp only at b1 b2 hlen
 have e1 := eqRing_ev qa qb (by omega) (fun x hx => Nat.le_trans (b2 x hx) (by omega))
 refine Ev.bind t1 (Ev.bind t2 (Ev.bind q2 (Ev.bind t1 (Ev.bind t2 (Ev.bind q1 (Ev.bind e1 (Ev.pos rfl (Ev.pos rfl (Ev.bind t1 (Ev.bind e0 (Ev.pos rfl (Ev.bind t2 (Ev.bind e3 (Ev.pos rfl ?_))))))))))))))
 refine Ev.bind (markRing_ev a (l.map toPart) 1 (by omega) (by omega) (by omega)) ?_
 refine Ev.bind (markDevS_ev (m.map toDev) _ (by simp only; omega) (by simp only; omega)) ?_
 refine Ev.neg (by simp only; omega) (Ev.bind e1 (Ev.pos rfl ?_))
 refine Ev.bind (markRing_ev qa qb 1 (by omega) (by omega) (by omega)) ?_
 refine Ev.bind (heldRing_ev qa qb 1 (by omega) (by omega) (by omega)) ?_
 refine Ev.neg (by omega) (Ev.pos rfl (Ev.bind t1 (Ev.bind t2 (Ev.bind q1 (Ev.bind e1 (Ev.pos rfl (Ev.pos rfl ?_)))))))
 refine Ev.bind (heldRing_ev qa qb 1 (by omega) (by omega) (by omega)) ?_
 exact Ev.neg (by omega) (Ev.pos rfl (Ev.now _))
end Go.Proofs.Ytpbjbfimnfghkaa.Pure
