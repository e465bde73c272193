/- The pure statement of the law FnExactRingOk: what the printed functions compute answers as the law says. -/
import Derived.Test.YtbhllgifciaepaaPFnExactRingOkx9
import Derived.Test.YtbhllgifciaepaaBase
namespace Go.Proofs.Ytbhllgifciaepaa.PureFnExactRingOk
open Go.RowKit Go.Proofs.Ytbhllgifciaepaa.PFnExactRingOk Go.Proofs.YtbhllgifciaepaaW.PrintWords Go.Proofs.YtbhllgifciaepaaW.PrintLast Go.Proofs.YtbhllgifciaepaaW.PrintMore Go.Proofs.Ytbhllgifciaepaa.Base
set_option linter.unusedVariables false
attribute [local irreducible] Go.bits IntKind.wrap shl shr
def hasI : List Int → Int → Bool
  | [], _ => false
  | a :: t, x => if a = x then true else hasI t x
theorem hasI_iff (l : List Int) (x : Int) : hasI l x = true ↔ x ∈ l := by
  induction l with
  | nil => simp [hasI]
  | cons a t ih =>
    rw [hasI, List.mem_cons]
    by_cases h : a = x
    · rw [if_pos h]; simp [h]
    · rw [if_neg h, ih]
      exact ⟨Or.inr, fun hc => hc.elim (fun e => absurd e.symm h) id⟩
theorem l4Has_l0 (xs : List Int) (x : Int) (hN : xs.length ≤ 4611686018427387904) : ∀ (l : List Int) (i : Nat), xs.drop i = l → Ev (fun k => spec_l4Has.l0 k xs x (i : Int)) (hasI l x)
  | [], i, h => by
    have h1 := drop_nil' h
    refine Ev.step (f := fun _ => some false) (fun k => ?_) (Ev.now _)
    rw [spec_l4Has.l0, if_neg (by omega)]
  | a :: t, i, h => by
    obtain ⟨h1, _, h3⟩ := drop_cons' h 0
    refine Ev.step (f := fun k => if a = x then some true else spec_l4Has.l0 k xs x ((i + 1 : Nat) : Int)) (fun k => ?_) ?_
    · rw [spec_l4Has.l0, if_pos (by omega), if_pos (by omega), rd_at h, w64s h1 hN]
    · by_cases c : a = x
      · rw [hasI, if_pos c]; exact Ev.pos c (Ev.now _)
      · rw [hasI, if_neg c]; exact Ev.neg c (l4Has_l0 xs x hN t (i + 1) h3)
theorem l4Has_ev (xs : List Int) (x : Int) (hN : xs.length ≤ 4611686018427387904) : Ev (fun k => spec_l4Has.f k xs x) (hasI xs x) := l4Has_l0 xs x hN xs 0 rfl
theorem hasInt_l0 (xs : List Int) (x : Int) (hN : xs.length ≤ 4611686018427387904) : ∀ (l : List Int) (i : Nat), xs.drop i = l → Ev (fun k => impl_hasInt.l0 k x xs (xs.length : Int) (i : Int)) (hasI l x)
  | [], i, h => by
    have h1 := drop_nil' h
    refine Ev.step (f := fun _ => some false) (fun k => ?_) (Ev.now _)
    rw [impl_hasInt.l0, if_neg (by omega)]
  | a :: t, i, h => by
    obtain ⟨h1, _, h3⟩ := drop_cons' h 0
    refine Ev.step (f := fun k => if a = x then some true else impl_hasInt.l0 k x xs (xs.length : Int) ((i + 1 : Nat) : Int)) (fun k => ?_) ?_
    · rw [impl_hasInt.l0, if_pos (by omega), if_pos (by omega), if_pos (by omega), rd_at h, w64s h1 hN]
    · by_cases c : a = x
      · rw [hasI, if_pos c]; exact Ev.pos c (Ev.now _)
      · rw [hasI, if_neg c]; exact Ev.neg c (hasInt_l0 xs x hN t (i + 1) h3)
theorem hasInt_ev (xs : List Int) (x : Int) (hN : xs.length ≤ 4611686018427387904) : Ev (fun k => impl_hasInt.f k xs x) (hasI xs x) := hasInt_l0 xs x hN xs 0 rfl
/-- No two alike from a place on. -/
def apartFrom : List Int → List Int → Bool
  | _, [] => true
  | pre, a :: t => if hasI pre a = true then false else apartFrom (pre ++ [a]) t
def apartI (l : List Int) : Bool := apartFrom [] l
theorem apart_l0 (xs : List Int) (hN : xs.length ≤ 4611686018427387904) (reps : Int) : ∀ (l : List Int) (i : Nat), xs.drop i = l →
    Ev (fun k => spec_l5Part.l0 k reps (i : Int) xs) (apartFrom (xs.take i) l && ((xs.length : Int) == reps)) ∧ Ev (fun k => impl_apart.l0 k xs xs (xs.length : Int) (i : Int)) (apartFrom (xs.take i) l)
  | [], i, h => by
    have h1 := drop_nil' h
    refine ⟨Ev.step (f := fun _ => some ((xs.length : Int) == reps)) (fun k => ?_) (Ev.eq (Ev.now _) (by rw [apartFrom, Bool.true_and])), Ev.step (f := fun _ => some true) (fun k => ?_) (Ev.now _)⟩
    · rw [spec_l5Part.l0, if_neg (by omega)]
    · rw [impl_apart.l0, if_neg (by omega)]
  | a :: t, i, h => by
    obtain ⟨h1, _, h3⟩ := drop_cons' h 0
    have hr : Hd (rd xs (i : Int) = a) := ⟨rd_at h⟩
    have w : Hd (wrap64 ((i : Int) + 1) = ((i + 1 : Nat) : Int)) := ⟨w64s h1 (by omega)⟩
    have ht : xs.take (i + 1) = xs.take i ++ [a] := by
      rw [List.take_succ_eq_append_getElem h1]
      have := List.drop_eq_getElem_cons h1
      rw [h] at this
      injection this with e _
      rw [← e]
    have hl : (xs.take i).length ≤ 4611686018427387904 := by rw [List.length_take]; omega
    obtain ⟨i1, i2⟩ := apart_l0 xs hN reps t (i + 1) h3
    rw [ht] at i1 i2
    rw [apartFrom]
    refine ⟨Ev.step (f := fun k => (spec_l4Has.f k (xs.take i) a).bind fun t1 => if t1 = true then some false else spec_l5Part.l0 k reps ((i + 1 : Nat) : Int) xs) (fun k => ?_) (Ev.bind (l4Has_ev (xs.take i) a hl) ?_), Ev.step (f := fun k => (impl_hasInt.f k (xs.take i) a).bind fun t1 => if t1 = true then some false else impl_apart.l0 k xs xs (xs.length : Int) ((i + 1 : Nat) : Int)) (fun k => ?_) (Ev.bind (hasInt_ev (xs.take i) a hl) ?_)⟩
    · rw [spec_l5Part.l0, if_pos (by omega), if_pos (by omega), if_pos (by omega), hr.out, w.out, Int.toNat_natCast]
    · by_cases c : hasI (xs.take i) a = true
      · rw [if_pos c]; exact Ev.pos c (Ev.now _)
      · rw [if_neg c]; exact Ev.neg c i1
    · rw [impl_apart.l0, if_pos (by omega), if_pos (by omega), if_pos (by omega), if_pos (by omega), hr.out, w.out, Int.toNat_natCast]
    · by_cases c : hasI (xs.take i) a = true
      · rw [if_pos c]; exact Ev.pos c (Ev.now _)
      · rw [if_neg c]; exact Ev.neg c i2
theorem l5Part_ev (xs : List Int) (reps : Int) (hN : xs.length ≤ 4611686018427387904) : Ev (fun k => spec_l5Part.f k xs reps) (apartI xs && ((xs.length : Int) == reps)) :=
  (apart_l0 xs hN reps xs 0 rfl).1
theorem apart_ev (xs : List Int) (hN : xs.length ≤ 4611686018427387904) : Ev (fun k => impl_apart.f k xs) (apartI xs) :=
  (apart_l0 xs hN 0 xs 0 rfl).2
theorem rdT_at76 {xs : List S76} {i : Nat} {a : S76} {t : List S76} (h : xs.drop i = a :: t) : rd_T76 xs (i : Int) = a := by
  unfold rd_T76; rw [Int.toNat_natCast]; exact (drop_cons' h _).2.1
def devAt (id : Int) : List S76 → Int × Int × Int × Bool
  | [] => (0, 0, 0, false)
  | d :: t => if d.f0 = id then (d.f0, d.f1, d.f2, true) else devAt id t
theorem devAt_l0s (xs : List S76) (id : Int) (hN : xs.length ≤ 4611686018427387904) : ∀ (l : List S76) (i : Nat), xs.drop i = l → Ev (fun k => spec_DevAt.l0 k xs id (i : Int)) (devAt id l)
  | [], i, h => by
    have h1 := drop_nil' h
    refine Ev.step (f := fun _ => some (0, 0, 0, false)) (fun k => ?_) (Ev.now _)
    rw [spec_DevAt.l0, if_neg (by omega)]
  | a :: t, i, h => by
    obtain ⟨h1, _, h3⟩ := drop_cons' h z76
    have ih := devAt_l0s xs id hN t (i + 1) h3
    refine Ev.step (f := fun k => if a.f0 = id then some (a.f0, a.f1, a.f2, true) else spec_DevAt.l0 k xs id ((i + 1 : Nat) : Int)) (fun k => ?_) ?_
    · rw [spec_DevAt.l0, if_pos (by omega), if_pos (by omega), rdT_at76 h, w64s h1 hN]
    · by_cases c : a.f0 = id
      · rw [devAt, if_pos c]; exact Ev.pos c (Ev.now _)
      · rw [devAt, if_neg c]; exact Ev.neg c ih
theorem devAt_l0i (xs : List S76) (id : Int) (hN : xs.length ≤ 4611686018427387904) : ∀ (l : List S76) (i : Nat), xs.drop i = l → Ev (fun k => impl_DevAt.l0 k id xs (xs.length : Int) (i : Int)) (devAt id l)
  | [], i, h => by
    have h1 := drop_nil' h
    refine Ev.step (f := fun _ => some (0, 0, 0, false)) (fun k => ?_) (Ev.now _)
    rw [impl_DevAt.l0, if_neg (by omega)]
  | a :: t, i, h => by
    obtain ⟨h1, _, h3⟩ := drop_cons' h z76
    have ih := devAt_l0i xs id hN t (i + 1) h3
    refine Ev.step (f := fun k => if a.f0 = id then some (a.f0, a.f1, a.f2, true) else impl_DevAt.l0 k id xs (xs.length : Int) ((i + 1 : Nat) : Int)) (fun k => ?_) ?_
    · rw [impl_DevAt.l0, if_pos (by omega), if_pos (by omega), if_pos (by omega), rdT_at76 h, w64s h1 hN]
    · by_cases c : a.f0 = id
      · rw [devAt, if_pos c]; exact Ev.pos c (Ev.now _)
      · rw [devAt, if_neg c]; exact Ev.neg c ih
theorem devAt_ev (xs : List S76) (id : Int) (hN : xs.length ≤ 4611686018427387904) : Ev (fun k => spec_DevAt.f k xs id) (devAt id xs) ∧ Ev (fun k => impl_DevAt.f k xs id) (devAt id xs) :=
  ⟨devAt_l0s xs id hN xs 0 rfl, devAt_l0i xs id hN xs 0 rfl⟩
theorem l1In_eq (x a b : Int) : spec_l1In.f x a b = some (decide (a ≤ x ∧ x ≤ b)) := by
  unfold spec_l1In.f
  by_cases h : x ≥ a
  · rw [if_pos h]; simp [show a ≤ x from h]
  · rw [if_neg h]; simp [show ¬ a ≤ x from h]
theorem in_eq (x a b : Int) : impl_in.f x a b = some (decide (a ≤ x ∧ x ≤ b)) := by
  unfold impl_in.f
  by_cases h : x ≥ a
  · rw [if_pos h]; simp [show a ≤ x from h]
  · rw [if_neg h]; simp [show ¬ a ≤ x from h]
def devsFrom (len : Nat) : Option S76 → List S76 → Bool
  | _, [] => decide (1 ≤ (len : Int) ∧ (len : Int) ≤ 12)
  | pr, d :: t => if (0 ≤ d.f0 ∧ d.f0 ≤ 20) ∧ (0 ≤ d.f1 ∧ d.f1 ≤ 20) ∧ (1 ≤ d.f2 ∧ d.f2 ≤ 1000) ∧ (∀ q, pr = some q → q.f0 < d.f0) then devsFrom len (some d) t else false
def devsOk (l : List S76) : Bool := devsFrom l.length none l
theorem devsOk_l0 (xs : List S76) (hN : xs.length ≤ 4611686018427387904) : ∀ (l : List S76) (i : Nat) (pr : Option S76), xs.drop i = l → (∀ q, pr = some q ↔ ∃ j, i = j + 1 ∧ xs[j]? = some q) →
    Ev (fun k => spec_DevsOk.l0 k xs (i : Int)) (devsFrom xs.length pr l) ∧ Ev (fun k => impl_DevsOk.l0 k xs xs (xs.length : Int) (i : Int)) (devsFrom xs.length pr l)
  | [], i, pr, h, hp => by
    have h1 := drop_nil' h
    refine ⟨Ev.step (f := fun _ => some (devsFrom xs.length pr [])) (fun k => ?_) (Ev.now _), Ev.step (f := fun _ => some (devsFrom xs.length pr [])) (fun k => ?_) (Ev.now _)⟩
    · rw [spec_DevsOk.l0, if_neg (by omega), l1In_eq]; rfl
    · rw [impl_DevsOk.l0, if_neg (by omega), in_eq]; rfl
  | d :: t, i, pr, h, hp => by
    obtain ⟨h1, hd, h3⟩ := drop_cons' h z76
    have hdi : xs[i]? = some d := by
      rw [List.getElem?_eq_getElem h1]; rw [List.getD_eq_getElem?_getD, List.getElem?_eq_getElem h1] at hd; exact congrArg some hd
    have hr : Hd (rd_T76 xs (i : Int) = d) := ⟨rdT_at76 h⟩
    have w : Hd (wrap64 ((i : Int) + 1) = ((i + 1 : Nat) : Int)) := ⟨w64s h1 hN⟩
    obtain ⟨i1, i2⟩ := devsOk_l0 xs hN t (i + 1) (some d) h3 (fun q => ⟨fun e => ⟨i, rfl, by rw [← e]; exact hdi⟩, fun ⟨j, e1, e2⟩ => by
      have : j = i := by omega
      subst this
      rw [hdi] at e2; exact e2⟩)
    rw [devsFrom]
    by_cases c0 : 0 ≤ d.f0 ∧ d.f0 ≤ 20
    · by_cases c1 : 0 ≤ d.f1 ∧ d.f1 ≤ 20
      · by_cases c2 : 1 ≤ d.f2 ∧ d.f2 ≤ 1000
        · rcases Nat.eq_zero_or_pos i with hi | hi
          · have hn : pr = none := by
              cases pr with
              | none => rfl
              | some q => obtain ⟨j, e1, _⟩ := (hp q).1 rfl; omega
            rw [if_pos ⟨c0, c1, c2, fun q e => by rw [hn] at e; cases e⟩]
            refine ⟨Ev.step (fun k => ?_) i1, Ev.step (fun k => ?_) i2⟩
            · rw [spec_DevsOk.l0, if_pos (by omega), if_pos (by omega), hr.out, l1In_eq, Option.bind_some, decide_eq_true c0, if_pos rfl, l1In_eq, Option.bind_some, decide_eq_true c1, if_pos rfl, l1In_eq, Option.bind_some, decide_eq_true c2, if_pos rfl, if_neg (by omega), w.out]
            · rw [impl_DevsOk.l0, if_pos (by omega), if_pos (by omega), if_pos (by omega), hr.out, in_eq, Option.bind_some, decide_eq_true c0, if_pos rfl, in_eq, Option.bind_some, decide_eq_true c1, if_pos rfl, in_eq, Option.bind_some, decide_eq_true c2, if_pos rfl, if_neg (by omega), w.out]
          · obtain ⟨j, rfl⟩ : ∃ j, i = j + 1 := ⟨i - 1, by omega⟩
            have hj : j < xs.length := by omega
            have hq : pr = some xs[j] := (hp xs[j]).2 ⟨j, rfl, List.getElem?_eq_getElem hj⟩
            have wm : Hd (wrap64 (((j + 1 : Nat) : Int) - 1) = (j : Int)) := ⟨by rw [w64 (by omega) (by omega)]; omega⟩
            have hrj : Hd (rd_T76 xs (j : Int) = xs[j]) := ⟨by
              unfold rd_T76; rw [Int.toNat_natCast, List.getD_eq_getElem?_getD, List.getElem?_eq_getElem hj]; rfl⟩
            by_cases c3 : xs[j].f0 < d.f0
            · rw [if_pos ⟨c0, c1, c2, fun q e => by rw [hq] at e; injection e with e; rw [← e]; exact c3⟩]
              refine ⟨Ev.step (fun k => ?_) i1, Ev.step (fun k => ?_) i2⟩
              · rw [spec_DevsOk.l0, if_pos (by omega), if_pos (by omega), hr.out, l1In_eq, Option.bind_some, decide_eq_true c0, if_pos rfl, l1In_eq, Option.bind_some, decide_eq_true c1, if_pos rfl, l1In_eq, Option.bind_some, decide_eq_true c2, if_pos rfl, if_pos (by omega), wm.out, if_pos (by omega), if_pos (by omega), hrj.out, if_neg (by omega), w.out]
              · rw [impl_DevsOk.l0, if_pos (by omega), if_pos (by omega), if_pos (by omega), hr.out, in_eq, Option.bind_some, decide_eq_true c0, if_pos rfl, in_eq, Option.bind_some, decide_eq_true c1, if_pos rfl, in_eq, Option.bind_some, decide_eq_true c2, if_pos rfl, if_pos (by omega), wm.out, if_pos (by omega), if_pos (by omega), hrj.out, if_neg (by omega), w.out]
            · rw [if_neg (fun hc => c3 (hc.2.2.2 _ hq))]
              refine ⟨Ev.step (f := fun _ => some false) (fun k => ?_) (Ev.now _), Ev.step (f := fun _ => some false) (fun k => ?_) (Ev.now _)⟩
              · rw [spec_DevsOk.l0, if_pos (by omega), if_pos (by omega), hr.out, l1In_eq, Option.bind_some, decide_eq_true c0, if_pos rfl, l1In_eq, Option.bind_some, decide_eq_true c1, if_pos rfl, l1In_eq, Option.bind_some, decide_eq_true c2, if_pos rfl, if_pos (by omega), wm.out, if_pos (by omega), if_pos (by omega), hrj.out, if_pos (by omega)]
              · rw [impl_DevsOk.l0, if_pos (by omega), if_pos (by omega), if_pos (by omega), hr.out, in_eq, Option.bind_some, decide_eq_true c0, if_pos rfl, in_eq, Option.bind_some, decide_eq_true c1, if_pos rfl, in_eq, Option.bind_some, decide_eq_true c2, if_pos rfl, if_pos (by omega), wm.out, if_pos (by omega), if_pos (by omega), hrj.out, if_pos (by omega)]
        · rw [if_neg (fun hc => c2 hc.2.2.1)]
          refine ⟨Ev.step (f := fun _ => some false) (fun k => ?_) (Ev.now _), Ev.step (f := fun _ => some false) (fun k => ?_) (Ev.now _)⟩
          · rw [spec_DevsOk.l0, if_pos (by omega), if_pos (by omega), hr.out, l1In_eq, Option.bind_some, decide_eq_true c0, if_pos rfl, l1In_eq, Option.bind_some, decide_eq_true c1, if_pos rfl, l1In_eq, Option.bind_some, decide_eq_false c2, if_neg (by decide)]
          · rw [impl_DevsOk.l0, if_pos (by omega), if_pos (by omega), if_pos (by omega), hr.out, in_eq, Option.bind_some, decide_eq_true c0, if_pos rfl, in_eq, Option.bind_some, decide_eq_true c1, if_pos rfl, in_eq, Option.bind_some, decide_eq_false c2, if_neg (by decide)]
      · rw [if_neg (fun hc => c1 hc.2.1)]
        refine ⟨Ev.step (f := fun _ => some false) (fun k => ?_) (Ev.now _), Ev.step (f := fun _ => some false) (fun k => ?_) (Ev.now _)⟩
        · rw [spec_DevsOk.l0, if_pos (by omega), if_pos (by omega), hr.out, l1In_eq, Option.bind_some, decide_eq_true c0, if_pos rfl, l1In_eq, Option.bind_some, decide_eq_false c1, if_neg (by decide)]
        · rw [impl_DevsOk.l0, if_pos (by omega), if_pos (by omega), if_pos (by omega), hr.out, in_eq, Option.bind_some, decide_eq_true c0, if_pos rfl, in_eq, Option.bind_some, decide_eq_false c1, if_neg (by decide)]
    · rw [if_neg (fun hc => c0 hc.1)]
      refine ⟨Ev.step (f := fun _ => some false) (fun k => ?_) (Ev.now _), Ev.step (f := fun _ => some false) (fun k => ?_) (Ev.now _)⟩
      · rw [spec_DevsOk.l0, if_pos (by omega), if_pos (by omega), hr.out, l1In_eq, Option.bind_some, decide_eq_false c0, if_neg (by decide)]
      · rw [impl_DevsOk.l0, if_pos (by omega), if_pos (by omega), if_pos (by omega), hr.out, in_eq, Option.bind_some, decide_eq_false c0, if_neg (by decide)]
theorem devsOk_ev (xs : List S76) (hN : xs.length ≤ 4611686018427387904) : Ev (fun k => spec_DevsOk.f k xs) (devsOk xs) ∧ Ev (fun k => impl_DevsOk.f k xs) (devsOk xs) :=
  devsOk_l0 xs hN xs 0 none rfl (fun q => ⟨fun e => (by cases e), fun ⟨j, e, _⟩ => (by omega)⟩)
theorem rdT_at29 {xs : List S29} {i : Nat} {a : S29} {t : List S29} (h : xs.drop i = a :: t) : rd_T29 xs (i : Int) = a := by
  unfold rd_T29; rw [Int.toNat_natCast]; exact (drop_cons' h _).2.1
def allIn (l : List S76) : List Int → Bool
  | [] => true
  | id :: t => if (devAt id l).2.2.2 = true then allIn l t else false
def partsOk (reps : Int) (l : List S76) : List S29 → Bool
  | [] => true
  | p :: t => if (p.f0.length : Int) = reps ∧ apartI p.f0 = true then (if allIn l p.f0 = true then partsOk reps l t else false) else false
theorem spec_ring_l1 (l : List S76) (hl : l.length ≤ 4611686018427387904) (ps : List S29) (p : S29) (reps : Int) (i : Nat) (hi : i < ps.length) (hp : rd_T29 ps (i : Int) = p) (hN : p.f0.length ≤ 4611686018427387904) (r : Bool) (hr : Ev (fun k => spec_RingOk.l0 k l (wrap64 ((i : Int) + 1)) reps ps) r) :
    ∀ (t : List Int) (j : Nat), p.f0.drop j = t → Ev (fun k => spec_RingOk.l1 k l (i : Int) (j : Int) reps ps) (if allIn l t = true then r else false)
  | [], j, h => by
    have h1 := drop_nil' h
    refine Ev.step (fun k => ?_) hr
    rw [spec_RingOk.l1, if_pos (by omega), if_pos (by omega), hp, if_neg (by omega)]
  | a :: t, j, h => by
    obtain ⟨h1, _, h3⟩ := drop_cons' h 0
    have hrd : Hd (rd p.f0 (j : Int) = a) := ⟨rd_at h⟩
    have w : Hd (wrap64 ((j : Int) + 1) = ((j + 1 : Nat) : Int)) := ⟨w64s h1 hN⟩
    have ih := spec_ring_l1 l hl ps p reps i hi hp hN r hr t (j + 1) h3
    refine Ev.step (f := fun k => (spec_DevAt.f k l a).bind fun b => if b.2.2.2 = true then spec_RingOk.l1 k l (i : Int) ((j + 1 : Nat) : Int) reps ps else some false) (fun k => ?_) (Ev.bind (devAt_ev l a hl).1 ?_)
    · rw [spec_RingOk.l1, if_pos (by omega), if_pos (by omega), hp, if_pos (by omega), if_pos (by omega), hrd.out, w.out]
    · rw [allIn]
      by_cases c : (devAt a l).2.2.2 = true
      · rw [if_pos c]; exact Ev.pos c ih
      · rw [if_neg c]; exact Ev.neg c (Ev.now _)
theorem impl_ring_l1 (l : List S76) (hl : l.length ≤ 4611686018427387904) (ps : List S29) (xs : List Int) (reps n i : Int) (hN : xs.length ≤ 4611686018427387904) (r : Bool) (hr : Ev (fun k => impl_RingOk.l0 k l ps n (wrap64 (i + 1)) reps ps) r) :
    ∀ (t : List Int) (j : Nat), xs.drop j = t → Ev (fun k => impl_RingOk.l1 k l ps n i xs (xs.length : Int) (j : Int) reps ps) (if allIn l t = true then r else false)
  | [], j, h => by
    have h1 := drop_nil' h
    refine Ev.step (fun k => ?_) hr
    rw [impl_RingOk.l1, if_neg (by omega)]
  | a :: t, j, h => by
    obtain ⟨h1, _, h3⟩ := drop_cons' h 0
    have hrd : Hd (rd xs (j : Int) = a) := ⟨rd_at h⟩
    have w : Hd (wrap64 ((j : Int) + 1) = ((j + 1 : Nat) : Int)) := ⟨w64s h1 hN⟩
    have ih := impl_ring_l1 l hl ps xs reps n i hN r hr t (j + 1) h3
    refine Ev.step (f := fun k => (impl_DevAt.f k l a).bind fun b => if b.2.2.2 = true then impl_RingOk.l1 k l ps n i xs (xs.length : Int) ((j + 1 : Nat) : Int) reps ps else some false) (fun k => ?_) (Ev.bind (devAt_ev l a hl).2 ?_)
    · rw [impl_RingOk.l1, if_pos (by omega), if_pos (by omega), if_pos (by omega), hrd.out, w.out]
    · rw [allIn]
      by_cases c : (devAt a l).2.2.2 = true
      · rw [if_pos c]; exact Ev.pos c ih
      · rw [if_neg c]; exact Ev.neg c (Ev.now _)
theorem ring_l0 (l : List S76) (hl : l.length ≤ 4611686018427387904) (ps : List S29) (reps : Int) (hN : ps.length ≤ 4611686018427387904) (hx : ∀ x ∈ ps, x.f0.length ≤ 4611686018427387904) : ∀ (t : List S29) (i : Nat), ps.drop i = t →
    Ev (fun k => spec_RingOk.l0 k l (i : Int) reps ps) (partsOk reps l t) ∧ Ev (fun k => impl_RingOk.l0 k l ps (ps.length : Int) (i : Int) reps ps) (partsOk reps l t)
  | [], i, h => by
    have h1 := drop_nil' h
    refine ⟨Ev.step (f := fun _ => some true) (fun k => ?_) (Ev.now _), Ev.step (f := fun _ => some true) (fun k => ?_) (Ev.now _)⟩
    · rw [spec_RingOk.l0, if_neg (by omega)]
    · rw [impl_RingOk.l0, if_neg (by omega)]
  | p :: t, i, h => by
    obtain ⟨h1, _, h3⟩ := drop_cons' h z29
    have hrd : Hd (rd_T29 ps (i : Int) = p) := ⟨rdT_at29 h⟩
    have hp : p.f0.length ≤ 4611686018427387904 := hx p (List.mem_of_mem_drop (by rw [h]; exact List.mem_cons_self))
    obtain ⟨i1, i2⟩ := ring_l0 l hl ps reps hN hx t (i + 1) h3
    have w : wrap64 ((i : Int) + 1) = ((i + 1 : Nat) : Int) := w64s h1 hN
    have j1 := spec_ring_l1 l hl ps p reps i h1 hrd.out hp _ (by rw [w]; exact i1) p.f0 0 rfl
    have j2 := impl_ring_l1 l hl ps p.f0 reps (ps.length : Int) (i : Int) hp _ (by rw [w]; exact i2) p.f0 0 rfl
    clear w
    rw [partsOk]
    refine ⟨Ev.step (f := fun k => (spec_l5Part.f k p.f0 reps).bind fun t1 => if t1 = true then spec_RingOk.l1 k l (i : Int) 0 reps ps else some false) (fun k => ?_) (Ev.bind (l5Part_ev p.f0 reps hp) ?_), ?_⟩
    · rw [spec_RingOk.l0, if_pos (by omega), if_pos (by omega), hrd.out]
    · by_cases c : (p.f0.length : Int) = reps ∧ apartI p.f0 = true
      · rw [if_pos c]; exact Ev.pos (by rw [c.2, c.1]; simp) j1
      · rw [if_neg c]
        refine Ev.neg (fun hc => c ?_) (Ev.now _)
        rw [Bool.and_eq_true, beq_iff_eq] at hc
        exact ⟨hc.2, hc.1⟩
    · by_cases c0 : (p.f0.length : Int) = reps
      · refine Ev.step (f := fun k => (impl_apart.f k p.f0).bind fun t1 => impl_RingOk.j2 k l ps (ps.length : Int) (i : Int) (!t1) reps ps p.f0) (fun k => ?_) (Ev.bind (apart_ev p.f0 hp) ?_)
        · rw [impl_RingOk.l0, if_pos (by omega), if_pos (by omega), if_pos (by omega), hrd.out, if_pos c0]
        · by_cases c1 : apartI p.f0 = true
          · rw [if_pos ⟨c0, c1⟩, c1]
            exact Ev.step (fun k => by rw [impl_RingOk.j2, if_neg (by decide)]; rfl) j2
          · rw [if_neg (fun hc => c1 hc.2), Bool.eq_false_iff.mpr c1]
            exact Ev.step (f := fun _ => some false) (fun k => by rw [impl_RingOk.j2, if_pos (by decide)]) (Ev.now _)
      · rw [if_neg (fun hc => c0 hc.1)]
        refine Ev.step (f := fun k => impl_RingOk.j2 k l ps (ps.length : Int) (i : Int) true reps ps p.f0) (fun k => ?_) (Ev.step (f := fun _ => some false) (fun k => by rw [impl_RingOk.j2, if_pos rfl]) (Ev.now _))
        rw [impl_RingOk.l0, if_pos (by omega), if_pos (by omega), if_pos (by omega), hrd.out, if_neg c0]
def ringOk (reps : Int) (ps : List S29) (l : List S76) : Bool := if devsOk l = true ∧ (1 ≤ reps ∧ reps ≤ 5) ∧ (1 ≤ (ps.length : Int) ∧ (ps.length : Int) ≤ 64) then partsOk reps l ps else false
theorem ringOk_ev (reps : Int) (ps : List S29) (l : List S76) (hl : l.length ≤ 4611686018427387904) (hN : ps.length ≤ 4611686018427387904) (hx : ∀ x ∈ ps, x.f0.length ≤ 4611686018427387904) :
    Ev (fun k => spec_RingOk.f k reps ps l) (ringOk reps ps l) ∧ Ev (fun k => impl_RingOk.f k reps ps l) (ringOk reps ps l) := by
  obtain ⟨d1, d2⟩ := devsOk_ev l hl
  obtain ⟨r1, r2⟩ := ring_l0 l hl ps reps hN hx ps 0 rfl
  have n1 : Ev (fun k => spec_RingOk.j0 k l true reps ps) false := Ev.step (f := fun _ => some false) (fun k => by rw [spec_RingOk.j0, if_pos rfl]) (Ev.now _)
  have n2 : Ev (fun k => impl_RingOk.j0 k l true reps ps) false := Ev.step (f := fun _ => some false) (fun k => by rw [impl_RingOk.j0, if_pos rfl]) (Ev.now _)
  simp only [spec_RingOk.f, impl_RingOk.f, l1In_eq, in_eq, Option.bind_some, decide_eq_true_eq]
  unfold ringOk
  refine ⟨Ev.bind d1 ?_, Ev.bind d2 ?_⟩
  · by_cases c1 : devsOk l = true
    · refine Ev.pos c1 ?_
      by_cases c2 : 1 ≤ reps ∧ reps ≤ 5
      · refine Ev.pos c2 ?_
        by_cases c3 : 1 ≤ (ps.length : Int) ∧ (ps.length : Int) ≤ 64
        · rw [if_pos ⟨c1, c2, c3⟩, decide_eq_true c3]
          exact Ev.step (fun k => by rw [Bool.not_true, spec_RingOk.j0, if_neg (by decide)]; rfl) r1
        · rw [if_neg (fun hc => c3 hc.2.2), decide_eq_false c3]
          exact n1
      · rw [if_neg (fun hc => c2 hc.2.1)]
        exact Ev.neg c2 n1
    · rw [if_neg (fun hc => c1 hc.1)]
      exact Ev.neg c1 n1
  · by_cases c1 : devsOk l = true
    · refine Ev.pos c1 ?_
      by_cases c2 : 1 ≤ reps ∧ reps ≤ 5
      · refine Ev.pos c2 ?_
        by_cases c3 : 1 ≤ (ps.length : Int) ∧ (ps.length : Int) ≤ 64
        · rw [if_pos ⟨c1, c2, c3⟩, decide_eq_true c3]
          exact Ev.step (fun k => by rw [Bool.not_true, impl_RingOk.j0, if_neg (by decide)]; rfl) r2
        · rw [if_neg (fun hc => c3 hc.2.2), decide_eq_false c3]
          exact n2
      · rw [if_neg (fun hc => c2 hc.2.1)]
        exact Ev.neg c2 n2
    · rw [if_neg (fun hc => c1 hc.1)]
      exact Ev.neg c1 n2
theorem szPart_eq (l : List Int) (n : Int) (hl : l.length ≤ 9223372036854775807) (h0 : 0 ≤ n) (h1 : n ≤ 1048576) : laws_szPart.f l n = some (if n < l.length then -1 else n - l.length) := by
  unfold laws_szPart.f laws_szIntS.f
  rw [w64 (by omega) (by omega)]
  by_cases h : n < l.length
  · rw [if_pos (by omega), Option.bind_some, if_pos (by omega), if_pos h]
  · rw [if_neg (by omega), Option.bind_some, if_neg (by omega), if_neg h]
def Fits (l : List S24) : Prop := l.length ≤ 1048576 ∧ ∀ x ∈ l, x.f0.length ≤ 1048576
theorem rdT_at24 {xs : List S24} {i : Nat} {a : S24} {t : List S24} (h : xs.drop i = a :: t) : rd_T24 xs (i : Int) = a := by
  unfold rd_T24; rw [Int.toNat_natCast]; exact (drop_cons' h _).2.1
theorem szPartS_l0 (xs : List S24) (hN : xs.length ≤ 4611686018427387904) (hx : ∀ x ∈ xs, x.f0.length ≤ 9223372036854775807) : ∀ (l : List S24) (i : Nat) (n : Int), xs.drop i = l → 0 ≤ n → n ≤ 1048576 → ∃ r, Ev (fun k => laws_szPartS.l0 k xs n (i : Int)) r ∧ (r < 0 ∨ (0 ≤ r ∧ r ≤ n ∧ ∀ x ∈ l, x.f0.length ≤ 1048576))
  | [], i, n, h, h0, h1 => by
    have hl := drop_nil' h
    refine ⟨n, Ev.step (f := fun _ => some n) (fun k => ?_) (Ev.now _), Or.inr ⟨h0, Int.le_refl _, by simp⟩⟩
    rw [laws_szPartS.l0, if_neg (by omega)]
  | a :: t, i, n, h, h0, h1 => by
    obtain ⟨hl, _, h3⟩ := drop_cons' h z24
    have ha : a.f0.length ≤ 9223372036854775807 := hx a (List.mem_of_mem_drop (by rw [h]; exact List.mem_cons_self))
    have hz := szPart_eq a.f0 n ha h0 h1
    have w : Hd (wrap64 ((i : Int) + 1) = ((i + 1 : Nat) : Int)) := ⟨w64s hl hN⟩
    have hr : Hd (rd_T24 xs (i : Int) = a) := ⟨rdT_at24 h⟩
    by_cases c : n < a.f0.length
    · rw [if_pos c] at hz
      refine ⟨-1, Ev.step (f := fun _ => some (-1)) (fun k => ?_) (Ev.now _), Or.inl (by omega)⟩
      rw [laws_szPartS.l0, if_pos (by omega), if_pos (by omega), hr.out, hz, Option.bind_some, if_pos (by omega)]
    · rw [if_neg c] at hz
      obtain ⟨r, r1, r2⟩ := szPartS_l0 xs hN hx t (i + 1) (n - a.f0.length) h3 (by omega) (by omega)
      refine ⟨r, Ev.step (fun k => ?_) r1, r2.imp id (fun ⟨q0, q1, q2⟩ => ⟨q0, by omega, fun x hm => ?_⟩)⟩
      · rw [laws_szPartS.l0, if_pos (by omega), if_pos (by omega), hr.out, hz, Option.bind_some, if_neg (by omega), w.out]
      · rcases List.mem_cons.1 hm with rfl | hm
        · omega
        · exact q2 x hm
theorem szRing_ev (a : Int) (l : List S24) (n : Int) (hl : l.length ≤ 9223372036854775807) (hx : ∀ x ∈ l, x.f0.length ≤ 9223372036854775807) (h0 : 0 ≤ n) (h1 : n ≤ 1048576) : ∃ r, Ev (fun k => laws_szRing.f k a l n) r ∧ (r < 0 ∨ (0 ≤ r ∧ r ≤ n ∧ Fits l)) := by
  simp only [laws_szRing.f, laws_szPartS.f]
  have w : Hd (wrap64 (n - (l.length : Int)) = n - l.length) := ⟨w64 (by omega) (by omega)⟩
  simp only [w.out]
  by_cases c : n - (l.length : Int) < 0
  · simp only [if_pos c]
    refine ⟨-1, Ev.some_bind (Ev.pos (by omega) (Ev.now _)), Or.inl (by omega)⟩
  · simp only [if_neg c]
    obtain ⟨r, r1, r2⟩ := szPartS_l0 l (by omega) hx l 0 (n - l.length) rfl (by omega) (by omega)
    by_cases c2 : r < 0
    · exact ⟨-1, Ev.bind r1 (Ev.pos c2 (Ev.now _)), Or.inl (by omega)⟩
    · refine ⟨r, Ev.bind r1 (Ev.neg c2 (Ev.now _)), Or.inr ?_⟩
      rcases r2 with r2 | ⟨q0, q1, q2⟩
      · exact absurd r2 c2
      · exact ⟨q0, by omega, by omega, q2⟩
theorem szDevS_eq (l : List S99) (n : Int) (hl : l.length ≤ 9223372036854775807) (h0 : 0 ≤ n) (h1 : n ≤ 1048576) : laws_szDevS.f l n = some (if n < l.length then -1 else n - l.length) := by
  unfold laws_szDevS.f
  rw [w64 (by omega) (by omega)]
  by_cases h : n < l.length
  · rw [if_pos (by omega), if_pos h]
  · rw [if_neg (by omega), if_neg h]
theorem toIntS_l0 (xs : List Int) (hN : xs.length ≤ 4611686018427387904) : ∀ (l : List Int) (i : Nat) (A acc : List Int), xs.drop i = l → A.length = i → acc = A ++ List.replicate l.length 0 → Ev (fun k => laws_toIntS.l0 k xs acc (i : Int)) (A ++ l)
  | [], i, A, acc, h, hA, ha => by
    have h1 := drop_nil' h
    subst ha
    refine Ev.step (f := fun _ => some (A ++ [])) (fun k => ?_) (Ev.now _)
    rw [laws_toIntS.l0, if_neg (by omega)]
    rfl
  | a :: t, i, A, acc, h, hA, ha => by
    obtain ⟨h1, _, h3⟩ := drop_cons' h 0
    have ih := toIntS_l0 xs hN t (i + 1) (A ++ [a]) _ h3 (by simp [hA]) rfl
    subst ha
    have e : (A ++ List.replicate (a :: t).length 0).set ((i : Int)).toNat (rd xs i) = (A ++ [a]) ++ List.replicate t.length 0 := by
      rw [rd_at h, Int.toNat_natCast, ← hA]; exact set_copy A 0 a t.length
    refine Ev.step (f := fun k => laws_toIntS.l0 k xs ((A ++ [a]) ++ List.replicate t.length 0) ((i + 1 : Nat) : Int)) (fun k => ?_) (Ev.eq ih (by simp))
    rw [laws_toIntS.l0, if_pos (by omega), if_pos (by omega), if_pos (by simp only [List.length_append, List.length_replicate, List.length_cons]; omega), e, w64s h1 hN]
theorem toIntS_ev (xs : List Int) (hN : xs.length ≤ 1048576) : Ev (fun k => laws_toIntS.f k xs) xs := by
  refine Ev.congr (f := fun k => laws_toIntS.l0 k xs (List.replicate xs.length 0) ((0 : Nat) : Int)) (fun k => ?_) (toIntS_l0 xs (by omega) xs 0 [] _ rfl rfl rfl)
  rw [laws_toIntS.f, if_pos (by omega), if_pos (by omega), Int.toNat_natCast]; rfl
theorem toPart_ev (xs : List Int) (hN : xs.length ≤ 1048576) : Ev (fun k => laws_toPart.f k xs) xs := by
  simp only [laws_toPart.f]
  refine Ev.bind (toIntS_ev xs hN) ?_
  exact Ev.now _
def toPart (x : S24) : S29 := ⟨x.f0⟩
theorem toPartS_l0 (xs : List S24) (hN : xs.length ≤ 4611686018427387904) (hx : ∀ x ∈ xs, x.f0.length ≤ 1048576) : ∀ (l : List S24) (i : Nat) (A acc : List S29), xs.drop i = l → A.length = i → acc = A ++ List.replicate l.length z29 → Ev (fun k => laws_toPartS.l0 k xs acc (i : Int)) (A ++ l.map toPart)
  | [], i, A, acc, h, hA, ha => by
    have h1 := drop_nil' h
    subst ha
    refine Ev.step (f := fun _ => some (A ++ [])) (fun k => ?_) (Ev.now _)
    rw [laws_toPartS.l0, if_neg (by omega)]
    rfl
  | a :: t, i, A, acc, h, hA, ha => by
    obtain ⟨h1, _, h3⟩ := drop_cons' h z24
    have hal : a.f0.length ≤ 1048576 := hx a (List.mem_of_mem_drop (by rw [h]; exact List.mem_cons_self))
    have ih := toPartS_l0 xs hN hx t (i + 1) (A ++ [toPart a]) _ h3 (by simp [hA]) rfl
    subst ha
    have e : (A ++ List.replicate (a :: t).length z29).set ((i : Int)).toNat (toPart a) = (A ++ [toPart a]) ++ List.replicate t.length z29 := by
      rw [Int.toNat_natCast, ← hA]; exact set_copy A _ (toPart a) t.length
    have hacc : ((i : Int)) < ((A ++ List.replicate (a :: t).length z29).length : Int) := by
      simp only [List.length_append, List.length_replicate, List.length_cons]; omega
    refine Ev.step (f := fun k => (laws_toPart.f k a.f0).bind fun t1 => if ((i : Int)) < ((A ++ List.replicate (a :: t).length z29).length : Int) then laws_toPartS.l0 k xs ((A ++ List.replicate (a :: t).length z29).set ((i : Int)).toNat ⟨t1⟩) (wrap64 ((i : Int) + 1)) else none) (fun k => ?_) ?_
    · rw [laws_toPartS.l0, if_pos (by omega), if_pos (by omega), rdT_at24 h]
    · refine Ev.bind (toPart_ev a.f0 hal) ?_
      refine Ev.pos hacc ?_
      rw [w64s h1 hN, show (⟨a.f0⟩ : S29) = toPart a from rfl, e]
      exact Ev.eq ih (by simp)
theorem toRing_ev (a : Int) (l : List S24) (hf : Fits l) : Ev (fun k => laws_toRing.f k a l) (a, l.map toPart) := by
  have hf1 := hf.1
  simp only [laws_toRing.f]
  refine Ev.bind (a := l.map toPart) ?_ (Ev.now _)
  refine Ev.congr (f := fun k => laws_toPartS.l0 k l (List.replicate l.length z29) ((0 : Nat) : Int)) (fun k => ?_) (toPartS_l0 l (by omega) hf.2 l 0 [] _ rfl rfl rfl)
  rw [laws_toPartS.f, if_pos (by omega), if_pos (by omega), Int.toNat_natCast]; rfl
def toDev (x : S99) : S76 := ⟨x.f0, x.f1, x.f2⟩
theorem rdT_at99 {xs : List S99} {i : Nat} {a : S99} {t : List S99} (h : xs.drop i = a :: t) : rd_T99 xs (i : Int) = a := by
  unfold rd_T99; rw [Int.toNat_natCast]; exact (drop_cons' h _).2.1
theorem toDevS_l0 (xs : List S99) (hN : xs.length ≤ 4611686018427387904) : ∀ (l : List S99) (i : Nat) (A acc : List S76), xs.drop i = l → A.length = i → acc = A ++ List.replicate l.length z76 → Ev (fun k => laws_toDevS.l0 k xs acc (i : Int)) (A ++ l.map toDev)
  | [], i, A, acc, h, hA, ha => by
    have h1 := drop_nil' h
    subst ha
    refine Ev.step (f := fun _ => some (A ++ [])) (fun k => ?_) (Ev.now _)
    rw [laws_toDevS.l0, if_neg (by omega)]
    rfl
  | a :: t, i, A, acc, h, hA, ha => by
    obtain ⟨h1, _, h3⟩ := drop_cons' h z99
    have ih := toDevS_l0 xs hN t (i + 1) (A ++ [toDev a]) _ h3 (by simp [hA]) rfl
    subst ha
    have e : (A ++ List.replicate (a :: t).length z76).set ((i : Int)).toNat (toDev a) = (A ++ [toDev a]) ++ List.replicate t.length z76 := by
      rw [Int.toNat_natCast, ← hA]; exact set_copy A _ (toDev a) t.length
    refine Ev.step (f := fun k => laws_toDevS.l0 k xs ((A ++ [toDev a]) ++ List.replicate t.length z76) ((i + 1 : Nat) : Int)) (fun k => ?_) (Ev.eq ih (by simp))
    rw [laws_toDevS.l0, if_pos (by omega), if_pos (by omega), rdT_at99 h, laws_toDev.f, Option.bind_some, if_pos (by simp only [List.length_append, List.length_replicate, List.length_cons]; omega), w64s h1 hN, ← e]
    rfl
theorem toDevS_ev (xs : List S99) (hN : xs.length ≤ 1048576) : Ev (fun k => laws_toDevS.f k xs) (xs.map toDev) := by
  refine Ev.congr (f := fun k => laws_toDevS.l0 k xs (List.replicate xs.length z76) ((0 : Nat) : Int)) (fun k => ?_) (toDevS_l0 xs (by omega) xs 0 [] _ rfl rfl rfl)
  rw [laws_toDevS.f, if_pos (by omega), if_pos (by omega), Int.toNat_natCast]; rfl
theorem eqIntS_l0 (xs : List Int) (hN : xs.length ≤ 4611686018427387904) : ∀ (l : List Int) (i : Nat), xs.drop i = l → Ev (fun k => laws_eqIntS.l0 k xs xs (i : Int)) true
  | [], i, h => by
    have h1 := drop_nil' h
    refine Ev.step (f := fun _ => some true) (fun k => ?_) (Ev.now _)
    rw [laws_eqIntS.l0, if_neg (by omega)]
  | a :: t, i, h => by
    obtain ⟨h1, _, h3⟩ := drop_cons' h 0
    refine Ev.step (f := fun k => laws_eqIntS.l0 k xs xs ((i + 1 : Nat) : Int)) (fun k => ?_) (eqIntS_l0 xs hN t (i + 1) h3)
    rw [laws_eqIntS.l0, if_pos (by omega), if_pos (by omega), if_pos (by omega), if_pos rfl, w64s h1 hN]
theorem eqIntS_ev (xs : List Int) (hN : xs.length ≤ 4611686018427387904) : Ev (fun k => laws_eqIntS.f k xs xs) true := by
  refine Ev.congr (f := fun k => laws_eqIntS.l0 k xs xs ((0 : Nat) : Int)) (fun k => ?_) (eqIntS_l0 xs hN xs 0 rfl)
  rw [laws_eqIntS.f, if_pos rfl]; rfl
theorem eqPart_ev (xs : List Int) (hN : xs.length ≤ 4611686018427387904) : Ev (fun k => laws_eqPart.f k xs xs) true := by
  simp only [laws_eqPart.f]
  refine Ev.bind (eqIntS_ev xs hN) ?_
  exact Ev.pos rfl (Ev.now _)
theorem eqPartS_l0 (xs : List S29) (hN : xs.length ≤ 4611686018427387904) (hx : ∀ x ∈ xs, x.f0.length ≤ 4611686018427387904) : ∀ (l : List S29) (i : Nat), xs.drop i = l → Ev (fun k => laws_eqPartS.l0 k xs xs (i : Int)) true
  | [], i, h => by
    have h1 := drop_nil' h
    refine Ev.step (f := fun _ => some true) (fun k => ?_) (Ev.now _)
    rw [laws_eqPartS.l0, if_neg (by omega)]
  | a :: t, i, h => by
    obtain ⟨h1, _, h3⟩ := drop_cons' h z29
    have hal : a.f0.length ≤ 4611686018427387904 := hx a (List.mem_of_mem_drop (by rw [h]; exact List.mem_cons_self))
    refine Ev.step (f := fun k => (laws_eqPart.f k a.f0 a.f0).bind fun t1 => if t1 = true then laws_eqPartS.l0 k xs xs ((i + 1 : Nat) : Int) else some false) (fun k => ?_) ?_
    · rw [laws_eqPartS.l0, if_pos (by omega), if_pos (by omega), if_pos (by omega), rdT_at29 h, w64s h1 hN]
    · refine Ev.bind (eqPart_ev a.f0 hal) ?_
      exact Ev.pos rfl (eqPartS_l0 xs hN hx t (i + 1) h3)
theorem eqRing_ev (a : Int) (xs : List S29) (hN : xs.length ≤ 4611686018427387904) (hx : ∀ x ∈ xs, x.f0.length ≤ 4611686018427387904) : Ev (fun k => laws_eqRing.f k a xs a xs) true := by
  simp only [laws_eqRing.f, laws_eqPartS.f, if_true]
  refine Ev.bind (a := true) (eqPartS_l0 xs hN hx xs 0 rfl) ?_
  exact Ev.pos rfl (Ev.now _)
theorem eqDevS_l0 (xs : List S76) (hN : xs.length ≤ 4611686018427387904) : ∀ (l : List S76) (i : Nat), xs.drop i = l → Ev (fun k => laws_eqDevS.l0 k xs xs (i : Int)) true
  | [], i, h => by
    have h1 := drop_nil' h
    refine Ev.step (f := fun _ => some true) (fun k => ?_) (Ev.now _)
    rw [laws_eqDevS.l0, if_neg (by omega)]
  | a :: t, i, h => by
    obtain ⟨h1, _, h3⟩ := drop_cons' h z76
    refine Ev.step (f := fun k => laws_eqDevS.l0 k xs xs ((i + 1 : Nat) : Int)) (fun k => ?_) (eqDevS_l0 xs hN t (i + 1) h3)
    rw [laws_eqDevS.l0, if_pos (by omega), if_pos (by omega), if_pos (by omega), laws_eqDev.f, if_pos rfl, if_pos rfl, if_pos rfl, Option.bind_some, if_pos rfl, w64s h1 hN]
theorem eqDevS_ev (xs : List S76) (hN : xs.length ≤ 4611686018427387904) : Ev (fun k => laws_eqDevS.f k xs xs) true := by
  refine Ev.congr (f := fun k => laws_eqDevS.l0 k xs xs ((0 : Nat) : Int)) (fun k => ?_) (eqDevS_l0 xs hN xs 0 rfl)
  rw [laws_eqDevS.f, if_pos rfl]; rfl
def cntI (id : Int) : List Int → Nat
  | [] => 0
  | a :: t => (if a = id then 1 else 0) + cntI id t
def loadOf (id : Int) : List S29 → Nat
  | [] => 0
  | p :: t => cntI id p.f0 + loadOf id t
def lens : List S29 → Nat
  | [] => 0
  | p :: t => p.f0.length + lens t
theorem cntI_le (id : Int) : ∀ l : List Int, cntI id l ≤ l.length
  | [] => Nat.le_refl _
  | a :: t => by
    have := cntI_le id t
    rw [cntI, List.length_cons]
    split <;> omega
theorem loadOf_le (id : Int) : ∀ l : List S29, loadOf id l ≤ lens l
  | [] => Nat.le_refl _
  | p :: t => by
    have h1 := loadOf_le id t
    have h2 := cntI_le id p.f0
    rw [loadOf, lens]
    omega
theorem lens_le (m : Nat) : ∀ l : List S29, (∀ x ∈ l, x.f0.length ≤ m) → lens l ≤ l.length * m
  | [], _ => Nat.zero_le _
  | p :: t, h => by
    have h1 := lens_le m t (fun x hx => h x (List.mem_cons_of_mem _ hx))
    have h2 := h p List.mem_cons_self
    rw [lens, List.length_cons, Nat.succ_mul]
    omega
theorem fits_map {l : List S24} (hf : Fits l) : (l.map toPart).length ≤ 1048576 ∧ (∀ x ∈ l.map toPart, x.f0.length ≤ 1048576) ∧ lens (l.map toPart) ≤ 1099511627776 := by
  have h1 : ∀ x ∈ l.map toPart, x.f0.length ≤ 1048576 := by
    intro x hx
    obtain ⟨y, hy, rfl⟩ := List.mem_map.1 hx
    exact hf.2 y hy
  have h2 := lens_le 1048576 _ h1
  have h3 : (l.map toPart).length ≤ 1048576 := by rw [List.length_map]; exact hf.1
  have h4 := Nat.mul_le_mul_right 1048576 h3
  exact ⟨h3, h1, by omega⟩
end Go.Proofs.Ytbhllgifciaepaa.PureFnExactRingOk
namespace Go.Proofs.Ytbhllgifciaepaa.Pure
open Go.RowKit Go.Proofs.Ytbhllgifciaepaa.PFnExactRingOk Go.Proofs.YtbhllgifciaepaaW.PrintWords Go.Proofs.YtbhllgifciaepaaW.PrintLast Go.Proofs.YtbhllgifciaepaaW.PrintMore Go.Proofs.Ytbhllgifciaepaa.Base Go.Proofs.Ytbhllgifciaepaa.PureFnExactRingOk
set_option linter.unusedVariables false
attribute [local irreducible] Go.bits IntKind.wrap shl shr
theorem FnExactRingOk (a : Int) (l : List S24) (m : List S99) (h0 : I64 a ∧ l.length ≤ 9223372036854775807 ∧ ∀ x ∈ l, x.f0.length ≤ 9223372036854775807 ∧ ∀ y ∈ x.f0, I64 y)
    (hm : m.length ≤ 9223372036854775807 ∧ ∀ x ∈ m, I64 x.f0 ∧ I64 x.f1 ∧ I64 x.f2) : ∃ k, laws_FnExactRingOk.f k a l m = some true := by
  apply Ev.rounds (g := fun k => laws_FnExactRingOk.f k a l m)
  simp only [laws_FnExactRingOk.f]
  obtain ⟨r, r1, r2⟩ := szRing_ev a l 1048576 h0.2.1 (fun x hx => (h0.2.2 x hx).1) (by omega) (by omega)
  refine Ev.bind r1 ?_
  by_cases hr : r < 0
  · exact Ev.pos hr (Ev.now _)
  rcases r2 with r2 | ⟨hr0, hr1, hf⟩
  · exact absurd r2 hr
  refine Ev.neg hr ?_
  refine Ev.got (szDevS_eq m r hm.1 hr0 hr1) ?_
  by_cases c2 : r < m.length
  · exact Ev.pos (by rw [if_pos c2]; omega) (Ev.now _)
  refine Ev.neg (by rw [if_neg c2]; omega) ?_
  obtain ⟨f1, f2, f3⟩ := fits_map hf
  obtain ⟨o1, o2⟩ := ringOk_ev a (l.map toPart) (m.map toDev) (by simp; omega) (by omega) (fun x hx => Nat.le_trans (f2 x hx) (by omega))
  refine Ev.bind (toRing_ev a l hf) ?_
  refine Ev.bind (toDevS_ev m (by omega)) ?_
  refine Ev.bind o1 ?_
  refine Ev.bind (toRing_ev a l hf) ?_
  refine Ev.bind (toDevS_ev m (by omega)) ?_
  refine Ev.bind o2 ?_
  refine Ev.neg (by simp) ?_
  refine Ev.bind (toRing_ev a l hf) ?_
  refine Ev.bind (eqRing_ev a (l.map toPart) (by omega) (fun x hx => Nat.le_trans (f2 x hx) (by omega))) ?_
  refine Ev.pos rfl ?_
  refine Ev.bind (toDevS_ev m (by omega)) ?_
  refine Ev.bind (eqDevS_ev (m.map toDev) (by simp; omega)) ?_
  exact Ev.pos rfl (Ev.now _)
end Go.Proofs.Ytbhllgifciaepaa.Pure
