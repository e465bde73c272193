/- Trimmed by a program of this session (trim.py). Not trusted: Lean checks it. -/
import Derived.Test.YtnoglmdicdpabaaDoorTXDevsTextPFnExactDevsTextx4
import Derived.Test.YtnoglmdicdpabaaDoorTXDevsTextBase
namespace Go.Proofs.YtnoglmdicdpabaaDoor.PureFnExactDevsText
open Go.RowKit Go.Proofs.YtnoglmdicdpabaaDoor.PFnExactDevsText Go.Proofs.YtnoglmdicdpabaaDoorW.PrintWords Go.Proofs.YtnoglmdicdpabaaDoorW.PrintLast Go.Proofs.YtnoglmdicdpabaaDoorW.PrintMore Go.Proofs.YtnoglmdicdpabaaDoor.Base
set_option linter.unusedVariables false
attribute [local irreducible] Go.bits IntKind.wrap shl shr
theorem l1In_eq (x a b : Int) : spec_l1In.f x a b = some (decide (a ≤ x ∧ x ≤ b)) := by
 unfold spec_l1In.f
 by_cases h : x ≥ a
 ·rw [if_pos h]; simp [show a ≤ x from h]
 ·rw [if_neg h]; simp [show ¬ a ≤ x from h]
theorem in_eq (x a b : Int) : impl_in.f x a b = some (decide (a ≤ x ∧ x ≤ b)) := by
 unfold impl_in.f
 by_cases h : x ≥ a
 ·rw [if_pos h]; simp [show a ≤ x from h]
 ·rw [if_neg h]; simp [show ¬ a ≤ x from h]
theorem rdT_at53 {xs : List S53} {i : Nat} {a : S53} {t : List S53} (h : xs.drop i = a :: t) : rd_T53 xs (i : Int) = a := by
 unfold rd_T53; rw [Int.toNat_natCast]; exact (drop_cons' h _).2.1
def devsFrom (len : Nat) : Option S53 → List S53 → Bool
 | _, [] => decide (1 ≤ (len : Int) ∧ (len : Int) ≤ 12)
 | pr, d :: t => if (0 ≤ d.f0 ∧ d.f0 ≤ 20) ∧ (0 ≤ d.f1 ∧ d.f1 ≤ 20) ∧ (1 ≤ d.f2 ∧ d.f2 ≤ 1000) ∧ (∀ q, pr = some q → q.f0 < d.f0) then devsFrom len (some d) t else false
def devsOk (l : List S53) : Bool := devsFrom l.length none l
theorem devsOk_l0 (xs : List S53) (hN : xs.length ≤ 4611686018427387904) : ∀ (l : List S53) (i : Nat) (pr : Option S53), xs.drop i = l → (∀ q, pr = some q ↔ ∃ j, i = j + 1 ∧ xs[j]? = some q) →
  Ev (fun k => spec_DevsOk.l0 k xs (i : Int)) (devsFrom xs.length pr l) ∧ Ev (fun k => impl_DevsOk.l0 k xs xs (xs.length : Int) (i : Int)) (devsFrom xs.length pr l)
 | [], i, pr, h, hp => by
  have h1 := drop_nil' h
  refine ⟨Ev.step (f := fun _ => some (devsFrom xs.length pr [])) (fun k => ?_) (Ev.now _), Ev.step (f := fun _ => some (devsFrom xs.length pr [])) (fun k => ?_) (Ev.now _)⟩
  ·rw [spec_DevsOk.l0, if_neg (by omega), l1In_eq]; rfl
  ·rw [impl_DevsOk.l0, if_neg (by omega), in_eq]; rfl
 | d :: t, i, pr, h, hp => by
  obtain ⟨h1, hd, h3⟩ := drop_cons' h z53
  have hdi : xs[i]? = some d := by
   rw [List.getElem?_eq_getElem h1]; rw [List.getD_eq_getElem?_getD, List.getElem?_eq_getElem h1] at hd; exact congrArg some hd
  have hr : Hd (rd_T53 xs (i : Int) = d) := ⟨rdT_at53 h⟩
  have w : Hd (wrap64 ((i : Int) + 1) = ((i + 1 : Nat) : Int)) := ⟨w64s h1 hN⟩
  obtain ⟨i1, i2⟩ := devsOk_l0 xs hN t (i + 1) (some d) h3 (fun q => ⟨fun e => ⟨i, rfl, by rw [← e]; exact hdi⟩, fun ⟨j, e1, e2⟩ => by
   have : j = i := by omega
   subst this
   rw [hdi] at e2; exact e2⟩)
  rw [devsFrom]
  by_cases c0 : 0 ≤ d.f0 ∧ d.f0 ≤ 20
  ·by_cases c1 : 0 ≤ d.f1 ∧ d.f1 ≤ 20
   ·by_cases c2 : 1 ≤ d.f2 ∧ d.f2 ≤ 1000
    ·rcases Nat.eq_zero_or_pos i with hi | hi
     ·have hn : pr = none := by
       cases pr with
       | none => rfl
       | some q => obtain ⟨j, e1, _⟩ := (hp q).1 rfl; omega
      rw [if_pos ⟨c0, c1, c2, fun q e => by rw [hn] at e; cases e⟩]
      refine ⟨Ev.step (fun k => ?_) i1, Ev.step (fun k => ?_) i2⟩
      ·rw [spec_DevsOk.l0, if_pos (by omega), if_pos (by omega), hr.out, l1In_eq, Option.bind_some, decide_eq_true c0, if_pos rfl, l1In_eq, Option.bind_some, decide_eq_true c1, if_pos rfl, l1In_eq, Option.bind_some, decide_eq_true c2, if_pos rfl, if_neg (by omega), w.out]
      ·rw [impl_DevsOk.l0, if_pos (by omega), if_pos (by omega), if_pos (by omega), hr.out, in_eq, Option.bind_some, decide_eq_true c0, if_pos rfl, in_eq, Option.bind_some, decide_eq_true c1, if_pos rfl, in_eq, Option.bind_some, decide_eq_true c2, if_pos rfl, if_neg (by omega), w.out]
     ·obtain ⟨j, rfl⟩ : ∃ j, i = j + 1 := ⟨i - 1, by omega⟩
      have hj : j < xs.length := by omega
      have hq : pr = some xs[j] := (hp xs[j]).2 ⟨j, rfl, List.getElem?_eq_getElem hj⟩
      have wm : Hd (wrap64 (((j + 1 : Nat) : Int) - 1) = (j : Int)) := ⟨by rw [w64 (by omega) (by omega)]; omega⟩
      have hrj : Hd (rd_T53 xs (j : Int) = xs[j]) := ⟨by
       unfold rd_T53; rw [Int.toNat_natCast, List.getD_eq_getElem?_getD, List.getElem?_eq_getElem hj]; rfl⟩
      by_cases c3 : xs[j].f0 < d.f0
      ·rw [if_pos ⟨c0, c1, c2, fun q e => by rw [hq] at e; injection e with e; rw [← e]; exact c3⟩]
       refine ⟨Ev.step (fun k => ?_) i1, Ev.step (fun k => ?_) i2⟩
       ·rw [spec_DevsOk.l0, if_pos (by omega), if_pos (by omega), hr.out, l1In_eq, Option.bind_some, decide_eq_true c0, if_pos rfl, l1In_eq, Option.bind_some, decide_eq_true c1, if_pos rfl, l1In_eq, Option.bind_some, decide_eq_true c2, if_pos rfl, if_pos (by omega), wm.out, if_pos (by omega), if_pos (by omega), hrj.out, if_neg (by omega), w.out]
       ·rw [impl_DevsOk.l0, if_pos (by omega), if_pos (by omega), if_pos (by omega), hr.out, in_eq, Option.bind_some, decide_eq_true c0, if_pos rfl, in_eq, Option.bind_some, decide_eq_true c1, if_pos rfl, in_eq, Option.bind_some, decide_eq_true c2, if_pos rfl, if_pos (by omega), wm.out, if_pos (by omega), if_pos (by omega), hrj.out, if_neg (by omega), w.out]
      ·rw [if_neg (fun hc => c3 (hc.2.2.2 _ hq))]
       refine ⟨Ev.step (f := fun _ => some false) (fun k => ?_) (Ev.now _), Ev.step (f := fun _ => some false) (fun k => ?_) (Ev.now _)⟩
       ·rw [spec_DevsOk.l0, if_pos (by omega), if_pos (by omega), hr.out, l1In_eq, Option.bind_some, decide_eq_true c0, if_pos rfl, l1In_eq, Option.bind_some, decide_eq_true c1, if_pos rfl, l1In_eq, Option.bind_some, decide_eq_true c2, if_pos rfl, if_pos (by omega), wm.out, if_pos (by omega), if_pos (by omega), hrj.out, if_pos (by omega)]
       ·rw [impl_DevsOk.l0, if_pos (by omega), if_pos (by omega), if_pos (by omega), hr.out, in_eq, Option.bind_some, decide_eq_true c0, if_pos rfl, in_eq, Option.bind_some, decide_eq_true c1, if_pos rfl, in_eq, Option.bind_some, decide_eq_true c2, if_pos rfl, if_pos (by omega), wm.out, if_pos (by omega), if_pos (by omega), hrj.out, if_pos (by omega)]
    ·rw [if_neg (fun hc => c2 hc.2.2.1)]
     refine ⟨Ev.step (f := fun _ => some false) (fun k => ?_) (Ev.now _), Ev.step (f := fun _ => some false) (fun k => ?_) (Ev.now _)⟩
     ·rw [spec_DevsOk.l0, if_pos (by omega), if_pos (by omega), hr.out, l1In_eq, Option.bind_some, decide_eq_true c0, if_pos rfl, l1In_eq, Option.bind_some, decide_eq_true c1, if_pos rfl, l1In_eq, Option.bind_some, decide_eq_false c2, if_neg (by decide)]
     ·rw [impl_DevsOk.l0, if_pos (by omega), if_pos (by omega), if_pos (by omega), hr.out, in_eq, Option.bind_some, decide_eq_true c0, if_pos rfl, in_eq, Option.bind_some, decide_eq_true c1, if_pos rfl, in_eq, Option.bind_some, decide_eq_false c2, if_neg (by decide)]
   ·rw [if_neg (fun hc => c1 hc.2.1)]
    refine ⟨Ev.step (f := fun _ => some false) (fun k => ?_) (Ev.now _), Ev.step (f := fun _ => some false) (fun k => ?_) (Ev.now _)⟩
    ·rw [spec_DevsOk.l0, if_pos (by omega), if_pos (by omega), hr.out, l1In_eq, Option.bind_some, decide_eq_true c0, if_pos rfl, l1In_eq, Option.bind_some, decide_eq_false c1, if_neg (by decide)]
    ·rw [impl_DevsOk.l0, if_pos (by omega), if_pos (by omega), if_pos (by omega), hr.out, in_eq, Option.bind_some, decide_eq_true c0, if_pos rfl, in_eq, Option.bind_some, decide_eq_false c1, if_neg (by decide)]
  ·rw [if_neg (fun hc => c0 hc.1)]
   refine ⟨Ev.step (f := fun _ => some false) (fun k => ?_) (Ev.now _), Ev.step (f := fun _ => some false) (fun k => ?_) (Ev.now _)⟩
   ·rw [spec_DevsOk.l0, if_pos (by omega), if_pos (by omega), hr.out, l1In_eq, Option.bind_some, decide_eq_false c0, if_neg (by decide)]
   ·rw [impl_DevsOk.l0, if_pos (by omega), if_pos (by omega), if_pos (by omega), hr.out, in_eq, Option.bind_some, decide_eq_false c0, if_neg (by decide)]
theorem devsOk_ev (xs : List S53) (hN : xs.length ≤ 4611686018427387904) : Ev (fun k => spec_DevsOk.f k xs) (devsOk xs) ∧ Ev (fun k => impl_DevsOk.f k xs) (devsOk xs) :=
 devsOk_l0 xs hN xs 0 none rfl (fun q => ⟨fun e => (by cases e), fun ⟨j, e, _⟩ => (by omega)⟩)
theorem devsFrom_mem (n : Nat) : ∀ (l : List S53) (pr : Option S53), devsFrom n pr l = true → ∀ d ∈ l, (0 ≤ d.f0 ∧ d.f0 ≤ 20) ∧ (0 ≤ d.f1 ∧ d.f1 ≤ 20) ∧ (1 ≤ d.f2 ∧ d.f2 ≤ 1000)
 | [], _, _, d, hd => by cases hd
 | a :: t, pr, h, d, hd => by
  rw [devsFrom] at h
  by_cases c : (0 ≤ a.f0 ∧ a.f0 ≤ 20) ∧ (0 ≤ a.f1 ∧ a.f1 ≤ 20) ∧ (1 ≤ a.f2 ∧ a.f2 ≤ 1000) ∧ (∀ q, pr = some q → q.f0 < a.f0)
  ·rw [if_pos c] at h
   rcases List.mem_cons.1 hd with rfl | hd
   ·exact ⟨c.1, c.2.1, c.2.2.1⟩
   ·exact devsFrom_mem n t (some a) h d hd
  ·rw [if_neg c] at h
   cases h
theorem one_str (d : Nat) (h : d < 10) : strOfNums [((48 + d : Nat) : Int)] = (⟨#[UInt8.ofNat (48 + d)]⟩ : ByteArray) := by
 apply ByteArray.ext
 apply Array.ext'
 rw [strOfNums_data, List.map_cons, List.map_nil, Int.toNat_natCast]
theorem app_one (a : List UInt8) (x : UInt8) : (⟨a.toArray⟩ : ByteArray) ++ ⟨#[x]⟩ = ⟨(a ++ [x]).toArray⟩ := by
 apply ByteArray.ext
 apply Array.ext'
 rw [ByteArray.data_append]
 simp
theorem dec_len (u : Nat) : (Lib.decDigits u).length ≤ u + 1 := by
 rw [Lib.decDigits]
 by_cases h : u < 10
 ·rw [dif_pos h]; simp
 ·rw [dif_neg h]
  have := dec_len (u / 10)
  simp only [List.length_append, List.length_singleton]
  omega
termination_by u
theorem l2Text_ev (u : Nat) (hu : u ≤ 10000000000) : Ev (fun k => spec_l2Text.f k (u : Int)) (⟨(Lib.decDigits u).toArray⟩ : ByteArray) := by
 rw [Lib.decDigits]
 by_cases h : u < 10
 ·rw [dif_pos h]
  have e : wrap64 (48 + (u : Int)) % 256 = ((48 + u : Nat) : Int) := by rw [w64 (by omega) (by omega)]; omega
  refine Ev.step (f := fun _ => some (⟨#[UInt8.ofNat (48 + u)]⟩ : ByteArray)) (fun k => ?_) (Ev.now _)
  rw [spec_l2Text.f, if_pos (by omega), e, one_str u h]
 ·rw [dif_neg h]
  have ih := l2Text_ev (u / 10) (by omega)
  have hl := dec_len (u / 10)
  have ed : wrap64 (Int.tdiv (u : Int) 10) = ((u / 10 : Nat) : Int) := by
   rw [Int.tdiv_eq_ediv_of_nonneg (by omega), w64 (by omega) (by omega)]; omega
  have em : wrap64 (48 + Int.tmod (u : Int) 10) % 256 = ((48 + u % 10 : Nat) : Int) := by
   rw [Int.tmod_eq_emod_of_nonneg (by omega), w64 (by omega) (by omega)]; omega
  refine Ev.step (f := fun k => (spec_l2Text.f k ((u / 10 : Nat) : Int)).bind fun t => if t.size + (⟨#[UInt8.ofNat (48 + u % 10)]⟩ : ByteArray).size ≤ 9223372036854775807 then some (t ++ ⟨#[UInt8.ofNat (48 + u % 10)]⟩) else none) (fun k => ?_) ?_
  ·rw [spec_l2Text.f, if_neg (by omega), ed, em]
   simp only [Option.bind_some]
   rw [one_str (u % 10) (by omega)]
  ·refine Ev.bind ih (Ev.pos ?_ ?_)
   ·show (Lib.decDigits (u / 10)).toArray.size + 1 ≤ _
    rw [List.size_toArray]
    omega
   ·rw [app_one]
    exact Ev.now _
termination_by u
def dtxt (n : Int) : ByteArray := ⟨(Lib.itoa n).toArray⟩
theorem dtxt_size (n : Int) (h : 0 ≤ n) : (dtxt n).size ≤ n.toNat + 1 := by
 show (Lib.itoa n).toArray.size ≤ _
 rw [List.size_toArray, Lib.itoa, if_neg (by omega)]
 exact dec_len _
theorem dtxt_ev (n : Int) (h0 : 0 ≤ n) (h1 : n ≤ 10000000000) : Ev (fun k => spec_l2Text.f k n) (dtxt n) := by
 obtain ⟨u, rfl⟩ := Int.eq_ofNat_of_zero_le h0
 rw [dtxt, Lib.itoa_nonneg]
 exact l2Text_ev u (by omega)
theorem itoa_eq (n : Int) (h0 : 0 ≤ n) (h1 : n ≤ 10000000000) : strconv_Itoa.f n = some (dtxt n) := by
 rw [strconv_Itoa.f, if_pos (by omega)]; rfl
theorem devsFrom_num (n : Nat) : ∀ (l : List S53) (pr : Option S53), devsFrom n pr l = true → n ≤ 12
 | [], _, h => by
  rw [devsFrom] at h
  have := of_decide_eq_true h
  omega
 | a :: t, pr, h => by
  rw [devsFrom] at h
  split at h
  ·exact devsFrom_num n t _ h
  ·cases h
abbrev sp : ByteArray := ⟨#[32]⟩
abbrev co : ByteArray := ⟨#[58]⟩
def devTxt (d : S53) : ByteArray := (((dtxt d.f0 ++ co) ++ dtxt d.f1) ++ co) ++ dtxt d.f2
abbrev Small3 (d : S53) : Prop := (0 ≤ d.f0 ∧ d.f0 ≤ 20) ∧ (0 ≤ d.f1 ∧ d.f1 ≤ 20) ∧ (1 ≤ d.f2 ∧ d.f2 ≤ 1000)
theorem sz_app (a b : ByteArray) : (a ++ b).size = a.size + b.size := ByteArray.size_append
theorem devTxt_size (d : S53) (h : Small3 d) : (devTxt d).size ≤ 1100 := by
 have s1 := dtxt_size d.f0 h.1.1
 have s2 := dtxt_size d.f1 h.2.1.1
 have s3 := dtxt_size d.f2 (by omega)
 have d1 : co.size = 1 := rfl
 simp only [devTxt, sz_app, d1]
 omega
def devsTail : List S53 → ByteArray → ByteArray
 | [], s => s
 | d :: t, s => devsTail t ((((((s ++ sp) ++ dtxt d.f0) ++ co) ++ dtxt d.f1) ++ co) ++ dtxt d.f2)
def devsJoin : List S53 → ByteArray
 | [] => ⟨#[]⟩
 | d :: t => devsTail t ((((((⟨#[]⟩ : ByteArray) ++ dtxt d.f0) ++ co) ++ dtxt d.f1) ++ co) ++ dtxt d.f2)
theorem devsTail_data : ∀ (t : List S53) (s : ByteArray), (devsTail t s).data.toList = s.data.toList ++ Lib.joinTail [32] (t.map fun d => (devTxt d).data.toList)
 | [], s => by simp [devsTail, Lib.joinTail]
 | d :: t, s => by
  rw [devsTail, devsTail_data t]
  simp [Lib.joinTail, devTxt, ByteArray.data_append]
def joinB (xs : List ByteArray) : ByteArray := ⟨(Lib.join (xs.map (·.data.toList)) [32]).toArray⟩
theorem joinB_devs (l : List S53) : joinB (l.map devTxt) = devsJoin l := by
 apply ByteArray.ext
 apply Array.ext'
 cases l with
 | nil => rfl
 | cons d t =>
  rw [devsJoin, devsTail_data]
  simp [joinB, Lib.join_cons, devTxt, ByteArray.data_append, Function.comp_def]
theorem joinTail_len (m : Nat) : ∀ r : List ByteArray, (∀ x ∈ r, x.size ≤ m) → (Lib.joinTail [32] (r.map (·.data.toList))).length ≤ r.length * (m + 1)
 | [], _ => by simp [Lib.joinTail]
 | x :: r, h => by
  have h1 := joinTail_len m r (fun y hy => h y (List.mem_cons_of_mem _ hy))
  have h2 := h x List.mem_cons_self
  have h3 : x.data.toList.length = x.size := Array.length_toList
  simp only [Lib.joinTail, List.map_cons, List.flatten_cons, List.length_append, List.length_cons, List.length_nil] at h1 ⊢
  rw [Nat.succ_mul, h3]
  omega
theorem join_fits (xs : List ByteArray) (hx : xs.length ≤ 12) (hs : ∀ x ∈ xs, x.size ≤ 1100) : strings_Join.f xs sp = some (joinB xs, xs) := by
 rw [strings_Join.f, if_pos]
 ·rfl
 ·refine ⟨by omega, ?_⟩
  cases xs with
  | nil => exact Nat.zero_le _
  | cons x r =>
   have h1 := joinTail_len 1100 r (fun y hy => hs y (List.mem_cons_of_mem _ hy))
   have h2 := hs x List.mem_cons_self
   have h3 : x.data.toList.length = x.size := Array.length_toList
   rw [List.map_cons, Lib.join_cons, List.length_append, h3]
   rw [List.length_cons] at hx
   have h4 : r.length * (1100 + 1) ≤ 12 * 1101 := Nat.mul_le_mul (by omega) (by omega)
   show x.size + (Lib.joinTail [32] (r.map (·.data.toList))).length ≤ _
   omega
theorem devsText_l0 (ds : List S53) (hb : ∀ d ∈ ds, Small3 d) (hn : ds.length ≤ 12) : ∀ (t : List S53) (i : Nat) (s : ByteArray), ds.drop i = t → 1 ≤ i → s.size ≤ i * 1200 → Ev (fun k => spec_DevsText.l0 k ds s (i : Int)) (devsTail t s)
 | [], i, s, h, hi, hs => by
  have h1 := drop_nil' h
  refine Ev.step (f := fun _ => some s) (fun k => ?_) (Ev.now _)
  rw [spec_DevsText.l0, if_neg (by omega)]
 | d :: t, i, s, h, hi, hs => by
  obtain ⟨h1, _, h3⟩ := drop_cons' h z53
  have hr : Hd (rd_T53 ds (i : Int) = d) := ⟨rdT_at53 h⟩
  have w : Hd (wrap64 ((i : Int) + 1) = ((i + 1 : Nat) : Int)) := ⟨w64s h1 (by omega)⟩
  have hd := hb d (List.mem_of_mem_drop (by rw [h]; exact List.mem_cons_self))
  have s1 := dtxt_size d.f0 hd.1.1
  have s2 := dtxt_size d.f1 hd.2.1.1
  have s3 := dtxt_size d.f2 (by omega)
  have d1 : co.size = 1 := rfl
  have d2 : sp.size = 1 := rfl
  have ih := devsText_l0 ds hb hn t (i + 1) ((((((s ++ sp) ++ dtxt d.f0) ++ co) ++ dtxt d.f1) ++ co) ++ dtxt d.f2) h3 (by omega) (by simp only [sz_app, d1, d2]; omega)
  rw [devsTail]
  refine Ev.step (fun k => by rw [spec_DevsText.l0, if_pos (by omega), if_pos (by omega), if_pos (by omega), if_pos (by omega), hr.out, w.out]) ?_
  refine Ev.bind (dtxt_ev d.f0 (by omega) (by omega)) (Ev.pos ?_ (Ev.pos ?_ (Ev.bind (dtxt_ev d.f1 (by omega) (by omega)) (Ev.pos ?_ (Ev.pos ?_ (Ev.bind (dtxt_ev d.f2 (by omega) (by omega)) (Ev.pos ?_ ih)))))))
  all_goals simp only [sz_app, d1, d2]; omega
theorem devsText_spec (ds : List S53) (hb : ∀ d ∈ ds, Small3 d) (hn : ds.length ≤ 12) : Ev (fun k => spec_DevsText.l0 k ds (⟨#[]⟩ : ByteArray) ((0 : Nat) : Int)) (devsJoin ds) := by
 cases hds : ds with
 | nil =>
  refine Ev.step (f := fun _ => some (⟨#[]⟩ : ByteArray)) (fun k => ?_) (Ev.now _)
  rw [spec_DevsText.l0, if_neg (by simp)]
 | cons d t =>
  rw [← hds]
  have h : ds.drop 0 = d :: t := hds
  obtain ⟨h1, _, h3⟩ := drop_cons' h z53
  have hr : Hd (rd_T53 ds ((0 : Nat) : Int) = d) := ⟨rdT_at53 h⟩
  have w : Hd (wrap64 (((0 : Nat) : Int) + 1) = ((0 + 1 : Nat) : Int)) := ⟨w64s h1 (by omega)⟩
  have hd := hb d (by rw [hds]; exact List.mem_cons_self)
  have s1 := dtxt_size d.f0 hd.1.1
  have s2 := dtxt_size d.f1 hd.2.1.1
  have s3 := dtxt_size d.f2 (by omega)
  have d1 : co.size = 1 := rfl
  have d0 : (⟨#[]⟩ : ByteArray).size = 0 := rfl
  have ih := devsText_l0 ds hb hn t (0 + 1) ((((((⟨#[]⟩ : ByteArray) ++ dtxt d.f0) ++ co) ++ dtxt d.f1) ++ co) ++ dtxt d.f2) h3 (by omega) (by simp only [sz_app, d1, d0]; omega)
  have e : devsJoin ds = devsTail t ((((((⟨#[]⟩ : ByteArray) ++ dtxt d.f0) ++ co) ++ dtxt d.f1) ++ co) ++ dtxt d.f2) := by rw [hds, devsJoin]
  rw [e]
  refine Ev.step (fun k => by rw [spec_DevsText.l0, if_pos (by omega), if_neg (by omega), if_pos (by omega), hr.out, w.out]) ?_
  refine Ev.bind (dtxt_ev d.f0 (by omega) (by omega)) (Ev.pos ?_ (Ev.pos ?_ (Ev.bind (dtxt_ev d.f1 (by omega) (by omega)) (Ev.pos ?_ (Ev.pos ?_ (Ev.bind (dtxt_ev d.f2 (by omega) (by omega)) (Ev.pos ?_ ih)))))))
  all_goals simp only [sz_app, d1, d0]; omega
theorem devsText_impl (ds : List S53) (hb : ∀ d ∈ ds, Small3 d) (hn : ds.length ≤ 12) : ∀ (t : List S53) (i : Nat) (A : List ByteArray), ds.drop i = t → A.length = i → i ≤ ds.length → (∀ x ∈ A, x.size ≤ 1100) → Ev (fun k => impl_DevsText.l0 k A ds (ds.length : Int) (i : Int)) (joinB (A ++ t.map devTxt))
 | [], i, A, h, hA, hi, hs => by
  have h1 := drop_nil' h
  refine Ev.step (f := fun _ => some (joinB A)) (fun k => ?_) (Ev.eq (Ev.now _) (by simp))
  rw [impl_DevsText.l0, if_neg (by omega), join_fits A (by omega) hs]
  rfl
 | d :: t, i, A, h, hA, hi, hs => by
  obtain ⟨h1, _, h3⟩ := drop_cons' h z53
  have hr : Hd (rd_T53 ds (i : Int) = d) := ⟨rdT_at53 h⟩
  have w : Hd (wrap64 ((i : Int) + 1) = ((i + 1 : Nat) : Int)) := ⟨w64s h1 (by omega)⟩
  have hd := hb d (List.mem_of_mem_drop (by rw [h]; exact List.mem_cons_self))
  have s1 := dtxt_size d.f0 hd.1.1
  have s2 := dtxt_size d.f1 hd.2.1.1
  have s3 := dtxt_size d.f2 (by omega)
  have d1 : co.size = 1 := rfl
  have ih := devsText_impl ds hb hn t (i + 1) (A ++ [devTxt d]) h3 (by simp [hA]) (by omega) (fun x hx => by
   rcases List.mem_append.1 hx with hx | hx
   ·exact hs x hx
   ·rw [List.mem_singleton.1 hx]; exact devTxt_size d hd)
  refine Ev.step (fun k => by rw [impl_DevsText.l0, if_pos (by omega), if_pos (by omega), if_pos (by omega), hr.out, w.out, itoa_eq d.f0 (by omega) (by omega), itoa_eq d.f1 (by omega) (by omega), itoa_eq d.f2 (by omega) (by omega)]) (Ev.eq ?_ (by simp : joinB ((A ++ [devTxt d]) ++ t.map devTxt) = _))
  refine Ev.got rfl (Ev.pos ?_ (Ev.got rfl (Ev.pos ?_ (Ev.pos ?_ (Ev.got rfl (Ev.pos ?_ (Ev.pos (by omega) ih)))))))
  all_goals (try simp only [sz_app, d1]); omega
def devsText (l : List S53) : ByteArray := if devsOk l = true then devsJoin l else ⟨#[]⟩
theorem devsText_ev (l : List S53) (hl : l.length ≤ 1048576) : Ev (fun k => spec_DevsText.f k l) (devsText l) ∧ Ev (fun k => impl_DevsText.f k l) (devsText l) := by
 obtain ⟨d1, d2⟩ := devsOk_ev l (by omega)
 simp only [spec_DevsText.f, impl_DevsText.f]
 rw [devsText]
 refine ⟨Ev.bind d1 ?_, Ev.bind d2 ?_⟩
 ·by_cases c : devsOk l = true
  ·rw [if_pos c]
   exact Ev.pos c (devsText_spec l (devsFrom_mem l.length l none c) (devsFrom_num l.length l none c))
  ·rw [if_neg c]
   exact Ev.neg c (Ev.now _)
 ·by_cases c : devsOk l = true
  ·rw [if_pos c, ← joinB_devs]
   exact Ev.pos c (devsText_impl l (devsFrom_mem l.length l none c) (devsFrom_num l.length l none c) l 0 [] rfl rfl (Nat.zero_le _) (by simp))
  ·rw [if_neg c]
   exact Ev.neg c (Ev.now _)
theorem szDevS_eq (l : List S59) (n : Int) (hl : l.length ≤ 9223372036854775807) (h0 : 0 ≤ n) (h1 : n ≤ 1048576) : laws_szDevS.f l n = some (if n < l.length then -1 else n - l.length) := by
 unfold laws_szDevS.f
 rw [w64 (by omega) (by omega)]
 by_cases h : n < l.length
 ·rw [if_pos (by omega), if_pos h]
 ·rw [if_neg (by omega), if_neg h]
def toDev (x : S59) : S53 := ⟨x.f0, x.f1, x.f2⟩
theorem rdT_at59 {xs : List S59} {i : Nat} {a : S59} {t : List S59} (h : xs.drop i = a :: t) : rd_T59 xs (i : Int) = a := by
 unfold rd_T59; rw [Int.toNat_natCast]; exact (drop_cons' h _).2.1
theorem toDevS_l0 (xs : List S59) (hN : xs.length ≤ 4611686018427387904) : ∀ (l : List S59) (i : Nat) (A acc : List S53), xs.drop i = l → A.length = i → acc = A ++ List.replicate l.length z53 → Ev (fun k => laws_toDevS.l0 k xs acc (i : Int)) (A ++ l.map toDev)
 | [], i, A, acc, h, hA, ha => by
  have h1 := drop_nil' h
  subst ha
  refine Ev.step (f := fun _ => some (A ++ [])) (fun k => ?_) (Ev.now _)
  rw [laws_toDevS.l0, if_neg (by omega)]
  rfl
 | a :: t, i, A, acc, h, hA, ha => by
  obtain ⟨h1, _, h3⟩ := drop_cons' h z59
  have ih := toDevS_l0 xs hN t (i + 1) (A ++ [toDev a]) _ h3 (by simp [hA]) rfl
  subst ha
  have e : (A ++ List.replicate (a :: t).length z53).set ((i : Int)).toNat (toDev a) = (A ++ [toDev a]) ++ List.replicate t.length z53 := by
   rw [Int.toNat_natCast, ← hA]; exact set_copy A _ (toDev a) t.length
  refine Ev.step (f := fun k => laws_toDevS.l0 k xs ((A ++ [toDev a]) ++ List.replicate t.length z53) ((i + 1 : Nat) : Int)) (fun k => ?_) (Ev.eq ih (by simp))
  rw [laws_toDevS.l0, if_pos (by omega), if_pos (by omega), rdT_at59 h, laws_toDev.f, Option.bind_some, if_pos (by simp only [List.length_append, List.length_replicate, List.length_cons]; omega), w64s h1 hN, ← e]
  rfl
theorem toDevS_ev (xs : List S59) (hN : xs.length ≤ 1048576) : Ev (fun k => laws_toDevS.f k xs) (xs.map toDev) := by
 refine Ev.congr (f := fun k => laws_toDevS.l0 k xs (List.replicate xs.length z53) ((0 : Nat) : Int)) (fun k => ?_) (toDevS_l0 xs (by omega) xs 0 [] _ rfl rfl rfl)
 rw [laws_toDevS.f, if_pos (by omega), if_pos (by omega), Int.toNat_natCast]; rfl
theorem eqDevS_l0 (xs : List S53) (hN : xs.length ≤ 4611686018427387904) : ∀ (l : List S53) (i : Nat), xs.drop i = l → Ev (fun k => laws_eqDevS.l0 k xs xs (i : Int)) true
 | [], i, h => by
  have h1 := drop_nil' h
  refine Ev.step (f := fun _ => some true) (fun k => ?_) (Ev.now _)
  rw [laws_eqDevS.l0, if_neg (by omega)]
 | a :: t, i, h => by
  obtain ⟨h1, _, h3⟩ := drop_cons' h z53
  refine Ev.step (f := fun k => laws_eqDevS.l0 k xs xs ((i + 1 : Nat) : Int)) (fun k => ?_) (eqDevS_l0 xs hN t (i + 1) h3)
  rw [laws_eqDevS.l0, if_pos (by omega), if_pos (by omega), if_pos (by omega), laws_eqDev.f, if_pos rfl, if_pos rfl, if_pos rfl, Option.bind_some, if_pos rfl, w64s h1 hN]
theorem eqDevS_ev (xs : List S53) (hN : xs.length ≤ 4611686018427387904) : Ev (fun k => laws_eqDevS.f k xs xs) true := by
 refine Ev.congr (f := fun k => laws_eqDevS.l0 k xs xs ((0 : Nat) : Int)) (fun k => ?_) (eqDevS_l0 xs hN xs 0 rfl)
 rw [laws_eqDevS.f, if_pos rfl]; rfl
end Go.Proofs.YtnoglmdicdpabaaDoor.PureFnExactDevsText
namespace Go.Proofs.YtnoglmdicdpabaaDoor.Pure
open Go.RowKit Go.Proofs.YtnoglmdicdpabaaDoor.PFnExactDevsText Go.Proofs.YtnoglmdicdpabaaDoorW.PrintWords Go.Proofs.YtnoglmdicdpabaaDoorW.PrintLast Go.Proofs.YtnoglmdicdpabaaDoorW.PrintMore Go.Proofs.YtnoglmdicdpabaaDoor.Base Go.Proofs.YtnoglmdicdpabaaDoor.PureFnExactDevsText
set_option linter.unusedVariables false
attribute [local irreducible] Go.bits IntKind.wrap shl shr
theorem FnExactDevsText (l : List S59) (hl0 : l.length ≤ 9223372036854775807 ∧ ∀ x ∈ l, I64 x.f0 ∧ I64 x.f1 ∧ I64 x.f2) : ∃ k, laws_FnExactDevsText.f k l = some true := by
 have hl := hl0.1
 apply Ev.rounds (g := fun k => laws_FnExactDevsText.f k l)
 simp only [laws_FnExactDevsText.f]
 refine Ev.got (szDevS_eq l 1048576 hl (by omega) (by omega)) ?_
 by_cases h : (1048576 : Int) < l.length
 ·exact Ev.pos (by rw [if_pos h]; omega) (Ev.now _)
 refine Ev.neg (by rw [if_neg h]; omega) ?_
 obtain ⟨q1, q2⟩ := devsText_ev (l.map toDev) (by rw [List.length_map]; omega)
 have t2 := toDevS_ev l (by omega)
 have e3 := eqDevS_ev (l.map toDev) (by rw [List.length_map]; omega)
 exact Ev.bind t2 (Ev.bind q1 (Ev.bind t2 (Ev.bind q2 (Ev.pos rfl (Ev.bind t2 (Ev.bind e3 (Ev.pos rfl (Ev.now _))))))))
end Go.Proofs.YtnoglmdicdpabaaDoor.Pure
