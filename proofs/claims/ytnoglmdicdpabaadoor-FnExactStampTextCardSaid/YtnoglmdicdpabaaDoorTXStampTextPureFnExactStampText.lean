/- Trimmed by a program of this session (trim.py). Not trusted: Lean checks it. -/
import Derived.Test.YtnoglmdicdpabaaDoorTXStampTextPFnExactStampTextx1
import Derived.Test.YtnoglmdicdpabaaDoorTXStampTextBase
namespace Go.Proofs.YtnoglmdicdpabaaDoor.PureFnExactStampText
open Go.RowKit Go.Proofs.YtnoglmdicdpabaaDoor.PFnExactStampText Go.Proofs.YtnoglmdicdpabaaDoorW.PrintWords Go.Proofs.YtnoglmdicdpabaaDoorW.PrintLast Go.Proofs.YtnoglmdicdpabaaDoorW.PrintMore Go.Proofs.YtnoglmdicdpabaaDoor.Base
set_option linter.unusedVariables false
attribute [local irreducible] Go.bits IntKind.wrap shl shr
theorem l1In_eq (x a b : Int) : spec_l1In.f x a b = some (decide (a ≤ x ∧ x ≤ b)) := by
 unfold spec_l1In.f
 by_cases h : x ≥ a
 ·rw [if_pos h]; simp [show a ≤ x from h]
 ·rw [if_neg h]; simp [show ¬ a ≤ x from h]
theorem in_eq (x a b : Int) : impl_in.f x a b = some (decide (a ≤ x ∧ x ≤ b)) := by
 unfold impl_in.f
 by_cases h : x ≥ a
 ·rw [if_pos h]; simp [show a ≤ x from h]
 ·rw [if_neg h]; simp [show ¬ a ≤ x from h]
def stOk (a b c : Int) : Bool := decide (0 ≤ a ∧ a ≤ 1000000000) && (decide (0 ≤ b ∧ b ≤ 1000000) && decide (0 ≤ c ∧ c ≤ 20))
theorem stampOk_eq (a b c : Int) : spec_StampOk.f a b c = some (stOk a b c) ∧ impl_StampOk.f a b c = some (stOk a b c) := by
 unfold spec_StampOk.f impl_StampOk.f stOk
 simp only [l1In_eq, in_eq, Option.bind_some]
 cases decide (0 ≤ a ∧ a ≤ 1000000000) <;> cases decide (0 ≤ b ∧ b ≤ 1000000) <;> simp
theorem one_str (d : Nat) (h : d < 10) : strOfNums [((48 + d : Nat) : Int)] = (⟨#[UInt8.ofNat (48 + d)]⟩ : ByteArray) := by
 apply ByteArray.ext
 apply Array.ext'
 rw [strOfNums_data, List.map_cons, List.map_nil, Int.toNat_natCast]
theorem app_one (a : List UInt8) (x : UInt8) : (⟨a.toArray⟩ : ByteArray) ++ ⟨#[x]⟩ = ⟨(a ++ [x]).toArray⟩ := by
 apply ByteArray.ext
 apply Array.ext'
 rw [ByteArray.data_append]
 simp
theorem dec_len (u : Nat) : (Lib.decDigits u).length ≤ u + 1 := by
 rw [Lib.decDigits]
 by_cases h : u < 10
 ·rw [dif_pos h]; simp
 ·rw [dif_neg h]
  have := dec_len (u / 10)
  simp only [List.length_append, List.length_singleton]
  omega
termination_by u
theorem l2Text_ev (u : Nat) (hu : u ≤ 10000000000) : Ev (fun k => spec_l2Text.f k (u : Int)) (⟨(Lib.decDigits u).toArray⟩ : ByteArray) := by
 rw [Lib.decDigits]
 by_cases h : u < 10
 ·rw [dif_pos h]
  have e : wrap64 (48 + (u : Int)) % 256 = ((48 + u : Nat) : Int) := by rw [w64 (by omega) (by omega)]; omega
  refine Ev.step (f := fun _ => some (⟨#[UInt8.ofNat (48 + u)]⟩ : ByteArray)) (fun k => ?_) (Ev.now _)
  rw [spec_l2Text.f, if_pos (by omega), e, one_str u h]
 ·rw [dif_neg h]
  have ih := l2Text_ev (u / 10) (by omega)
  have hl := dec_len (u / 10)
  have ed : wrap64 (Int.tdiv (u : Int) 10) = ((u / 10 : Nat) : Int) := by
   rw [Int.tdiv_eq_ediv_of_nonneg (by omega), w64 (by omega) (by omega)]; omega
  have em : wrap64 (48 + Int.tmod (u : Int) 10) % 256 = ((48 + u % 10 : Nat) : Int) := by
   rw [Int.tmod_eq_emod_of_nonneg (by omega), w64 (by omega) (by omega)]; omega
  refine Ev.step (f := fun k => (spec_l2Text.f k ((u / 10 : Nat) : Int)).bind fun t => if t.size + (⟨#[UInt8.ofNat (48 + u % 10)]⟩ : ByteArray).size ≤ 9223372036854775807 then some (t ++ ⟨#[UInt8.ofNat (48 + u % 10)]⟩) else none) (fun k => ?_) ?_
  ·rw [spec_l2Text.f, if_neg (by omega), ed, em]
   simp only [Option.bind_some]
   rw [one_str (u % 10) (by omega)]
  ·refine Ev.bind ih (Ev.pos ?_ ?_)
   ·show (Lib.decDigits (u / 10)).toArray.size + 1 ≤ _
    rw [List.size_toArray]
    omega
   ·rw [app_one]
    exact Ev.now _
termination_by u
def dtxt (n : Int) : ByteArray := ⟨(Lib.itoa n).toArray⟩
theorem dtxt_size (n : Int) (h : 0 ≤ n) : (dtxt n).size ≤ n.toNat + 1 := by
 show (Lib.itoa n).toArray.size ≤ _
 rw [List.size_toArray, Lib.itoa, if_neg (by omega)]
 exact dec_len _
theorem dtxt_ev (n : Int) (h0 : 0 ≤ n) (h1 : n ≤ 10000000000) : Ev (fun k => spec_l2Text.f k n) (dtxt n) := by
 obtain ⟨u, rfl⟩ := Int.eq_ofNat_of_zero_le h0
 rw [dtxt, Lib.itoa_nonneg]
 exact l2Text_ev u (by omega)
theorem itoa_eq (n : Int) (h0 : 0 ≤ n) (h1 : n ≤ 10000000000) : strconv_Itoa.f n = some (dtxt n) := by
 rw [strconv_Itoa.f, if_pos (by omega)]; rfl
def dot : ByteArray := ⟨#[46]⟩
def stampText (a b c : Int) : ByteArray := if stOk a b c = true then dtxt a ++ dot ++ dtxt b ++ dot ++ dtxt c else ⟨#[]⟩
theorem stOk_iff (a b c : Int) : stOk a b c = true ↔ (0 ≤ a ∧ a ≤ 1000000000) ∧ (0 ≤ b ∧ b ≤ 1000000) ∧ (0 ≤ c ∧ c ≤ 20) := by
 rw [stOk, Bool.and_eq_true, Bool.and_eq_true, decide_eq_true_eq, decide_eq_true_eq, decide_eq_true_eq]
theorem stampText_ev (a b c : Int) : Ev (fun k => spec_StampText.f k a b c) (stampText a b c) ∧ impl_StampText.f a b c = some (stampText a b c) := by
 obtain ⟨o1, o2⟩ := stampOk_eq a b c
 rw [impl_StampText.f, o2]
 simp only [spec_StampText.f]
 rw [o1, stampText]
 by_cases h : stOk a b c = true
 ·rw [if_pos h, h]
  obtain ⟨h1, h2, h3⟩ := (stOk_iff a b c).1 h
  have s1 := dtxt_size a h1.1
  have s2 := dtxt_size b h2.1
  have s3 := dtxt_size c h3.1
  have d1 : (⟨#[46]⟩ : ByteArray).size = 1 := rfl
  refine ⟨Ev.got rfl (Ev.pos rfl ?_), ?_⟩
  ·refine Ev.bind (dtxt_ev a (by omega) (by omega)) (Ev.pos (by omega) (Ev.bind (dtxt_ev b (by omega) (by omega)) (Ev.pos ?_ (Ev.pos ?_ (Ev.bind (dtxt_ev c (by omega) (by omega)) (Ev.pos ?_ (Ev.now _)))))))
   all_goals simp only [ByteArray.size_append, d1]; omega
  ·rw [Option.bind_some, if_pos rfl, itoa_eq a (by omega) (by omega), Option.bind_some, if_pos (by omega), itoa_eq b (by omega) (by omega), Option.bind_some, if_pos (by simp only [ByteArray.size_append, d1]; omega), if_pos (by simp only [ByteArray.size_append, d1]; omega), itoa_eq c (by omega) (by omega), Option.bind_some, if_pos (by simp only [ByteArray.size_append, d1]; omega)]
   rfl
 ·rw [if_neg h, Bool.eq_false_iff.mpr h]
  exact ⟨Ev.got rfl (Ev.neg (by decide) (Ev.now _)), rfl⟩
end Go.Proofs.YtnoglmdicdpabaaDoor.PureFnExactStampText
namespace Go.Proofs.YtnoglmdicdpabaaDoor.Pure
open Go.RowKit Go.Proofs.YtnoglmdicdpabaaDoor.PFnExactStampText Go.Proofs.YtnoglmdicdpabaaDoorW.PrintWords Go.Proofs.YtnoglmdicdpabaaDoorW.PrintLast Go.Proofs.YtnoglmdicdpabaaDoorW.PrintMore Go.Proofs.YtnoglmdicdpabaaDoor.Base Go.Proofs.YtnoglmdicdpabaaDoor.PureFnExactStampText
set_option linter.unusedVariables false
attribute [local irreducible] Go.bits IntKind.wrap shl shr
theorem FnExactStampText (a b c : Int) (_ : I64 a ∧ I64 b ∧ I64 c) : ∃ k, laws_FnExactStampText.f k a b c = some true := by
 apply Ev.rounds (g := fun k => laws_FnExactStampText.f k a b c)
 simp only [laws_FnExactStampText.f]
 obtain ⟨s1, s2⟩ := stampText_ev a b c
 exact Ev.got rfl (Ev.bind s1 (Ev.got rfl (Ev.got s2 (Ev.pos rfl (Ev.now _)))))
end Go.Proofs.YtnoglmdicdpabaaDoor.Pure
