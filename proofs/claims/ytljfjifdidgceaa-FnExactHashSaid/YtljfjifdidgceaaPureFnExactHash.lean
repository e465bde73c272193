/- The pure statement of the law FnExactHash: what the printed functions compute answers as the law says. -/
import Derived.Test.YtljfjifdidgceaaPFnExactHashx1
import Derived.Test.YtljfjifdidgceaaBase
namespace Go.Proofs.Ytljfjifdidgceaa.PureFnExactHash
open Go.RowKit Go.Proofs.Ytljfjifdidgceaa.PFnExactHash Go.Proofs.YtljfjifdidgceaaW.PrintWords Go.Proofs.YtljfjifdidgceaaW.PrintLast Go.Proofs.YtljfjifdidgceaaW.PrintMore Go.Proofs.Ytljfjifdidgceaa.Base
theorem hash_l0 (s : ByteArray) (hN : s.size ≤ 4611686018427387904) (d : Nat) : ∀ (i : Nat) (x : Int), s.size - i = d → 0 ≤ x → x < 4294967296 → ∃ r, Ev (fun k => spec_Hash.l0 k s x (i : Int)) r ∧ Ev (fun k => impl_Hash.l0 k s x (i : Int)) r ∧ 0 ≤ r ∧ r < 4294967296 := by
  induction d with
  | zero =>
    intro i x hd h0 h1
    refine ⟨x, Ev.step (f := fun _ => some x) (fun k => ?_) (Ev.now _), Ev.step (f := fun _ => some x) (fun k => ?_) (Ev.now _), h0, h1⟩
    · rw [spec_Hash.l0, if_neg (by omega)]
    · rw [impl_Hash.l0, if_neg (by omega), w64 (by omega) (by omega)]
  | succ d ih =>
    intro i x hd h0 h1
    have hb := bt_range s i
    obtain ⟨e1, e2, e3⟩ := xorSame h0 h1 hb.1 (y := bt s i) (by omega)
    obtain ⟨r, r1, r2, r3⟩ := ih (i + 1) ((Go.bits .xor .u32 x (bt s i) * 16777619) % 4294967296) (by omega) (by omega) (by omega)
    refine ⟨r, Ev.step (fun k => ?_) r1, Ev.step (fun k => ?_) r2, r3⟩
    · rw [spec_Hash.l0, if_pos (by omega), if_pos (by omega), w64 (x := bt s i) (by omega) (by omega), e1, w64 (by omega) (by omega), andLow32 (by omega) (by omega), w64s (n := i + 1) (by omega) (by omega)]
    · rw [impl_Hash.l0, if_pos (by omega), if_pos (by omega), show bt s i % 4294967296 = bt s i by omega, w64s (n := i + 1) (by omega) (by omega)]
theorem hash_ev (s : ByteArray) (hN : s.size ≤ 4611686018427387904) : ∃ r, Ev (fun k => spec_Hash.f k s) r ∧ Ev (fun k => impl_Hash.f k s) r ∧ 0 ≤ r ∧ r < 4294967296 :=
  hash_l0 s hN s.size 0 2166136261 (by omega) (by omega) (by omega)
end Go.Proofs.Ytljfjifdidgceaa.PureFnExactHash
namespace Go.Proofs.Ytljfjifdidgceaa.Pure
open Go.RowKit Go.Proofs.Ytljfjifdidgceaa.PFnExactHash Go.Proofs.YtljfjifdidgceaaW.PrintWords Go.Proofs.YtljfjifdidgceaaW.PrintLast Go.Proofs.YtljfjifdidgceaaW.PrintMore Go.Proofs.Ytljfjifdidgceaa.Base Go.Proofs.Ytljfjifdidgceaa.PureFnExactHash
theorem FnExactHash : laws_FnExactHash.Pure := by
  intro s hn
  obtain ⟨r, r1, r2, _⟩ := hash_ev s (by omega)
  apply Ev.rounds (g := fun k => laws_FnExactHash.f k s)
  simp only [laws_FnExactHash.f]
  by_cases h : (s.size : Int) > 1048576
  · exact Ev.pos h (Ev.now _)
  · refine Ev.neg h ?_
    refine Ev.bind r1 ?_
    refine Ev.bind r2 ?_
    exact Ev.pos rfl (Ev.now _)
end Go.Proofs.Ytljfjifdidgceaa.Pure
