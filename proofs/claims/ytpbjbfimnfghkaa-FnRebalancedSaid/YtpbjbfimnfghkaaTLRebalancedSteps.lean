/- Trimmed by a program of this session (trim.py). Not trusted: Lean checks it. -/
import Derived.WalkKit
import Derived.OrdersHeld
import Derived.Test.YtpbjbfimnfghkaaTLRebalancedWLast
import Derived.Test.YtpbjbfimnfghkaaTLRebalancedWTab
import Derived.Test.YtpbjbfimnfghkaaTLRebalancedWMore
import Derived.Test.YtpbjbfimnfghkaaTLRebalancedWApart
namespace Go.Proofs.Ytpbjbfimnfghkaa.St
open Go.RowKit Go.Proofs.YtpbjbfimnfghkaaW.PrintWords Go.Proofs.YtpbjbfimnfghkaaW.PrintLast Go.Proofs.YtpbjbfimnfghkaaW.PrintMore
def fl (n m : Nat) : Array Bool := ((List.range n).map fun i => m.testBit i).toArray
section
variable {P : Program} {md : Region.Mode} {ops : Array Oper} {Q : Exit → Act → World → Prop} {S : World → Prop} {ds : List Nat} {T : Bool × List (List Nat × List Nat)} {B : List Nat}
theorem pu (i : Nat) (N : Tmp) {oi : Oper} {v : Value} {fuel : Nat} {l : Array Bool} {a a' : Act} {w : World} (l' : Array Bool) (h : wpAnyLast P md ops Q S ds fuel l' a' w)
  (hi : ops[i]? = some oi := by rfl) (hN : oi.dst = some N := by rfl) (hc : anyB md ops l l' i = true := by kernel_rfl) (hQ : ∀ c a w, Q (.panic c) (a.put oi.dst v) w → Q (.panic c) a w := by exact fun _ _ _ h => h)
  (h1 : Region.wanted oi (yielded ops a.tmps) = true := by rfl) (h2 : ∀ w, (execOp a.eval oi).run P w = .ok (.value v) w := by intro w'; go_simp; with_reducible rfl)
  (ha : a.put (some N) v = a' := by simp only [Act.put, List.setIfInBounds_toArray, List.set_cons_zero, List.set_cons_succ, i64_w, i32_w]; rfl) : wpAnyLast P md ops Q S ds (fuel + 1) l a w :=
 pure_ l' hi hN hc hQ (.inl ⟨h1, h2⟩) ha h
theorem pt (i : Nat) (N : Tmp) {oi : Oper} {v : Value} {fuel : Nat} {l : Array Bool} {a a' : Act} {w : World} (l' : Array Bool) (hT : Aside0 (rtab md ops = T)) (h : wpAnyLast P md ops Q S ds fuel l' a' w)
  (hi : ops[i]? = some oi := by rfl) (hN : oi.dst = some N := by rfl) (hc : anyT T l.toList l'.toList i = true := by kernel_rfl) (hQ : ∀ c a w, Q (.panic c) (a.put oi.dst v) w → Q (.panic c) a w := by exact fun _ _ _ h => h)
  (h1 : Region.wanted oi (yielded ops a.tmps) = true := by rfl) (h2 : ∀ w, (execOp a.eval oi).run P w = .ok (.value v) w := by intro w'; go_simp; with_reducible rfl)
  (ha : a.put (some N) v = a' := by simp only [Act.put, List.setIfInBounds_toArray, List.set_cons_zero, List.set_cons_succ, i64_w, i32_w]; rfl) : wpAnyLast P md ops Q S ds (fuel + 1) l a w :=
 pure_ l' hi hN (any_of hT.out hc) hQ (.inl ⟨h1, h2⟩) ha h
theorem ut (i : Nat) (N : Tmp) {oi : Oper} {fuel : Nat} {l : Array Bool} {a a' : Act} {w : World} (l' : Array Bool) (hT : Aside0 (rtab md ops = T)) (h : wpAnyLast P md ops Q S ds fuel l' a' w)
  (hi : ops[i]? = some oi := by rfl) (hN : oi.dst = some N := by rfl) (hc : anyT T l.toList l'.toList i = true := by kernel_rfl) (hQ : ∀ c a w, Q (.panic c) (a.put oi.dst undef) w → Q (.panic c) a w := by exact fun _ _ _ h => h)
  (h1 : Region.wanted oi (yielded ops a.tmps) = false := by rfl)
  (ha : a.put (some N) undef = a' := by simp only [Act.put, List.setIfInBounds_toArray, List.set_cons_zero, List.set_cons_succ, i64_w, i32_w]; rfl) : wpAnyLast P md ops Q S ds (fuel + 1) l a w :=
 pure_ l' hi hN (any_of hT.out hc) hQ (.inr ⟨h1, rfl⟩) ha h
theorem ta (i : Nat) (N : Tmp) {oi : Oper} {v : Value} {fuel : Nat} {l : Array Bool} {a a' : Act} {w : World} (l' : Array Bool) (hS : S w) (h : wpAnyLast P md ops Q S ds fuel l' a' w)
  (hi : ops[i]? = some oi := by rfl) (hN : oi.dst = some N := by rfl) (hc : takeB md ops ds l l' i = true := by kernel_rfl) (hQ : ∀ c a w, Q (.panic c) (a.put oi.dst v) w → Q (.panic c) a w := by exact fun _ _ _ h => h)
  (h1 : Region.wanted oi (yielded ops a.tmps) = true := by rfl) (h2 : ∀ w, S w → (execOp a.eval oi).run P w = .ok (.value v) w := by intro w' hs_; (try obtain ⟨_, hs_⟩ := hs_); (try obtain ⟨_, hs_⟩ := hs_); (try obtain ⟨_, hs_⟩ := hs_); (try obtain ⟨_, hs_⟩ := hs_); (try obtain ⟨_, hs_⟩ := hs_); (try obtain ⟨_, hs_⟩ := hs_); (try obtain ⟨_, hs_⟩ := hs_); (try obtain ⟨_, hs_⟩ := hs_); (try obtain ⟨_, hs_⟩ := hs_); (try obtain ⟨_, hs_⟩ := hs_); go_simp; with_reducible rfl)
  (ha : a.put (some N) v = a' := by simp only [Act.put, List.setIfInBounds_toArray, List.set_cons_zero, List.set_cons_succ, i64_w, i32_w]; rfl) : wpAnyLast P md ops Q S ds (fuel + 1) l a w :=
 take_ l' hi hN hc hQ (.inl ⟨h1, h2⟩) hS ha h
theorem tt (i : Nat) (N : Tmp) {oi : Oper} {v : Value} {fuel : Nat} {l : Array Bool} {a a' : Act} {w : World} (l' : Array Bool) (hT : Aside0 (rtab md ops = T)) (hB : Aside0 (waitsOk T.2 B = true)) (hS : S w) (h : wpAnyLast P md ops Q S ds fuel l' a' w)
  (hi : ops[i]? = some oi := by rfl) (hN : oi.dst = some N := by rfl) (hc : takeW T B ds l.toList l'.toList i = true := by kernel_rfl) (hQ : ∀ c a w, Q (.panic c) (a.put oi.dst v) w → Q (.panic c) a w := by exact fun _ _ _ h => h)
  (h1 : Region.wanted oi (yielded ops a.tmps) = true := by rfl) (h2 : ∀ w, S w → (execOp a.eval oi).run P w = .ok (.value v) w := by intro w' hs_; (try obtain ⟨_, hs_⟩ := hs_); (try obtain ⟨_, hs_⟩ := hs_); (try obtain ⟨_, hs_⟩ := hs_); (try obtain ⟨_, hs_⟩ := hs_); (try obtain ⟨_, hs_⟩ := hs_); (try obtain ⟨_, hs_⟩ := hs_); (try obtain ⟨_, hs_⟩ := hs_); (try obtain ⟨_, hs_⟩ := hs_); (try obtain ⟨_, hs_⟩ := hs_); (try obtain ⟨_, hs_⟩ := hs_); go_simp; with_reducible rfl)
  (ha : a.put (some N) v = a' := by simp only [Act.put, List.setIfInBounds_toArray, List.set_cons_zero, List.set_cons_succ, i64_w, i32_w]; rfl) : wpAnyLast P md ops Q S ds (fuel + 1) l a w :=
 take_ l' hi hN (take_ofW hT.out hB.out hc) hQ (.inl ⟨h1, h2⟩) hS ha h
theorem on (i : Nat) (N : Option Tmp) {oi : Oper} {fuel : Nat} {l : Array Bool} {a : Act} {w : World} (l' : Array Bool)
  (h : ∀ K : Act → World → Prop, Shut (∀ a' w', S w' → (S w' → wpAnyLast P md ops Q S ds fuel l' a' w') → K a' w') → if Region.wanted oi (yielded ops a.tmps) = true then Oper.wp P oi a w K Q else K (a.put N undef) w)
  (hi : ops[i]? = some oi := by rfl) (hN : oi.dst = N := by rfl) (hc : readyB md ops l l' i = true := by kernel_rfl) (hd : i ∉ ds := by decide) : wpAnyLast P md ops Q S ds (fuel + 1) l a w := one_ l' hi hN hc hd h
theorem ot (i : Nat) (N : Option Tmp) {oi : Oper} {fuel : Nat} {l : Array Bool} {a : Act} {w : World} (l' : Array Bool) (hT : Aside0 (rtab md ops = T))
  (h : ∀ K : Act → World → Prop, Shut (∀ a' w', S w' → (S w' → wpAnyLast P md ops Q S ds fuel l' a' w') → K a' w') → if Region.wanted oi (yielded ops a.tmps) = true then Oper.wp P oi a w K Q else K (a.put N undef) w)
  (hi : ops[i]? = some oi := by rfl) (hN : oi.dst = N := by rfl) (hc : (readyT T.2 l.toList == [i] && l.toList.set i true == l'.toList) = true := by kernel_rfl) (hd : i ∉ ds := by decide) : wpAnyLast P md ops Q S ds (fuel + 1) l a w := one_ l' hi hN (one_of hT.out hc) hd h
theorem no (N : Tmp) {fuel : Nat} {l : Array Bool} {a a' : Act} {v : Value} {w : World} (h : wpAnyLast P md ops Q S ds fuel l a' w)
  (ha : Act.put a (some N) v = a' := by simp only [Act.put, List.setIfInBounds_toArray, List.set_cons_zero, List.set_cons_succ, i64_w, i32_w]; rfl) : wpAnyLast P md ops Q S ds fuel l (Act.put a (some N) v) w := norm_ ha h
end
theorem be {n : Nat} {w W : World} (h : Below n w W := by repeat (first | (with_reducible first | exact Aside0.out (by assumption) | apply below_alloc | apply pw_below_drewN | apply below_drew1 | refine below_set ?_ (Aside0.out (by assumption))) | exact Aside0.out (by assumption))) : Below n w W := h
theorem bs {w W w2 : World} (k : Below W.heap.size W w2) (h : Below w.heap.size w W := by repeat (first | (with_reducible first | exact Aside0.out (by assumption) | apply below_alloc | apply pw_below_drewN | apply below_drew1 | refine below_set ?_ (Aside0.out (by assumption))) | exact Aside0.out (by assumption))) : Aside0 (Below w.heap.size w w2) := ⟨below_step h k⟩
theorem up {w0 w : World} (h : Below w0.heap.size w0 w := by repeat (first | (with_reducible exact Below.refl _ _) | (with_reducible first | apply below_alloc | apply pw_below_drewN | apply below_drew))) : Below w0.heap.size w0 w := h
section
variable {α : Type} {d : Kd α} {e : Nat} {w0 w w1 : World} {base : Nat} {ok : Nat → Prop} {v : Value} {xs : List α} {g : Nat} {o : Obj} {A : Option Addr} {n c : Nat}
theorem rR (h : Aside0 (d.R e w0 base ok v xs)) (u : Below w0.heap.size w0 w := by exact up) : d.R e w base ok v xs := Kd.R_below h.out u
theorem rS (h : Aside0 (Kd.S d e w0 base ok v xs)) (u : Below w0.heap.size w0 w := by exact up) : Kd.S d e w base ok v xs := Kd.S_below h.out u
theorem bk (h : Aside0 (w0.heap[g]? = some o)) (u : Below w0.heap.size w0 w := by exact up) : w.heap[g]? = some o := blk_below h.out u
theorem rC (h : Aside0 (d.C w0 A n xs)) (u : Below w0.heap.size w0 w := by exact be) : d.C w A n xs := Kd.C_below h.out u
theorem sR (h : Aside0 (d.R e w0 base ok (.slice A n c) xs)) (u : Below w0.heap.size w0 w := by exact up) : d.C w A xs.length xs := Kd.C_below (Kd.R_reads' h.out).2.2 u
theorem sS (h : Aside0 (Kd.S d e w0 base ok (.slice A n c) xs)) (u : Below w0.heap.size w0 w := by exact up) : d.C w A xs.length xs := Kd.C_below (Kd.S_reads' h.out).2.2 u
theorem sC (h : Aside0 (d.C w0 A n xs)) (u : Below w0.heap.size w0 w := by exact up) : d.C w A n xs := Kd.C_below h.out u
end
theorem aM {p : Prop} (h : p) : Aside0 p := ⟨h⟩
section
variable {α : Type} {d : Kd α} {e : Nat} {w0 w w1 : World} {base : Nat} {ok : Nat → Prop} {v : Value} {xs : List α} {g g2 : Nat} {o : Obj} {A : Option Addr} {n : Nat} {row : Option Nat}
theorem bB (h : Aside0 (w0.heap[g]? = some o)) (hb : Below w.heap.size w w1) (u : Below w0.heap.size w0 w := by exact up) : Aside0 (w1.heap[g]? = some o) := ⟨blk_below (blk_below h.out u) hb⟩
theorem bG (h : Aside0 (w0.heap[g]? = some o)) (hg : w.grownBy w1 row) (hne : some g ≠ row) (u : Below w0.heap.size w0 w := by exact up) : Aside0 (w1.heap[g]? = some o) := ⟨blk_grown (blk_below h.out u) hg hne⟩
theorem sB (h : Aside0 (Kd.S d e w0 base ok v xs)) (hb : Below w.heap.size w w1) (u : Below w0.heap.size w0 w := by exact up) : Aside0 (Kd.S d e w1 base ok v xs) := ⟨Kd.S_below (Kd.S_below h.out u) hb⟩
theorem rB (h : Aside0 (d.R e w0 base ok v xs)) (hb : Below w.heap.size w w1) (u : Below w0.heap.size w0 w := by exact up) : Aside0 (d.R e w1 base ok v xs) := ⟨Kd.R_below (Kd.R_below h.out u) hb⟩
theorem cB (h : Aside0 (d.C w0 A n xs)) (hb : Below w.heap.size w w1) (u : Below w0.heap.size w0 w := by exact up) : Aside0 (d.C w1 A n xs) := ⟨Kd.C_below (Kd.C_below h.out u) hb⟩
theorem xB (hb : Below w.heap.size w w1) {a : Addr} {x : Value} (h : Aside0 (w.cell? a = some x)) : Aside0 (w1.cell? a = some x) := ⟨pw_cell_below hb h.out⟩
theorem gS (w : World) {W : World} (hg : g = W.heap.size) (h : Below w.heap.size w W := by exact be) : Aside0 (w.heap.size ≤ g) := ⟨by rw [hg]; exact below_size h⟩
theorem nL (hg : g2 = w.heap.size) (h : Aside0 (w0.heap[g]? = some o)) (u : Below w0.heap.size w0 w := by exact up) : Aside0 (g ≠ g2) := ⟨by rw [hg]; exact Nat.ne_of_lt (blk_lt (blk_below h.out u))⟩
theorem nG (hg : g2 = w.heap.size) (h : Aside0 (w0.heap[g]? = some o)) (u : Below w0.heap.size w0 w := by exact up) : Aside0 (g2 ≠ g) := ⟨by rw [hg]; exact Nat.ne_of_gt (blk_lt (blk_below h.out u))⟩
end
theorem od {p : Prop} [Decidable p] (h : decide p = true := by first | (with_reducible assumption) | assumption) : p := of_decide_eq_true h
theorem ifs {α : Type} {p : Prop} [Decidable p] {a : Option α} {r : α} (h : (if p then a else none) = some r) : p ∧ a = some r := by
 by_cases c : p
 ·rw [if_pos c] at h; exact ⟨c, h⟩
 ·rw [if_neg c] at h; cases h
section
variable {w W : World} {g : Nat} {cs : Array Value} {t : TypeId}
theorem xH (HB : Aside0 (Below w.heap.size w W)) {a : Addr} {v : Value} (h : w.cell? a = some v) : W.cell? a = some v := (HB.out.cell (World.block_lt_of_cell? w _ h)).trans h
theorem bq (h : Aside0 (w.heap[g]? = some (.cells cs t (0, 0)))) (i : Nat) {v : Value} (e : cs[i]? = some v := by rfl) : w.cell? ⟨g, i, none⟩ = some v := (blk_cell h.out i).trans e
theorem b1 {a : Value} (h : Aside0 (w.heap[g]? = some (.cells #[a] t (0, 0)))) : w.cell? ⟨g, 0, none⟩ = some a ∧ w.frozen? ⟨g, 0, none⟩ = false := ⟨(blk_cell h.out 0).trans rfl, blk_frozen h.out 0⟩
theorem b2 {a b : Value} (h : Aside0 (w.heap[g]? = some (.cells #[a, b] t (0, 0)))) : w.cell? ⟨g, 0, none⟩ = some a ∧ w.cell? ⟨g, 1, none⟩ = some b ∧ w.frozen? ⟨g, 0, none⟩ = false ∧ w.frozen? ⟨g, 1, none⟩ = false :=
 ⟨(blk_cell h.out 0).trans rfl, (blk_cell h.out 1).trans rfl, blk_frozen h.out 0, blk_frozen h.out 1⟩
theorem b3 {a b c : Value} (h : Aside0 (w.heap[g]? = some (.cells #[a, b, c] t (0, 0)))) : w.cell? ⟨g, 0, none⟩ = some a ∧ w.cell? ⟨g, 1, none⟩ = some b ∧ w.cell? ⟨g, 2, none⟩ = some c ∧ w.frozen? ⟨g, 0, none⟩ = false ∧ w.frozen? ⟨g, 1, none⟩ = false ∧ w.frozen? ⟨g, 2, none⟩ = false :=
 ⟨(blk_cell h.out 0).trans rfl, (blk_cell h.out 1).trans rfl, (blk_cell h.out 2).trans rfl, blk_frozen h.out 0, blk_frozen h.out 1, blk_frozen h.out 2⟩
end
theorem rz {p : Prop} (h : p := by first | rfl | (simp <;> rfl) | (simp [*] <;> rfl)) : p := h
theorem rd_ {p : Prop} (h : p := by first | rfl | (simp; done) | (simp [*]; done)) : p := h
end Go.Proofs.Ytpbjbfimnfghkaa.St
