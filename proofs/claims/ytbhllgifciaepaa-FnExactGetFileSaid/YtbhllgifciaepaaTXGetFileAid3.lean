/- Trimmed by a program of this session (trim.py). Not trusted: Lean checks it. -/
import Derived.WalkKit
import Derived.Test.YtbhllgifciaepaaTXGetFileAid2
import Derived.Test.YtbhllgifciaepaaTXGetFileWLast
import Derived.Test.YtbhllgifciaepaaTXGetFileWKept
import Derived.Test.YtbhllgifciaepaaTXGetFileWMore
import Derived.Test.YtbhllgifciaepaaTXGetFileSteps
namespace Go.Proofs.YtbhllgifciaepaaW.PrintWords
namespace Kd
open Go.RowKit Go.Proofs.Ytbhllgifciaepaa.Aid
def X (_ : Kd Int) (e : Nat) (w : World) (base : Nat) (ok : Nat → Prop) (v : Value) (xs : List Int) : Prop :=
 (∀ k, v.ownBlock = some k → ok k) ∧ ∃ A c, v = .slice A xs.length c ∧ ConvRow w base e A c xs
section
variable {d : Kd Int} {e : Nat} {w W w1 W2 : World} {base : Nat} {ok ok' : Nat → Prop} {v u : Value} {xs : List Int} {S : Nat → Prop}
theorem X_mono (h : d.X e w base ok v xs) (hok : ∀ k, ok k → ok' k) : d.X e w base ok' v xs := ⟨fun k hk => hok k (h.1 k hk), h.2⟩
theorem X_step (h : d.X e w base ok v xs) (hk : ∀ k, ok k → k < w.heap.size → v.ownBlock = some k → w1.heap[k]? = w.heap[k]?) : d.X e w1 base ok v xs := by
 obtain ⟨h1, A, c, rfl, hr⟩ := h
 refine ⟨h1, A, c, rfl, hr.far fun g cur hc hA => ?_⟩
 subst hA
 exact (hk g (h1 g rfl) (blk_lt hc) rfl).trans hc
theorem X_below (h : d.X e w base ok v xs) (hb : Below w.heap.size w w1) : d.X e w1 base ok v xs := X_step h fun k _ hk _ => hb.block k hk
theorem X_alloc (h : d.X e w base ok v xs) (o : Obj) : d.X e (w.alloc o) base ok v xs := X_below h (below_alloc (Below.refl _ _) o)
theorem X_drewN (h : d.X e w base ok v xs) (m : Nat) : d.X e (w.drewN m) base ok v xs := X_below h (pw_below_drewN (Below.refl _ _) m)
theorem X_drew (h : d.X e w base ok v xs) : d.X e w.drew base ok v xs := X_below h (below_drew (Below.refl _ _))
theorem X_far (h : d.X e w base ok v xs) {p : Addr} (hok : ∀ k, ok k → k ≠ p.block) (u : Value) : d.X e (w.setCell p u) base ok v xs := X_step h fun k ho _ _ => Below.heap_setCell w p u k (hok k ho)
theorem X_block (h : d.X e w base ok v xs) {k : Nat} (hk : v.ownBlock = some k) : base ≤ k ∧ ∃ cur : Array Value, w.heap[k]? = some (.cells cur e (cur.size, cur.size + 1)) := by
 obtain ⟨_, A, c, rfl, hr⟩ := h
 rcases hr.2 with ⟨rfl, _, _⟩ | ⟨g, cur, rfl, hg, hc, _⟩
 ·cases hk
 ·cases hk; exact ⟨hg, cur, hc⟩
theorem X_lt (h : d.X e w base ok v xs) : ∀ k, v.ownBlock = some k → k < w.heap.size := fun k hk => by
 obtain ⟨_, cur, hc⟩ := X_block h hk
 exact blk_lt hc
theorem X_base (h : d.X e w base ok v xs) : ∀ k, v.ownBlock = some k → base ≤ k := fun _ hk => (X_block h hk).1
theorem X_ne (h : d.X e w base ok v xs) {g t : Nat} {cells : Array Value} (hb : w.heap[g]? = some (.cells cells t (0, 0))) (ht : e ≠ t) : some g ≠ v.ownBlock := fun he => by
 obtain ⟨_, cur, hc⟩ := X_block h he.symm
 rw [hb] at hc
 injection hc with hc
 injection hc with _ e2
 exact ht e2.symm
theorem X_ok (h : d.X e w base ok v xs) (h2 : ∀ k, v.ownBlock = some k → ok k → ok' k) : d.X e w base ok' v xs := ⟨fun k hk => h2 k hk (h.1 k hk), h.2⟩
theorem X_types (h : d.X e w base ok v xs) {g t : Nat} {cells : Array Value} (hb : w.heap[g]? = some (.cells cells t (0, 0))) (ht : ∀ q, q ∈ e :: d.E → q ≠ t) : d.X e w base (fun k => ok k ∧ k ≠ g) v xs :=
 X_ok h fun k hk ho => ⟨ho, fun hg => X_ne h hb (ht e List.mem_cons_self) (by rw [← hg]; exact hk.symm)⟩
theorem X_new' (h : d.X e w1 W.heap.size ok v xs) (hlt : ∀ k, u.ownBlock = some k → k < W.heap.size) : d.X e w1 W.heap.size (fun k => ok k ∧ some k ≠ u.ownBlock) v xs :=
 X_ok h fun k hk ho => ⟨ho, fun hu => by have h1 := hlt k hu.symm; have h2 := X_base h k hk; omega⟩
theorem X_elder' (hu : d.X e W base ok u xs) (hbase : ∀ k, v.ownBlock = some k → W.heap.size ≤ k) (hb : Below W.heap.size W w1) : d.X e w1 base (fun k => ok k ∧ some k ≠ v.ownBlock) u xs :=
 X_below (X_ok hu fun k hk ho => ⟨ho, fun hv => by have h1 := hbase k hv.symm; have h2 := X_lt hu k hk; omega⟩) hb
theorem X_slice (h : d.X e w base ok v xs) : ∃ A c, v = .slice A xs.length c := by
 obtain ⟨_, A, c, rfl, _⟩ := h
 exact ⟨A, c, rfl⟩
theorem X_lower {base' : Nat} (h : d.X e w base ok v xs) (hb : base' ≤ base) : d.X e w base' ok v xs := by
 obtain ⟨h1, A, c, rfl, h2, h3⟩ := h
 refine ⟨h1, A, c, rfl, h2, h3.imp id ?_⟩
 rintro ⟨g, cur, hA, hg, r⟩
 exact ⟨g, cur, hA, Nat.le_trans hb hg, r⟩
theorem X_keptB (h : d.X e W base ok v xs) (hk : Kept W W2 S) (hne : ∀ k, ok k → ¬ S k) : d.X e W2 base (fun k => ok k ∧ (¬ S k ∧ k < W.heap.size)) v xs :=
 X_ok (X_step h fun k ho hl _ => hk.2 k hl (hne k ho)) fun k hv ho => ⟨ho, hne k ho, X_lt h k hv⟩
theorem X_reads' {A : Option Addr} {n c : Nat} (h : (Kd.int .u8).X e w base ok (.slice A n c) xs) : n = xs.length ∧ n ≤ c ∧ (Kd.int .u8).C w A xs.length xs := by
 obtain ⟨_, A', c', he, hr⟩ := h
 injection he with e1 e2 e3
 subst e1 e2 e3
 exact ⟨rfl, hr.1, hr.C⟩
theorem X_tight (_ : d.E = d.E) (h : d.X e w base ok v xs) : d.X e w base (fun k => some k = v.ownBlock) v xs := X_ok h fun _ hk _ => hk.symm
theorem X_reok {ok1 : Nat → Prop} (_ : d.E = d.E) (h : d.X e W base ok1 v xs) (hok : ∀ k, v.ownBlock = some k → ok k) : d.X e W base ok v xs := X_ok h fun _ hk _ => hok _ hk
theorem X_form (h : d.X e w base ok v xs) (hp : 0 < xs.length) : ∃ g cap, v = .slice (some ⟨g, 0, none⟩) xs.length cap ∧ base ≤ g ∧ g < w.heap.size ∧ ∃ cells, w.heap[g]? = some (.cells cells e (cells.size, cells.size + 1)) := by
 obtain ⟨_, A, c, rfl, hr⟩ := h
 rcases hr.2 with ⟨rfl, _, rfl⟩ | ⟨g, cur, rfl, hg, hc, _⟩
 ·simp at hp
 ·exact ⟨g, c, rfl, hg, blk_lt hc, cur, hc⟩
theorem X_celln {g n cap : Nat} (z : Int) (h : d.X e W base ok (.slice (some ⟨g, 0, none⟩) n cap) xs) (i : Int) (h0 : 0 ≤ i) (hi : i < n) : W.cell? ⟨g, i.toNat, none⟩ = some (.int .u8 (rdOf z xs i)) ∧ W.frozen? ⟨g, i.toNat, none⟩ = false := by
 obtain ⟨_, A', c', he, hr⟩ := h
 injection he with e1 e2 e3
 subst e1 e2 e3
 rcases hr.2 with ⟨hA, _, _⟩ | ⟨g', cur, hA, hg, hc, hsz, _, hx⟩
 ·cases hA
 ·cases hA
  have hl := hr.1
  have hj : i.toNat < xs.length := by omega
  refine ⟨?_, ?_⟩
  ·rw [cell_of_row W g i.toNat cur e _ hc, hx _ hj]
   unfold rdOf
   rw [List.getD_eq_getElem?_getD, List.getElem?_eq_getElem hj, Option.getD_some]
  ·have hlt : i.toNat < cur.size := by omega
   have hc' : W.heap[g]? = some (.cells cur e (cur.size, cur.size + 1)) := hc
   simp [World.frozen?, hc']
   omega
theorem X_putg {g n cap : Nat} (h : d.X e W base ok (.slice (some ⟨g, 0, none⟩) n cap) xs) (i : Int) (x : Int) : d.X e (W.setCell ⟨g, i.toNat, none⟩ (.int .u8 x)) base ok (.slice (some ⟨g, 0, none⟩) n cap) (xs.set i.toNat x) ∧ W.grownBy (W.setCell ⟨g, i.toNat, none⟩ (.int .u8 x)) (some g) := by
 obtain ⟨h1, A', c', he, hr⟩ := h
 injection he with e1 e2 e3
 subst e1 e2 e3
 have hgr : W.grownBy (W.setCell ⟨g, i.toNat, none⟩ (.int .u8 x)) (some g) := by
  refine ⟨rfl, rfl, rfl, ?_, fun k _ hk => Below.heap_setCell W _ _ k (fun e => hk (by rw [e]))⟩
  simp [World.setCell]
 refine ⟨⟨h1, _, _, by rw [List.length_set], by rw [List.length_set]; exact hr.1, ?_⟩, hgr⟩
 rcases hr.2 with ⟨hA, _, _⟩ | ⟨g', cur, hA, hg, hc, hsz, hn, hx⟩
 ·cases hA
 ·cases hA
  refine .inr ⟨g, cur.setIfInBounds i.toNat (.int .u8 x), rfl, hg, ?_, by rw [Array.size_setIfInBounds]; exact hsz, by rw [List.length_set]; exact hn, fun j hj => ?_⟩
  ·have hc' : W.heap[g]? = some (.cells cur e (cur.size, cur.size + 1)) := hc
   unfold Conv
   rw [Array.size_setIfInBounds]
   simp [World.setCell, Array.getElem?_modify, hc']
  ·have hl := hr.1
   rw [List.length_set] at hj
   rw [Array.getElem?_setIfInBounds, List.getElem_set]
   by_cases c : i.toNat = j
   ·rw [if_pos c, if_pos c, if_pos (by omega)]
   ·rw [if_neg c, if_neg c]; exact hx j hj
end
end Kd
end Go.Proofs.YtbhllgifciaepaaW.PrintWords
namespace Go.Proofs.Ytbhllgifciaepaa.St
open Go.RowKit Go.Proofs.YtbhllgifciaepaaW.PrintWords
theorem rX {d : Kd Int} {e : Nat} {w0 w : World} {base : Nat} {ok : Nat → Prop} {v : Value} {xs : List Int} (h : Aside0 (d.X e w0 base ok v xs)) (u : Below w0.heap.size w0 w := by exact up) : d.X e w base ok v xs := Kd.X_below h.out u
end Go.Proofs.Ytbhllgifciaepaa.St
