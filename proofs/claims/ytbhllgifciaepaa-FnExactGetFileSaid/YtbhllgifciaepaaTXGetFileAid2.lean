/- Trimmed by a program of this session (trim.py). Not trusted: Lean checks it. -/
import Derived.Test.YtbhllgifciaepaaTXGetFileWWords
import Derived.Test.YtbhllgifciaepaaTXGetFileWApart
import Derived.Lib.AppendStr
import Derived.Lib.ConvBytes
import Derived.Test.YtbhllgifciaepaaTXGetFileAid
namespace Go.Proofs.Ytbhllgifciaepaa.Aid
open Go.RowKit Go.Proofs.YtbhllgifciaepaaW.PrintWords
variable {P : Program}
theorem append_str_step {ops : Array Oper} {o : Oper} {a : Act} {Q : Exit → Act → World → Prop} {Kc : Act → World → Prop} {w0 W : World} (base : Nat) (hw : Region.wanted o (yielded ops a.tmps) = true) (s x : Operand) (t u e : TypeId)
  (ho : o.op = .call { callee := .builtin .append, args := #[s, x], argTypes := #[t, u] })
  (ht : P.underlying t = some (.slice e)) (hu : P.underlying u = some .string) (hinfo : (P.info? e).map (fun i => (i.zero, i.size, i.bytes)) = some (some (.int .u8 0), 1, 1))
  (v : Value) (xs : List Int) (y : ByteArray) (hs : a.eval s = v) (hx : a.eval x = .string y)
  (HO : W.ownsRow base e 1 v xs.length (nums .u8 xs)) (HB : Below base w0 W) (hbase : base ≤ W.heap.size) (hl : xs.length + y.size ≤ 140737488355328)
  (h : ∀ v1 w1, w1.ownsRow base e 1 v1 (xs ++ bytesOf y).length (nums .u8 (xs ++ bytesOf y)) → Below base w0 w1 → W.grownBy w1 v.ownBlock → (v1.ownBlock = v.ownBlock ∨ ∃ b, v1.ownBlock = some b ∧ W.heap.size ≤ b) → Kc (a.put o.dst v1) w1) :
  if Region.wanted o (yielded ops a.tmps) = true then Oper.wp P o a W Kc Q else Kc (a.put o.dst undef) W := by
 obtain ⟨i, hi, hzz⟩ := Option.map_eq_some_iff.1 hinfo
 simp only [Prod.mk.injEq] at hzz
 obtain ⟨hz0, hz1, hz2⟩ := hzz
 have hl2 : (xs ++ bytesOf y).length = xs.length + y.size := by rw [List.length_append, bytesOf_length]
 have hc : nums .u8 (xs ++ bytesOf y) = nums .u8 xs ++ Lib.strCells y := by
  rw [nums_append]
  congr 1
  simp [nums, bytesOf, Lib.strCells]
 obtain ⟨v1, w1, hr, h2, h3, h4⟩ := Lib.run_append_own_string (P := P) W base t u o.type e i ht hu hi hz0 hz1 hz2 v xs.length (nums .u8 xs) HO y (by simp only [maxLen]; omega) hl hbase
 rw [if_pos hw]
 unfold Oper.wp execOp
 simp only [ho, resolve, invoke, builtin, Sem.run_bind, Sem.run_pure, Result.andThen_ok, List.map_toArray, List.map_cons, List.map_nil, hs, hx, hr]
 exact h v1 w1 (by rw [hl2, hc]; exact h2) (HB.grown h3 hbase (own_base HO)) h3 (append_str_block base ht hu hi hz0 hz1 hz2 HO y hl hr h4)
def Conv (w : World) (g e : Nat) (cur : Array Value) : Prop := w.heap[g]? = some (.cells cur e (cur.size, cur.size + 1))
theorem conv_C {w : World} {g e_ : Nat} {cur : Array Value} (h : Conv w g e_ cur) (xs : List Int) (hn : xs.length ≤ 9223372036854775807) (hx : ∀ j (hj : j < xs.length), cur[j]? = some (.int .u8 xs[j])) : (Kd.int .u8).C w (some ⟨g, 0, none⟩) xs.length xs := by
 refine ⟨rfl, hn, fun _ => ⟨_, rfl, fun j p hj => ⟨[.int .u8 p], rfl, rfl, fun i u hu => ?_⟩⟩⟩
 obtain ⟨hl, hp⟩ := List.getElem?_eq_some_iff.1 hj
 match i, hu with
 | 0, hu =>
  cases hu
  have e : (⟨g, 0, none⟩ : Addr).add (j * (Kd.int .u8).sz + 0) = ⟨g, j, none⟩ := by
   show (⟨g, 0, none⟩ : Addr).add (j * 1 + 0) = _
   rw [add_plain]; simp
  rw [e, cell_of_row w g j cur e_ _ h, hx j hl, hp]
 | i + 1, hu => simp at hu
def ConvRow (w : World) (base e : Nat) (A : Option Addr) (c : Nat) (xs : List Int) : Prop :=
 xs.length ≤ c ∧ ((A = none ∧ c = 0 ∧ xs = []) ∨ ∃ g cur, A = some ⟨g, 0, none⟩ ∧ base ≤ g ∧ Conv w g e cur ∧ cur.size = c ∧ xs.length ≤ 9223372036854775807 ∧ ∀ j (hj : j < xs.length), cur[j]? = some (.int .u8 xs[j]))
theorem ConvRow.C {w : World} {base e : Nat} {A : Option Addr} {c : Nat} {xs : List Int} (h : ConvRow w base e A c xs) : (Kd.int .u8).C w A xs.length xs := by
 rcases h.2 with ⟨rfl, rfl, rfl⟩ | ⟨g, cur, rfl, _, hc, _, hn, hx⟩
 ·exact Kd.C_nil _ _
 ·exact conv_C hc xs hn hx
theorem ConvRow.far {w w' : World} {base e : Nat} {A : Option Addr} {c : Nat} {xs : List Int} (h : ConvRow w base e A c xs) (hb : ∀ g cur, Conv w g e cur → A = some ⟨g, 0, none⟩ → Conv w' g e cur) : ConvRow w' base e A c xs := by
 refine ⟨h.1, h.2.imp id ?_⟩
 rintro ⟨g, cur, hA, hg, hc, r⟩
 exact ⟨g, cur, hA, hg, hb g cur hc hA, r⟩
theorem ConvRow.below {w w' : World} {base e : Nat} {A : Option Addr} {c : Nat} {xs : List Int} (h : ConvRow w base e A c xs) (hb : Below w.heap.size w w') : ConvRow w' base e A c xs := h.far fun _ _ hc _ => blk_below hc hb
theorem conv_set {w : World} {g e : Nat} {cur : Array Value} (h : Conv w g e cur) {p : Addr} (hp : g ≠ p.block) (u : Value) : Conv (w.setCell p u) g e cur := (Below.heap_setCell w p u g hp).trans h
theorem conv_str_at {ops : Array Oper} {rest : List Oper} {o : Oper} {a : Act} {Q : Exit → Act → World → Prop} {W : World} (hgd : o.guard = none) (x : Operand) (t u e : TypeId)
  (ho : o.op = .convert u t x) (ht : P.underlying t = some (.slice e)) (hu : P.underlying u = some .string) (he : P.underlying e = some (.int .u8)) (y : ByteArray) (hx : a.eval x = .string y)
  (h : ∀ g c w1 cur, g = W.heap.size → Conv w1 g e cur → (∀ j (hj : j < (bytesOf y).length), cur[j]? = some (.int .u8 (bytesOf y)[j])) → (bytesOf y).length ≤ c → cur.size = c → Below W.heap.size W w1 → wpList P ops Q rest (a.put o.dst (.slice (some ⟨g, 0, none⟩) (bytesOf y).length c)) w1) :
  wpList P ops Q (o :: rest) a W := by
 refine wpList_plain hgd fun K hK => ?_
 have hr := Lib.run_convert_string_bytes (P := P) W u t e y hu ht he
 unfold Oper.wp execOp
 simp only [ho, Sem.run_bind, Sem.run_pure, Result.andThen_ok, hx, hr]
 have hy : (bytesOf y).length = y.size := bytesOf_length y
 have hge : y.size ≤ grownCap W y.size 0 e := grownCap_ge W y.size 0 e
 have hcs : (Lib.bytesCells W e y).size = grownCap W y.size 0 e := by
  have hs : y.data.size = y.size := rfl
  rw [Lib.bytesCells, Array.size_append, Array.size_map, Array.size_replicate, hs]
  omega
 have := h W.heap.size (grownCap W y.size 0 e) (Lib.bytesWorld W e y) (Lib.bytesCells W e y) rfl (Lib.bytesWorld_at_new W e y) (fun j hj => ?_) (by rw [hy]; exact hge) hcs ⟨rfl, rfl, rfl, by rw [Lib.bytesWorld_size]; omega, fun j hj => Lib.bytesWorld_at_old W e y j hj⟩
 ·rw [hy] at this
  exact hK _ _ this
 ·have hj' : j < y.data.size := by rw [hy] at hj; exact hj
  rw [Lib.bytesCells, Array.getElem?_append_left (by rw [Array.size_map]; exact hj'), Array.getElem?_map, Array.getElem?_eq_getElem hj']
  simp [bytesOf]
end Go.Proofs.Ytbhllgifciaepaa.Aid
