/- The pure statement of the law FnExactMoved: what the printed functions compute answers as the law says. -/
import Derived.Test.YtafmhffapmejpaaPFnExactMovedx5
import Derived.Test.YtafmhffapmejpaaBase
namespace Go.Proofs.Ytafmhffapmejpaa.PureFnExactMoved
open Go.RowKit Go.Proofs.Ytafmhffapmejpaa.PFnExactMoved Go.Proofs.YtafmhffapmejpaaW.PrintWords Go.Proofs.YtafmhffapmejpaaW.PrintLast Go.Proofs.YtafmhffapmejpaaW.PrintMore Go.Proofs.Ytafmhffapmejpaa.Base
set_option linter.unusedVariables false
attribute [local irreducible] Go.bits IntKind.wrap shl shr
def hasI : List Int → Int → Bool
  | [], _ => false
  | a :: t, x => if a = x then true else hasI t x
theorem hasI_iff (l : List Int) (x : Int) : hasI l x = true ↔ x ∈ l := by
  induction l with
  | nil => simp [hasI]
  | cons a t ih =>
    rw [hasI, List.mem_cons]
    by_cases h : a = x
    · rw [if_pos h]; simp [h]
    · rw [if_neg h, ih]
      exact ⟨Or.inr, fun hc => hc.elim (fun e => absurd e.symm h) id⟩
theorem l4Has_l0 (xs : List Int) (x : Int) (hN : xs.length ≤ 4611686018427387904) : ∀ (l : List Int) (i : Nat), xs.drop i = l → Ev (fun k => spec_l4Has.l0 k xs x (i : Int)) (hasI l x)
  | [], i, h => by
    have h1 := drop_nil' h
    refine Ev.step (f := fun _ => some false) (fun k => ?_) (Ev.now _)
    rw [spec_l4Has.l0, if_neg (by omega)]
  | a :: t, i, h => by
    obtain ⟨h1, _, h3⟩ := drop_cons' h 0
    refine Ev.step (f := fun k => if a = x then some true else spec_l4Has.l0 k xs x ((i + 1 : Nat) : Int)) (fun k => ?_) ?_
    · rw [spec_l4Has.l0, if_pos (by omega), if_pos (by omega), rd_at h, w64s h1 hN]
    · by_cases c : a = x
      · rw [hasI, if_pos c]; exact Ev.pos c (Ev.now _)
      · rw [hasI, if_neg c]; exact Ev.neg c (l4Has_l0 xs x hN t (i + 1) h3)
theorem l4Has_ev (xs : List Int) (x : Int) (hN : xs.length ≤ 4611686018427387904) : Ev (fun k => spec_l4Has.f k xs x) (hasI xs x) := l4Has_l0 xs x hN xs 0 rfl
theorem hasInt_l0 (xs : List Int) (x : Int) (hN : xs.length ≤ 4611686018427387904) : ∀ (l : List Int) (i : Nat), xs.drop i = l → Ev (fun k => impl_hasInt.l0 k x xs (xs.length : Int) (i : Int)) (hasI l x)
  | [], i, h => by
    have h1 := drop_nil' h
    refine Ev.step (f := fun _ => some false) (fun k => ?_) (Ev.now _)
    rw [impl_hasInt.l0, if_neg (by omega)]
  | a :: t, i, h => by
    obtain ⟨h1, _, h3⟩ := drop_cons' h 0
    refine Ev.step (f := fun k => if a = x then some true else impl_hasInt.l0 k x xs (xs.length : Int) ((i + 1 : Nat) : Int)) (fun k => ?_) ?_
    · rw [impl_hasInt.l0, if_pos (by omega), if_pos (by omega), if_pos (by omega), rd_at h, w64s h1 hN]
    · by_cases c : a = x
      · rw [hasI, if_pos c]; exact Ev.pos c (Ev.now _)
      · rw [hasI, if_neg c]; exact Ev.neg c (hasInt_l0 xs x hN t (i + 1) h3)
theorem hasInt_ev (xs : List Int) (x : Int) (hN : xs.length ≤ 4611686018427387904) : Ev (fun k => impl_hasInt.f k xs x) (hasI xs x) := hasInt_l0 xs x hN xs 0 rfl
theorem rdT_at106 {xs : List S106} {i : Nat} {a : S106} {t : List S106} (h : xs.drop i = a :: t) : rd_T106 xs (i : Int) = a := by
  unfold rd_T106; rw [Int.toNat_natCast]; exact (drop_cons' h _).2.1
def cntI (id : Int) : List Int → Nat
  | [] => 0
  | a :: t => (if a = id then 1 else 0) + cntI id t
def loadOf (id : Int) : List S106 → Nat
  | [] => 0
  | p :: t => cntI id p.f0 + loadOf id t
def lens : List S106 → Nat
  | [] => 0
  | p :: t => p.f0.length + lens t
theorem cntI_le (id : Int) : ∀ l : List Int, cntI id l ≤ l.length
  | [] => Nat.le_refl _
  | a :: t => by
    have := cntI_le id t
    rw [cntI, List.length_cons]
    split <;> omega
theorem loadOf_le (id : Int) : ∀ l : List S106, loadOf id l ≤ lens l
  | [] => Nat.le_refl _
  | p :: t => by
    have h1 := loadOf_le id t
    have h2 := cntI_le id p.f0
    rw [loadOf, lens]
    omega
theorem lens_le (m : Nat) : ∀ l : List S106, (∀ x ∈ l, x.f0.length ≤ m) → lens l ≤ l.length * m
  | [], _ => Nat.zero_le _
  | p :: t, h => by
    have h1 := lens_le m t (fun x hx => h x (List.mem_cons_of_mem _ hx))
    have h2 := h p List.mem_cons_self
    rw [lens, List.length_cons, Nat.succ_mul]
    omega
def movP (ys : List Int) : List Int → Nat
  | [] => 0
  | a :: t => (if hasI ys a = true then 0 else 1) + movP ys t
def movL : List S106 → List S106 → Nat
  | p :: s, q :: t => movP q.f0 p.f0 + movL s t
  | _, _ => 0
theorem movP_le (ys : List Int) : ∀ l : List Int, movP ys l ≤ l.length
  | [] => Nat.le_refl _
  | a :: t => by
    have := movP_le ys t
    rw [movP, List.length_cons]
    split <;> omega
theorem spec_moved_l1 (ps qs : List S106) (p q : S106) (ra rb : Int) (i : Nat) (hi : i < ps.length) (hj : i < qs.length) (hp : rd_T106 ps (i : Int) = p) (hq : rd_T106 qs (i : Int) = q)
    (hN : p.f0.length ≤ 4611686018427387904) (hM : q.f0.length ≤ 4611686018427387904) (r : Int) :
    ∀ (l : List Int) (j : Nat) (n : Nat), p.f0.drop j = l → n + l.length ≤ 4611686018427387904 → Ev (fun k => spec_Moved.l0 k ((n + movP q.f0 l : Nat) : Int) (wrap64 ((i : Int) + 1)) ra ps rb qs) r → Ev (fun k => spec_Moved.l1 k (n : Int) (i : Int) (j : Int) ra ps rb qs) r
  | [], j, n, h, hn, hr => by
    have h1 := drop_nil' h
    refine Ev.step (fun k => ?_) hr
    rw [spec_Moved.l1, if_pos (by omega), if_pos (by omega), hp, if_neg (by omega)]
    rfl
  | a :: t, j, n, h, hn, hr => by
    obtain ⟨h1, _, h3⟩ := drop_cons' h 0
    rw [List.length_cons] at hn
    have hrd : Hd (rd p.f0 (j : Int) = a) := ⟨rd_at h⟩
    have w : Hd (wrap64 ((j : Int) + 1) = ((j + 1 : Nat) : Int)) := ⟨w64s h1 hN⟩
    have wn : Hd (wrap64 ((n : Int) + 1) = ((n + 1 : Nat) : Int)) := ⟨w64s (n := n + 1) (by omega) (by omega)⟩
    refine Ev.step (f := fun k => (spec_l4Has.f k q.f0 a).bind fun t1 => if t1 = true then spec_Moved.l1 k (n : Int) (i : Int) ((j + 1 : Nat) : Int) ra ps rb qs else spec_Moved.l1 k ((n + 1 : Nat) : Int) (i : Int) ((j + 1 : Nat) : Int) ra ps rb qs) (fun k => ?_) ?_
    · rw [spec_Moved.l1, if_pos (by omega), if_pos (by omega), hp, if_pos (by omega), if_pos (by omega), if_pos (by omega), hq, hrd.out, w.out, wn.out]
    · refine Ev.bind (l4Has_ev q.f0 a hM) ?_
      by_cases c : hasI q.f0 a = true
      · rw [movP, if_pos c, Nat.zero_add] at hr
        exact Ev.pos c (spec_moved_l1 ps qs p q ra rb i hi hj hp hq hN hM r t (j + 1) n h3 (by omega) hr)
      · rw [movP, if_neg c] at hr
        exact Ev.neg c (spec_moved_l1 ps qs p q ra rb i hi hj hp hq hN hM r t (j + 1) (n + 1) h3 (by omega) (by rw [show n + 1 + movP q.f0 t = n + (1 + movP q.f0 t) by omega]; exact hr))
theorem spec_moved_l0 (ps qs : List S106) (ra rb : Int) (hN : ps.length ≤ 4611686018427387904) (hM : ∀ x ∈ qs, x.f0.length ≤ 4611686018427387904) : ∀ (l m : List S106) (i n : Nat), ps.drop i = l → qs.drop i = m → n + lens l ≤ 4611686018427387904 → Ev (fun k => spec_Moved.l0 k (n : Int) (i : Int) ra ps rb qs) ((n + movL l m : Nat) : Int)
  | [], m, i, n, h, hm, hn => by
    have h1 := drop_nil' h
    refine Ev.step (f := fun k => spec_Moved.j1 k (n : Int) (i : Int) false ra ps rb qs) (fun k => ?_) (Ev.step (f := fun _ => some (n : Int)) (fun k => ?_) (Ev.eq (Ev.now _) (by cases m <;> rfl)))
    · rw [spec_Moved.l0, if_neg (by omega)]
    · rw [spec_Moved.j1, if_neg (by decide)]
  | p :: s, [], i, n, h, hm, hn => by
    obtain ⟨h1, _, _⟩ := drop_cons' h z106
    have h2 := drop_nil' hm
    refine Ev.step (f := fun k => spec_Moved.j1 k (n : Int) (i : Int) false ra ps rb qs) (fun k => ?_) (Ev.step (f := fun _ => some (n : Int)) (fun k => ?_) (Ev.now _))
    · rw [spec_Moved.l0, if_pos (by omega), decide_eq_false (by omega)]
    · rw [spec_Moved.j1, if_neg (by decide)]
  | p :: s, q :: t, i, n, h, hm, hn => by
    obtain ⟨h1, _, h3⟩ := drop_cons' h z106
    obtain ⟨g1, _, g3⟩ := drop_cons' hm z106
    rw [lens] at hn
    have hc := movP_le q.f0 p.f0
    have ih := spec_moved_l0 ps qs ra rb hN hM s t (i + 1) (n + movP q.f0 p.f0) h3 g3 (by omega)
    have hr : Ev (fun k => spec_Moved.l1 k (n : Int) (i : Int) ((0 : Nat) : Int) ra ps rb qs) ((n + movL (p :: s) (q :: t) : Nat) : Int) :=
      spec_moved_l1 ps qs p q ra rb i h1 g1 (rdT_at106 h) (rdT_at106 hm) (by omega) (hM q (List.mem_of_mem_drop (by rw [hm]; exact List.mem_cons_self))) _ p.f0 0 n rfl (by omega) (by rw [w64s h1 hN, movL, ← Nat.add_assoc]; exact ih)
    refine Ev.step (f := fun k => spec_Moved.j1 k (n : Int) (i : Int) true ra ps rb qs) (fun k => ?_) (Ev.step (fun k => ?_) hr)
    · rw [spec_Moved.l0, if_pos (by omega), decide_eq_true (by omega)]
    · rw [spec_Moved.j1, if_pos rfl]; rfl
theorem impl_moved_l1 (ps qs : List S106) (xs : List Int) (q : S106) (ra rb : Int) (i : Nat) (hj : i < qs.length) (hq : rd_T106 qs (i : Int) = q)
    (hN : xs.length ≤ 4611686018427387904) (hM : q.f0.length ≤ 4611686018427387904) (r : Int) :
    ∀ (l : List Int) (j : Nat) (n : Nat), xs.drop j = l → n + l.length ≤ 4611686018427387904 → Ev (fun k => impl_Moved.l0 k ((n + movP q.f0 l : Nat) : Int) (wrap64 ((i : Int) + 1)) ra ps rb qs) r → Ev (fun k => impl_Moved.l1 k (n : Int) (i : Int) xs (xs.length : Int) (j : Int) ra ps rb qs) r
  | [], j, n, h, hn, hr => by
    have h1 := drop_nil' h
    refine Ev.step (fun k => ?_) hr
    rw [impl_Moved.l1, if_neg (by omega)]
    rfl
  | a :: t, j, n, h, hn, hr => by
    obtain ⟨h1, _, h3⟩ := drop_cons' h 0
    rw [List.length_cons] at hn
    have hrd : Hd (rd xs (j : Int) = a) := ⟨rd_at h⟩
    have w : Hd (wrap64 ((j : Int) + 1) = ((j + 1 : Nat) : Int)) := ⟨w64s h1 hN⟩
    have wn : Hd (wrap64 ((n : Int) + 1) = ((n + 1 : Nat) : Int)) := ⟨w64s (n := n + 1) (by omega) (by omega)⟩
    refine Ev.step (f := fun k => (impl_hasInt.f k q.f0 a).bind fun t1 => if t1 = true then impl_Moved.l1 k (n : Int) (i : Int) xs (xs.length : Int) ((j + 1 : Nat) : Int) ra ps rb qs else impl_Moved.l1 k ((n + 1 : Nat) : Int) (i : Int) xs (xs.length : Int) ((j + 1 : Nat) : Int) ra ps rb qs) (fun k => ?_) ?_
    · rw [impl_Moved.l1, if_pos (by omega), if_pos (by omega), if_pos (by omega), if_pos (by omega), if_pos (by omega), hq, hrd.out, w.out, wn.out]
    · refine Ev.bind (hasInt_ev q.f0 a hM) ?_
      by_cases c : hasI q.f0 a = true
      · rw [movP, if_pos c, Nat.zero_add] at hr
        exact Ev.pos c (impl_moved_l1 ps qs xs q ra rb i hj hq hN hM r t (j + 1) n h3 (by omega) hr)
      · rw [movP, if_neg c] at hr
        exact Ev.neg c (impl_moved_l1 ps qs xs q ra rb i hj hq hN hM r t (j + 1) (n + 1) h3 (by omega) (by rw [show n + 1 + movP q.f0 t = n + (1 + movP q.f0 t) by omega]; exact hr))
theorem impl_moved_l0 (ps qs : List S106) (ra rb : Int) (hN : ps.length ≤ 4611686018427387904) (hM : ∀ x ∈ qs, x.f0.length ≤ 4611686018427387904) : ∀ (l m : List S106) (i n : Nat), ps.drop i = l → qs.drop i = m → n + lens l ≤ 4611686018427387904 → Ev (fun k => impl_Moved.l0 k (n : Int) (i : Int) ra ps rb qs) ((n + movL l m : Nat) : Int)
  | [], m, i, n, h, hm, hn => by
    have h1 := drop_nil' h
    refine Ev.step (f := fun k => impl_Moved.j1 k (n : Int) (i : Int) false ra ps rb qs) (fun k => ?_) (Ev.step (f := fun _ => some (n : Int)) (fun k => ?_) (Ev.eq (Ev.now _) (by cases m <;> rfl)))
    · rw [impl_Moved.l0, if_neg (by omega)]
    · rw [impl_Moved.j1, if_neg (by decide)]
  | p :: s, [], i, n, h, hm, hn => by
    obtain ⟨h1, _, _⟩ := drop_cons' h z106
    have h2 := drop_nil' hm
    refine Ev.step (f := fun k => impl_Moved.j1 k (n : Int) (i : Int) false ra ps rb qs) (fun k => ?_) (Ev.step (f := fun _ => some (n : Int)) (fun k => ?_) (Ev.now _))
    · rw [impl_Moved.l0, if_pos (by omega), decide_eq_false (by omega)]
    · rw [impl_Moved.j1, if_neg (by decide)]
  | p :: s, q :: t, i, n, h, hm, hn => by
    obtain ⟨h1, _, h3⟩ := drop_cons' h z106
    obtain ⟨g1, _, g3⟩ := drop_cons' hm z106
    rw [lens] at hn
    have hc := movP_le q.f0 p.f0
    have ih := impl_moved_l0 ps qs ra rb hN hM s t (i + 1) (n + movP q.f0 p.f0) h3 g3 (by omega)
    have hr : Ev (fun k => impl_Moved.l1 k (n : Int) (i : Int) p.f0 (p.f0.length : Int) ((0 : Nat) : Int) ra ps rb qs) ((n + movL (p :: s) (q :: t) : Nat) : Int) :=
      impl_moved_l1 ps qs p.f0 q ra rb i g1 (rdT_at106 hm) (by omega) (hM q (List.mem_of_mem_drop (by rw [hm]; exact List.mem_cons_self))) _ p.f0 0 n rfl (by omega) (by rw [w64s h1 hN, movL, ← Nat.add_assoc]; exact ih)
    refine Ev.step (f := fun k => impl_Moved.j1 k (n : Int) (i : Int) true ra ps rb qs) (fun k => ?_) (Ev.step (fun k => ?_) hr)
    · rw [impl_Moved.l0, if_pos (by omega), decide_eq_true (by omega)]
    · rw [impl_Moved.j1, if_pos rfl, if_pos (by omega), if_pos (by omega), rdT_at106 h]; rfl
theorem moved_ev (ra rb : Int) (ps qs : List S106) (hN : ps.length ≤ 4611686018427387904) (hM : ∀ x ∈ qs, x.f0.length ≤ 4611686018427387904) (hl : lens ps ≤ 4611686018427387904) :
    Ev (fun k => spec_Moved.f k ra ps rb qs) ((movL ps qs : Nat) : Int) ∧ Ev (fun k => impl_Moved.f k ra ps rb qs) ((movL ps qs : Nat) : Int) := by
  have h1 := spec_moved_l0 ps qs ra rb hN hM ps qs 0 0 rfl rfl (by omega)
  have h2 := impl_moved_l0 ps qs ra rb hN hM ps qs 0 0 rfl rfl (by omega)
  rw [Nat.zero_add] at h1 h2
  exact ⟨h1, h2⟩
theorem szPart_eq (l : List Int) (n : Int) (hl : l.length ≤ 9223372036854775807) (h0 : 0 ≤ n) (h1 : n ≤ 1048576) : laws_szPart.f l n = some (if n < l.length then -1 else n - l.length) := by
  unfold laws_szPart.f laws_szIntS.f
  rw [w64 (by omega) (by omega)]
  by_cases h : n < l.length
  · rw [if_pos (by omega), Option.bind_some, if_pos (by omega), if_pos h]
  · rw [if_neg (by omega), Option.bind_some, if_neg (by omega), if_neg h]
def Fits (l : List S120) : Prop := l.length ≤ 1048576 ∧ ∀ x ∈ l, x.f0.length ≤ 1048576
theorem rdT_at120 {xs : List S120} {i : Nat} {a : S120} {t : List S120} (h : xs.drop i = a :: t) : rd_T120 xs (i : Int) = a := by
  unfold rd_T120; rw [Int.toNat_natCast]; exact (drop_cons' h _).2.1
theorem szPartS_l0 (xs : List S120) (hN : xs.length ≤ 4611686018427387904) (hx : ∀ x ∈ xs, x.f0.length ≤ 9223372036854775807) : ∀ (l : List S120) (i : Nat) (n : Int), xs.drop i = l → 0 ≤ n → n ≤ 1048576 → ∃ r, Ev (fun k => laws_szPartS.l0 k xs n (i : Int)) r ∧ (r < 0 ∨ (0 ≤ r ∧ r ≤ n ∧ ∀ x ∈ l, x.f0.length ≤ 1048576))
  | [], i, n, h, h0, h1 => by
    have hl := drop_nil' h
    refine ⟨n, Ev.step (f := fun _ => some n) (fun k => ?_) (Ev.now _), Or.inr ⟨h0, Int.le_refl _, by simp⟩⟩
    rw [laws_szPartS.l0, if_neg (by omega)]
  | a :: t, i, n, h, h0, h1 => by
    obtain ⟨hl, _, h3⟩ := drop_cons' h z120
    have ha : a.f0.length ≤ 9223372036854775807 := hx a (List.mem_of_mem_drop (by rw [h]; exact List.mem_cons_self))
    have hz := szPart_eq a.f0 n ha h0 h1
    have w : Hd (wrap64 ((i : Int) + 1) = ((i + 1 : Nat) : Int)) := ⟨w64s hl hN⟩
    have hr : Hd (rd_T120 xs (i : Int) = a) := ⟨rdT_at120 h⟩
    by_cases c : n < a.f0.length
    · rw [if_pos c] at hz
      refine ⟨-1, Ev.step (f := fun _ => some (-1)) (fun k => ?_) (Ev.now _), Or.inl (by omega)⟩
      rw [laws_szPartS.l0, if_pos (by omega), if_pos (by omega), hr.out, hz, Option.bind_some, if_pos (by omega)]
    · rw [if_neg c] at hz
      obtain ⟨r, r1, r2⟩ := szPartS_l0 xs hN hx t (i + 1) (n - a.f0.length) h3 (by omega) (by omega)
      refine ⟨r, Ev.step (fun k => ?_) r1, r2.imp id (fun ⟨q0, q1, q2⟩ => ⟨q0, by omega, fun x hm => ?_⟩)⟩
      · rw [laws_szPartS.l0, if_pos (by omega), if_pos (by omega), hr.out, hz, Option.bind_some, if_neg (by omega), w.out]
      · rcases List.mem_cons.1 hm with rfl | hm
        · omega
        · exact q2 x hm
theorem szRing_ev (a : Int) (l : List S120) (n : Int) (hl : l.length ≤ 9223372036854775807) (hx : ∀ x ∈ l, x.f0.length ≤ 9223372036854775807) (h0 : 0 ≤ n) (h1 : n ≤ 1048576) : ∃ r, Ev (fun k => laws_szRing.f k a l n) r ∧ (r < 0 ∨ (0 ≤ r ∧ r ≤ n ∧ Fits l)) := by
  simp only [laws_szRing.f, laws_szPartS.f]
  have w : Hd (wrap64 (n - (l.length : Int)) = n - l.length) := ⟨w64 (by omega) (by omega)⟩
  simp only [w.out]
  by_cases c : n - (l.length : Int) < 0
  · simp only [if_pos c]
    refine ⟨-1, Ev.some_bind (Ev.pos (by omega) (Ev.now _)), Or.inl (by omega)⟩
  · simp only [if_neg c]
    obtain ⟨r, r1, r2⟩ := szPartS_l0 l (by omega) hx l 0 (n - l.length) rfl (by omega) (by omega)
    by_cases c2 : r < 0
    · exact ⟨-1, Ev.bind r1 (Ev.pos c2 (Ev.now _)), Or.inl (by omega)⟩
    · refine ⟨r, Ev.bind r1 (Ev.neg c2 (Ev.now _)), Or.inr ?_⟩
      rcases r2 with r2 | ⟨q0, q1, q2⟩
      · exact absurd r2 c2
      · exact ⟨q0, by omega, by omega, q2⟩
theorem toIntS_l0 (xs : List Int) (hN : xs.length ≤ 4611686018427387904) : ∀ (l : List Int) (i : Nat) (A acc : List Int), xs.drop i = l → A.length = i → acc = A ++ List.replicate l.length 0 → Ev (fun k => laws_toIntS.l0 k xs acc (i : Int)) (A ++ l)
  | [], i, A, acc, h, hA, ha => by
    have h1 := drop_nil' h
    subst ha
    refine Ev.step (f := fun _ => some (A ++ [])) (fun k => ?_) (Ev.now _)
    rw [laws_toIntS.l0, if_neg (by omega)]
    rfl
  | a :: t, i, A, acc, h, hA, ha => by
    obtain ⟨h1, _, h3⟩ := drop_cons' h 0
    have ih := toIntS_l0 xs hN t (i + 1) (A ++ [a]) _ h3 (by simp [hA]) rfl
    subst ha
    have e : (A ++ List.replicate (a :: t).length 0).set ((i : Int)).toNat (rd xs i) = (A ++ [a]) ++ List.replicate t.length 0 := by
      rw [rd_at h, Int.toNat_natCast, ← hA]; exact set_copy A 0 a t.length
    refine Ev.step (f := fun k => laws_toIntS.l0 k xs ((A ++ [a]) ++ List.replicate t.length 0) ((i + 1 : Nat) : Int)) (fun k => ?_) (Ev.eq ih (by simp))
    rw [laws_toIntS.l0, if_pos (by omega), if_pos (by omega), if_pos (by simp only [List.length_append, List.length_replicate, List.length_cons]; omega), e, w64s h1 hN]
theorem toIntS_ev (xs : List Int) (hN : xs.length ≤ 1048576) : Ev (fun k => laws_toIntS.f k xs) xs := by
  refine Ev.congr (f := fun k => laws_toIntS.l0 k xs (List.replicate xs.length 0) ((0 : Nat) : Int)) (fun k => ?_) (toIntS_l0 xs (by omega) xs 0 [] _ rfl rfl rfl)
  rw [laws_toIntS.f, if_pos (by omega), if_pos (by omega), Int.toNat_natCast]; rfl
theorem toPart_ev (xs : List Int) (hN : xs.length ≤ 1048576) : Ev (fun k => laws_toPart.f k xs) xs := by
  simp only [laws_toPart.f]
  refine Ev.bind (toIntS_ev xs hN) ?_
  exact Ev.now _
def toPart (x : S120) : S106 := ⟨x.f0⟩
theorem toPartS_l0 (xs : List S120) (hN : xs.length ≤ 4611686018427387904) (hx : ∀ x ∈ xs, x.f0.length ≤ 1048576) : ∀ (l : List S120) (i : Nat) (A acc : List S106), xs.drop i = l → A.length = i → acc = A ++ List.replicate l.length z106 → Ev (fun k => laws_toPartS.l0 k xs acc (i : Int)) (A ++ l.map toPart)
  | [], i, A, acc, h, hA, ha => by
    have h1 := drop_nil' h
    subst ha
    refine Ev.step (f := fun _ => some (A ++ [])) (fun k => ?_) (Ev.now _)
    rw [laws_toPartS.l0, if_neg (by omega)]
    rfl
  | a :: t, i, A, acc, h, hA, ha => by
    obtain ⟨h1, _, h3⟩ := drop_cons' h z120
    have hal : a.f0.length ≤ 1048576 := hx a (List.mem_of_mem_drop (by rw [h]; exact List.mem_cons_self))
    have ih := toPartS_l0 xs hN hx t (i + 1) (A ++ [toPart a]) _ h3 (by simp [hA]) rfl
    subst ha
    have e : (A ++ List.replicate (a :: t).length z106).set ((i : Int)).toNat (toPart a) = (A ++ [toPart a]) ++ List.replicate t.length z106 := by
      rw [Int.toNat_natCast, ← hA]; exact set_copy A _ (toPart a) t.length
    have hacc : ((i : Int)) < ((A ++ List.replicate (a :: t).length z106).length : Int) := by
      simp only [List.length_append, List.length_replicate, List.length_cons]; omega
    refine Ev.step (f := fun k => (laws_toPart.f k a.f0).bind fun t1 => if ((i : Int)) < ((A ++ List.replicate (a :: t).length z106).length : Int) then laws_toPartS.l0 k xs ((A ++ List.replicate (a :: t).length z106).set ((i : Int)).toNat ⟨t1⟩) (wrap64 ((i : Int) + 1)) else none) (fun k => ?_) ?_
    · rw [laws_toPartS.l0, if_pos (by omega), if_pos (by omega), rdT_at120 h]
    · refine Ev.bind (toPart_ev a.f0 hal) ?_
      refine Ev.pos hacc ?_
      rw [w64s h1 hN, show (⟨a.f0⟩ : S106) = toPart a from rfl, e]
      exact Ev.eq ih (by simp)
theorem toRing_ev (a : Int) (l : List S120) (hf : Fits l) : Ev (fun k => laws_toRing.f k a l) (a, l.map toPart) := by
  have hf1 := hf.1
  simp only [laws_toRing.f]
  refine Ev.bind (a := l.map toPart) ?_ (Ev.now _)
  refine Ev.congr (f := fun k => laws_toPartS.l0 k l (List.replicate l.length z106) ((0 : Nat) : Int)) (fun k => ?_) (toPartS_l0 l (by omega) hf.2 l 0 [] _ rfl rfl rfl)
  rw [laws_toPartS.f, if_pos (by omega), if_pos (by omega), Int.toNat_natCast]; rfl
theorem eqIntS_l0 (xs : List Int) (hN : xs.length ≤ 4611686018427387904) : ∀ (l : List Int) (i : Nat), xs.drop i = l → Ev (fun k => laws_eqIntS.l0 k xs xs (i : Int)) true
  | [], i, h => by
    have h1 := drop_nil' h
    refine Ev.step (f := fun _ => some true) (fun k => ?_) (Ev.now _)
    rw [laws_eqIntS.l0, if_neg (by omega)]
  | a :: t, i, h => by
    obtain ⟨h1, _, h3⟩ := drop_cons' h 0
    refine Ev.step (f := fun k => laws_eqIntS.l0 k xs xs ((i + 1 : Nat) : Int)) (fun k => ?_) (eqIntS_l0 xs hN t (i + 1) h3)
    rw [laws_eqIntS.l0, if_pos (by omega), if_pos (by omega), if_pos (by omega), if_pos rfl, w64s h1 hN]
theorem eqIntS_ev (xs : List Int) (hN : xs.length ≤ 4611686018427387904) : Ev (fun k => laws_eqIntS.f k xs xs) true := by
  refine Ev.congr (f := fun k => laws_eqIntS.l0 k xs xs ((0 : Nat) : Int)) (fun k => ?_) (eqIntS_l0 xs hN xs 0 rfl)
  rw [laws_eqIntS.f, if_pos rfl]; rfl
theorem eqPart_ev (xs : List Int) (hN : xs.length ≤ 4611686018427387904) : Ev (fun k => laws_eqPart.f k xs xs) true := by
  simp only [laws_eqPart.f]
  refine Ev.bind (eqIntS_ev xs hN) ?_
  exact Ev.pos rfl (Ev.now _)
theorem eqPartS_l0 (xs : List S106) (hN : xs.length ≤ 4611686018427387904) (hx : ∀ x ∈ xs, x.f0.length ≤ 4611686018427387904) : ∀ (l : List S106) (i : Nat), xs.drop i = l → Ev (fun k => laws_eqPartS.l0 k xs xs (i : Int)) true
  | [], i, h => by
    have h1 := drop_nil' h
    refine Ev.step (f := fun _ => some true) (fun k => ?_) (Ev.now _)
    rw [laws_eqPartS.l0, if_neg (by omega)]
  | a :: t, i, h => by
    obtain ⟨h1, _, h3⟩ := drop_cons' h z106
    have hal : a.f0.length ≤ 4611686018427387904 := hx a (List.mem_of_mem_drop (by rw [h]; exact List.mem_cons_self))
    refine Ev.step (f := fun k => (laws_eqPart.f k a.f0 a.f0).bind fun t1 => if t1 = true then laws_eqPartS.l0 k xs xs ((i + 1 : Nat) : Int) else some false) (fun k => ?_) ?_
    · rw [laws_eqPartS.l0, if_pos (by omega), if_pos (by omega), if_pos (by omega), rdT_at106 h, w64s h1 hN]
    · refine Ev.bind (eqPart_ev a.f0 hal) ?_
      exact Ev.pos rfl (eqPartS_l0 xs hN hx t (i + 1) h3)
theorem eqRing_ev (a : Int) (xs : List S106) (hN : xs.length ≤ 4611686018427387904) (hx : ∀ x ∈ xs, x.f0.length ≤ 4611686018427387904) : Ev (fun k => laws_eqRing.f k a xs a xs) true := by
  simp only [laws_eqRing.f, laws_eqPartS.f, if_true]
  refine Ev.bind (a := true) (eqPartS_l0 xs hN hx xs 0 rfl) ?_
  exact Ev.pos rfl (Ev.now _)
theorem fits_map {l : List S120} (hf : Fits l) : (l.map toPart).length ≤ 1048576 ∧ (∀ x ∈ l.map toPart, x.f0.length ≤ 1048576) ∧ lens (l.map toPart) ≤ 1099511627776 := by
  have h1 : ∀ x ∈ l.map toPart, x.f0.length ≤ 1048576 := by
    intro x hx
    obtain ⟨y, hy, rfl⟩ := List.mem_map.1 hx
    exact hf.2 y hy
  have h2 := lens_le 1048576 _ h1
  have h3 : (l.map toPart).length ≤ 1048576 := by rw [List.length_map]; exact hf.1
  have h4 := Nat.mul_le_mul_right 1048576 h3
  exact ⟨h3, h1, by omega⟩
end Go.Proofs.Ytafmhffapmejpaa.PureFnExactMoved
namespace Go.Proofs.Ytafmhffapmejpaa.Pure
open Go.RowKit Go.Proofs.Ytafmhffapmejpaa.PFnExactMoved Go.Proofs.YtafmhffapmejpaaW.PrintWords Go.Proofs.YtafmhffapmejpaaW.PrintLast Go.Proofs.YtafmhffapmejpaaW.PrintMore Go.Proofs.Ytafmhffapmejpaa.Base Go.Proofs.Ytafmhffapmejpaa.PureFnExactMoved
set_option linter.unusedVariables false
attribute [local irreducible] Go.bits IntKind.wrap shl shr
theorem FnExactMoved (a : Int) (l : List S120) (b : Int) (m : List S120) (h0 : I64 a ∧ l.length ≤ 9223372036854775807 ∧ ∀ x ∈ l, x.f0.length ≤ 9223372036854775807 ∧ ∀ y ∈ x.f0, I64 y)
    (g0 : I64 b ∧ m.length ≤ 9223372036854775807 ∧ ∀ x ∈ m, x.f0.length ≤ 9223372036854775807 ∧ ∀ y ∈ x.f0, I64 y) : ∃ k, laws_FnExactMoved.f k a l b m = some true := by
  apply Ev.rounds (g := fun k => laws_FnExactMoved.f k a l b m)
  simp only [laws_FnExactMoved.f]
  obtain ⟨r, r1, r2⟩ := szRing_ev a l 1048576 h0.2.1 (fun x hx => (h0.2.2 x hx).1) (by omega) (by omega)
  refine Ev.bind r1 ?_
  by_cases hr : r < 0
  · exact Ev.pos hr (Ev.now _)
  rcases r2 with r2 | ⟨hr0, hr1, hf⟩
  · exact absurd r2 hr
  refine Ev.neg hr ?_
  obtain ⟨s, s1, s2⟩ := szRing_ev b m r g0.2.1 (fun x hx => (g0.2.2 x hx).1) hr0 hr1
  refine Ev.bind s1 ?_
  by_cases hs : s < 0
  · exact Ev.pos hs (Ev.now _)
  rcases s2 with s2 | ⟨_, _, hg⟩
  · exact absurd s2 hs
  refine Ev.neg hs ?_
  obtain ⟨f1, f2, f3⟩ := fits_map hf
  obtain ⟨g1, g2, g3⟩ := fits_map hg
  obtain ⟨m1, m2⟩ := moved_ev a b (l.map toPart) (m.map toPart) (by omega) (fun x hx => Nat.le_trans (g2 x hx) (by omega)) (by omega)
  refine Ev.bind (toRing_ev a l hf) ?_
  refine Ev.bind (toRing_ev b m hg) ?_
  refine Ev.bind m1 ?_
  refine Ev.bind (toRing_ev a l hf) ?_
  refine Ev.bind (toRing_ev b m hg) ?_
  refine Ev.bind m2 ?_
  refine Ev.pos rfl ?_
  refine Ev.bind (toRing_ev a l hf) ?_
  refine Ev.bind (eqRing_ev a (l.map toPart) (by omega) (fun x hx => Nat.le_trans (f2 x hx) (by omega))) ?_
  refine Ev.pos rfl ?_
  refine Ev.bind (toRing_ev b m hg) ?_
  refine Ev.bind (eqRing_ev b (m.map toPart) (by omega) (fun x hx => Nat.le_trans (g2 x hx) (by omega))) ?_
  exact Ev.pos rfl (Ev.now _)
end Go.Proofs.Ytafmhffapmejpaa.Pure
