/- The pure statement of the law FnBeginnings: what the printed functions compute answers as the law says. -/
import Derived.Test.YtafmhffapmejpaaPFnBeginningsx3
import Derived.Test.YtafmhffapmejpaaBase
namespace Go.Proofs.Ytafmhffapmejpaa.PureFnBeginnings
open Go.RowKit Go.Proofs.Ytafmhffapmejpaa.PFnBeginnings Go.Proofs.YtafmhffapmejpaaW.PrintWords Go.Proofs.YtafmhffapmejpaaW.PrintLast Go.Proofs.YtafmhffapmejpaaW.PrintMore Go.Proofs.Ytafmhffapmejpaa.Base
set_option linter.unusedVariables false
attribute [local irreducible] Go.bits IntKind.wrap shl shr
theorem l1In_eq (x a b : Int) : spec_l1In.f x a b = some (decide (a ≤ x ∧ x ≤ b)) := by
  unfold spec_l1In.f
  by_cases h : x ≥ a
  · rw [if_pos h]; simp [show a ≤ x from h]
  · rw [if_neg h]; simp [show ¬ a ≤ x from h]
theorem in_eq (x a b : Int) : impl_in.f x a b = some (decide (a ≤ x ∧ x ≤ b)) := by
  unfold impl_in.f
  by_cases h : x ≥ a
  · rw [if_pos h]; simp [show a ≤ x from h]
  · rw [if_neg h]; simp [show ¬ a ≤ x from h]
def okc (c : Int) : Bool := decide (97 ≤ c ∧ c ≤ 122) || decide (48 ≤ c ∧ c ≤ 57) || decide (c = 45) || decide (c = 95) || decide (c = 47)
def nameFrom (s : ByteArray) : Nat → Nat → Bool
  | 0, _ => true
  | d + 1, i => okc (bt s i) && nameFrom s d (i + 1)
def nameOk (s : ByteArray) : Bool := nameFrom s s.size 0 && decide (1 ≤ (s.size : Int) ∧ (s.size : Int) ≤ 20)
theorem nameOk_l0 (s : ByteArray) (hN : s.size ≤ 4611686018427387904) (d : Nat) : ∀ (i : Nat), i + d = s.size → Ev (fun k => spec_NameOk.l0 k s (i : Int)) (nameFrom s d i && decide (1 ≤ (s.size : Int) ∧ (s.size : Int) ≤ 20)) ∧ Ev (fun k => impl_NameOk.l0 k s (i : Int)) (nameFrom s d i && decide (1 ≤ (s.size : Int) ∧ (s.size : Int) ≤ 20)) := by
  induction d with
  | zero =>
    intro i hd
    refine ⟨Ev.step (f := fun _ => some _) (fun k => ?_) (Ev.now _), Ev.step (f := fun _ => some _) (fun k => ?_) (Ev.now _)⟩
    · rw [spec_NameOk.l0, if_neg (by omega), l1In_eq]; simp [nameFrom]
    · rw [impl_NameOk.l0, if_neg (by omega), in_eq]; simp [nameFrom]
  | succ d ih =>
    intro i hd
    have hb := bt_range s i
    obtain ⟨i1, i2⟩ := ih (i + 1) (by omega)
    have hw := w64s (i := i) (n := i + 1) (by omega) (by omega)
    by_cases h : okc (bt s i) = true
    · simp only [nameFrom, h, Bool.true_and]
      refine ⟨Ev.step (fun k => ?_) i1, Ev.step (fun k => ?_) i2⟩
      · rw [spec_NameOk.l0, if_pos (by omega), if_pos (by omega), w64 (x := bt s i) (by omega) (by omega), hw]
        simp only [l1In_eq, Option.bind_some, decide_eq_true_eq]
        simp only [okc, Bool.or_eq_true, decide_eq_true_eq] at h
        repeat' split
        all_goals first | rfl | (exfalso; omega)
      · rw [impl_NameOk.l0, if_pos (by omega), if_pos (by omega), hw]
        simp only [okc, Bool.or_eq_true, decide_eq_true_eq] at h
        repeat' split
        all_goals first | rfl | (exfalso; omega)
    · have h' : okc (bt s i) = false := by simpa using h
      simp only [nameFrom, h', Bool.false_and]
      refine ⟨Ev.step (f := fun _ => some false) (fun k => ?_) (Ev.now _), Ev.step (f := fun _ => some false) (fun k => ?_) (Ev.now _)⟩
      · rw [spec_NameOk.l0, if_pos (by omega), if_pos (by omega), w64 (x := bt s i) (by omega) (by omega)]
        simp only [l1In_eq, Option.bind_some, decide_eq_true_eq]
        simp only [okc, Bool.or_eq_true, decide_eq_true_eq] at h
        repeat' split
        all_goals first | rfl | (exfalso; omega)
      · rw [impl_NameOk.l0, if_pos (by omega), if_pos (by omega)]
        simp only [okc, Bool.or_eq_true, decide_eq_true_eq] at h
        repeat' split
        all_goals first | rfl | (exfalso; omega)
theorem nameOk_ev (s : ByteArray) (hN : s.size ≤ 4611686018427387904) : Ev (fun k => spec_NameOk.f k s) (nameOk s) ∧ Ev (fun k => impl_NameOk.f k s) (nameOk s) :=
  nameOk_l0 s hN s.size 0 (by omega)
/-- A cursor over the bytes of a draw: its place lies within them. -/
def Cur (b : List Int) (i : Int) : Prop := b.length ≤ 1048576 ∧ 0 ≤ i ∧ i ≤ b.length
theorem new_l0 (b : List Int) (hN : b.length ≤ 1048576) (d : Nat) : ∀ (i : Nat) (h : Int), i + d = b.length → ∃ h', Ev (fun k => spec_l1New.l0 k b h (i : Int)) (b, 0, h') := by
  induction d with
  | zero =>
    intro i h hd
    refine ⟨h, Ev.step (f := fun _ => some (b, 0, h)) (fun k => ?_) (Ev.now _)⟩
    rw [spec_l1New.l0, if_neg (by omega)]
  | succ d ih =>
    intro i h hd
    by_cases c : (i : Int) < 4000
    · obtain ⟨h', e⟩ := ih (i + 1) (Go.bits .and .i64 (wrap64 ((wrap64 ((wrap64 (h * 137)) + (wrap64 (rd b i)))) + 11)) 1073741823) (by omega)
      refine ⟨h', Ev.step (fun k => ?_) e⟩
      rw [spec_l1New.l0, if_pos (by omega), if_pos c, if_pos (by omega), w64s (i := i) (n := b.length) (by omega) (by omega)]
    · refine ⟨h, Ev.step (f := fun _ => some (b, 0, h)) (fun k => ?_) (Ev.now _)⟩
      rw [spec_l1New.l0, if_pos (by omega), if_neg c]
theorem new_ev (b : List Int) (hN : b.length ≤ 1048576) : ∃ h', Ev (fun k => spec_l1New.f k b) (b, 0, h') ∧ Cur b 0 := by
  obtain ⟨h', e⟩ := new_l0 b hN b.length 0 (wrap64 (378378 + (b.length : Int))) (by omega)
  exact ⟨h', e, hN, by omega, by omega⟩
theorem byte_ok (b : List Int) (i h : Int) (hc : Cur b i) : ∃ x i' h', spec_l1Byte.f b i h = some (x, i', h') ∧ 0 ≤ x ∧ x ≤ 255 ∧ Cur b i' := by
  obtain ⟨c1, c2, c3⟩ := hc
  unfold spec_l1Byte.f
  by_cases c : i < (b.length : Int)
  · rw [if_pos c, if_pos c2]
    refine ⟨_, _, _, rfl, (and255 _).1, (and255 _).2, c1, ?_⟩
    rw [w64 (by omega) (by omega)]
    omega
  · rw [if_neg c]
    exact ⟨_, _, _, rfl, (and255 _).1, (and255 _).2, c1, c2, c3⟩
theorem tmod_in {x n : Int} (h0 : 0 ≤ x) (hn : 0 < n) : 0 ≤ Int.tmod x n ∧ Int.tmod x n < n := by
  rw [Int.tmod_eq_emod_of_nonneg h0]
  exact ⟨Int.emod_nonneg _ (by omega), Int.emod_lt_of_pos _ hn⟩
theorem below_ok (b : List Int) (i h n : Int) (hc : Cur b i) : ∃ x i' h', spec_l1Below.f b i h n = some (x, i', h') ∧ 0 ≤ x ∧ (0 < n → x < n) ∧ (n ≤ 0 → x = 0) ∧ Cur b i' := by
  unfold spec_l1Below.f
  by_cases c0 : n ≤ 0
  · rw [if_pos c0]
    exact ⟨0, i, h, rfl, Int.le_refl _, fun h1 => absurd h1 (by omega), fun _ => rfl, hc⟩
  · rw [if_neg c0]
    obtain ⟨x, i1, h1, e1, x0, x1, hc1⟩ := byte_ok b i h hc
    by_cases c1 : n ≤ 256
    · rw [if_pos c1, e1, Option.bind_some, if_neg (by omega)]
      have ht := tmod_in x0 (show 0 < n by omega)
      exact ⟨_, _, _, rfl, ht.1, fun _ => ht.2, fun hq => absurd hq c0, hc1⟩
    · obtain ⟨y, i2, h2, e2, y0, y1, hc2⟩ := byte_ok b i1 h1 hc1
      obtain ⟨z, i3, h3, e3, z0, z1, hc3⟩ := byte_ok b i2 h2 hc2
      rw [if_neg c1, e1, Option.bind_some, e2, Option.bind_some, e3, Option.bind_some, if_neg (by omega)]
      have w : wrap64 (wrap64 (wrap64 (x * 65536) + wrap64 (y * 256)) + z) = x * 65536 + y * 256 + z := by
        rw [w64 (x := x * 65536) (by omega) (by omega), w64 (x := y * 256) (by omega) (by omega), w64 (x := x * 65536 + y * 256) (by omega) (by omega), w64 (by omega) (by omega)]
      have ht := tmod_in (x := x * 65536 + y * 256 + z) (by omega) (show 0 < n by omega)
      refine ⟨_, _, _, rfl, ?_, fun _ => ?_, fun hq => absurd hq c0, hc3⟩
      · simp only [w]; exact ht.1
      · simp only [w]; exact ht.2
theorem once_ok (b : List Int) (i h n : Int) (hc : Cur b i) : ∃ x i' h', spec_l1Once.f b i h n = some (x, i', h') ∧ Cur b i' := by
  obtain ⟨x, i1, h1, e1, _, _, _, hc1⟩ := below_ok b i h n hc
  unfold spec_l1Once.f
  rw [e1, Option.bind_some]
  exact ⟨_, _, _, rfl, hc1⟩
theorem str_ok (b : List Int) (i h : Int) (l : List ByteArray) (hl : 0 < l.length) (hc : Cur b i) : ∃ x i' h', spec_l1Str.f b i h l = some (x, i', h') ∧ x ∈ l ∧ Cur b i' := by
  obtain ⟨x, i1, h1, e1, x0, x1, _, hc1⟩ := below_ok b i h (l.length : Int) hc
  have x2 := x1 (by omega)
  unfold spec_l1Str.f
  rw [e1, Option.bind_some, if_pos x0, if_pos x2]
  exact ⟨_, _, _, rfl, rdOf_mem x0 x2, hc1⟩
def namesA : List ByteArray := [⟨#[]⟩, ⟨#[65]⟩, ⟨#[97, 32, 98]⟩, ⟨#[116, 119, 101, 110, 116, 121, 111, 110, 101, 98, 121, 116, 101, 115, 116, 119, 101, 110, 116, 121, 111]⟩, ⟨#[116, 119, 101, 110, 116, 121, 98, 121, 116, 101, 115, 116, 119, 101, 110, 116, 121, 98, 121, 116]⟩, ⟨#[47]⟩]
def namesB : List ByteArray := [⟨#[97]⟩, ⟨#[98]⟩, ⟨#[99, 97, 116, 47, 49]⟩, ⟨#[99, 97, 116, 47, 50]⟩, ⟨#[100, 111, 103]⟩, ⟨#[120, 45, 49]⟩]
theorem namesA_le : ∀ s ∈ namesA, s.size ≤ 21 := by decide
theorem namesB_le : ∀ s ∈ namesB, s.size ≤ 21 := by decide
theorem name_ok (b : List Int) (i h : Int) (hc : Cur b i) : ∃ s i' h', spec_l3Name.f b i h = some (s, i', h') ∧ s.size ≤ 21 ∧ Cur b i' := by
  obtain ⟨s, i2, h2, e2, hm, hc2⟩ := str_ok b i h namesB (by decide) hc
  unfold namesB at e2
  unfold spec_l3Name.f
  rw [e2, Option.bind_some]
  exact ⟨_, _, _, rfl, namesB_le s hm, hc2⟩
theorem nameAny_ok (b : List Int) (i h : Int) (hc : Cur b i) : ∃ s i' h', spec_l3Any.f b i h = some (s, i', h') ∧ s.size ≤ 21 ∧ Cur b i' := by
  unfold spec_l3Any.f
  obtain ⟨x, i1, h1, e1, hc1⟩ := once_ok b i h 5 hc
  rw [e1, Option.bind_some]
  by_cases hx : x = true
  · rw [if_pos hx]
    obtain ⟨s, i2, h2, e2, hm, hc2⟩ := str_ok b i1 h1 namesA (by decide) hc1
    unfold namesA at e2
    rw [e2, Option.bind_some]
    exact ⟨_, _, _, rfl, namesA_le s hm, hc2⟩
  · rw [if_neg hx]
    obtain ⟨s, i2, h2, e2, hs, hc2⟩ := name_ok b i1 h1 hc1
    rw [e2, Option.bind_some]
    exact ⟨_, _, _, rfl, hs, hc2⟩
end Go.Proofs.Ytafmhffapmejpaa.PureFnBeginnings
namespace Go.Proofs.Ytafmhffapmejpaa.Pure
open Go.RowKit Go.Proofs.Ytafmhffapmejpaa.PFnBeginnings Go.Proofs.YtafmhffapmejpaaW.PrintWords Go.Proofs.YtafmhffapmejpaaW.PrintLast Go.Proofs.YtafmhffapmejpaaW.PrintMore Go.Proofs.Ytafmhffapmejpaa.Base Go.Proofs.Ytafmhffapmejpaa.PureFnBeginnings
set_option linter.unusedVariables false
attribute [local irreducible] Go.bits IntKind.wrap shl shr
theorem nameFrom_ext (s t : ByteArray) : ∀ (d i : Nat), (∀ j, i ≤ j → j < i + d → bt s j = bt t j) → nameFrom s d i = nameFrom t d i
  | 0, _, _ => rfl
  | d + 1, i, h => by
    rw [nameFrom, nameFrom, h i (Nat.le_refl _) (by omega), nameFrom_ext s t d (i + 1) (fun j h1 h2 => h j (by omega) (by omega))]
theorem nameFrom_take (s : ByteArray) : ∀ (d e i : Nat), e ≤ d → nameFrom s d i = true → nameFrom s e i = true
  | _, 0, _, _, _ => rfl
  | 0, e + 1, _, h, _ => absurd h (by omega)
  | d + 1, e + 1, i, h, hn => by
    rw [nameFrom, Bool.and_eq_true] at hn ⊢
    exact ⟨hn.1, nameFrom_take s d e (i + 1) (by omega) hn.2⟩
theorem bt_get (s : ByteArray) (j : Nat) (h : j < s.size) : bt s (j : Int) = ((s[j]'h).toNat : Int) := by
  unfold bt
  rw [dif_pos (show ((j : Int)).toNat < s.size by omega)]
  simp only [Int.toNat_natCast]
theorem bt_extract (s : ByteArray) (e j : Nat) (he : e ≤ s.size) (hj : j < e) : bt (s.extract 0 e) (j : Int) = bt s (j : Int) := by
  rw [bt_get _ j (by rw [ByteArray.size_extract]; omega), bt_get s j (by omega), ByteArray.getElem_extract]
  simp only [Nat.zero_add]
theorem nameOk_take (s : ByteArray) (e : Nat) (h1 : 1 ≤ e) (he : e ≤ s.size) (h : nameOk s = true) : nameOk (s.extract 0 e) = true := by
  have hs : (s.extract 0 e).size = e := by rw [ByteArray.size_extract]; omega
  rw [nameOk, Bool.and_eq_true, decide_eq_true_eq] at h ⊢
  rw [hs]
  refine ⟨?_, by omega, by omega⟩
  rw [nameFrom_ext (s.extract 0 e) s e 0 (fun j _ hj => bt_extract s e j he (by omega))]
  exact nameFrom_take s s.size e 0 he h.1
theorem nameOk_empty : nameOk ⟨#[]⟩ = false := by decide
theorem nameFrom_bad (s : ByteArray) : ∀ (d i j : Nat), i ≤ j → j < i + d → okc (bt s j) = false → nameFrom s d i = false
  | 0, i, j, h1, h2, _ => absurd h2 (by omega)
  | d + 1, i, j, h1, h2, h => by
    rw [nameFrom]
    by_cases e : i = j
    · subst e; rw [h]; rfl
    · rw [nameFrom_bad s d (i + 1) j (by omega) (by omega) h, Bool.and_false]
theorem nameOk_blank (s : ByteArray) : nameOk (s ++ ⟨#[32]⟩) = false := by
  have hs : (s ++ (⟨#[32]⟩ : ByteArray)).size = s.size + 1 := by rw [ByteArray.size_append]; rfl
  have hb : bt (s ++ (⟨#[32]⟩ : ByteArray)) (s.size : Int) = 32 := by
    rw [bt_get _ s.size (by omega), ByteArray.getElem_append_right (Nat.le_refl _)]
    simp only [Nat.sub_self]
    rfl
  rw [nameOk, nameFrom_bad _ _ 0 s.size (by omega) (by omega) (by rw [hb]; decide), Bool.false_and]
theorem nameOk_i (s : ByteArray) (hN : s.size ≤ 4611686018427387904) : Ev (fun k => impl_NameOk.f k s) (nameOk s) := (nameOk_ev s hN).2
theorem beg_end (s : ByteArray) (ok : Bool) (i : Int) (hs : s.size ≤ 1000) : Ev (fun k => laws_FnBeginnings.j1 k s ok i false) true := by
  refine Ev.step (fun k => by rw [laws_FnBeginnings.j1, if_neg (by decide)]) ?_
  refine Ev.bind (nameOk_i ⟨#[]⟩ (by decide)) ?_
  refine Ev.neg (by rw [nameOk_empty]; decide) ?_
  refine Ev.pos (by omega) ?_
  refine Ev.bind (nameOk_i (s ++ ⟨#[32]⟩) (by rw [ByteArray.size_append]; have : (⟨#[32]⟩ : ByteArray).size = 1 := rfl; omega)) ?_
  rw [nameOk_blank]
  exact Ev.now _
theorem beg_l0 (s : ByteArray) (hs : s.size ≤ 1000) (ok : Bool) (h : ok = nameOk s) (d : Nat) : ∀ (i : Nat), 1 ≤ i → i + d = s.size + 1 → Ev (fun k => laws_FnBeginnings.l0 k s ok (i : Int)) true := by
  induction d with
  | zero =>
    intro i h1 hd
    refine Ev.step (fun k => by rw [laws_FnBeginnings.l0, if_neg (by omega)]) (beg_end s ok i hs)
  | succ d ih =>
    intro i h1 hd
    cases ok with
    | false => refine Ev.step (fun k => by rw [laws_FnBeginnings.l0, if_pos (by omega)]) (beg_end s false i hs)
    | true =>
      refine Ev.step (f := fun k => laws_FnBeginnings.j1 k s true (i : Int) true) (fun k => by rw [laws_FnBeginnings.l0, if_pos (by omega)]) ?_
      refine Ev.step (fun k => by rw [laws_FnBeginnings.j1, if_pos rfl, if_pos (by omega), if_pos (by omega), Int.toNat_natCast, w64s (i := i) (n := i + 1) (by omega) (by omega)]) ?_
      refine Ev.bind (nameOk_i (s.extract 0 i) (by rw [ByteArray.size_extract]; omega)) ?_
      exact Ev.pos (nameOk_take s i h1 (by omega) h.symm) (ih (i + 1) (by omega) (by omega))
theorem FnBeginnings (b : List Int) (hb0 : Bytes b) : ∃ k, laws_FnBeginnings.f k b = some true := by
  apply Ev.rounds (g := fun k => laws_FnBeginnings.f k b)
  simp only [laws_FnBeginnings.f, laws_big.f]
  refine Ev.some_bind ?_
  by_cases hN : (b.length : Int) > 1048576
  · exact Ev.pos (by simpa using hN) (Ev.now _)
  refine Ev.neg (by simpa using hN) ?_
  obtain ⟨h, e, hc⟩ := new_ev b (by omega)
  obtain ⟨s, i, h2, e2, hs, _⟩ := nameAny_ok b 0 h hc
  have d : Ev (fun k => spec_DrawNameOk.f k b) s := by
    simp only [spec_DrawNameOk.f]
    refine Ev.bind e ?_
    refine Ev.got e2 ?_
    exact Ev.now _
  obtain ⟨n1, n2⟩ := nameOk_ev s (by omega)
  refine Ev.bind d ?_
  refine Ev.bind n2 ?_
  refine Ev.bind n1 ?_
  refine Ev.neg (by simp) ?_
  exact beg_l0 s (by omega) _ rfl s.size 1 (by omega) (by omega)
end Go.Proofs.Ytafmhffapmejpaa.Pure
