/- Trimmed by a program of this session (trim.py). Not trusted: Lean checks it. -/
import Derived.Test.YtbhllgifciaepaaTXHandoffsPFnExactHandoffsx7
import Derived.Test.YtbhllgifciaepaaTXHandoffsBase
namespace Go.Proofs.Ytbhllgifciaepaa.PureFnExactHandoffs
open Go.RowKit Go.Proofs.Ytbhllgifciaepaa.PFnExactHandoffs Go.Proofs.YtbhllgifciaepaaW.PrintWords Go.Proofs.YtbhllgifciaepaaW.PrintLast Go.Proofs.YtbhllgifciaepaaW.PrintMore Go.Proofs.Ytbhllgifciaepaa.Base
set_option linter.unusedVariables false
attribute [local irreducible] Go.bits IntKind.wrap shl shr
theorem rdT_at76 {xs : List S76} {i : Nat} {a : S76} {t : List S76} (h : xs.drop i = a :: t) : rd_T76 xs (i : Int) = a := by
 unfold rd_T76; rw [Int.toNat_natCast]; exact (drop_cons' h _).2.1
def devAt (id : Int) : List S76 → Int × Int × Int × Bool
 | [] => (0, 0, 0, false)
 | d :: t => if d.f0 = id then (d.f0, d.f1, d.f2, true) else devAt id t
theorem devAt_l0s (xs : List S76) (id : Int) (hN : xs.length ≤ 4611686018427387904) : ∀ (l : List S76) (i : Nat), xs.drop i = l → Ev (fun k => spec_DevAt.l0 k xs id (i : Int)) (devAt id l)
 | [], i, h => by
  have h1 := drop_nil' h
  refine Ev.step (f := fun _ => some (0, 0, 0, false)) (fun k => ?_) (Ev.now _)
  rw [spec_DevAt.l0, if_neg (by omega)]
 | a :: t, i, h => by
  obtain ⟨h1, _, h3⟩ := drop_cons' h z76
  have ih := devAt_l0s xs id hN t (i + 1) h3
  refine Ev.step (f := fun k => if a.f0 = id then some (a.f0, a.f1, a.f2, true) else spec_DevAt.l0 k xs id ((i + 1 : Nat) : Int)) (fun k => ?_) ?_
  ·rw [spec_DevAt.l0, if_pos (by omega), if_pos (by omega), rdT_at76 h, w64s h1 hN]
  ·by_cases c : a.f0 = id
   ·rw [devAt, if_pos c]; exact Ev.pos c (Ev.now _)
   ·rw [devAt, if_neg c]; exact Ev.neg c ih
theorem devAt_l0i (xs : List S76) (id : Int) (hN : xs.length ≤ 4611686018427387904) : ∀ (l : List S76) (i : Nat), xs.drop i = l → Ev (fun k => impl_DevAt.l0 k id xs (xs.length : Int) (i : Int)) (devAt id l)
 | [], i, h => by
  have h1 := drop_nil' h
  refine Ev.step (f := fun _ => some (0, 0, 0, false)) (fun k => ?_) (Ev.now _)
  rw [impl_DevAt.l0, if_neg (by omega)]
 | a :: t, i, h => by
  obtain ⟨h1, _, h3⟩ := drop_cons' h z76
  have ih := devAt_l0i xs id hN t (i + 1) h3
  refine Ev.step (f := fun k => if a.f0 = id then some (a.f0, a.f1, a.f2, true) else impl_DevAt.l0 k id xs (xs.length : Int) ((i + 1 : Nat) : Int)) (fun k => ?_) ?_
  ·rw [impl_DevAt.l0, if_pos (by omega), if_pos (by omega), if_pos (by omega), rdT_at76 h, w64s h1 hN]
  ·by_cases c : a.f0 = id
   ·rw [devAt, if_pos c]; exact Ev.pos c (Ev.now _)
   ·rw [devAt, if_neg c]; exact Ev.neg c ih
theorem devAt_ev (xs : List S76) (id : Int) (hN : xs.length ≤ 4611686018427387904) : Ev (fun k => spec_DevAt.f k xs id) (devAt id xs) ∧ Ev (fun k => impl_DevAt.f k xs id) (devAt id xs) :=
 ⟨devAt_l0s xs id hN xs 0 rfl, devAt_l0i xs id hN xs 0 rfl⟩
def hasI : List Int → Int → Bool
 | [], _ => false
 | a :: t, x => if a = x then true else hasI t x
theorem l4Has_l0 (xs : List Int) (x : Int) (hN : xs.length ≤ 4611686018427387904) : ∀ (l : List Int) (i : Nat), xs.drop i = l → Ev (fun k => spec_l4Has.l0 k xs x (i : Int)) (hasI l x)
 | [], i, h => by
  have h1 := drop_nil' h
  refine Ev.step (f := fun _ => some false) (fun k => ?_) (Ev.now _)
  rw [spec_l4Has.l0, if_neg (by omega)]
 | a :: t, i, h => by
  obtain ⟨h1, _, h3⟩ := drop_cons' h 0
  refine Ev.step (f := fun k => if a = x then some true else spec_l4Has.l0 k xs x ((i + 1 : Nat) : Int)) (fun k => ?_) ?_
  ·rw [spec_l4Has.l0, if_pos (by omega), if_pos (by omega), rd_at h, w64s h1 hN]
  ·by_cases c : a = x
   ·rw [hasI, if_pos c]; exact Ev.pos c (Ev.now _)
   ·rw [hasI, if_neg c]; exact Ev.neg c (l4Has_l0 xs x hN t (i + 1) h3)
theorem l4Has_ev (xs : List Int) (x : Int) (hN : xs.length ≤ 4611686018427387904) : Ev (fun k => spec_l4Has.f k xs x) (hasI xs x) := l4Has_l0 xs x hN xs 0 rfl
theorem hasInt_l0 (xs : List Int) (x : Int) (hN : xs.length ≤ 4611686018427387904) : ∀ (l : List Int) (i : Nat), xs.drop i = l → Ev (fun k => impl_hasInt.l0 k x xs (xs.length : Int) (i : Int)) (hasI l x)
 | [], i, h => by
  have h1 := drop_nil' h
  refine Ev.step (f := fun _ => some false) (fun k => ?_) (Ev.now _)
  rw [impl_hasInt.l0, if_neg (by omega)]
 | a :: t, i, h => by
  obtain ⟨h1, _, h3⟩ := drop_cons' h 0
  refine Ev.step (f := fun k => if a = x then some true else impl_hasInt.l0 k x xs (xs.length : Int) ((i + 1 : Nat) : Int)) (fun k => ?_) ?_
  ·rw [impl_hasInt.l0, if_pos (by omega), if_pos (by omega), if_pos (by omega), rd_at h, w64s h1 hN]
  ·by_cases c : a = x
   ·rw [hasI, if_pos c]; exact Ev.pos c (Ev.now _)
   ·rw [hasI, if_neg c]; exact Ev.neg c (hasInt_l0 xs x hN t (i + 1) h3)
theorem hasInt_ev (xs : List Int) (x : Int) (hN : xs.length ≤ 4611686018427387904) : Ev (fun k => impl_hasInt.f k xs x) (hasI xs x) := hasInt_l0 xs x hN xs 0 rfl
def zoneOf (l : List S76) (id : Int) : Option Int := if (devAt id l).2.2.2 = true then some (devAt id l).2.1 else none
def zonesFrom (l : List S76) : List Int → List Int → List Int
 | acc, [] => acc
 | acc, id :: t => match zoneOf l id with
  | none => zonesFrom l acc t
  | some z => if hasI acc z = true then zonesFrom l acc t else zonesFrom l (acc ++ [z]) t
theorem zones_l0 (l : List S76) (ids : List Int) (hl : l.length ≤ 1048576) (hN : ids.length ≤ 1048576) : ∀ (t : List Int) (i : Nat) (acc : List Int), ids.drop i = t → acc.length ≤ i →
  Ev (fun k => spec_l5Zones.l0 k ids l acc (i : Int)) (zonesFrom l acc t) ∧ Ev (fun k => impl_zonesIn.l0 k l acc ids (ids.length : Int) (i : Int)) (zonesFrom l acc t)
 | [], i, acc, h, ha => by
  have h1 := drop_nil' h
  refine ⟨Ev.step (f := fun _ => some acc) (fun k => ?_) (Ev.now _), Ev.step (f := fun _ => some acc) (fun k => ?_) (Ev.now _)⟩
  ·rw [spec_l5Zones.l0, if_neg (by omega)]
  ·rw [impl_zonesIn.l0, if_neg (by omega)]
 | id :: t, i, acc, h, ha => by
  obtain ⟨h1, _, h3⟩ := drop_cons' h 0
  have hr : Hd (rd ids (i : Int) = id) := ⟨rd_at h⟩
  have w : Hd (wrap64 ((i : Int) + 1) = ((i + 1 : Nat) : Int)) := ⟨w64s h1 (by omega)⟩
  obtain ⟨d1, d2⟩ := devAt_ev l id (by omega)
  have ih := fun acc' (ha' : acc'.length ≤ i + 1) => zones_l0 l ids hl hN t (i + 1) acc' h3 ha'
  rw [zonesFrom, zoneOf]
  by_cases c : (devAt id l).2.2.2 = true
  ·simp only [if_pos c]
   by_cases c2 : hasI acc (devAt id l).2.1 = true
   ·rw [if_pos c2]
    refine ⟨Ev.step (fun k => by rw [spec_l5Zones.l0, if_pos (by omega), if_pos (by omega), hr.out, w.out]) ?_, Ev.step (fun k => by rw [impl_zonesIn.l0, if_pos (by omega), if_pos (by omega), if_pos (by omega), hr.out, w.out]) ?_⟩
    ·exact Ev.bind d1 (Ev.pos c (Ev.bind (l4Has_ev acc _ (by omega)) (Ev.pos c2 (ih acc (by omega)).1)))
    ·exact Ev.bind d2 (Ev.pos c (Ev.bind (hasInt_ev acc _ (by omega)) (Ev.pos c2 (ih acc (by omega)).2)))
   ·rw [if_neg c2]
    refine ⟨Ev.step (fun k => by rw [spec_l5Zones.l0, if_pos (by omega), if_pos (by omega), hr.out, w.out]) ?_, Ev.step (fun k => by rw [impl_zonesIn.l0, if_pos (by omega), if_pos (by omega), if_pos (by omega), hr.out, w.out]) ?_⟩
    ·exact Ev.bind d1 (Ev.pos c (Ev.bind (l4Has_ev acc _ (by omega)) (Ev.neg c2 (Ev.pos (by omega) (ih _ (by simp; omega)).1))))
    ·exact Ev.bind d2 (Ev.pos c (Ev.bind (hasInt_ev acc _ (by omega)) (Ev.neg c2 (Ev.pos (by omega) (ih _ (by simp; omega)).2))))
  ·simp only [if_neg c]
   refine ⟨Ev.step (fun k => by rw [spec_l5Zones.l0, if_pos (by omega), if_pos (by omega), hr.out, w.out]) ?_, Ev.step (fun k => by rw [impl_zonesIn.l0, if_pos (by omega), if_pos (by omega), if_pos (by omega), hr.out, w.out]) ?_⟩
   ·exact Ev.bind d1 (Ev.neg c (ih acc (by omega)).1)
   ·exact Ev.bind d2 (Ev.neg c (ih acc (by omega)).2)
def zonesOf (ids : List Int) (l : List S76) : List Int := zonesFrom l [] ids
theorem zones_ev (ids : List Int) (l : List S76) (hN : ids.length ≤ 1048576) (hl : l.length ≤ 1048576) : Ev (fun k => spec_l5Zones.f k ids l) (zonesOf ids l) ∧ Ev (fun k => impl_zonesIn.f k ids l) (zonesOf ids l) :=
 zones_l0 l ids hl hN ids 0 [] rfl (Nat.le_refl _)
def keepBy (p zs : List Int) (w : Bool) : List S76 → List Int
 | [] => []
 | d :: t => if hasI p d.f0 = true then keepBy p zs w t else if hasI zs d.f1 = w then d.f0 :: keepBy p zs w t else keepBy p zs w t
theorem keepBy_len (p zs : List Int) (w : Bool) : ∀ l : List S76, (keepBy p zs w l).length ≤ l.length
 | [] => Nat.le_refl _
 | d :: t => by
  have := keepBy_len p zs w t
  rw [keepBy]
  (repeat' split) <;> simp only [List.length_cons] <;> omega
theorem spec_hand_l1 (l : List S76) (hl : l.length ≤ 1048576) (p zs : List Int) (hp : p.length ≤ 1048576) (hz : zs.length ≤ 1048576) (x : Int) (w : Bool) (hw : (x == 1) = w) (R : List Int) :
  ∀ (t : List S76) (i : Nat) (acc : List Int), l.drop i = t → acc.length + t.length ≤ 4194304 → Ev (fun k => spec_Handoffs.l0 k l p zs (acc ++ keepBy p zs w t) (wrap64 (x + 1))) R → Ev (fun k => spec_Handoffs.l1 k l p zs acc x (i : Int)) R
 | [], i, acc, h, ha, hr => by
  have h1 := drop_nil' h
  rw [keepBy, List.append_nil] at hr
  exact Ev.step (fun k => by rw [spec_Handoffs.l1, if_neg (by omega)]) hr
 | d :: t, i, acc, h, ha, hr => by
  obtain ⟨h1, _, h3⟩ := drop_cons' h z76
  rw [List.length_cons] at ha
  have hrd : Hd (rd_T76 l (i : Int) = d) := ⟨rdT_at76 h⟩
  have wi : Hd (wrap64 ((i : Int) + 1) = ((i + 1 : Nat) : Int)) := ⟨w64s h1 (by omega)⟩
  rw [keepBy] at hr
  refine Ev.step (f := fun k => (spec_l4Has.f k p d.f0).bind fun t1 => if t1 = true then spec_Handoffs.l1 k l p zs acc x ((i + 1 : Nat) : Int) else (spec_l4Has.f k zs d.f1).bind fun t2 => if (t2 == (x == 1)) = true then (if acc.length < 17592186044416 then spec_Handoffs.l1 k l p zs (acc ++ [d.f0]) x ((i + 1 : Nat) : Int) else none) else spec_Handoffs.l1 k l p zs acc x ((i + 1 : Nat) : Int)) (fun k => by rw [spec_Handoffs.l1, if_pos (by omega), if_pos (by omega), hrd.out, wi.out]) (Ev.bind (l4Has_ev p d.f0 (by omega)) ?_)
  by_cases c : hasI p d.f0 = true
  ·rw [if_pos c] at hr
   exact Ev.pos c (spec_hand_l1 l hl p zs hp hz x w hw R t (i + 1) acc h3 (by omega) hr)
  ·rw [if_neg c] at hr
   refine Ev.neg c (Ev.bind (l4Has_ev zs d.f1 (by omega)) ?_)
   by_cases c2 : hasI zs d.f1 = w
   ·rw [if_pos c2] at hr
    refine Ev.pos (by rw [hw, c2, beq_self_eq_true]) (Ev.pos (by omega) ?_)
    exact spec_hand_l1 l hl p zs hp hz x w hw R t (i + 1) (acc ++ [d.f0]) h3 (by simp; omega) (by rw [List.append_assoc]; exact hr)
   ·rw [if_neg c2] at hr
    refine Ev.neg (by rw [hw, beq_iff_eq]; exact c2) ?_
    exact spec_hand_l1 l hl p zs hp hz x w hw R t (i + 1) acc h3 (by omega) hr
def handOf (p zs : List Int) (l : List S76) : List Int := keepBy p zs false l ++ keepBy p zs true l
theorem spec_hand_l0 (l : List S76) (hl : l.length ≤ 1048576) (p zs : List Int) (hp : p.length ≤ 1048576) (hz : zs.length ≤ 1048576) : Ev (fun k => spec_Handoffs.l0 k l p zs [] 0) (handOf p zs l) := by
 have hk := keepBy_len p zs false l
 have e2 : Ev (fun k => spec_Handoffs.l0 k l p zs (handOf p zs l) (wrap64 (1 + 1))) (handOf p zs l) :=
  Ev.step (f := fun _ => some (handOf p zs l)) (fun k => by rw [w64 (x := 1 + 1) (by omega) (by omega), spec_Handoffs.l0, if_neg (by decide)]) (Ev.now _)
 have e1 := spec_hand_l1 l hl p zs hp hz 1 true rfl (handOf p zs l) l 0 (keepBy p zs false l) rfl (by omega) e2
 have e1' : Ev (fun k => spec_Handoffs.l0 k l p zs ([] ++ keepBy p zs false l) (wrap64 (0 + 1))) (handOf p zs l) :=
  Ev.step (f := fun k => spec_Handoffs.l1 k l p zs (keepBy p zs false l) 1 ((0 : Nat) : Int)) (fun k => by rw [List.nil_append, w64 (x := 0 + 1) (by omega) (by omega), spec_Handoffs.l0, if_pos (by decide)]; rfl) e1
 have e0 := spec_hand_l1 l hl p zs hp hz 0 false rfl (handOf p zs l) l 0 [] rfl (by simp; omega) e1'
 exact Ev.step (fun k => by rw [spec_Handoffs.l0, if_pos (by decide)]; rfl) e0
theorem impl_hand_l0 (l : List S76) (hl : l.length ≤ 1048576) (p zs : List Int) (hp : p.length ≤ 1048576) (hz : zs.length ≤ 1048576) :
  ∀ (t : List S76) (i : Nat) (out rest : List Int), l.drop i = t → out.length + t.length ≤ 4194304 → rest.length + t.length ≤ 4194304 → Ev (fun k => impl_Handoffs.l0 k p zs out rest l (l.length : Int) (i : Int)) ((out ++ keepBy p zs false t) ++ (rest ++ keepBy p zs true t))
 | [], i, out, rest, h, h1', h2' => by
  have h1 := drop_nil' h
  refine Ev.step (f := fun _ => some (out ++ rest)) (fun k => ?_) (Ev.eq (Ev.now _) (by rw [keepBy, keepBy, List.append_nil, List.append_nil]))
  rw [impl_Handoffs.l0, if_neg (by omega), if_pos (by omega)]
 | d :: t, i, out, rest, h, h1', h2' => by
  obtain ⟨h1, _, h3⟩ := drop_cons' h z76
  rw [List.length_cons] at h1' h2'
  have hrd : Hd (rd_T76 l (i : Int) = d) := ⟨rdT_at76 h⟩
  have wi : Hd (wrap64 ((i : Int) + 1) = ((i + 1 : Nat) : Int)) := ⟨w64s h1 (by omega)⟩
  rw [keepBy, keepBy]
  refine Ev.step (f := fun k => (impl_hasInt.f k p d.f0).bind fun t1 => if t1 = true then impl_Handoffs.l0 k p zs out rest l (l.length : Int) ((i + 1 : Nat) : Int) else (impl_hasInt.f k zs d.f1).bind fun t2 => if t2 = true then (if rest.length < 17592186044416 then impl_Handoffs.l0 k p zs out (rest ++ [d.f0]) l (l.length : Int) ((i + 1 : Nat) : Int) else none) else (if out.length < 17592186044416 then impl_Handoffs.l0 k p zs (out ++ [d.f0]) rest l (l.length : Int) ((i + 1 : Nat) : Int) else none)) (fun k => by rw [impl_Handoffs.l0, if_pos (by omega), if_pos (by omega), if_pos (by omega), hrd.out, wi.out]) (Ev.bind (hasInt_ev p d.f0 (by omega)) ?_)
  by_cases c : hasI p d.f0 = true
  ·rw [if_pos c, if_pos c]
   exact Ev.pos c (impl_hand_l0 l hl p zs hp hz t (i + 1) out rest h3 (by omega) (by omega))
  ·rw [if_neg c, if_neg c]
   refine Ev.neg c (Ev.bind (hasInt_ev zs d.f1 (by omega)) ?_)
   by_cases c2 : hasI zs d.f1 = true
   ·rw [if_neg (by rw [c2]; decide), if_pos c2]
    refine Ev.pos c2 (Ev.pos (by omega) ?_)
    exact Ev.eq (impl_hand_l0 l hl p zs hp hz t (i + 1) out (rest ++ [d.f0]) h3 (by omega) (by simp; omega)) (by simp only [List.append_assoc, List.cons_append, List.nil_append])
   ·rw [if_pos (Bool.eq_false_iff.mpr c2), if_neg c2]
    refine Ev.neg c2 (Ev.pos (by omega) ?_)
    exact Ev.eq (impl_hand_l0 l hl p zs hp hz t (i + 1) (out ++ [d.f0]) rest h3 (by simp; omega) (by omega)) (by simp only [List.append_assoc, List.cons_append, List.nil_append])
theorem hash_l0 (s : ByteArray) (hN : s.size ≤ 4611686018427387904) (d : Nat) : ∀ (i : Nat) (x : Int), s.size - i = d → 0 ≤ x → x < 4294967296 → ∃ r, Ev (fun k => spec_Hash.l0 k s x (i : Int)) r ∧ Ev (fun k => impl_Hash.l0 k s x (i : Int)) r ∧ 0 ≤ r ∧ r < 4294967296 := by
 induction d with
 | zero =>
  intro i x hd h0 h1
  refine ⟨x, Ev.step (f := fun _ => some x) (fun k => ?_) (Ev.now _), Ev.step (f := fun _ => some x) (fun k => ?_) (Ev.now _), h0, h1⟩
  ·rw [spec_Hash.l0, if_neg (by omega)]
  ·rw [impl_Hash.l0, if_neg (by omega), w64 (by omega) (by omega)]
 | succ d ih =>
  intro i x hd h0 h1
  have hb := bt_range s i
  obtain ⟨e1, e2, e3⟩ := xorSame h0 h1 hb.1 (y := bt s i) (by omega)
  obtain ⟨r, r1, r2, r3⟩ := ih (i + 1) ((Go.bits .xor .u32 x (bt s i) * 16777619) % 4294967296) (by omega) (by omega) (by omega)
  refine ⟨r, Ev.step (fun k => ?_) r1, Ev.step (fun k => ?_) r2, r3⟩
  ·rw [spec_Hash.l0, if_pos (by omega), if_pos (by omega), w64 (x := bt s i) (by omega) (by omega), e1, w64 (by omega) (by omega), andLow32 (by omega) (by omega), w64s (n := i + 1) (by omega) (by omega)]
  ·rw [impl_Hash.l0, if_pos (by omega), if_pos (by omega), show bt s i % 4294967296 = bt s i by omega, w64s (n := i + 1) (by omega) (by omega)]
theorem hash_ev (s : ByteArray) (hN : s.size ≤ 4611686018427387904) : ∃ r, Ev (fun k => spec_Hash.f k s) r ∧ Ev (fun k => impl_Hash.f k s) r ∧ 0 ≤ r ∧ r < 4294967296 :=
 hash_l0 s hN s.size 0 2166136261 (by omega) (by omega) (by omega)
theorem partOf_ev (s : ByteArray) (n : Int) (hN : s.size ≤ 4611686018427387904) : ∃ r, Ev (fun k => spec_PartOf.f k s n) r ∧ Ev (fun k => impl_PartOf.f k s n) r ∧ 0 ≤ r ∧ (1 ≤ n → r < n) := by
 obtain ⟨r, r1, r2, r3, r4⟩ := hash_ev s hN
 by_cases h : n < 1
 ·refine ⟨0, Ev.congr (f := fun _ => some 0) (fun k => ?_) (Ev.now _), Ev.congr (f := fun _ => some 0) (fun k => ?_) (Ev.now _), by omega, by omega⟩
  ·rw [spec_PartOf.f, if_pos h]
  ·rw [impl_PartOf.f, if_pos h]
 ·refine ⟨Int.tmod r n, Ev.congr (fun k => ?_) (Ev.bind (f := fun _ t => some (Int.tmod t n)) r1 (Ev.now _)), Ev.congr (fun k => ?_) (Ev.bind (f := fun _ t => some (Int.tmod t n)) r2 (Ev.now _)), ?_, ?_⟩
  ·simp only [spec_PartOf.f, if_neg h, if_neg (show ¬ n = 0 by omega)]
  ·simp only [impl_PartOf.f, if_neg h, if_neg (show ¬ n = 0 by omega)]
  ·rw [Int.tmod_eq_emod_of_nonneg r3]; exact Int.emod_nonneg _ (by omega)
  ·intro _; rw [Int.tmod_eq_emod_of_nonneg r3]; exact Int.emod_lt_of_pos _ (by omega)
theorem rdT_at29 {xs : List S29} {i : Nat} {a : S29} {t : List S29} (h : xs.drop i = a :: t) : rd_T29 xs (i : Int) = a := by
 unfold rd_T29; rw [Int.toNat_natCast]; exact (drop_cons' h _).2.1
def pick (ps : List S29) (i : Int) : List Int := if ps.length = 0 then [] else (rd_T29 ps i).f0
theorem rdT_mem29 {xs : List S29} {i : Int} (h0 : 0 ≤ i) (h1 : i < xs.length) : rd_T29 xs i ∈ xs := by
 unfold rd_T29
 rw [List.getD_eq_getElem?_getD, List.getElem?_eq_getElem (by omega), Option.getD_some]
 exact List.getElem_mem _
theorem prim_ev (a : Int) (ps : List S29) (s : ByteArray) (hs : s.size ≤ 4611686018427387904) (hN : ps.length ≤ 1048576) (hx : ∀ x ∈ ps, x.f0.length ≤ 1048576) :
  ∃ i, Ev (fun k => spec_Primaries.f k a ps s) (pick ps i) ∧ Ev (fun k => impl_Primaries.f k a ps s) (pick ps i) ∧ (ps.length ≠ 0 → 0 ≤ i ∧ i < ps.length) ∧ (pick ps i).length ≤ 1048576 := by
 by_cases c : (ps.length : Int) = 0
 ·refine ⟨0, ?_, ?_, fun h => absurd (by omega) h, ?_⟩
  ·refine Ev.congr (f := fun _ => some []) (fun k => ?_) (Ev.eq (Ev.now _) ?_)
   ·rw [spec_Primaries.f, if_pos c]
   ·rw [pick, if_pos (by omega)]
  ·refine Ev.congr (f := fun _ => some []) (fun k => ?_) (Ev.eq (Ev.now _) ?_)
   ·rw [impl_Primaries.f, if_pos c]
   ·rw [pick, if_pos (by omega)]
  ·rw [pick, if_pos (by omega)]; exact Nat.zero_le _
 ·obtain ⟨i, p1, p2, i0, i1⟩ := partOf_ev s (ps.length : Int) hs
  have i2 := i1 (by omega)
  have hl := hx _ (rdT_mem29 i0 i2)
  have e : pick ps i = (rd_T29 ps i).f0 := by rw [pick, if_neg (by omega)]
  refine ⟨i, ?_, ?_, fun _ => ⟨i0, i2⟩, by rw [e]; exact hl⟩
  ·rw [e]
   simp only [spec_Primaries.f]
   refine Ev.neg c (Ev.some_bind (Ev.bind p1 (Ev.pos i0 (Ev.pos i2 (Ev.pos (by simp; omega) ?_)))))
   rw [List.nil_append]
   exact Ev.now _
  ·rw [e]
   simp only [impl_Primaries.f]
   refine Ev.neg c (Ev.bind p2 (Ev.pos i0 (Ev.pos i2 ?_)))
   refine Ev.got (a := (rd_T29 ps i).f0) ?_ (Ev.now _)
   rw [impl_copyInts.f, if_pos (by simp; omega), List.nil_append]
theorem zonesFrom_len (l : List S76) : ∀ (t acc : List Int), (zonesFrom l acc t).length ≤ acc.length + t.length
 | [], acc => by rw [zonesFrom]; simp
 | id :: t, acc => by
  rw [zonesFrom]
  rw [List.length_cons]
  split
  ·have := zonesFrom_len l t acc; omega
  ·split
   ·have := zonesFrom_len l t acc; omega
   ·next z _ _ => have := zonesFrom_len l t (acc ++ [z]); rw [List.length_append] at this; simp at this; omega
theorem hand_ev (a : Int) (ps : List S29) (l : List S76) (s : ByteArray) (p : List Int) (hl : l.length ≤ 1048576) (hp : p.length ≤ 1048576) (e1 : Ev (fun k => spec_Primaries.f k a ps s) p) (e2 : Ev (fun k => impl_Primaries.f k a ps s) p) :
  Ev (fun k => spec_Handoffs.f k a ps l s) (handOf p (zonesOf p l) l) ∧ Ev (fun k => impl_Handoffs.f k a ps l s) (handOf p (zonesOf p l) l) := by
 obtain ⟨z1, z2⟩ := zones_ev p l hp hl
 have hz : (zonesOf p l).length ≤ 1048576 := by
  have := zonesFrom_len l p []
  rw [List.length_nil, Nat.zero_add] at this
  exact Nat.le_trans this hp
 simp only [spec_Handoffs.f, impl_Handoffs.f]
 exact ⟨Ev.bind e1 (Ev.bind z1 (spec_hand_l0 l hl p _ hp hz)), Ev.bind e2 (Ev.bind z2 (impl_hand_l0 l hl p _ hp hz l 0 [] [] rfl (by simp; omega) (by simp; omega)))⟩
theorem szPart_eq (l : List Int) (n : Int) (hl : l.length ≤ 9223372036854775807) (h0 : 0 ≤ n) (h1 : n ≤ 1048576) : laws_szPart.f l n = some (if n < l.length then -1 else n - l.length) := by
 unfold laws_szPart.f laws_szIntS.f
 rw [w64 (by omega) (by omega)]
 by_cases h : n < l.length
 ·rw [if_pos (by omega), Option.bind_some, if_pos (by omega), if_pos h]
 ·rw [if_neg (by omega), Option.bind_some, if_neg (by omega), if_neg h]
def Fits (l : List S24) : Prop := l.length ≤ 1048576 ∧ ∀ x ∈ l, x.f0.length ≤ 1048576
theorem rdT_at24 {xs : List S24} {i : Nat} {a : S24} {t : List S24} (h : xs.drop i = a :: t) : rd_T24 xs (i : Int) = a := by
 unfold rd_T24; rw [Int.toNat_natCast]; exact (drop_cons' h _).2.1
theorem szPartS_l0 (xs : List S24) (hN : xs.length ≤ 4611686018427387904) (hx : ∀ x ∈ xs, x.f0.length ≤ 9223372036854775807) : ∀ (l : List S24) (i : Nat) (n : Int), xs.drop i = l → 0 ≤ n → n ≤ 1048576 → ∃ r, Ev (fun k => laws_szPartS.l0 k xs n (i : Int)) r ∧ (r < 0 ∨ (0 ≤ r ∧ r ≤ n ∧ ∀ x ∈ l, x.f0.length ≤ 1048576))
 | [], i, n, h, h0, h1 => by
  have hl := drop_nil' h
  refine ⟨n, Ev.step (f := fun _ => some n) (fun k => ?_) (Ev.now _), Or.inr ⟨h0, Int.le_refl _, by simp⟩⟩
  rw [laws_szPartS.l0, if_neg (by omega)]
 | a :: t, i, n, h, h0, h1 => by
  obtain ⟨hl, _, h3⟩ := drop_cons' h z24
  have ha : a.f0.length ≤ 9223372036854775807 := hx a (List.mem_of_mem_drop (by rw [h]; exact List.mem_cons_self))
  have hz := szPart_eq a.f0 n ha h0 h1
  have w : Hd (wrap64 ((i : Int) + 1) = ((i + 1 : Nat) : Int)) := ⟨w64s hl hN⟩
  have hr : Hd (rd_T24 xs (i : Int) = a) := ⟨rdT_at24 h⟩
  by_cases c : n < a.f0.length
  ·rw [if_pos c] at hz
   refine ⟨-1, Ev.step (f := fun _ => some (-1)) (fun k => ?_) (Ev.now _), Or.inl (by omega)⟩
   rw [laws_szPartS.l0, if_pos (by omega), if_pos (by omega), hr.out, hz, Option.bind_some, if_pos (by omega)]
  ·rw [if_neg c] at hz
   obtain ⟨r, r1, r2⟩ := szPartS_l0 xs hN hx t (i + 1) (n - a.f0.length) h3 (by omega) (by omega)
   refine ⟨r, Ev.step (fun k => ?_) r1, r2.imp id (fun ⟨q0, q1, q2⟩ => ⟨q0, by omega, fun x hm => ?_⟩)⟩
   ·rw [laws_szPartS.l0, if_pos (by omega), if_pos (by omega), hr.out, hz, Option.bind_some, if_neg (by omega), w.out]
   ·rcases List.mem_cons.1 hm with rfl | hm
    ·omega
    ·exact q2 x hm
theorem szRing_ev (a : Int) (l : List S24) (n : Int) (hl : l.length ≤ 9223372036854775807) (hx : ∀ x ∈ l, x.f0.length ≤ 9223372036854775807) (h0 : 0 ≤ n) (h1 : n ≤ 1048576) : ∃ r, Ev (fun k => laws_szRing.f k a l n) r ∧ (r < 0 ∨ (0 ≤ r ∧ r ≤ n ∧ Fits l)) := by
 simp only [laws_szRing.f, laws_szPartS.f]
 have w : Hd (wrap64 (n - (l.length : Int)) = n - l.length) := ⟨w64 (by omega) (by omega)⟩
 simp only [w.out]
 by_cases c : n - (l.length : Int) < 0
 ·simp only [if_pos c]
  refine ⟨-1, Ev.some_bind (Ev.pos (by omega) (Ev.now _)), Or.inl (by omega)⟩
 ·simp only [if_neg c]
  obtain ⟨r, r1, r2⟩ := szPartS_l0 l (by omega) hx l 0 (n - l.length) rfl (by omega) (by omega)
  by_cases c2 : r < 0
  ·exact ⟨-1, Ev.bind r1 (Ev.pos c2 (Ev.now _)), Or.inl (by omega)⟩
  ·refine ⟨r, Ev.bind r1 (Ev.neg c2 (Ev.now _)), Or.inr ?_⟩
   rcases r2 with r2 | ⟨q0, q1, q2⟩
   ·exact absurd r2 c2
   ·exact ⟨q0, by omega, by omega, q2⟩
theorem szDevS_eq (l : List S99) (n : Int) (hl : l.length ≤ 9223372036854775807) (h0 : 0 ≤ n) (h1 : n ≤ 1048576) : laws_szDevS.f l n = some (if n < l.length then -1 else n - l.length) := by
 unfold laws_szDevS.f
 rw [w64 (by omega) (by omega)]
 by_cases h : n < l.length
 ·rw [if_pos (by omega), if_pos h]
 ·rw [if_neg (by omega), if_neg h]
theorem toIntS_l0 (xs : List Int) (hN : xs.length ≤ 4611686018427387904) : ∀ (l : List Int) (i : Nat) (A acc : List Int), xs.drop i = l → A.length = i → acc = A ++ List.replicate l.length 0 → Ev (fun k => laws_toIntS.l0 k xs acc (i : Int)) (A ++ l)
 | [], i, A, acc, h, hA, ha => by
  have h1 := drop_nil' h
  subst ha
  refine Ev.step (f := fun _ => some (A ++ [])) (fun k => ?_) (Ev.now _)
  rw [laws_toIntS.l0, if_neg (by omega)]
  rfl
 | a :: t, i, A, acc, h, hA, ha => by
  obtain ⟨h1, _, h3⟩ := drop_cons' h 0
  have ih := toIntS_l0 xs hN t (i + 1) (A ++ [a]) _ h3 (by simp [hA]) rfl
  subst ha
  have e : (A ++ List.replicate (a :: t).length 0).set ((i : Int)).toNat (rd xs i) = (A ++ [a]) ++ List.replicate t.length 0 := by
   rw [rd_at h, Int.toNat_natCast, ← hA]; exact set_copy A 0 a t.length
  refine Ev.step (f := fun k => laws_toIntS.l0 k xs ((A ++ [a]) ++ List.replicate t.length 0) ((i + 1 : Nat) : Int)) (fun k => ?_) (Ev.eq ih (by simp))
  rw [laws_toIntS.l0, if_pos (by omega), if_pos (by omega), if_pos (by simp only [List.length_append, List.length_replicate, List.length_cons]; omega), e, w64s h1 hN]
theorem toIntS_ev (xs : List Int) (hN : xs.length ≤ 1048576) : Ev (fun k => laws_toIntS.f k xs) xs := by
 refine Ev.congr (f := fun k => laws_toIntS.l0 k xs (List.replicate xs.length 0) ((0 : Nat) : Int)) (fun k => ?_) (toIntS_l0 xs (by omega) xs 0 [] _ rfl rfl rfl)
 rw [laws_toIntS.f, if_pos (by omega), if_pos (by omega), Int.toNat_natCast]; rfl
theorem toPart_ev (xs : List Int) (hN : xs.length ≤ 1048576) : Ev (fun k => laws_toPart.f k xs) xs := by
 simp only [laws_toPart.f]
 refine Ev.bind (toIntS_ev xs hN) ?_
 exact Ev.now _
def toPart (x : S24) : S29 := ⟨x.f0⟩
theorem toPartS_l0 (xs : List S24) (hN : xs.length ≤ 4611686018427387904) (hx : ∀ x ∈ xs, x.f0.length ≤ 1048576) : ∀ (l : List S24) (i : Nat) (A acc : List S29), xs.drop i = l → A.length = i → acc = A ++ List.replicate l.length z29 → Ev (fun k => laws_toPartS.l0 k xs acc (i : Int)) (A ++ l.map toPart)
 | [], i, A, acc, h, hA, ha => by
  have h1 := drop_nil' h
  subst ha
  refine Ev.step (f := fun _ => some (A ++ [])) (fun k => ?_) (Ev.now _)
  rw [laws_toPartS.l0, if_neg (by omega)]
  rfl
 | a :: t, i, A, acc, h, hA, ha => by
  obtain ⟨h1, _, h3⟩ := drop_cons' h z24
  have hal : a.f0.length ≤ 1048576 := hx a (List.mem_of_mem_drop (by rw [h]; exact List.mem_cons_self))
  have ih := toPartS_l0 xs hN hx t (i + 1) (A ++ [toPart a]) _ h3 (by simp [hA]) rfl
  subst ha
  have e : (A ++ List.replicate (a :: t).length z29).set ((i : Int)).toNat (toPart a) = (A ++ [toPart a]) ++ List.replicate t.length z29 := by
   rw [Int.toNat_natCast, ← hA]; exact set_copy A _ (toPart a) t.length
  have hacc : ((i : Int)) < ((A ++ List.replicate (a :: t).length z29).length : Int) := by
   simp only [List.length_append, List.length_replicate, List.length_cons]; omega
  refine Ev.step (f := fun k => (laws_toPart.f k a.f0).bind fun t1 => if ((i : Int)) < ((A ++ List.replicate (a :: t).length z29).length : Int) then laws_toPartS.l0 k xs ((A ++ List.replicate (a :: t).length z29).set ((i : Int)).toNat ⟨t1⟩) (wrap64 ((i : Int) + 1)) else none) (fun k => ?_) ?_
  ·rw [laws_toPartS.l0, if_pos (by omega), if_pos (by omega), rdT_at24 h]
  ·refine Ev.bind (toPart_ev a.f0 hal) ?_
   refine Ev.pos hacc ?_
   rw [w64s h1 hN, show (⟨a.f0⟩ : S29) = toPart a from rfl, e]
   exact Ev.eq ih (by simp)
theorem toRing_ev (a : Int) (l : List S24) (hf : Fits l) : Ev (fun k => laws_toRing.f k a l) (a, l.map toPart) := by
 have hf1 := hf.1
 simp only [laws_toRing.f]
 refine Ev.bind (a := l.map toPart) ?_ (Ev.now _)
 refine Ev.congr (f := fun k => laws_toPartS.l0 k l (List.replicate l.length z29) ((0 : Nat) : Int)) (fun k => ?_) (toPartS_l0 l (by omega) hf.2 l 0 [] _ rfl rfl rfl)
 rw [laws_toPartS.f, if_pos (by omega), if_pos (by omega), Int.toNat_natCast]; rfl
def toDev (x : S99) : S76 := ⟨x.f0, x.f1, x.f2⟩
theorem rdT_at99 {xs : List S99} {i : Nat} {a : S99} {t : List S99} (h : xs.drop i = a :: t) : rd_T99 xs (i : Int) = a := by
 unfold rd_T99; rw [Int.toNat_natCast]; exact (drop_cons' h _).2.1
theorem toDevS_l0 (xs : List S99) (hN : xs.length ≤ 4611686018427387904) : ∀ (l : List S99) (i : Nat) (A acc : List S76), xs.drop i = l → A.length = i → acc = A ++ List.replicate l.length z76 → Ev (fun k => laws_toDevS.l0 k xs acc (i : Int)) (A ++ l.map toDev)
 | [], i, A, acc, h, hA, ha => by
  have h1 := drop_nil' h
  subst ha
  refine Ev.step (f := fun _ => some (A ++ [])) (fun k => ?_) (Ev.now _)
  rw [laws_toDevS.l0, if_neg (by omega)]
  rfl
 | a :: t, i, A, acc, h, hA, ha => by
  obtain ⟨h1, _, h3⟩ := drop_cons' h z99
  have ih := toDevS_l0 xs hN t (i + 1) (A ++ [toDev a]) _ h3 (by simp [hA]) rfl
  subst ha
  have e : (A ++ List.replicate (a :: t).length z76).set ((i : Int)).toNat (toDev a) = (A ++ [toDev a]) ++ List.replicate t.length z76 := by
   rw [Int.toNat_natCast, ← hA]; exact set_copy A _ (toDev a) t.length
  refine Ev.step (f := fun k => laws_toDevS.l0 k xs ((A ++ [toDev a]) ++ List.replicate t.length z76) ((i + 1 : Nat) : Int)) (fun k => ?_) (Ev.eq ih (by simp))
  rw [laws_toDevS.l0, if_pos (by omega), if_pos (by omega), rdT_at99 h, laws_toDev.f, Option.bind_some, if_pos (by simp only [List.length_append, List.length_replicate, List.length_cons]; omega), w64s h1 hN, ← e]
  rfl
theorem toDevS_ev (xs : List S99) (hN : xs.length ≤ 1048576) : Ev (fun k => laws_toDevS.f k xs) (xs.map toDev) := by
 refine Ev.congr (f := fun k => laws_toDevS.l0 k xs (List.replicate xs.length z76) ((0 : Nat) : Int)) (fun k => ?_) (toDevS_l0 xs (by omega) xs 0 [] _ rfl rfl rfl)
 rw [laws_toDevS.f, if_pos (by omega), if_pos (by omega), Int.toNat_natCast]; rfl
theorem eqIntS_l0 (xs : List Int) (hN : xs.length ≤ 4611686018427387904) : ∀ (l : List Int) (i : Nat), xs.drop i = l → Ev (fun k => laws_eqIntS.l0 k xs xs (i : Int)) true
 | [], i, h => by
  have h1 := drop_nil' h
  refine Ev.step (f := fun _ => some true) (fun k => ?_) (Ev.now _)
  rw [laws_eqIntS.l0, if_neg (by omega)]
 | a :: t, i, h => by
  obtain ⟨h1, _, h3⟩ := drop_cons' h 0
  refine Ev.step (f := fun k => laws_eqIntS.l0 k xs xs ((i + 1 : Nat) : Int)) (fun k => ?_) (eqIntS_l0 xs hN t (i + 1) h3)
  rw [laws_eqIntS.l0, if_pos (by omega), if_pos (by omega), if_pos (by omega), if_pos rfl, w64s h1 hN]
theorem eqIntS_ev (xs : List Int) (hN : xs.length ≤ 4611686018427387904) : Ev (fun k => laws_eqIntS.f k xs xs) true := by
 refine Ev.congr (f := fun k => laws_eqIntS.l0 k xs xs ((0 : Nat) : Int)) (fun k => ?_) (eqIntS_l0 xs hN xs 0 rfl)
 rw [laws_eqIntS.f, if_pos rfl]; rfl
theorem eqPart_ev (xs : List Int) (hN : xs.length ≤ 4611686018427387904) : Ev (fun k => laws_eqPart.f k xs xs) true := by
 simp only [laws_eqPart.f]
 refine Ev.bind (eqIntS_ev xs hN) ?_
 exact Ev.pos rfl (Ev.now _)
theorem eqPartS_l0 (xs : List S29) (hN : xs.length ≤ 4611686018427387904) (hx : ∀ x ∈ xs, x.f0.length ≤ 4611686018427387904) : ∀ (l : List S29) (i : Nat), xs.drop i = l → Ev (fun k => laws_eqPartS.l0 k xs xs (i : Int)) true
 | [], i, h => by
  have h1 := drop_nil' h
  refine Ev.step (f := fun _ => some true) (fun k => ?_) (Ev.now _)
  rw [laws_eqPartS.l0, if_neg (by omega)]
 | a :: t, i, h => by
  obtain ⟨h1, _, h3⟩ := drop_cons' h z29
  have hal : a.f0.length ≤ 4611686018427387904 := hx a (List.mem_of_mem_drop (by rw [h]; exact List.mem_cons_self))
  refine Ev.step (f := fun k => (laws_eqPart.f k a.f0 a.f0).bind fun t1 => if t1 = true then laws_eqPartS.l0 k xs xs ((i + 1 : Nat) : Int) else some false) (fun k => ?_) ?_
  ·rw [laws_eqPartS.l0, if_pos (by omega), if_pos (by omega), if_pos (by omega), rdT_at29 h, w64s h1 hN]
  ·refine Ev.bind (eqPart_ev a.f0 hal) ?_
   exact Ev.pos rfl (eqPartS_l0 xs hN hx t (i + 1) h3)
theorem eqRing_ev (a : Int) (xs : List S29) (hN : xs.length ≤ 4611686018427387904) (hx : ∀ x ∈ xs, x.f0.length ≤ 4611686018427387904) : Ev (fun k => laws_eqRing.f k a xs a xs) true := by
 simp only [laws_eqRing.f, laws_eqPartS.f, if_true]
 refine Ev.bind (a := true) (eqPartS_l0 xs hN hx xs 0 rfl) ?_
 exact Ev.pos rfl (Ev.now _)
theorem eqDevS_l0 (xs : List S76) (hN : xs.length ≤ 4611686018427387904) : ∀ (l : List S76) (i : Nat), xs.drop i = l → Ev (fun k => laws_eqDevS.l0 k xs xs (i : Int)) true
 | [], i, h => by
  have h1 := drop_nil' h
  refine Ev.step (f := fun _ => some true) (fun k => ?_) (Ev.now _)
  rw [laws_eqDevS.l0, if_neg (by omega)]
 | a :: t, i, h => by
  obtain ⟨h1, _, h3⟩ := drop_cons' h z76
  refine Ev.step (f := fun k => laws_eqDevS.l0 k xs xs ((i + 1 : Nat) : Int)) (fun k => ?_) (eqDevS_l0 xs hN t (i + 1) h3)
  rw [laws_eqDevS.l0, if_pos (by omega), if_pos (by omega), if_pos (by omega), laws_eqDev.f, if_pos rfl, if_pos rfl, if_pos rfl, Option.bind_some, if_pos rfl, w64s h1 hN]
theorem eqDevS_ev (xs : List S76) (hN : xs.length ≤ 4611686018427387904) : Ev (fun k => laws_eqDevS.f k xs xs) true := by
 refine Ev.congr (f := fun k => laws_eqDevS.l0 k xs xs ((0 : Nat) : Int)) (fun k => ?_) (eqDevS_l0 xs hN xs 0 rfl)
 rw [laws_eqDevS.f, if_pos rfl]; rfl
def lens : List S29 → Nat
 | [] => 0
 | p :: t => p.f0.length + lens t
theorem lens_le (m : Nat) : ∀ l : List S29, (∀ x ∈ l, x.f0.length ≤ m) → lens l ≤ l.length * m
 | [], _ => Nat.zero_le _
 | p :: t, h => by
  have h1 := lens_le m t (fun x hx => h x (List.mem_cons_of_mem _ hx))
  have h2 := h p List.mem_cons_self
  rw [lens, List.length_cons, Nat.succ_mul]
  omega
theorem fits_map {l : List S24} (hf : Fits l) : (l.map toPart).length ≤ 1048576 ∧ (∀ x ∈ l.map toPart, x.f0.length ≤ 1048576) ∧ lens (l.map toPart) ≤ 1099511627776 := by
 have h1 : ∀ x ∈ l.map toPart, x.f0.length ≤ 1048576 := by
  intro x hx
  obtain ⟨y, hy, rfl⟩ := List.mem_map.1 hx
  exact hf.2 y hy
 have h2 := lens_le 1048576 _ h1
 have h3 : (l.map toPart).length ≤ 1048576 := by rw [List.length_map]; exact hf.1
 have h4 := Nat.mul_le_mul_right 1048576 h3
 exact ⟨h3, h1, by omega⟩
def mkI : List Int → Int → List Int
 | [], _ => []
 | _ :: t, c => c :: mkI t (c + 1)
theorem markIntS_l0 : ∀ (l : List Int) (i : Nat) (A xs : List Int) (c : Int), xs = A ++ l → A.length = i → 0 ≤ c → c + l.length ≤ 4611686018427387904 → i + l.length ≤ 4611686018427387904 → Ev (fun k => laws_markIntS.l0 k xs c (i : Int)) (c + l.length, A ++ mkI l c)
 | [], i, A, xs, c, h, hA, h0, h1, h2 => by
  subst h
  refine Ev.step (f := fun _ => some (c + ([] : List Int).length, A ++ mkI [] c)) (fun k => ?_) (Ev.now _)
  rw [laws_markIntS.l0, if_neg (by simp; omega)]
  simp [mkI]
 | a :: t, i, A, xs, c, h, hA, h0, h1, h2 => by
  simp only [List.length_cons] at h1 h2
  have ih := markIntS_l0 t (i + 1) (A ++ [c]) _ (c + 1) rfl (by simp [hA]) (by omega) (by omega) (by omega)
  subst h
  have e : (A ++ a :: t).set ((i : Int)).toNat c = (A ++ [c]) ++ t := by
   rw [Int.toNat_natCast, ← hA]; exact set_mid A a _ t
  refine Ev.step (f := fun k => laws_markIntS.l0 k ((A ++ [c]) ++ t) (c + 1) ((i + 1 : Nat) : Int)) (fun k => ?_) (Ev.eq ih (by simp [mkI]; omega))
  rw [laws_markIntS.l0, if_pos (by simp; omega), if_pos (by omega), e, w64 (by omega) (by omega), w64s (n := i + 1) (by omega) (by omega)]
theorem markIntS_ev (xs : List Int) (c : Int) (h0 : 0 ≤ c) (h1 : c + xs.length ≤ 4611686018427387904) : Ev (fun k => laws_markIntS.f k xs c) (c + xs.length, mkI xs c) := by
 refine Ev.congr (f := fun k => laws_markIntS.l0 k xs c ((0 : Nat) : Int)) (fun k => rfl) (markIntS_l0 xs 0 [] xs c rfl rfl h0 h1 (by omega))
theorem heldIntS_l0 : ∀ (l : List Int) (i : Nat) (A xs : List Int) (c : Int), xs = A ++ mkI l c → A.length = i → 0 ≤ c → c + l.length ≤ 4611686018427387904 → i + l.length ≤ 4611686018427387904 → Ev (fun k => laws_heldIntS.l0 k xs c (i : Int)) (c + l.length)
 | [], i, A, xs, c, h, hA, h0, h1, h2 => by
  subst h
  refine Ev.step (f := fun _ => some (c + ([] : List Int).length)) (fun k => ?_) (Ev.now _)
  rw [laws_heldIntS.l0, if_neg (by simp [mkI]; omega)]
  simp
 | a :: t, i, A, xs, c, h, hA, h0, h1, h2 => by
  simp only [List.length_cons] at h1 h2
  have ih := heldIntS_l0 t (i + 1) (A ++ [c]) _ (c + 1) rfl (by simp [hA]) (by omega) (by omega) (by omega)
  rw [mkI] at h
  have e : A ++ c :: mkI t (c + 1) = (A ++ [c]) ++ mkI t (c + 1) := by simp
  have hr : rd (A ++ c :: mkI t (c + 1)) (i : Int) = c := by rw [← hA]; exact rd_mid _ _ _
  refine Ev.step (f := fun k => laws_heldIntS.l0 k ((A ++ [c]) ++ mkI t (c + 1)) (c + 1) ((i + 1 : Nat) : Int)) (fun k => ?_) (Ev.eq ih (by simp; omega))
  subst h
  rw [laws_heldIntS.l0, if_pos (by simp; omega), if_pos (by omega), if_pos hr, w64 (by omega) (by omega), w64s (n := i + 1) (by omega) (by omega), e]
theorem heldIntS_ev (xs : List Int) (c : Int) (h0 : 0 ≤ c) (h1 : c + xs.length ≤ 4611686018427387904) : Ev (fun k => laws_heldIntS.f k (mkI xs c) c) (c + xs.length) := by
 refine Ev.congr (f := fun k => laws_heldIntS.l0 k (mkI xs c) c ((0 : Nat) : Int)) (fun k => rfl) (heldIntS_l0 xs 0 [] _ c rfl rfl h0 h1 (by omega))
def mkP : List S29 → Int → List S29
 | [], _ => []
 | p :: t, c => ⟨mkI p.f0 c⟩ :: mkP t (c + p.f0.length)
theorem rdT_mid29 (A : List S29) (x : S29) (t : List S29) : rd_T29 (A ++ x :: t) (A.length : Int) = x := by
 unfold rd_T29; rw [Int.toNat_natCast, List.getD_eq_getElem?_getD, List.getElem?_append_right (Nat.le_refl _), Nat.sub_self]; rfl
theorem markPartS_l0 : ∀ (l : List S29) (i : Nat) (A xs : List S29) (c : Int), xs = A ++ l → A.length = i → 0 ≤ c → c + lens l ≤ 4611686018427387904 → i + l.length ≤ 4611686018427387904 → Ev (fun k => laws_markPartS.l0 k xs c (i : Int)) (c + lens l, A ++ mkP l c)
 | [], i, A, xs, c, h, hA, h0, h1, h2 => by
  subst h
  refine Ev.step (f := fun _ => some (c + (lens [] : Nat), A ++ mkP [] c)) (fun k => ?_) (Ev.now _)
  rw [laws_markPartS.l0, if_neg (by simp; omega)]
  simp [mkP, lens]
 | a :: t, i, A, xs, c, h, hA, h0, h1, h2 => by
  simp only [List.length_cons, lens] at h1 h2
  have ih := markPartS_l0 t (i + 1) (A ++ [⟨mkI a.f0 c⟩]) _ (c + a.f0.length) rfl (by simp [hA]) (by omega) (by omega) (by omega)
  subst h
  have e : (A ++ a :: t).set ((i : Int)).toNat (⟨mkI a.f0 c⟩ : S29) = (A ++ [⟨mkI a.f0 c⟩]) ++ t := by
   rw [Int.toNat_natCast, ← hA]; exact set_mid A a _ t
  have hr : rd_T29 (A ++ a :: t) (i : Int) = a := by rw [← hA]; exact rdT_mid29 _ _ _
  refine Ev.step (f := fun k => (laws_markIntS.f k a.f0 c).bind fun q => laws_markPartS.l0 k ((A ++ a :: t).set ((i : Int)).toNat (⟨q.2⟩ : S29)) q.1 ((i + 1 : Nat) : Int)) (fun k => ?_) ?_
  ·rw [laws_markPartS.l0, if_pos (by simp; omega), if_pos (by omega), hr, w64s (n := i + 1) (by omega) (by omega)]
  ·refine Ev.bind (markIntS_ev a.f0 c h0 (by omega)) ?_
   simp only [e]
   exact Ev.eq ih (by simp [mkP, lens]; omega)
theorem markRing_ev (a : Int) (xs : List S29) (c : Int) (h0 : 0 ≤ c) (h1 : c + lens xs ≤ 4611686018427387904) (h2 : xs.length ≤ 4611686018427387904) : Ev (fun k => laws_markRing.f k a xs c) (c + lens xs, mkP xs c) := by
 refine Ev.congr (f := fun k => laws_markPartS.l0 k xs c ((0 : Nat) : Int)) (fun k => rfl) (markPartS_l0 xs 0 [] xs c rfl rfl h0 h1 (by omega))
def mkD : List S76 → Int → List S76
 | [], _ => []
 | _ :: t, c => ⟨c, c + 1, c + 2⟩ :: mkD t (c + 3)
theorem rdT_mid76 (A : List S76) (x : S76) (t : List S76) : rd_T76 (A ++ x :: t) (A.length : Int) = x := by
 unfold rd_T76; rw [Int.toNat_natCast, List.getD_eq_getElem?_getD, List.getElem?_append_right (Nat.le_refl _), Nat.sub_self]; rfl
theorem set_here {α : Type} (A : List α) (x v : α) (t : List α) : (A ++ x :: t).set ((A.length : Int)).toNat v = A ++ v :: t := by
 rw [Int.toNat_natCast, List.set_append_right _ _ (Nat.le_refl _), Nat.sub_self, List.set_cons_zero]
theorem markDevS_l0 : ∀ (l : List S76) (i : Nat) (A xs : List S76) (c : Int), xs = A ++ l → A.length = i → 0 ≤ c → c + 3 * l.length ≤ 4611686018427387904 → i + l.length ≤ 4611686018427387904 → Ev (fun k => laws_markDevS.l0 k xs c (i : Int)) (c + 3 * l.length, A ++ mkD l c)
 | [], i, A, xs, c, h, hA, h0, h1, h2 => by
  subst h
  refine Ev.step (f := fun _ => some (c + 3 * ([] : List S76).length, A ++ mkD [] c)) (fun k => ?_) (Ev.now _)
  rw [laws_markDevS.l0, if_neg (by simp; omega)]
  simp [mkD]
 | a :: t, i, A, xs, c, h, hA, h0, h1, h2 => by
  simp only [List.length_cons] at h1 h2
  have ih := markDevS_l0 t (i + 1) (A ++ [⟨c, c + 1, c + 2⟩]) _ (c + 3) rfl (by simp [hA]) (by omega) (by omega) (by omega)
  subst h
  subst hA
  have w1 : wrap64 (c + 1) = c + 1 := w64 (by omega) (by omega)
  have w2 : wrap64 (c + 1 + 1) = c + 2 := by rw [w64 (by omega) (by omega)]; omega
  have w3 : wrap64 (c + 2 + 1) = c + 3 := by rw [w64 (by omega) (by omega)]; omega
  refine Ev.step (f := fun k => laws_markDevS.l0 k ((A ++ [⟨c, c + 1, c + 2⟩]) ++ t) (c + 3) ((A.length + 1 : Nat) : Int)) (fun k => ?_) (Ev.eq ih (by simp [mkD]; omega))
  have wi : wrap64 ((A.length : Int) + 1) = ((A.length + 1 : Nat) : Int) := w64s (n := A.length + 1) (by omega) (by omega)
  rw [laws_markDevS.l0, if_pos (by simp; omega), if_pos (by omega), rdT_mid76, set_here, Option.bind_some, rdT_mid76, set_here, Option.bind_some, rdT_mid76, set_here, w1, w2, w3, wi]
  simp
theorem markDevS_ev (xs : List S76) (c : Int) (h0 : 0 ≤ c) (h1 : c + 3 * xs.length ≤ 4611686018427387904) : Ev (fun k => laws_markDevS.f k xs c) (c + 3 * xs.length, mkD xs c) := by
 refine Ev.congr (f := fun k => laws_markDevS.l0 k xs c ((0 : Nat) : Int)) (fun k => rfl) (markDevS_l0 xs 0 [] xs c rfl rfl h0 h1 (by omega))
end Go.Proofs.Ytbhllgifciaepaa.PureFnExactHandoffs
namespace Go.Proofs.Ytbhllgifciaepaa.Pure
open Go.RowKit Go.Proofs.Ytbhllgifciaepaa.PFnExactHandoffs Go.Proofs.YtbhllgifciaepaaW.PrintWords Go.Proofs.YtbhllgifciaepaaW.PrintLast Go.Proofs.YtbhllgifciaepaaW.PrintMore Go.Proofs.Ytbhllgifciaepaa.Base Go.Proofs.Ytbhllgifciaepaa.PureFnExactHandoffs
set_option linter.unusedVariables false
attribute [local irreducible] Go.bits IntKind.wrap shl shr
theorem FnExactHandoffs (a : Int) (l : List S24) (m : List S99) (s : ByteArray) (h0 : I64 a ∧ l.length ≤ 9223372036854775807 ∧ ∀ x ∈ l, x.f0.length ≤ 9223372036854775807 ∧ ∀ y ∈ x.f0, I64 y)
  (hm : m.length ≤ 9223372036854775807 ∧ ∀ x ∈ m, I64 x.f0 ∧ I64 x.f1 ∧ I64 x.f2) (_ : s.size ≤ 9223372036854775807) : ∃ k, laws_FnExactHandoffs.f k a l m s = some true := by
 by_cases hs : (s.size : Int) > 1048576
 ·exact ⟨0, by rw [laws_FnExactHandoffs.f, if_pos hs]⟩
 apply Ev.rounds (g := fun k => laws_FnExactHandoffs.f k a l m s)
 simp only [laws_FnExactHandoffs.f]
 refine Ev.neg hs ?_
 obtain ⟨r, r1, r2⟩ := szRing_ev a l 1048576 h0.2.1 (fun x hx => (h0.2.2 x hx).1) (by omega) (by omega)
 refine Ev.bind r1 ?_
 by_cases hr : r < 0
 ·exact Ev.pos hr (Ev.now _)
 rcases r2 with r2 | ⟨hr0, hr1, hf⟩
 ·exact absurd r2 hr
 refine Ev.neg hr ?_
 refine Ev.got (szDevS_eq m r hm.1 hr0 (by omega)) ?_
 by_cases c2 : r < m.length
 ·exact Ev.pos (by rw [if_pos c2]; omega) (Ev.now _)
 refine Ev.neg (by rw [if_neg c2]; omega) ?_
 obtain ⟨f1, f2, f3⟩ := fits_map hf
 obtain ⟨i, p1, p2, _, p3⟩ := prim_ev a (l.map toPart) s (by omega) (by omega) f2
 have hm1 : (m.map toDev).length ≤ 1048576 := by rw [List.length_map]; omega
 obtain ⟨q1, q2⟩ := hand_ev a (l.map toPart) (m.map toDev) s (pick (l.map toPart) i) hm1 p3 p1 p2
 have t1 := toRing_ev a l hf
 have t2 := toDevS_ev m (by omega)
 have e1 := eqRing_ev a (l.map toPart) (by omega) (fun x hx => Nat.le_trans (f2 x hx) (by omega))
 have e3 := eqDevS_ev (m.map toDev) (by omega)
 have k1 := keepBy_len (pick (l.map toPart) i) (zonesOf (pick (l.map toPart) i) (m.map toDev)) false (m.map toDev)
 have k2 := keepBy_len (pick (l.map toPart) i) (zonesOf (pick (l.map toPart) i) (m.map toDev)) true (m.map toDev)
 have hq : (handOf (pick (l.map toPart) i) (zonesOf (pick (l.map toPart) i) (m.map toDev)) (m.map toDev)).length ≤ 4194304 := by rw [handOf, List.length_append]; omega
 clear k1 k2
 generalize handOf (pick (l.map toPart) i) (zonesOf (pick (l.map toPart) i) (m.map toDev)) (m.map toDev) = q at *
 have e2 := eqIntS_ev q (by omega)
 refine Ev.bind t1 (Ev.bind t2 (Ev.bind q1 (Ev.bind t1 (Ev.bind t2 (Ev.bind q2 (Ev.bind e2 (Ev.pos rfl (Ev.bind t1 (Ev.bind e1 (Ev.pos rfl (Ev.bind t2 (Ev.bind e3 (Ev.pos rfl ?_)))))))))))))
 refine Ev.bind (markRing_ev a (l.map toPart) 1 (by omega) (by omega) (by omega)) ?_
 refine Ev.bind (markDevS_ev (m.map toDev) _ (by simp only; omega) (by simp only; omega)) ?_
 refine Ev.neg (by simp only; omega) (Ev.bind e2 (Ev.pos rfl ?_))
 refine Ev.bind (markIntS_ev q 1 (by omega) (by omega)) ?_
 refine Ev.bind (heldIntS_ev q 1 (by omega) (by omega)) ?_
 refine Ev.neg (by omega) (Ev.pos rfl (Ev.bind t1 (Ev.bind t2 (Ev.bind q2 (Ev.bind e2 (Ev.pos rfl ?_))))))
 refine Ev.bind (heldIntS_ev q 1 (by omega) (by omega)) ?_
 exact Ev.neg (by omega) (Ev.pos rfl (Ev.now _))
end Go.Proofs.Ytbhllgifciaepaa.Pure
