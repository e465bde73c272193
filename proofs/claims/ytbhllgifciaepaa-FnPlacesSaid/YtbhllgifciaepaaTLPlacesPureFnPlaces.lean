/- Trimmed by a program of this session (trim.py). Not trusted: Lean checks it. -/
import Derived.Test.YtbhllgifciaepaaTLPlacesPFnPlacesx13
import Derived.Test.YtbhllgifciaepaaTLPlacesBase
namespace Go.Proofs.Ytbhllgifciaepaa.PureFnPlaces
open Go.RowKit Go.Proofs.Ytbhllgifciaepaa.PFnPlaces Go.Proofs.YtbhllgifciaepaaW.PrintWords Go.Proofs.YtbhllgifciaepaaW.PrintLast Go.Proofs.YtbhllgifciaepaaW.PrintMore Go.Proofs.Ytbhllgifciaepaa.Base
set_option linter.unusedVariables false
attribute [local irreducible] Go.bits IntKind.wrap shl shr
def impl_in.f (a0 : Int) (a1 : Int) (a2 : Int) : Option (Bool) := if a0 ≥ a1 then (some (decide (a0 ≤ a2))) else (some false)
def impl_DevsOk.l0 : Nat → List (S76) → List (S76) → Int → Int → Option (Bool)
 | 0, _, _, _, _ => none
 | k + 1, x0, x5, x6, x7 => if x7 < x6 then (if 0 ≤ x7 then (if x7 < (x5.length : Int) then ((impl_in.f ((rd_T76 x5 x7).f0) 0 20).bind fun t371 => (if t371 = true then ((impl_in.f ((rd_T76 x5 x7).f1) 0 20).bind fun t372 => (if t372 = true then ((impl_in.f ((rd_T76 x5 x7).f2) 1 1000).bind fun t373 => (if t373 = true then (if x7 > 0 then (if 0 ≤ (wrap64 (x7 - 1)) then (if (wrap64 (x7 - 1)) < (x0.length : Int) then (if ((rd_T76 x0 (wrap64 (x7 - 1))).f0) ≥ ((rd_T76 x5 x7).f0) then (some false) else (impl_DevsOk.l0 k x0 x5 x6 (wrap64 (x7 + 1)))) else (none)) else (none)) else (impl_DevsOk.l0 k x0 x5 x6 (wrap64 (x7 + 1)))) else (some false))) else (some false))) else (some false))) else (none)) else (none)) else ((impl_in.f (x0.length : Int) 1 12).bind fun t368 => (some t368))
def impl_DevsOk.f (k : Nat) (l0 : List (S76)) : Option (Bool) := impl_DevsOk.l0 k l0 l0 (l0.length : Int) 0
mutual
def impl_LoadOf.l0 : Nat → Int → Int → List (S29) → Int → Int → Option (Int)
 | 0, _, _, _, _, _ => none
 | k + 1, x1, x5, x11, x12, x13 => if x13 < x12 then (if 0 ≤ x13 then (if x13 < (x11.length : Int) then (impl_LoadOf.l1 k x1 x5 x11 x12 x13 ((rd_T29 x11 x13).f0) (((rd_T29 x11 x13).f0).length : Int) 0) else (none)) else (none)) else (some x5)
def impl_LoadOf.l1 : Nat → Int → Int → List (S29) → Int → Int → List Int → Int → Int → Option (Int)
 | 0, _, _, _, _, _, _, _, _ => none
 | k + 1, x1, x5, x11, x12, x13, x18, x19, x20 => if x20 < x19 then (if 0 ≤ x20 then (if x20 < (x18.length : Int) then (if (rd x18 x20) = x1 then (impl_LoadOf.l1 k x1 (wrap64 (x5 + 1)) x11 x12 x13 x18 x19 (wrap64 (x20 + 1))) else (impl_LoadOf.l1 k x1 x5 x11 x12 x13 x18 x19 (wrap64 (x20 + 1)))) else (none)) else (none)) else (impl_LoadOf.l0 k x1 x5 x11 x12 (wrap64 (x13 + 1)))
end
def impl_LoadOf.f (k : Nat) (a0_0 : Int) (l0_1 : List (S29)) (a1 : Int) : Option (Int) := impl_LoadOf.l0 k a1 0 l0_1 (l0_1.length : Int) 0
def impl_Best.l0 : Nat → List Int → Int → Bool → List (S76) → Int → Int → Int → List (S29) → List Int → Int → Int → Int → Option (Int)
 | 0, _, _, _, _, _, _, _, _, _, _, _, _ => none
 | k + 1, x7, x9, x10, x23, x24, x25, x376000, x376001, x377000, x382000, x382001, x382002 => if x25 < x24 then (if 0 ≤ x25 then (if x25 < (x23.length : Int) then ((impl_hasInt.f k x377000 ((rd_T76 x23 x25).f0)).bind fun t384 => (if t384 = true then (impl_Best.l0 k x7 x9 x10 x23 x24 (wrap64 (x25 + 1)) x376000 x376001 x377000 x382000 x382001 x382002) else ((impl_LoadOf.f k x376000 x376001 ((rd_T76 x23 x25).f0)).bind fun t385 => ((impl_hasInt.f k x7 ((rd_T76 x23 x25).f1)).bind fun t386 => (if x382000 < 0 then (impl_Best.l0 k x7 (wrap64 (t385 + 1)) (!t386) x23 x24 (wrap64 (x25 + 1)) x376000 x376001 x377000 ((rd_T76 x23 x25).f0) ((rd_T76 x23 x25).f1) ((rd_T76 x23 x25).f2)) else (if t386 = true then (if ((!t386) == x10) = true then (if (wrap64 ((wrap64 (t385 + 1)) * x382002)) < (wrap64 (x9 * ((rd_T76 x23 x25).f2))) then (impl_Best.l0 k x7 (wrap64 (t385 + 1)) (!t386) x23 x24 (wrap64 (x25 + 1)) x376000 x376001 x377000 ((rd_T76 x23 x25).f0) ((rd_T76 x23 x25).f1) ((rd_T76 x23 x25).f2)) else (impl_Best.l0 k x7 x9 x10 x23 x24 (wrap64 (x25 + 1)) x376000 x376001 x377000 x382000 x382001 x382002)) else (impl_Best.l0 k x7 x9 x10 x23 x24 (wrap64 (x25 + 1)) x376000 x376001 x377000 x382000 x382001 x382002)) else (if x10 = true then (if ((!t386) == x10) = true then (if (wrap64 ((wrap64 (t385 + 1)) * x382002)) < (wrap64 (x9 * ((rd_T76 x23 x25).f2))) then (impl_Best.l0 k x7 (wrap64 (t385 + 1)) (!t386) x23 x24 (wrap64 (x25 + 1)) x376000 x376001 x377000 ((rd_T76 x23 x25).f0) ((rd_T76 x23 x25).f1) ((rd_T76 x23 x25).f2)) else (impl_Best.l0 k x7 x9 x10 x23 x24 (wrap64 (x25 + 1)) x376000 x376001 x377000 x382000 x382001 x382002)) else (impl_Best.l0 k x7 x9 x10 x23 x24 (wrap64 (x25 + 1)) x376000 x376001 x377000 x382000 x382001 x382002)) else (impl_Best.l0 k x7 (wrap64 (t385 + 1)) (!t386) x23 x24 (wrap64 (x25 + 1)) x376000 x376001 x377000 ((rd_T76 x23 x25).f0) ((rd_T76 x23 x25).f1) ((rd_T76 x23 x25).f2))))))))) else (none)) else (none)) else (some x382000)
def impl_Best.f (k : Nat) (a0_0 : Int) (l0_1 : List (S29)) (l1_0 : List Int) (l2 : List (S76)) : Option (Int) := (impl_DevsOk.f k l2).bind fun t377 => (if t377 = true then ((impl_zonesIn.f k l1_0 l2).bind fun t378 => (impl_Best.l0 k t378 0 false l2 (l2.length : Int) 0 a0_0 l0_1 l1_0 (-1) 0 0)) else (some (-1)))
def impl_apart.l0 : Nat → List Int → List Int → Int → Int → Option (Bool)
 | 0, _, _, _, _ => none
 | k + 1, x0, x5, x6, x7 => if x7 < x6 then (if 0 ≤ x7 then (if x7 < (x5.length : Int) then (if x7 ≤ (x0.length : Int) then ((impl_hasInt.f k (x0.take (x7 : Int).toNat) (rd x5 x7)).bind fun t201 => (if t201 = true then (some false) else (impl_apart.l0 k x0 x5 x6 (wrap64 (x7 + 1))))) else (none)) else (none)) else (none)) else (some true)
def impl_apart.f (k : Nat) (l0 : List Int) : Option (Bool) := impl_apart.l0 k l0 l0 (l0.length : Int) 0
mutual
def impl_RingOk.j0 : Nat → List (S76) → Bool → Int → List (S29) → Option (Bool)
 | 0, _, _, _, _ => none
 | k + 1, x1, x26, x203000, x203001 => if x26 = true then (some false) else (impl_RingOk.l0 k x1 x203001 (x203001.length : Int) 0 x203000 x203001)
def impl_RingOk.l0 : Nat → List (S76) → List (S29) → Int → Int → Int → List (S29) → Option (Bool)
 | 0, _, _, _, _, _, _ => none
 | k + 1, x1, x28, x29, x30, x203000, x203001 => if x30 < x29 then (if 0 ≤ x30 then (if x30 < (x28.length : Int) then (if (((rd_T29 x28 x30).f0).length : Int) = x203000 then ((impl_apart.f k ((rd_T29 x28 x30).f0)).bind fun t208 => (impl_RingOk.j2 k x1 x28 x29 x30 (!t208) x203000 x203001 ((rd_T29 x28 x30).f0))) else (impl_RingOk.j2 k x1 x28 x29 x30 true x203000 x203001 ((rd_T29 x28 x30).f0))) else (none)) else (none)) else (some true)
def impl_RingOk.j2 : Nat → List (S76) → List (S29) → Int → Int → Bool → Int → List (S29) → List Int → Option (Bool)
 | 0, _, _, _, _, _, _, _, _ => none
 | k + 1, x1, x28, x29, x30, x45, x203000, x203001, x208000 => if x45 = true then (some false) else (impl_RingOk.l1 k x1 x28 x29 x30 x208000 (x208000.length : Int) 0 x203000 x203001)
def impl_RingOk.l1 : Nat → List (S76) → List (S29) → Int → Int → List Int → Int → Int → Int → List (S29) → Option (Bool)
 | 0, _, _, _, _, _, _, _, _, _ => none
 | k + 1, x1, x28, x29, x30, x47, x48, x49, x203000, x203001 => if x49 < x48 then (if 0 ≤ x49 then (if x49 < (x47.length : Int) then ((impl_DevAt.f k x1 (rd x47 x49)).bind fun bt210 => (if bt210.2.2.2 = true then (impl_RingOk.l1 k x1 x28 x29 x30 x47 x48 (wrap64 (x49 + 1)) x203000 x203001) else (some false))) else (none)) else (none)) else (impl_RingOk.l0 k x1 x28 x29 (wrap64 (x30 + 1)) x203000 x203001)
end
def impl_RingOk.f (k : Nat) (a0_0 : Int) (l0_1 : List (S29)) (l1 : List (S76)) : Option (Bool) := (impl_DevsOk.f k l1).bind fun t203 => (if t203 = true then ((impl_in.f a0_0 1 5).bind fun t204 => (if t204 = true then ((impl_in.f (l0_1.length : Int) 1 64).bind fun t205 => (impl_RingOk.j0 k l1 (!t205) a0_0 l0_1)) else (impl_RingOk.j0 k l1 true a0_0 l0_1))) else (impl_RingOk.j0 k l1 true a0_0 l0_1))
theorem rdT_at76 {xs : List S76} {i : Nat} {a : S76} {t : List S76} (h : xs.drop i = a :: t) : rd_T76 xs (i : Int) = a := by
 unfold rd_T76; rw [Int.toNat_natCast]; exact (drop_cons' h _).2.1
def devAt (id : Int) : List S76 → Int × Int × Int × Bool
 | [] => (0, 0, 0, false)
 | d :: t => if d.f0 = id then (d.f0, d.f1, d.f2, true) else devAt id t
theorem devAt_l0s (xs : List S76) (id : Int) (hN : xs.length ≤ 4611686018427387904) : ∀ (l : List S76) (i : Nat), xs.drop i = l → Ev (fun k => spec_DevAt.l0 k xs id (i : Int)) (devAt id l)
 | [], i, h => by
  have h1 := drop_nil' h
  refine Ev.step (f := fun _ => some (0, 0, 0, false)) (fun k => ?_) (Ev.now _)
  rw [spec_DevAt.l0, if_neg (by omega)]
 | a :: t, i, h => by
  obtain ⟨h1, _, h3⟩ := drop_cons' h z76
  have ih := devAt_l0s xs id hN t (i + 1) h3
  refine Ev.step (f := fun k => if a.f0 = id then some (a.f0, a.f1, a.f2, true) else spec_DevAt.l0 k xs id ((i + 1 : Nat) : Int)) (fun k => ?_) ?_
  ·rw [spec_DevAt.l0, if_pos (by omega), if_pos (by omega), rdT_at76 h, w64s h1 hN]
  ·by_cases c : a.f0 = id
   ·rw [devAt, if_pos c]; exact Ev.pos c (Ev.now _)
   ·rw [devAt, if_neg c]; exact Ev.neg c ih
theorem devAt_l0i (xs : List S76) (id : Int) (hN : xs.length ≤ 4611686018427387904) : ∀ (l : List S76) (i : Nat), xs.drop i = l → Ev (fun k => impl_DevAt.l0 k id xs (xs.length : Int) (i : Int)) (devAt id l)
 | [], i, h => by
  have h1 := drop_nil' h
  refine Ev.step (f := fun _ => some (0, 0, 0, false)) (fun k => ?_) (Ev.now _)
  rw [impl_DevAt.l0, if_neg (by omega)]
 | a :: t, i, h => by
  obtain ⟨h1, _, h3⟩ := drop_cons' h z76
  have ih := devAt_l0i xs id hN t (i + 1) h3
  refine Ev.step (f := fun k => if a.f0 = id then some (a.f0, a.f1, a.f2, true) else impl_DevAt.l0 k id xs (xs.length : Int) ((i + 1 : Nat) : Int)) (fun k => ?_) ?_
  ·rw [impl_DevAt.l0, if_pos (by omega), if_pos (by omega), if_pos (by omega), rdT_at76 h, w64s h1 hN]
  ·by_cases c : a.f0 = id
   ·rw [devAt, if_pos c]; exact Ev.pos c (Ev.now _)
   ·rw [devAt, if_neg c]; exact Ev.neg c ih
theorem devAt_ev (xs : List S76) (id : Int) (hN : xs.length ≤ 4611686018427387904) : Ev (fun k => spec_DevAt.f k xs id) (devAt id xs) ∧ Ev (fun k => impl_DevAt.f k xs id) (devAt id xs) :=
 ⟨devAt_l0s xs id hN xs 0 rfl, devAt_l0i xs id hN xs 0 rfl⟩
def hasI : List Int → Int → Bool
 | [], _ => false
 | a :: t, x => if a = x then true else hasI t x
theorem hasI_iff (l : List Int) (x : Int) : hasI l x = true ↔ x ∈ l := by
 induction l with
 | nil => simp [hasI]
 | cons a t ih =>
  rw [hasI, List.mem_cons]
  by_cases h : a = x
  ·rw [if_pos h]; simp [h]
  ·rw [if_neg h, ih]
   exact ⟨Or.inr, fun hc => hc.elim (fun e => absurd e.symm h) id⟩
theorem l4Has_l0 (xs : List Int) (x : Int) (hN : xs.length ≤ 4611686018427387904) : ∀ (l : List Int) (i : Nat), xs.drop i = l → Ev (fun k => spec_l4Has.l0 k xs x (i : Int)) (hasI l x)
 | [], i, h => by
  have h1 := drop_nil' h
  refine Ev.step (f := fun _ => some false) (fun k => ?_) (Ev.now _)
  rw [spec_l4Has.l0, if_neg (by omega)]
 | a :: t, i, h => by
  obtain ⟨h1, _, h3⟩ := drop_cons' h 0
  refine Ev.step (f := fun k => if a = x then some true else spec_l4Has.l0 k xs x ((i + 1 : Nat) : Int)) (fun k => ?_) ?_
  ·rw [spec_l4Has.l0, if_pos (by omega), if_pos (by omega), rd_at h, w64s h1 hN]
  ·by_cases c : a = x
   ·rw [hasI, if_pos c]; exact Ev.pos c (Ev.now _)
   ·rw [hasI, if_neg c]; exact Ev.neg c (l4Has_l0 xs x hN t (i + 1) h3)
theorem l4Has_ev (xs : List Int) (x : Int) (hN : xs.length ≤ 4611686018427387904) : Ev (fun k => spec_l4Has.f k xs x) (hasI xs x) := l4Has_l0 xs x hN xs 0 rfl
theorem hasInt_l0 (xs : List Int) (x : Int) (hN : xs.length ≤ 4611686018427387904) : ∀ (l : List Int) (i : Nat), xs.drop i = l → Ev (fun k => impl_hasInt.l0 k x xs (xs.length : Int) (i : Int)) (hasI l x)
 | [], i, h => by
  have h1 := drop_nil' h
  refine Ev.step (f := fun _ => some false) (fun k => ?_) (Ev.now _)
  rw [impl_hasInt.l0, if_neg (by omega)]
 | a :: t, i, h => by
  obtain ⟨h1, _, h3⟩ := drop_cons' h 0
  refine Ev.step (f := fun k => if a = x then some true else impl_hasInt.l0 k x xs (xs.length : Int) ((i + 1 : Nat) : Int)) (fun k => ?_) ?_
  ·rw [impl_hasInt.l0, if_pos (by omega), if_pos (by omega), if_pos (by omega), rd_at h, w64s h1 hN]
  ·by_cases c : a = x
   ·rw [hasI, if_pos c]; exact Ev.pos c (Ev.now _)
   ·rw [hasI, if_neg c]; exact Ev.neg c (hasInt_l0 xs x hN t (i + 1) h3)
theorem hasInt_ev (xs : List Int) (x : Int) (hN : xs.length ≤ 4611686018427387904) : Ev (fun k => impl_hasInt.f k xs x) (hasI xs x) := hasInt_l0 xs x hN xs 0 rfl
def zoneOf (l : List S76) (id : Int) : Option Int := if (devAt id l).2.2.2 = true then some (devAt id l).2.1 else none
def zonesFrom (l : List S76) : List Int → List Int → List Int
 | acc, [] => acc
 | acc, id :: t => match zoneOf l id with
  | none => zonesFrom l acc t
  | some z => if hasI acc z = true then zonesFrom l acc t else zonesFrom l (acc ++ [z]) t
theorem zones_l0 (l : List S76) (ids : List Int) (hl : l.length ≤ 1048576) (hN : ids.length ≤ 1048576) : ∀ (t : List Int) (i : Nat) (acc : List Int), ids.drop i = t → acc.length ≤ i →
  Ev (fun k => spec_l5Zones.l0 k ids l acc (i : Int)) (zonesFrom l acc t) ∧ Ev (fun k => impl_zonesIn.l0 k l acc ids (ids.length : Int) (i : Int)) (zonesFrom l acc t)
 | [], i, acc, h, ha => by
  have h1 := drop_nil' h
  refine ⟨Ev.step (f := fun _ => some acc) (fun k => ?_) (Ev.now _), Ev.step (f := fun _ => some acc) (fun k => ?_) (Ev.now _)⟩
  ·rw [spec_l5Zones.l0, if_neg (by omega)]
  ·rw [impl_zonesIn.l0, if_neg (by omega)]
 | id :: t, i, acc, h, ha => by
  obtain ⟨h1, _, h3⟩ := drop_cons' h 0
  have hr : Hd (rd ids (i : Int) = id) := ⟨rd_at h⟩
  have w : Hd (wrap64 ((i : Int) + 1) = ((i + 1 : Nat) : Int)) := ⟨w64s h1 (by omega)⟩
  obtain ⟨d1, d2⟩ := devAt_ev l id (by omega)
  have ih := fun acc' (ha' : acc'.length ≤ i + 1) => zones_l0 l ids hl hN t (i + 1) acc' h3 ha'
  rw [zonesFrom, zoneOf]
  by_cases c : (devAt id l).2.2.2 = true
  ·simp only [if_pos c]
   by_cases c2 : hasI acc (devAt id l).2.1 = true
   ·rw [if_pos c2]
    refine ⟨Ev.step (fun k => by rw [spec_l5Zones.l0, if_pos (by omega), if_pos (by omega), hr.out, w.out]) ?_, Ev.step (fun k => by rw [impl_zonesIn.l0, if_pos (by omega), if_pos (by omega), if_pos (by omega), hr.out, w.out]) ?_⟩
    ·exact Ev.bind d1 (Ev.pos c (Ev.bind (l4Has_ev acc _ (by omega)) (Ev.pos c2 (ih acc (by omega)).1)))
    ·exact Ev.bind d2 (Ev.pos c (Ev.bind (hasInt_ev acc _ (by omega)) (Ev.pos c2 (ih acc (by omega)).2)))
   ·rw [if_neg c2]
    refine ⟨Ev.step (fun k => by rw [spec_l5Zones.l0, if_pos (by omega), if_pos (by omega), hr.out, w.out]) ?_, Ev.step (fun k => by rw [impl_zonesIn.l0, if_pos (by omega), if_pos (by omega), if_pos (by omega), hr.out, w.out]) ?_⟩
    ·exact Ev.bind d1 (Ev.pos c (Ev.bind (l4Has_ev acc _ (by omega)) (Ev.neg c2 (Ev.pos (by omega) (ih _ (by simp; omega)).1))))
    ·exact Ev.bind d2 (Ev.pos c (Ev.bind (hasInt_ev acc _ (by omega)) (Ev.neg c2 (Ev.pos (by omega) (ih _ (by simp; omega)).2))))
  ·simp only [if_neg c]
   refine ⟨Ev.step (fun k => by rw [spec_l5Zones.l0, if_pos (by omega), if_pos (by omega), hr.out, w.out]) ?_, Ev.step (fun k => by rw [impl_zonesIn.l0, if_pos (by omega), if_pos (by omega), if_pos (by omega), hr.out, w.out]) ?_⟩
   ·exact Ev.bind d1 (Ev.neg c (ih acc (by omega)).1)
   ·exact Ev.bind d2 (Ev.neg c (ih acc (by omega)).2)
def zonesOf (ids : List Int) (l : List S76) : List Int := zonesFrom l [] ids
theorem zones_ev (ids : List Int) (l : List S76) (hN : ids.length ≤ 1048576) (hl : l.length ≤ 1048576) : Ev (fun k => spec_l5Zones.f k ids l) (zonesOf ids l) ∧ Ev (fun k => impl_zonesIn.f k ids l) (zonesOf ids l) :=
 zones_l0 l ids hl hN ids 0 [] rfl (Nat.le_refl _)
theorem zonesFrom_len (l : List S76) : ∀ (t acc : List Int), (zonesFrom l acc t).length ≤ acc.length + t.length
 | [], acc => by rw [zonesFrom]; simp
 | id :: t, acc => by
  rw [zonesFrom]
  rw [List.length_cons]
  split
  ·have := zonesFrom_len l t acc; omega
  ·split
   ·have := zonesFrom_len l t acc; omega
   ·next z _ _ => have := zonesFrom_len l t (acc ++ [z]); rw [List.length_append] at this; simp at this; omega
theorem l1In_eq (x a b : Int) : spec_l1In.f x a b = some (decide (a ≤ x ∧ x ≤ b)) := by
 unfold spec_l1In.f
 by_cases h : x ≥ a
 ·rw [if_pos h]; simp [show a ≤ x from h]
 ·rw [if_neg h]; simp [show ¬ a ≤ x from h]
theorem in_eq (x a b : Int) : impl_in.f x a b = some (decide (a ≤ x ∧ x ≤ b)) := by
 unfold impl_in.f
 by_cases h : x ≥ a
 ·rw [if_pos h]; simp [show a ≤ x from h]
 ·rw [if_neg h]; simp [show ¬ a ≤ x from h]
def devsFrom (len : Nat) : Option S76 → List S76 → Bool
 | _, [] => decide (1 ≤ (len : Int) ∧ (len : Int) ≤ 12)
 | pr, d :: t => if (0 ≤ d.f0 ∧ d.f0 ≤ 20) ∧ (0 ≤ d.f1 ∧ d.f1 ≤ 20) ∧ (1 ≤ d.f2 ∧ d.f2 ≤ 1000) ∧ (∀ q, pr = some q → q.f0 < d.f0) then devsFrom len (some d) t else false
def devsOk (l : List S76) : Bool := devsFrom l.length none l
theorem devsOk_l0 (xs : List S76) (hN : xs.length ≤ 4611686018427387904) : ∀ (l : List S76) (i : Nat) (pr : Option S76), xs.drop i = l → (∀ q, pr = some q ↔ ∃ j, i = j + 1 ∧ xs[j]? = some q) →
  Ev (fun k => spec_DevsOk.l0 k xs (i : Int)) (devsFrom xs.length pr l) ∧ Ev (fun k => impl_DevsOk.l0 k xs xs (xs.length : Int) (i : Int)) (devsFrom xs.length pr l)
 | [], i, pr, h, hp => by
  have h1 := drop_nil' h
  refine ⟨Ev.step (f := fun _ => some (devsFrom xs.length pr [])) (fun k => ?_) (Ev.now _), Ev.step (f := fun _ => some (devsFrom xs.length pr [])) (fun k => ?_) (Ev.now _)⟩
  ·rw [spec_DevsOk.l0, if_neg (by omega), l1In_eq]; rfl
  ·rw [impl_DevsOk.l0, if_neg (by omega), in_eq]; rfl
 | d :: t, i, pr, h, hp => by
  obtain ⟨h1, hd, h3⟩ := drop_cons' h z76
  have hdi : xs[i]? = some d := by
   rw [List.getElem?_eq_getElem h1]; rw [List.getD_eq_getElem?_getD, List.getElem?_eq_getElem h1] at hd; exact congrArg some hd
  have hr : Hd (rd_T76 xs (i : Int) = d) := ⟨rdT_at76 h⟩
  have w : Hd (wrap64 ((i : Int) + 1) = ((i + 1 : Nat) : Int)) := ⟨w64s h1 hN⟩
  obtain ⟨i1, i2⟩ := devsOk_l0 xs hN t (i + 1) (some d) h3 (fun q => ⟨fun e => ⟨i, rfl, by rw [← e]; exact hdi⟩, fun ⟨j, e1, e2⟩ => by
   have : j = i := by omega
   subst this
   rw [hdi] at e2; exact e2⟩)
  rw [devsFrom]
  by_cases c0 : 0 ≤ d.f0 ∧ d.f0 ≤ 20
  ·by_cases c1 : 0 ≤ d.f1 ∧ d.f1 ≤ 20
   ·by_cases c2 : 1 ≤ d.f2 ∧ d.f2 ≤ 1000
    ·rcases Nat.eq_zero_or_pos i with hi | hi
     ·have hn : pr = none := by
       cases pr with
       | none => rfl
       | some q => obtain ⟨j, e1, _⟩ := (hp q).1 rfl; omega
      rw [if_pos ⟨c0, c1, c2, fun q e => by rw [hn] at e; cases e⟩]
      refine ⟨Ev.step (fun k => ?_) i1, Ev.step (fun k => ?_) i2⟩
      ·rw [spec_DevsOk.l0, if_pos (by omega), if_pos (by omega), hr.out, l1In_eq, Option.bind_some, decide_eq_true c0, if_pos rfl, l1In_eq, Option.bind_some, decide_eq_true c1, if_pos rfl, l1In_eq, Option.bind_some, decide_eq_true c2, if_pos rfl, if_neg (by omega), w.out]
      ·rw [impl_DevsOk.l0, if_pos (by omega), if_pos (by omega), if_pos (by omega), hr.out, in_eq, Option.bind_some, decide_eq_true c0, if_pos rfl, in_eq, Option.bind_some, decide_eq_true c1, if_pos rfl, in_eq, Option.bind_some, decide_eq_true c2, if_pos rfl, if_neg (by omega), w.out]
     ·obtain ⟨j, rfl⟩ : ∃ j, i = j + 1 := ⟨i - 1, by omega⟩
      have hj : j < xs.length := by omega
      have hq : pr = some xs[j] := (hp xs[j]).2 ⟨j, rfl, List.getElem?_eq_getElem hj⟩
      have wm : Hd (wrap64 (((j + 1 : Nat) : Int) - 1) = (j : Int)) := ⟨by rw [w64 (by omega) (by omega)]; omega⟩
      have hrj : Hd (rd_T76 xs (j : Int) = xs[j]) := ⟨by
       unfold rd_T76; rw [Int.toNat_natCast, List.getD_eq_getElem?_getD, List.getElem?_eq_getElem hj]; rfl⟩
      by_cases c3 : xs[j].f0 < d.f0
      ·rw [if_pos ⟨c0, c1, c2, fun q e => by rw [hq] at e; injection e with e; rw [← e]; exact c3⟩]
       refine ⟨Ev.step (fun k => ?_) i1, Ev.step (fun k => ?_) i2⟩
       ·rw [spec_DevsOk.l0, if_pos (by omega), if_pos (by omega), hr.out, l1In_eq, Option.bind_some, decide_eq_true c0, if_pos rfl, l1In_eq, Option.bind_some, decide_eq_true c1, if_pos rfl, l1In_eq, Option.bind_some, decide_eq_true c2, if_pos rfl, if_pos (by omega), wm.out, if_pos (by omega), if_pos (by omega), hrj.out, if_neg (by omega), w.out]
       ·rw [impl_DevsOk.l0, if_pos (by omega), if_pos (by omega), if_pos (by omega), hr.out, in_eq, Option.bind_some, decide_eq_true c0, if_pos rfl, in_eq, Option.bind_some, decide_eq_true c1, if_pos rfl, in_eq, Option.bind_some, decide_eq_true c2, if_pos rfl, if_pos (by omega), wm.out, if_pos (by omega), if_pos (by omega), hrj.out, if_neg (by omega), w.out]
      ·rw [if_neg (fun hc => c3 (hc.2.2.2 _ hq))]
       refine ⟨Ev.step (f := fun _ => some false) (fun k => ?_) (Ev.now _), Ev.step (f := fun _ => some false) (fun k => ?_) (Ev.now _)⟩
       ·rw [spec_DevsOk.l0, if_pos (by omega), if_pos (by omega), hr.out, l1In_eq, Option.bind_some, decide_eq_true c0, if_pos rfl, l1In_eq, Option.bind_some, decide_eq_true c1, if_pos rfl, l1In_eq, Option.bind_some, decide_eq_true c2, if_pos rfl, if_pos (by omega), wm.out, if_pos (by omega), if_pos (by omega), hrj.out, if_pos (by omega)]
       ·rw [impl_DevsOk.l0, if_pos (by omega), if_pos (by omega), if_pos (by omega), hr.out, in_eq, Option.bind_some, decide_eq_true c0, if_pos rfl, in_eq, Option.bind_some, decide_eq_true c1, if_pos rfl, in_eq, Option.bind_some, decide_eq_true c2, if_pos rfl, if_pos (by omega), wm.out, if_pos (by omega), if_pos (by omega), hrj.out, if_pos (by omega)]
    ·rw [if_neg (fun hc => c2 hc.2.2.1)]
     refine ⟨Ev.step (f := fun _ => some false) (fun k => ?_) (Ev.now _), Ev.step (f := fun _ => some false) (fun k => ?_) (Ev.now _)⟩
     ·rw [spec_DevsOk.l0, if_pos (by omega), if_pos (by omega), hr.out, l1In_eq, Option.bind_some, decide_eq_true c0, if_pos rfl, l1In_eq, Option.bind_some, decide_eq_true c1, if_pos rfl, l1In_eq, Option.bind_some, decide_eq_false c2, if_neg (by decide)]
     ·rw [impl_DevsOk.l0, if_pos (by omega), if_pos (by omega), if_pos (by omega), hr.out, in_eq, Option.bind_some, decide_eq_true c0, if_pos rfl, in_eq, Option.bind_some, decide_eq_true c1, if_pos rfl, in_eq, Option.bind_some, decide_eq_false c2, if_neg (by decide)]
   ·rw [if_neg (fun hc => c1 hc.2.1)]
    refine ⟨Ev.step (f := fun _ => some false) (fun k => ?_) (Ev.now _), Ev.step (f := fun _ => some false) (fun k => ?_) (Ev.now _)⟩
    ·rw [spec_DevsOk.l0, if_pos (by omega), if_pos (by omega), hr.out, l1In_eq, Option.bind_some, decide_eq_true c0, if_pos rfl, l1In_eq, Option.bind_some, decide_eq_false c1, if_neg (by decide)]
    ·rw [impl_DevsOk.l0, if_pos (by omega), if_pos (by omega), if_pos (by omega), hr.out, in_eq, Option.bind_some, decide_eq_true c0, if_pos rfl, in_eq, Option.bind_some, decide_eq_false c1, if_neg (by decide)]
  ·rw [if_neg (fun hc => c0 hc.1)]
   refine ⟨Ev.step (f := fun _ => some false) (fun k => ?_) (Ev.now _), Ev.step (f := fun _ => some false) (fun k => ?_) (Ev.now _)⟩
   ·rw [spec_DevsOk.l0, if_pos (by omega), if_pos (by omega), hr.out, l1In_eq, Option.bind_some, decide_eq_false c0, if_neg (by decide)]
   ·rw [impl_DevsOk.l0, if_pos (by omega), if_pos (by omega), if_pos (by omega), hr.out, in_eq, Option.bind_some, decide_eq_false c0, if_neg (by decide)]
theorem devsOk_ev (xs : List S76) (hN : xs.length ≤ 4611686018427387904) : Ev (fun k => spec_DevsOk.f k xs) (devsOk xs) ∧ Ev (fun k => impl_DevsOk.f k xs) (devsOk xs) :=
 devsOk_l0 xs hN xs 0 none rfl (fun q => ⟨fun e => (by cases e), fun ⟨j, e, _⟩ => (by omega)⟩)
theorem rdT_at29 {xs : List S29} {i : Nat} {a : S29} {t : List S29} (h : xs.drop i = a :: t) : rd_T29 xs (i : Int) = a := by
 unfold rd_T29; rw [Int.toNat_natCast]; exact (drop_cons' h _).2.1
def cntI (id : Int) : List Int → Nat
 | [] => 0
 | a :: t => (if a = id then 1 else 0) + cntI id t
def loadOf (id : Int) : List S29 → Nat
 | [] => 0
 | p :: t => cntI id p.f0 + loadOf id t
def lens : List S29 → Nat
 | [] => 0
 | p :: t => p.f0.length + lens t
theorem cntI_le (id : Int) : ∀ l : List Int, cntI id l ≤ l.length
 | [] => Nat.le_refl _
 | a :: t => by
  have := cntI_le id t
  rw [cntI, List.length_cons]
  split <;> omega
theorem loadOf_le (id : Int) : ∀ l : List S29, loadOf id l ≤ lens l
 | [] => Nat.le_refl _
 | p :: t => by
  have h1 := loadOf_le id t
  have h2 := cntI_le id p.f0
  rw [loadOf, lens]
  omega
theorem lens_le (m : Nat) : ∀ l : List S29, (∀ x ∈ l, x.f0.length ≤ m) → lens l ≤ l.length * m
 | [], _ => Nat.zero_le _
 | p :: t, h => by
  have h1 := lens_le m t (fun x hx => h x (List.mem_cons_of_mem _ hx))
  have h2 := h p List.mem_cons_self
  rw [lens, List.length_cons, Nat.succ_mul]
  omega
theorem spec_loadOf_l1 (ps : List S29) (p : S29) (id reps : Int) (i : Nat) (hi : i < ps.length) (hp : rd_T29 ps (i : Int) = p) (hN : p.f0.length ≤ 4611686018427387904) (r : Int) :
  ∀ (l : List Int) (j : Nat) (n : Nat), p.f0.drop j = l → n + l.length ≤ 4611686018427387904 → Ev (fun k => spec_LoadOf.l0 k id ((n + cntI id l : Nat) : Int) (wrap64 ((i : Int) + 1)) reps ps) r → Ev (fun k => spec_LoadOf.l1 k id (n : Int) (i : Int) (j : Int) reps ps) r
 | [], j, n, h, hn, hr => by
  have h1 := drop_nil' h
  refine Ev.step (fun k => ?_) hr
  rw [spec_LoadOf.l1, if_pos (by omega), if_pos (by omega), hp, if_neg (by omega)]
  rfl
 | a :: t, j, n, h, hn, hr => by
  obtain ⟨h1, _, h3⟩ := drop_cons' h 0
  rw [List.length_cons] at hn
  have hrd : Hd (rd p.f0 (j : Int) = a) := ⟨rd_at h⟩
  have w : Hd (wrap64 ((j : Int) + 1) = ((j + 1 : Nat) : Int)) := ⟨w64s h1 hN⟩
  have wn : Hd (wrap64 ((n : Int) + 1) = ((n + 1 : Nat) : Int)) := ⟨w64s (n := n + 1) (by omega) (by omega)⟩
  by_cases c : a = id
  ·rw [cntI, if_pos c] at hr
   refine Ev.step (fun k => ?_) (spec_loadOf_l1 ps p id reps i hi hp hN r t (j + 1) (n + 1) h3 (by omega) (by rw [show n + 1 + cntI id t = n + (1 + cntI id t) by omega]; exact hr))
   rw [spec_LoadOf.l1, if_pos (by omega), if_pos (by omega), hp, if_pos (by omega), if_pos (by omega), hrd.out, if_pos c, w.out, wn.out]
  ·rw [cntI, if_neg c, Nat.zero_add] at hr
   refine Ev.step (fun k => ?_) (spec_loadOf_l1 ps p id reps i hi hp hN r t (j + 1) n h3 (by omega) hr)
   rw [spec_LoadOf.l1, if_pos (by omega), if_pos (by omega), hp, if_pos (by omega), if_pos (by omega), hrd.out, if_neg c, w.out]
theorem spec_loadOf_l0 (ps : List S29) (id reps : Int) (hN : ps.length ≤ 4611686018427387904) : ∀ (l : List S29) (i n : Nat), ps.drop i = l → n + lens l ≤ 4611686018427387904 → Ev (fun k => spec_LoadOf.l0 k id (n : Int) (i : Int) reps ps) ((n + loadOf id l : Nat) : Int)
 | [], i, n, h, hn => by
  have h1 := drop_nil' h
  refine Ev.step (f := fun _ => some (n : Int)) (fun k => ?_) (Ev.now _)
  rw [spec_LoadOf.l0, if_neg (by omega)]
 | p :: t, i, n, h, hn => by
  obtain ⟨h1, _, h3⟩ := drop_cons' h z29
  rw [lens] at hn
  have hc := cntI_le id p.f0
  have ih := spec_loadOf_l0 ps id reps hN t (i + 1) (n + cntI id p.f0) h3 (by omega)
  have hr : Ev (fun k => spec_LoadOf.l1 k id (n : Int) (i : Int) ((0 : Nat) : Int) reps ps) ((n + loadOf id (p :: t) : Nat) : Int) :=
   spec_loadOf_l1 ps p id reps i h1 (rdT_at29 h) (by omega) _ p.f0 0 n rfl (by omega) (by rw [w64s h1 hN, loadOf, ← Nat.add_assoc]; exact ih)
  refine Ev.step (fun k => ?_) hr
  rw [spec_LoadOf.l0, if_pos (by omega)]
  rfl
theorem spec_loadOf_ev (a : Int) (ps : List S29) (id : Int) (hN : ps.length ≤ 4611686018427387904) (hl : lens ps ≤ 4611686018427387904) : Ev (fun k => spec_LoadOf.f k a ps id) ((loadOf id ps : Nat) : Int) := by
 have h := spec_loadOf_l0 ps id a hN ps 0 0 rfl (by omega)
 rw [Nat.zero_add] at h
 exact h
theorem impl_loadOf_l1 (ps : List S29) (xs : List Int) (id : Int) (n0 i : Int) (hN : xs.length ≤ 4611686018427387904) (r : Int) :
  ∀ (l : List Int) (j : Nat) (n : Nat), xs.drop j = l → n + l.length ≤ 4611686018427387904 → Ev (fun k => impl_LoadOf.l0 k id ((n + cntI id l : Nat) : Int) ps n0 (wrap64 (i + 1))) r → Ev (fun k => impl_LoadOf.l1 k id (n : Int) ps n0 i xs (xs.length : Int) (j : Int)) r
 | [], j, n, h, hn, hr => by
  have h1 := drop_nil' h
  refine Ev.step (fun k => ?_) hr
  rw [impl_LoadOf.l1, if_neg (by omega)]
  rfl
 | a :: t, j, n, h, hn, hr => by
  obtain ⟨h1, _, h3⟩ := drop_cons' h 0
  rw [List.length_cons] at hn
  have hrd : Hd (rd xs (j : Int) = a) := ⟨rd_at h⟩
  have w : Hd (wrap64 ((j : Int) + 1) = ((j + 1 : Nat) : Int)) := ⟨w64s h1 hN⟩
  have wn : Hd (wrap64 ((n : Int) + 1) = ((n + 1 : Nat) : Int)) := ⟨w64s (n := n + 1) (by omega) (by omega)⟩
  by_cases c : a = id
  ·rw [cntI, if_pos c] at hr
   refine Ev.step (fun k => ?_) (impl_loadOf_l1 ps xs id n0 i hN r t (j + 1) (n + 1) h3 (by omega) (by rw [show n + 1 + cntI id t = n + (1 + cntI id t) by omega]; exact hr))
   rw [impl_LoadOf.l1, if_pos (by omega), if_pos (by omega), if_pos (by omega), hrd.out, if_pos c, w.out, wn.out]
  ·rw [cntI, if_neg c, Nat.zero_add] at hr
   refine Ev.step (fun k => ?_) (impl_loadOf_l1 ps xs id n0 i hN r t (j + 1) n h3 (by omega) hr)
   rw [impl_LoadOf.l1, if_pos (by omega), if_pos (by omega), if_pos (by omega), hrd.out, if_neg c, w.out]
theorem impl_loadOf_l0 (ps : List S29) (id : Int) (hN : ps.length ≤ 4611686018427387904) : ∀ (l : List S29) (i n : Nat), ps.drop i = l → n + lens l ≤ 4611686018427387904 → Ev (fun k => impl_LoadOf.l0 k id (n : Int) ps (ps.length : Int) (i : Int)) ((n + loadOf id l : Nat) : Int)
 | [], i, n, h, hn => by
  have h1 := drop_nil' h
  refine Ev.step (f := fun _ => some (n : Int)) (fun k => ?_) (Ev.now _)
  rw [impl_LoadOf.l0, if_neg (by omega)]
 | p :: t, i, n, h, hn => by
  obtain ⟨h1, _, h3⟩ := drop_cons' h z29
  rw [lens] at hn
  have hc := cntI_le id p.f0
  have ih := impl_loadOf_l0 ps id hN t (i + 1) (n + cntI id p.f0) h3 (by omega)
  have hr : Ev (fun k => impl_LoadOf.l1 k id (n : Int) ps (ps.length : Int) (i : Int) p.f0 (p.f0.length : Int) ((0 : Nat) : Int)) ((n + loadOf id (p :: t) : Nat) : Int) :=
   impl_loadOf_l1 ps p.f0 id _ _ (by omega) _ p.f0 0 n rfl (by omega) (by rw [w64s h1 hN, loadOf, ← Nat.add_assoc]; exact ih)
  refine Ev.step (fun k => ?_) hr
  rw [impl_LoadOf.l0, if_pos (by omega), if_pos (by omega), if_pos (by omega), rdT_at29 h]
  rfl
theorem impl_loadOf_ev (a : Int) (ps : List S29) (id : Int) (hN : ps.length ≤ 4611686018427387904) (hl : lens ps ≤ 4611686018427387904) : Ev (fun k => impl_LoadOf.f k a ps id) ((loadOf id ps : Nat) : Int) := by
 have h := impl_loadOf_l0 ps id hN ps 0 0 rfl (by omega)
 rw [Nat.zero_add] at h
 exact h
theorem devsFrom_mem (n : Nat) : ∀ (l : List S76) (pr : Option S76), devsFrom n pr l = true → ∀ d ∈ l, (0 ≤ d.f0 ∧ d.f0 ≤ 20) ∧ (0 ≤ d.f1 ∧ d.f1 ≤ 20) ∧ (1 ≤ d.f2 ∧ d.f2 ≤ 1000)
 | [], _, _, d, hd => by cases hd
 | a :: t, pr, h, d, hd => by
  rw [devsFrom] at h
  by_cases c : (0 ≤ a.f0 ∧ a.f0 ≤ 20) ∧ (0 ≤ a.f1 ∧ a.f1 ≤ 20) ∧ (1 ≤ a.f2 ∧ a.f2 ≤ 1000) ∧ (∀ q, pr = some q → q.f0 < a.f0)
  ·rw [if_pos c] at h
   rcases List.mem_cons.1 hd with rfl | hd
   ·exact ⟨c.1, c.2.1, c.2.2.1⟩
   ·exact devsFrom_mem n t (some a) h d hd
  ·rw [if_neg c] at h
   cases h
theorem wmul {n : Nat} {w : Int} (hn : n ≤ 1099511627776) (h0 : 1 ≤ w) (h1 : w ≤ 1000) : wrap64 (((n : Int) + 1) * w) = ((n : Int) + 1) * w := by
 have h2 : ((n : Int) + 1) * w ≤ 1099511627777 * 1000 := Int.mul_le_mul (by omega) h1 (by omega) (by omega)
 have h3 : 0 ≤ ((n : Int) + 1) * w := Int.mul_nonneg (by omega) (by omega)
 exact w64 (by omega) (by omega)
theorem wone {n : Nat} (hn : n ≤ 1099511627776) : wrap64 ((n : Int) + 1) = (n : Int) + 1 := w64 (by omega) (by omega)
abbrev lighter (r : List S29) (d q : S76) : Prop := ((loadOf d.f0 r : Nat) + 1 : Int) * q.f2 < ((loadOf q.f0 r : Nat) + 1 : Int) * d.f2
def bestFrom (r : List S29) (prt zs : List Int) : Option S76 → Bool → List S76 → Option S76
 | b, _, [] => b
 | b, fr, d :: t => if hasI prt d.f0 = true then bestFrom r prt zs b fr t else
  match b with
  | none => bestFrom r prt zs (some d) (!hasI zs d.f1) t
  | some q => if hasI zs d.f1 = false ∧ fr = false then bestFrom r prt zs (some d) true t
   else if (!hasI zs d.f1) = fr ∧ lighter r d q then bestFrom r prt zs (some d) fr t else bestFrom r prt zs (some q) fr t
theorem bestFrom_has {r : List S29} {prt zs : List Int} {b : Option S76} {fr : Bool} {d : S76} {t : List S76} (c : hasI prt d.f0 = true) : bestFrom r prt zs b fr (d :: t) = bestFrom r prt zs b fr t := by
 conv => lhs; unfold bestFrom
 rw [if_pos c]
theorem bestFrom_none {r : List S29} {prt zs : List Int} {fr : Bool} {d : S76} {t : List S76} (c : ¬hasI prt d.f0 = true) : bestFrom r prt zs none fr (d :: t) = bestFrom r prt zs (some d) (!hasI zs d.f1) t := by
 conv => lhs; unfold bestFrom
 rw [if_neg c]
theorem bestFrom_some {r : List S29} {prt zs : List Int} {q : S76} {fr : Bool} {d : S76} {t : List S76} (c : ¬hasI prt d.f0 = true) : bestFrom r prt zs (some q) fr (d :: t) = (if hasI zs d.f1 = false ∧ fr = false then bestFrom r prt zs (some d) true t
   else if (!hasI zs d.f1) = fr ∧ lighter r d q then bestFrom r prt zs (some d) fr t else bestFrom r prt zs (some q) fr t) := by
 conv => lhs; unfold bestFrom
 rw [if_neg c]
def idOf : Option S76 → Int
 | none => -1
 | some q => q.f0
theorem spec_best_l0 (xs : List S76) (hok : devsOk xs = true) (hN : xs.length ≤ 1048576) (r : List S29) (hr1 : r.length ≤ 1048576) (hr2 : lens r ≤ 1099511627776) (prt zs : List Int) (hp : prt.length ≤ 1048576) (hz : zs.length ≤ 1048576) (a : Int) :
  ∀ (t : List S76) (i : Nat) (b : Option S76) (fr : Bool) (x8 : Int), xs.drop i = t → (b = none ∧ x8 = -1 ∨ ∃ (q : S76) (j : Nat), b = some q ∧ x8 = (j : Int) ∧ xs[j]? = some q) →
   Ev (fun k => spec_Best.l0 k xs zs x8 fr (i : Int) a r prt) (idOf (bestFrom r prt zs b fr t))
 | [], i, b, fr, x8, h, hb => by
  have h1 := drop_nil' h
  refine Ev.step (f := fun k => spec_Best.j1 k xs zs x8 fr (i : Int) false a r prt) (fun k => by rw [spec_Best.l0, if_neg (by omega)]) ?_
  rcases hb with ⟨rfl, rfl⟩ | ⟨q, j, rfl, rfl, hj⟩
  ·exact Ev.step (f := fun _ => some (-1)) (fun k => by rw [spec_Best.j1, if_neg (by decide), if_pos (by omega)]) (Ev.now _)
  ·have hjl : j < xs.length := (List.getElem?_eq_some_iff.1 hj).1
   have hrd : rd_T76 xs (j : Int) = q := by unfold rd_T76; rw [Int.toNat_natCast, List.getD_eq_getElem?_getD, hj]; rfl
   exact Ev.step (f := fun _ => some q.f0) (fun k => by rw [spec_Best.j1, if_neg (by decide), if_neg (by omega), if_pos (by omega), if_pos (by omega), hrd]) (Ev.now _)
 | d :: t, i, b, fr, x8, h, hb => by
  obtain ⟨h1, hd0, h3⟩ := drop_cons' h z76
  have hdi : xs[i]? = some d := by
   rw [List.getElem?_eq_getElem h1]; rw [List.getD_eq_getElem?_getD, List.getElem?_eq_getElem h1] at hd0; exact congrArg some hd0
  have hr : Hd (rd_T76 xs (i : Int) = d) := ⟨rdT_at76 h⟩
  have w : Hd (wrap64 ((i : Int) + 1) = ((i + 1 : Nat) : Int)) := ⟨w64s h1 (by omega)⟩
  have hdb := devsFrom_mem xs.length xs none hok d (List.mem_of_mem_drop (by rw [h]; exact List.mem_cons_self))
  have ih := fun b' fr' x' hb' => spec_best_l0 xs hok hN r hr1 hr2 prt zs hp hz a t (i + 1) b' fr' x' h3 hb'
  have ihd := fun fr' => ih (some d) fr' (i : Int) (Or.inr ⟨d, i, rfl, rfl, hdi⟩)
  refine Ev.step (f := fun k => (spec_DevsOk.f k xs).bind fun t1 => spec_Best.j1 k xs zs x8 fr (i : Int) t1 a r prt) (fun k => by rw [spec_Best.l0, if_pos (by omega)]) (Ev.bind (devsOk_ev xs (by omega)).1 ?_)
  rw [hok]
  refine Ev.step (f := fun k => (spec_l4Has.f k prt d.f0).bind fun t1 => if t1 = true then spec_Best.l0 k xs zs x8 fr ((i + 1 : Nat) : Int) a r prt else (spec_l4Has.f k zs d.f1).bind fun t2 => if x8 < 0 then spec_Best.j2 k xs zs x8 fr (i : Int) (!t2) true a r prt d.f0 d.f1 d.f2 else if t2 = true then spec_Best.j2 k xs zs x8 fr (i : Int) (!t2) false a r prt d.f0 d.f1 d.f2 else spec_Best.j2 k xs zs x8 fr (i : Int) (!t2) (!fr) a r prt d.f0 d.f1 d.f2) (fun k => by rw [spec_Best.j1, if_pos rfl, if_pos (by omega), if_pos (by omega), hr.out, w.out]) ?_
  refine Ev.bind (l4Has_ev prt d.f0 (by omega)) ?_
  by_cases c : hasI prt d.f0 = true
  ·rw [bestFrom_has c]
   exact Ev.pos c (ih b fr x8 hb)
  refine Ev.neg c (Ev.bind (l4Has_ev zs d.f1 (by omega)) ?_)
  have take : ∀ is : Bool, Ev (fun k => spec_Best.j2 k xs zs x8 fr (i : Int) is true a r prt d.f0 d.f1 d.f2) (idOf (bestFrom r prt zs (some d) is t)) := fun is =>
   Ev.step (f := fun k => spec_Best.l0 k xs zs (i : Int) is ((i + 1 : Nat) : Int) a r prt) (fun k => by rw [spec_Best.j2, if_pos rfl, w.out]) (ihd is)
  rcases hb with ⟨rfl, rfl⟩ | ⟨q, j, rfl, rfl, hj⟩
  ·rw [bestFrom_none c]
   exact Ev.pos (by omega) (take _)
  ·have hjl : j < xs.length := (List.getElem?_eq_some_iff.1 hj).1
   have hrd : Hd (rd_T76 xs (j : Int) = q) := ⟨by unfold rd_T76; rw [Int.toNat_natCast, List.getD_eq_getElem?_getD, hj]; rfl⟩
   have hqb := devsFrom_mem xs.length xs none hok q (List.mem_of_getElem? hj)
   have ihq := ih (some q) fr (j : Int) (Or.inr ⟨q, j, rfl, rfl, hj⟩)
   have ld := loadOf_le d.f0 r
   have lq := loadOf_le q.f0 r
   have m1 : Hd (wrap64 (wrap64 (((loadOf d.f0 r : Nat) : Int) + 1) * q.f2) = (((loadOf d.f0 r : Nat) : Int) + 1) * q.f2) := ⟨by rw [wone (by omega)]; exact wmul (by omega) (by omega) (by omega)⟩
   have m2 : Hd (wrap64 (wrap64 (((loadOf q.f0 r : Nat) : Int) + 1) * d.f2) = (((loadOf q.f0 r : Nat) : Int) + 1) * d.f2) := ⟨by rw [wone (by omega)]; exact wmul (by omega) (by omega) (by omega)⟩
   have cmp : ∀ is : Bool, Ev (fun k => spec_Best.j2 k xs zs (j : Int) fr (i : Int) is false a r prt d.f0 d.f1 d.f2) (idOf (if is = fr ∧ lighter r d q then bestFrom r prt zs (some d) fr t else bestFrom r prt zs (some q) fr t)) := by
    intro is
    refine Ev.step (f := fun k => if (is == fr) = true then (spec_LoadOf.f k a r d.f0).bind fun t1 => if 0 ≤ (j : Int) then if (j : Int) < (xs.length : Int) then (spec_LoadOf.f k a r q.f0).bind fun t2 => if wrap64 (wrap64 (t1 + 1) * q.f2) < wrap64 (wrap64 (t2 + 1) * d.f2) then spec_Best.l0 k xs zs (i : Int) fr ((i + 1 : Nat) : Int) a r prt else spec_Best.l0 k xs zs (j : Int) fr ((i + 1 : Nat) : Int) a r prt else none else none else spec_Best.l0 k xs zs (j : Int) fr ((i + 1 : Nat) : Int) a r prt) (fun k => by rw [spec_Best.j2, if_neg (by decide), hrd.out, w.out]) ?_
    by_cases e : is = fr
    ·refine Ev.pos (by rw [e, beq_self_eq_true]) (Ev.bind (spec_loadOf_ev a r d.f0 (by omega) (by omega)) (Ev.pos (by omega) (Ev.pos (by omega) (Ev.bind (spec_loadOf_ev a r q.f0 (by omega) (by omega)) ?_))))
     rw [m1.out, m2.out]
     by_cases e2 : lighter r d q
     ·rw [if_pos ⟨e, e2⟩]
      exact Ev.pos e2 (ihd fr)
     ·rw [if_neg (fun hc => e2 hc.2)]
      exact Ev.neg e2 ihq
    ·rw [if_neg (fun hc => e hc.1)]
     exact Ev.neg (by rw [beq_iff_eq]; exact e) ihq
   refine Ev.neg (by omega) ?_
   rw [bestFrom_some c]
   generalize hasI zs d.f1 = hz1 at *
   cases hz1 with
   | true =>
    rw [if_neg (fun hc => by cases hc.1)]
    exact Ev.pos rfl (cmp _)
   | false =>
    refine Ev.neg (by decide) ?_
    cases fr with
    | true =>
     rw [if_neg (fun hc => by cases hc.2)]
     exact cmp _
    | false =>
     rw [if_pos ⟨rfl, rfl⟩]
     exact take _
theorem impl_best_l0 (xs : List S76) (hok : devsOk xs = true) (hN : xs.length ≤ 1048576) (r : List S29) (hr1 : r.length ≤ 1048576) (hr2 : lens r ≤ 1099511627776) (prt zs : List Int) (hp : prt.length ≤ 1048576) (hz : zs.length ≤ 1048576) (a : Int) :
  ∀ (t : List S76) (i : Nat) (b : Option S76) (fr : Bool) (ld y0 y1 y2 : Int), xs.drop i = t → (b = none ∧ y0 = -1 ∨ ∃ q : S76, b = some q ∧ y0 = q.f0 ∧ y1 = q.f1 ∧ y2 = q.f2 ∧ ld = ((loadOf q.f0 r : Nat) : Int) + 1 ∧ q ∈ xs) →
   Ev (fun k => impl_Best.l0 k zs ld fr xs (xs.length : Int) (i : Int) a r prt y0 y1 y2) (idOf (bestFrom r prt zs b fr t))
 | [], i, b, fr, ld, y0, y1, y2, h, hb => by
  have h1 := drop_nil' h
  have e : idOf b = y0 := by
   rcases hb with ⟨rfl, rfl⟩ | ⟨q, rfl, rfl, _⟩ <;> rfl
  refine Ev.step (f := fun _ => some y0) (fun k => by rw [impl_Best.l0, if_neg (by omega)]) ?_
  rw [bestFrom, e]
  exact Ev.now _
 | d :: t, i, b, fr, ld, y0, y1, y2, h, hb => by
  obtain ⟨h1, hd0, h3⟩ := drop_cons' h z76
  have hr : Hd (rd_T76 xs (i : Int) = d) := ⟨rdT_at76 h⟩
  have w : Hd (wrap64 ((i : Int) + 1) = ((i + 1 : Nat) : Int)) := ⟨w64s h1 (by omega)⟩
  have hdm : d ∈ xs := List.mem_of_mem_drop (by rw [h]; exact List.mem_cons_self)
  have hdb := devsFrom_mem xs.length xs none hok d hdm
  have ldd := loadOf_le d.f0 r
  have wd : Hd (wrap64 (((loadOf d.f0 r : Nat) : Int) + 1) = ((loadOf d.f0 r : Nat) : Int) + 1) := ⟨wone (by omega)⟩
  have ih := fun b' fr' ld' y0' y1' y2' hb' => impl_best_l0 xs hok hN r hr1 hr2 prt zs hp hz a t (i + 1) b' fr' ld' y0' y1' y2' h3 hb'
  have ihd := fun fr' => ih (some d) fr' (((loadOf d.f0 r : Nat) : Int) + 1) d.f0 d.f1 d.f2 (Or.inr ⟨d, rfl, rfl, rfl, rfl, rfl, hdm⟩)
  refine Ev.step (f := fun k => (impl_hasInt.f k prt d.f0).bind fun t1 => if t1 = true then impl_Best.l0 k zs ld fr xs (xs.length : Int) ((i + 1 : Nat) : Int) a r prt y0 y1 y2 else (impl_LoadOf.f k a r d.f0).bind fun t2 => (impl_hasInt.f k zs d.f1).bind fun t3 => if y0 < 0 then impl_Best.l0 k zs (wrap64 (t2 + 1)) (!t3) xs (xs.length : Int) ((i + 1 : Nat) : Int) a r prt d.f0 d.f1 d.f2 else if t3 = true then (if ((!t3) == fr) = true then (if wrap64 (wrap64 (t2 + 1) * y2) < wrap64 (ld * d.f2) then impl_Best.l0 k zs (wrap64 (t2 + 1)) (!t3) xs (xs.length : Int) ((i + 1 : Nat) : Int) a r prt d.f0 d.f1 d.f2 else impl_Best.l0 k zs ld fr xs (xs.length : Int) ((i + 1 : Nat) : Int) a r prt y0 y1 y2) else impl_Best.l0 k zs ld fr xs (xs.length : Int) ((i + 1 : Nat) : Int) a r prt y0 y1 y2) else (if fr = true then (if ((!t3) == fr) = true then (if wrap64 (wrap64 (t2 + 1) * y2) < wrap64 (ld * d.f2) then impl_Best.l0 k zs (wrap64 (t2 + 1)) (!t3) xs (xs.length : Int) ((i + 1 : Nat) : Int) a r prt d.f0 d.f1 d.f2 else impl_Best.l0 k zs ld fr xs (xs.length : Int) ((i + 1 : Nat) : Int) a r prt y0 y1 y2) else impl_Best.l0 k zs ld fr xs (xs.length : Int) ((i + 1 : Nat) : Int) a r prt y0 y1 y2) else impl_Best.l0 k zs (wrap64 (t2 + 1)) (!t3) xs (xs.length : Int) ((i + 1 : Nat) : Int) a r prt d.f0 d.f1 d.f2)) (fun k => by rw [impl_Best.l0, if_pos (by omega), if_pos (by omega), if_pos (by omega), hr.out, w.out]) ?_
  refine Ev.bind (hasInt_ev prt d.f0 (by omega)) ?_
  by_cases c : hasI prt d.f0 = true
  ·rw [bestFrom_has c]
   exact Ev.pos c (ih b fr ld y0 y1 y2 hb)
  refine Ev.neg c (Ev.bind (impl_loadOf_ev a r d.f0 (by omega) (by omega)) (Ev.bind (hasInt_ev zs d.f1 (by omega)) ?_))
  rw [wd.out]
  rcases hb with ⟨rfl, rfl⟩ | ⟨q, rfl, rfl, rfl, rfl, rfl, hq⟩
  ·rw [bestFrom_none c]
   exact Ev.pos (by omega) (ihd _)
  ·have hqb := devsFrom_mem xs.length xs none hok q hq
   have lq := loadOf_le q.f0 r
   have ihq := ih (some q) fr (((loadOf q.f0 r : Nat) : Int) + 1) q.f0 q.f1 q.f2 (Or.inr ⟨q, rfl, rfl, rfl, rfl, rfl, hq⟩)
   rw [show wrap64 ((((loadOf d.f0 r : Nat) : Int) + 1) * q.f2) = (((loadOf d.f0 r : Nat) : Int) + 1) * q.f2 from wmul (by omega) (by omega) (by omega), show wrap64 ((((loadOf q.f0 r : Nat) : Int) + 1) * d.f2) = (((loadOf q.f0 r : Nat) : Int) + 1) * d.f2 from wmul (by omega) (by omega) (by omega)]
   refine Ev.neg (by omega) ?_
   rw [bestFrom_some c]
   generalize hasI zs d.f1 = hz1 at *
   cases hz1 with
   | true =>
    rw [if_neg (fun hc => by cases hc.1)]
    refine Ev.pos rfl ?_
    cases fr with
    | true =>
     rw [if_neg (fun hc => by cases hc.1)]
     exact Ev.neg (by decide) ihq
    | false =>
     refine Ev.pos rfl ?_
     by_cases e2 : lighter r d q
     ·rw [if_pos ⟨rfl, e2⟩]
      exact Ev.pos e2 (ihd _)
     ·rw [if_neg (fun hc => e2 hc.2)]
      exact Ev.neg e2 ihq
   | false =>
    refine Ev.neg (by decide) ?_
    cases fr with
    | true =>
     rw [if_neg (fun hc => by cases hc.2)]
     refine Ev.pos rfl (Ev.pos rfl ?_)
     by_cases e2 : lighter r d q
     ·rw [if_pos ⟨rfl, e2⟩]
      exact Ev.pos e2 (ihd _)
     ·rw [if_neg (fun hc => e2 hc.2)]
      exact Ev.neg e2 ihq
    | false =>
     rw [if_pos ⟨rfl, rfl⟩]
     exact Ev.neg (by decide) (ihd _)
def bestOf (r : List S29) (prt : List Int) (l : List S76) : Option S76 := if devsOk l = true then bestFrom r prt (zonesOf prt l) none false l else none
theorem best_ev (a : Int) (r : List S29) (prt : List Int) (l : List S76) (hl : l.length ≤ 1048576) (hr1 : r.length ≤ 1048576) (hr2 : lens r ≤ 1099511627776) (hp : prt.length ≤ 1048576) :
  Ev (fun k => spec_Best.f k a r prt l) (idOf (bestOf r prt l)) ∧ Ev (fun k => impl_Best.f k a r prt l) (idOf (bestOf r prt l)) := by
 obtain ⟨z1, z2⟩ := zones_ev prt l hp hl
 have hz : (zonesOf prt l).length ≤ 1048576 := by
  have := zonesFrom_len l prt []
  rw [List.length_nil, Nat.zero_add] at this
  exact Nat.le_trans this hp
 obtain ⟨d1, d2⟩ := devsOk_ev l (by omega)
 simp only [spec_Best.f, impl_Best.f]
 rw [bestOf]
 refine ⟨Ev.bind z1 ?_, Ev.bind d2 ?_⟩
 ·by_cases c : devsOk l = true
  ·rw [if_pos c]
   exact spec_best_l0 l c hl r hr1 hr2 prt _ hp hz a l 0 none false (-1) rfl (Or.inl ⟨rfl, rfl⟩)
  ·rw [if_neg c]
   have stop : Ev (fun k => spec_Best.j1 k l (zonesOf prt l) (-1) false ((0 : Nat) : Int) false a r prt) (-1) := Ev.step (f := fun _ => some (-1)) (fun k => by rw [spec_Best.j1, if_neg (by decide), if_pos (by omega)]) (Ev.now _)
   by_cases c0 : (0 : Int) < (l.length : Int)
   ·refine Ev.step (f := fun k => (spec_DevsOk.f k l).bind fun t1 => spec_Best.j1 k l (zonesOf prt l) (-1) false ((0 : Nat) : Int) t1 a r prt) (fun k => by rw [spec_Best.l0, if_pos (by omega)]; rfl) (Ev.bind d1 ?_)
    rw [Bool.eq_false_iff.mpr c]
    exact stop
   ·exact Ev.step (f := fun k => spec_Best.j1 k l (zonesOf prt l) (-1) false ((0 : Nat) : Int) false a r prt) (fun k => by rw [spec_Best.l0, if_neg (by omega)]; rfl) stop
 ·by_cases c : devsOk l = true
  ·rw [if_pos c]
   exact Ev.pos c (Ev.bind z2 (impl_best_l0 l c hl r hr1 hr2 prt _ hp hz a l 0 none false 0 (-1) 0 0 rfl (Or.inl ⟨rfl, rfl⟩)))
  ·rw [if_neg c]
   exact Ev.neg c (Ev.now _)
def addDevs (l : List S76) (init : List S29) : Nat → List Int → List Int
 | 0, ds => ds
 | n + 1, ds => addDevs l init n (ds ++ [idOf (bestOf (init ++ [⟨ds⟩]) ds l)])
def addParts (l : List S76) (reps : Nat) : Nat → List S29 → List S29
 | 0, ps => ps
 | n + 1, ps => addParts l reps n (ps ++ [⟨addDevs l ps reps []⟩])
theorem addDevs_len (l : List S76) (init : List S29) : ∀ (n : Nat) (ds : List Int), (addDevs l init n ds).length = ds.length + n
 | 0, _ => rfl
 | n + 1, ds => by rw [addDevs, addDevs_len l init n]; simp; omega
theorem addParts_len (l : List S76) (reps : Nat) : ∀ (n : Nat) (ps : List S29), (∀ x ∈ ps, x.f0.length = reps) → (addParts l reps n ps).length = ps.length + n ∧ ∀ x ∈ addParts l reps n ps, x.f0.length = reps
 | 0, ps, h => ⟨rfl, h⟩
 | n + 1, ps, h => by
  rw [addParts]
  obtain ⟨h1, h2⟩ := addParts_len l reps n (ps ++ [⟨addDevs l ps reps []⟩]) (fun x hx => by
   rcases List.mem_append.1 hx with hx | hx
   ·exact h x hx
   ·rw [List.mem_singleton.1 hx]; dsimp only; rw [addDevs_len]; simp)
  exact ⟨by rw [h1]; simp; omega, h2⟩
theorem rdT_last (init : List S29) (x : S29) : rd_T29 (init ++ [x]) (init.length : Int) = x := by
 unfold rd_T29; rw [Int.toNat_natCast, List.getD_eq_getElem?_getD, List.getElem?_append_right (Nat.le_refl _), Nat.sub_self]; rfl
theorem lens_init {init : List S29} {ds : List Int} (hi : init.length ≤ 64) (hx : ∀ x ∈ init, x.f0.length ≤ 5) (hd : ds.length ≤ 5) : (init ++ [(⟨ds⟩ : S29)]).length ≤ 1048576 ∧ lens (init ++ [(⟨ds⟩ : S29)]) ≤ 1099511627776 := by
 have h1 : (init ++ [(⟨ds⟩ : S29)]).length ≤ 65 := by simp; omega
 have h2 := lens_le 5 (init ++ [(⟨ds⟩ : S29)]) (fun x hx' => by
  rcases List.mem_append.1 hx' with hx' | hx'
  ·exact hx x hx'
  ·rw [List.mem_singleton.1 hx']; exact hd)
 exact ⟨by omega, by omega⟩
theorem build_l1 (l : List S76) (hl : l.length ≤ 1048576) (n rr : Int) (reps : Nat) (hreps : reps ≤ 5) (init : List S29) (hi : init.length ≤ 64) (hx : ∀ x ∈ init, x.f0.length ≤ 5) (R : Int × List S29 × Bool) :
  ∀ (m : Nat) (ds : List Int), ds.length + m = reps → Ev (fun k => spec_Build.l0 k l n (reps : Int) (wrap64 ((init.length : Int) + 1)) rr (init ++ [⟨addDevs l init m ds⟩])) R → Ev (fun k => spec_Build.l1 k l n (reps : Int) (init.length : Int) (ds.length : Int) rr (init ++ [⟨ds⟩])) R
 | 0, ds, h, hr => Ev.step (fun k => by rw [spec_Build.l1, if_neg (by omega)]; rfl) hr
 | m + 1, ds, h, hr => by
  have hrd : Hd (rd_T29 (init ++ [(⟨ds⟩ : S29)]) (init.length : Int) = ⟨ds⟩) := ⟨rdT_last init ⟨ds⟩⟩
  have w : Hd (wrap64 ((ds.length : Int) + 1) = ((ds.length + 1 : Nat) : Int)) := ⟨w64s (n := 6) (by omega) (by omega)⟩
  obtain ⟨q1, q2⟩ := lens_init hi hx (show ds.length ≤ 5 by omega)
  have b := (best_ev rr (init ++ [⟨ds⟩]) ds l hl q1 q2 (by omega)).1
  rw [addDevs] at hr
  have ih := build_l1 l hl n rr reps hreps init hi hx R m (ds ++ [idOf (bestOf (init ++ [⟨ds⟩]) ds l)]) (by simp; omega) hr
  have hlen : ((init.length : Nat) : Int) < ((init ++ [(⟨ds⟩ : S29)]).length : Int) := by rw [List.length_append, List.length_singleton]; omega
  refine Ev.step (f := fun k => (spec_Best.f k rr (init ++ [(⟨ds⟩ : S29)]) ds l).bind fun t => if ds.length < 17592186044416 then spec_Build.l1 k l n (reps : Int) (init.length : Int) ((ds.length + 1 : Nat) : Int) rr ((init ++ [(⟨ds⟩ : S29)]).set (init.length : Int).toNat (⟨ds ++ [t]⟩ : S29)) else none) (fun k => by rw [spec_Build.l1, if_pos (by omega), if_pos (by omega), if_pos hlen, hrd.out, w.out]) (Ev.bind b (Ev.pos (by omega) ?_))
  rw [Int.toNat_natCast, set_mid, List.append_nil]
  rw [List.length_append, List.length_singleton] at ih
  exact ih
theorem build_l0 (l : List S76) (hl : l.length ≤ 1048576) (rr : Int) (reps : Nat) (hreps : reps ≤ 5) (n : Nat) (hn : n ≤ 64) : ∀ (m : Nat) (ps : List S29), ps.length + m = n → (∀ x ∈ ps, x.f0.length ≤ 5) →
  Ev (fun k => spec_Build.l0 k l (n : Int) (reps : Int) (ps.length : Int) rr ps) (rr, addParts l reps m ps, true)
 | 0, ps, h, _ => Ev.step (f := fun _ => some (rr, ps, true)) (fun k => by rw [spec_Build.l0, if_neg (by omega)]) (Ev.now _)
 | m + 1, ps, h, hx => by
  have w : wrap64 ((ps.length : Int) + 1) = ((ps.length + 1 : Nat) : Int) := w64s (n := 64) (by omega) (by omega)
  have ih := build_l0 l hl rr reps hreps n hn m (ps ++ [⟨addDevs l ps reps []⟩]) (by simp; omega) (fun x hx' => by
   rcases List.mem_append.1 hx' with hx' | hx'
   ·exact hx x hx'
   ·rw [List.mem_singleton.1 hx']; dsimp only; rw [addDevs_len]; simp; omega)
  rw [List.length_append, List.length_singleton] at ih
  have i1 := build_l1 l hl (n : Int) rr reps hreps ps (by omega) hx (rr, addParts l reps (m + 1) ps, true) reps [] (by simp) (by rw [w]; exact ih)
  clear w
  exact Ev.step (fun k => by rw [spec_Build.l0, if_pos (by omega), if_pos (by omega)]; rfl) i1
theorem build_ev (l : List S76) (hl : l.length ≤ 1048576) (hok : devsOk l = true) (n reps : Nat) (hn : 1 ≤ n ∧ n ≤ 64) (hr : 1 ≤ reps ∧ reps ≤ 5) (hrl : reps ≤ l.length) :
  Ev (fun k => spec_Build.f k l (n : Int) (reps : Int)) ((reps : Int), addParts l reps n [], true) := by
 simp only [spec_Build.f, l1In_eq, Option.bind_some]
 refine Ev.bind (devsOk_ev l (by omega)).1 (Ev.pos hok ?_)
 refine Ev.pos (by simp; omega) (Ev.pos (by simp; omega) ?_)
 rw [decide_eq_false (show ¬(reps : Int) > (l.length : Int) by omega)]
 exact Ev.step (fun k => by rw [spec_Build.j0, if_neg (by decide)]; rfl) (build_l0 l hl (reps : Int) reps hr.2 n hn.2 n [] (by simp) (by simp))
def Cur (b : List Int) (i : Int) : Prop := b.length ≤ 1048576 ∧ 0 ≤ i ∧ i ≤ b.length
theorem new_l0 (b : List Int) (hN : b.length ≤ 1048576) (d : Nat) : ∀ (i : Nat) (h : Int), i + d = b.length → ∃ h', Ev (fun k => spec_l1New.l0 k b h (i : Int)) (b, 0, h') := by
 induction d with
 | zero =>
  intro i h hd
  refine ⟨h, Ev.step (f := fun _ => some (b, 0, h)) (fun k => ?_) (Ev.now _)⟩
  rw [spec_l1New.l0, if_neg (by omega)]
 | succ d ih =>
  intro i h hd
  by_cases c : (i : Int) < 4000
  ·obtain ⟨h', e⟩ := ih (i + 1) (Go.bits .and .i64 (wrap64 ((wrap64 ((wrap64 (h * 137)) + (wrap64 (rd b i)))) + 11)) 1073741823) (by omega)
   refine ⟨h', Ev.step (fun k => ?_) e⟩
   rw [spec_l1New.l0, if_pos (by omega), if_pos c, if_pos (by omega), w64s (i := i) (n := b.length) (by omega) (by omega)]
  ·refine ⟨h, Ev.step (f := fun _ => some (b, 0, h)) (fun k => ?_) (Ev.now _)⟩
   rw [spec_l1New.l0, if_pos (by omega), if_neg c]
theorem new_ev (b : List Int) (hN : b.length ≤ 1048576) : ∃ h', Ev (fun k => spec_l1New.f k b) (b, 0, h') ∧ Cur b 0 := by
 obtain ⟨h', e⟩ := new_l0 b hN b.length 0 (wrap64 (378378 + (b.length : Int))) (by omega)
 exact ⟨h', e, hN, by omega, by omega⟩
theorem byte_ok (b : List Int) (i h : Int) (hc : Cur b i) : ∃ x i' h', spec_l1Byte.f b i h = some (x, i', h') ∧ 0 ≤ x ∧ x ≤ 255 ∧ Cur b i' := by
 obtain ⟨c1, c2, c3⟩ := hc
 unfold spec_l1Byte.f
 by_cases c : i < (b.length : Int)
 ·rw [if_pos c, if_pos c2]
  refine ⟨_, _, _, rfl, (and255 _).1, (and255 _).2, c1, ?_⟩
  rw [w64 (by omega) (by omega)]
  omega
 ·rw [if_neg c]
  exact ⟨_, _, _, rfl, (and255 _).1, (and255 _).2, c1, c2, c3⟩
theorem tmod_in {x n : Int} (h0 : 0 ≤ x) (hn : 0 < n) : 0 ≤ Int.tmod x n ∧ Int.tmod x n < n := by
 rw [Int.tmod_eq_emod_of_nonneg h0]
 exact ⟨Int.emod_nonneg _ (by omega), Int.emod_lt_of_pos _ hn⟩
theorem below_ok (b : List Int) (i h n : Int) (hc : Cur b i) : ∃ x i' h', spec_l1Below.f b i h n = some (x, i', h') ∧ 0 ≤ x ∧ (0 < n → x < n) ∧ (n ≤ 0 → x = 0) ∧ Cur b i' := by
 unfold spec_l1Below.f
 by_cases c0 : n ≤ 0
 ·rw [if_pos c0]
  exact ⟨0, i, h, rfl, Int.le_refl _, fun h1 => absurd h1 (by omega), fun _ => rfl, hc⟩
 ·rw [if_neg c0]
  obtain ⟨x, i1, h1, e1, x0, x1, hc1⟩ := byte_ok b i h hc
  by_cases c1 : n ≤ 256
  ·rw [if_pos c1, e1, Option.bind_some, if_neg (by omega)]
   have ht := tmod_in x0 (show 0 < n by omega)
   exact ⟨_, _, _, rfl, ht.1, fun _ => ht.2, fun hq => absurd hq c0, hc1⟩
  ·obtain ⟨y, i2, h2, e2, y0, y1, hc2⟩ := byte_ok b i1 h1 hc1
   obtain ⟨z, i3, h3, e3, z0, z1, hc3⟩ := byte_ok b i2 h2 hc2
   rw [if_neg c1, e1, Option.bind_some, e2, Option.bind_some, e3, Option.bind_some, if_neg (by omega)]
   have w : wrap64 (wrap64 (wrap64 (x * 65536) + wrap64 (y * 256)) + z) = x * 65536 + y * 256 + z := by
    rw [w64 (x := x * 65536) (by omega) (by omega), w64 (x := y * 256) (by omega) (by omega), w64 (x := x * 65536 + y * 256) (by omega) (by omega), w64 (by omega) (by omega)]
   have ht := tmod_in (x := x * 65536 + y * 256 + z) (by omega) (show 0 < n by omega)
   refine ⟨_, _, _, rfl, ?_, fun _ => ?_, fun hq => absurd hq c0, hc3⟩
   ·simp only [w]; exact ht.1
   ·simp only [w]; exact ht.2
theorem int_ok (b : List Int) (i h : Int) (l : List Int) (hl : 0 < l.length) (hc : Cur b i) : ∃ x i' h', spec_l1Int.f b i h l = some (x, i', h') ∧ x ∈ l ∧ Cur b i' := by
 obtain ⟨x, i1, h1, e1, x0, x1, _, hc1⟩ := below_ok b i h (l.length : Int) hc
 have x2 := x1 (by omega)
 unfold spec_l1Int.f
 rw [e1, Option.bind_some, if_pos x0, if_pos x2]
 exact ⟨_, _, _, rfl, rd_mem x0 x2, hc1⟩
theorem devsFrom_ok (n : Nat) (h1 : 1 ≤ n) (h2 : n ≤ 12) : ∀ (l : List S76) (pr : Option S76), (∀ d ∈ l, (0 ≤ d.f0 ∧ d.f0 ≤ 20) ∧ (0 ≤ d.f1 ∧ d.f1 ≤ 20) ∧ (1 ≤ d.f2 ∧ d.f2 ≤ 1000)) → l.Pairwise (fun a b => a.f0 < b.f0) → (∀ q, pr = some q → ∀ d ∈ l, q.f0 < d.f0) → devsFrom n pr l = true
 | [], _, _, _, _ => by rw [devsFrom]; exact decide_eq_true (by omega)
 | d :: t, pr, hb, hp, hq => by
  rw [List.pairwise_cons] at hp
  have hd := hb d List.mem_cons_self
  rw [devsFrom, if_pos ⟨hd.1, hd.2.1, hd.2.2, fun q e => hq q e d List.mem_cons_self⟩]
  exact devsFrom_ok n h1 h2 t (some d) (fun x hx => hb x (List.mem_cons_of_mem _ hx)) hp.2 (fun q e x hx => by injection e with e; subst e; exact hp.1 x hx)
theorem draw4_l0 (b : List Int) (zones : Int) (hz : 1 ≤ zones ∧ zones ≤ 4) : ∀ (m : Nat) (acc : List S76) (id p h : Int), acc.length + m ≤ 6 → Cur b p → (id ≤ 2 * (acc.length : Int) ∧ 0 ≤ id) → (∀ d ∈ acc, (0 ≤ d.f0 ∧ d.f0 ≤ id) ∧ (0 ≤ d.f1 ∧ d.f1 ≤ 20) ∧ (1 ≤ d.f2 ∧ d.f2 ≤ 1000)) → acc.Pairwise (fun a b => a.f0 < b.f0) →
  ∃ (l : List S76) (p' h' : Int), Ev (fun k => spec_l4Draw.l0 k acc zones id (m : Int) b p h) (l, p', h') ∧ l.length = acc.length + m ∧ (∀ d ∈ l, (0 ≤ d.f0 ∧ d.f0 ≤ 20) ∧ (0 ≤ d.f1 ∧ d.f1 ≤ 20) ∧ (1 ≤ d.f2 ∧ d.f2 ≤ 1000)) ∧ l.Pairwise (fun a b => a.f0 < b.f0) ∧ Cur b p'
 | 0, acc, id, p, h, hm, hc, hi, ha, hp => by
  refine ⟨acc, p, h, Ev.step (f := fun _ => some (acc, p, h)) (fun k => ?_) (Ev.now _), rfl, fun d hd => ?_, hp, hc⟩
  ·rw [spec_l4Draw.l0, if_neg (by omega)]
  ·have := ha d hd
   omega
 | m + 1, acc, id, p, h, hm, hc, hi, ha, hp => by
  obtain ⟨x, p1, h1, e1, hx, hc1⟩ := int_ok b p h [1, 1, 2] (by decide) hc
  obtain ⟨y, p2, h2, e2, y0, y1, _, hc2⟩ := below_ok b p1 h1 zones hc1
  obtain ⟨z, p3, h3, e3, hz3, hc3⟩ := int_ok b p2 h2 [1, 1, 1, 2, 10, 100] (by decide) hc2
  have hx2 : 1 ≤ x ∧ x ≤ 2 := by
   simp only [List.mem_cons, List.not_mem_nil, or_false] at hx
   omega
  have hz2 : 1 ≤ z ∧ z ≤ 100 := by
   simp only [List.mem_cons, List.not_mem_nil, or_false] at hz3
   omega
  have y2 := y1 (by omega)
  have w : Hd (wrap64 (id + x) = id + x) := ⟨w64 (by omega) (by omega)⟩
  have wm : Hd (wrap64 (((m + 1 : Nat) : Int) - 1) = (m : Int)) := ⟨by rw [w64 (by omega) (by omega)]; omega⟩
  obtain ⟨l, p', h', e, q1, q2, q3, q4⟩ := draw4_l0 b zones hz m (acc ++ [⟨id + x, y, z⟩]) (id + x) p3 h3 (by simp; omega) hc3 (by simp; omega) (fun d hd => by
   rcases List.mem_append.1 hd with hd | hd
   ·have := ha d hd; omega
   ·rw [List.mem_singleton.1 hd]; dsimp only; omega) (by
   rw [List.pairwise_append]
   refine ⟨hp, List.pairwise_singleton _ _, fun a ha' c hc' => ?_⟩
   have := ha a ha'
   rw [List.mem_singleton.1 hc']; dsimp only; omega)
  refine ⟨l, p', h', Ev.step (fun k => ?_) e, by rw [q1]; simp; omega, q2, q3, q4⟩
  rw [spec_l4Draw.l0, if_pos (by omega), e1, Option.bind_some, e2, Option.bind_some, e3, Option.bind_some, if_pos (by omega), w.out, wm.out]
theorem draw4_ok (b : List Int) (i h : Int) (hc : Cur b i) : ∃ (l : List S76) (i' h' : Int), Ev (fun k => spec_l4Draw.f k b i h) (l, i', h') ∧ 2 ≤ l.length ∧ l.length ≤ 6 ∧ devsOk l = true ∧ Cur b i' := by
 obtain ⟨x, p1, h1, e1, x0, x1, _, hc1⟩ := below_ok b i h 4 hc
 obtain ⟨y, p2, h2, e2, y0, y1, _, hc2⟩ := below_ok b p1 h1 5 hc1
 have x2 := x1 (by omega)
 have y2 := y1 (by omega)
 obtain ⟨l, p', h', e, q1, q2, q3, q4⟩ := draw4_l0 b (1 + x) (by omega) (2 + y).toNat [] 0 p2 h2 (by simp; omega) hc2 (by simp) (by simp) (by simp)
 rw [List.length_nil, Nat.zero_add] at q1
 refine ⟨l, p', h', ?_, by omega, by omega, ?_, q4⟩
 ·simp only [spec_l4Draw.f]
  refine Ev.got e1 (Ev.got e2 ?_)
  dsimp only
  rw [w64 (x := 1 + x) (by omega) (by omega), w64 (x := 2 + y) (by omega) (by omega)]
  rw [show ((2 + y).toNat : Int) = 2 + y by omega] at e
  exact e
 ·exact devsFrom_ok l.length (by omega) (by omega) l none q2 q3 (fun q e => by cases e)
theorem any4_ok (b : List Int) (i h : Int) (hc : Cur b i) : ∃ (l : List S76) (i' h' : Int), Ev (fun k => spec_l4Any.f k b i h) (l, i', h') ∧ l.length ≤ 6 ∧ Cur b i' := by
 obtain ⟨l, p1, h1, e1, l0, l1, _, hc1⟩ := draw4_ok b i h hc
 obtain ⟨x, p2, h2, e2, x0, x1, _, hc2⟩ := below_ok b p1 h1 (l.length : Int) hc1
 obtain ⟨y, p3, h3, e3, y0, y1, _, hc3⟩ := below_ok b p2 h2 12 hc2
 have x2 := x1 (by omega)
 simp only [spec_l4Any.f]
 by_cases c0 : y = 0
 ·obtain ⟨z, p4, h4, e4, _, hc4⟩ := int_ok b p3 h3 [(-1), 0, 20, 21] (by decide) hc3
  exact ⟨_, _, _, Ev.bind e1 (Ev.got e2 (Ev.got e3 (Ev.pos c0 (Ev.got e4 (Ev.pos x0 (Ev.pos x2 (Ev.now _))))))), by rw [List.length_set]; exact l1, hc4⟩
 by_cases c1 : y = 1
 ·obtain ⟨z, p4, h4, e4, _, hc4⟩ := int_ok b p3 h3 [(-1), 20, 21] (by decide) hc3
  exact ⟨_, _, _, Ev.bind e1 (Ev.got e2 (Ev.got e3 (Ev.neg c0 (Ev.pos c1 (Ev.got e4 (Ev.pos x0 (Ev.pos x2 (Ev.now _)))))))), by rw [List.length_set]; exact l1, hc4⟩
 by_cases c2 : y = 2
 ·obtain ⟨z, p4, h4, e4, _, hc4⟩ := int_ok b p3 h3 [0, 1000, 1001] (by decide) hc3
  exact ⟨_, _, _, Ev.bind e1 (Ev.got e2 (Ev.got e3 (Ev.neg c0 (Ev.neg c1 (Ev.pos c2 (Ev.got e4 (Ev.pos x0 (Ev.pos x2 (Ev.now _))))))))), by rw [List.length_set]; exact l1, hc4⟩
 by_cases c3 : y = 3
 ·exact ⟨_, _, _, Ev.bind e1 (Ev.got e2 (Ev.got e3 (Ev.neg c0 (Ev.neg c1 (Ev.neg c2 (Ev.pos c3 (Ev.pos (Int.natCast_nonneg _) (Ev.now _)))))))), by rw [List.length_take]; omega, hc3⟩
 ·exact ⟨_, _, _, Ev.bind e1 (Ev.got e2 (Ev.got e3 (Ev.neg c0 (Ev.neg c1 (Ev.neg c2 (Ev.neg c3 (Ev.now _))))))), l1, hc3⟩
theorem draw5_ok (b : List Int) (i h : Int) (hc : Cur b i) : ∃ (l : List S76) (n reps : Nat) (i' h' : Int), Ev (fun k => spec_l5Draw.f k b i h) (l, (reps : Int), addParts l reps n [], i', h') ∧ 2 ≤ l.length ∧ l.length ≤ 6 ∧ devsOk l = true ∧ (1 ≤ n ∧ n ≤ 16) ∧ (1 ≤ reps ∧ reps ≤ 3 ∧ reps ≤ l.length) ∧ Cur b i' := by
 obtain ⟨l, p1, h1, e1, l0, l1, hok, hc1⟩ := draw4_ok b i h hc
 obtain ⟨x, p2, h2, e2, x0, x1, _, hc2⟩ := below_ok b p1 h1 3 hc1
 obtain ⟨y, p3, h3, e3, hy, hc3⟩ := int_ok b p2 h2 [4, 8, 1, 5, 16] (by decide) hc2
 have x2 := x1 (by omega)
 have hy2 : 1 ≤ y ∧ y ≤ 16 := by
  simp only [List.mem_cons, List.not_mem_nil, or_false] at hy
  omega
 obtain ⟨n, rfl⟩ := Int.eq_ofNat_of_zero_le (show 0 ≤ y by omega)
 have w : Hd (wrap64 (1 + x) = 1 + x) := ⟨w64 (by omega) (by omega)⟩
 by_cases c : 1 + x > (l.length : Int)
 ·refine ⟨l, n, l.length, p3, h3, ?_, l0, l1, hok, by omega, by omega, hc3⟩
  simp only [spec_l5Draw.f]
  refine Ev.bind e1 (Ev.got e2 ?_)
  rw [w.out]
  exact Ev.pos c (Ev.got e3 (Ev.bind (build_ev l (by omega) hok n l.length (by omega) (by omega) (by omega)) (Ev.now _)))
 ·refine ⟨l, n, (1 + x).toNat, p3, h3, ?_, l0, l1, hok, by omega, by omega, hc3⟩
  simp only [spec_l5Draw.f]
  refine Ev.bind e1 (Ev.got e2 ?_)
  rw [w.out]
  have hb := build_ev l (by omega) hok n (1 + x).toNat (by omega) (by omega) (by omega)
  have hxx : (((1 + x).toNat : Nat) : Int) = 1 + x := by omega
  rw [hxx] at hb ⊢
  exact Ev.neg c (Ev.got e3 (Ev.bind hb (Ev.now _)))
def Small (l : List S76) (ps : List S29) : Prop := l.length ≤ 6 ∧ ps.length ≤ 16 ∧ ∀ x ∈ ps, x.f0.length ≤ 4
theorem any5_ok (b : List Int) (i h : Int) (hc : Cur b i) : ∃ (l : List S76) (a : Int) (ps : List S29) (i' h' : Int), Ev (fun k => spec_l5Any.f k b i h) (l, a, ps, i', h') ∧ Small l ps ∧ Cur b i' := by
 obtain ⟨l, n, reps, p1, h1, e1, l0, l1, hok, hn, hr, hc1⟩ := draw5_ok b i h hc
 obtain ⟨q1, q2⟩ := addParts_len l reps n [] (by simp)
 generalize addParts l reps n [] = ps at *
 rw [List.length_nil, Nat.zero_add] at q1
 obtain ⟨x, p2, h2, e2, x0, x1, _, hc2⟩ := below_ok b p1 h1 (ps.length : Int) hc1
 obtain ⟨y, p3, h3, e3, y0, y1, _, hc3⟩ := below_ok b p2 h2 10 hc2
 have x2 := x1 (by omega)
 have hm : (rd_T29 ps x).f0.length = reps := q2 _ (by
  unfold rd_T29
  rw [List.getD_eq_getElem?_getD, List.getElem?_eq_getElem (by omega), Option.getD_some]
  exact List.getElem_mem _)
 have hset : ∀ v : S29, v.f0.length ≤ 4 → Small l (ps.set x.toNat v) := fun v hv => ⟨l1, by rw [List.length_set]; omega, fun z hz => by
  rcases List.mem_or_eq_of_mem_set hz with hz | rfl
  ·rw [q2 z hz]; omega
  ·exact hv⟩
 have hsm : Small l ps := ⟨l1, by omega, fun z hz => by rw [q2 z hz]; omega⟩
 simp only [spec_l5Any.f]
 by_cases c0 : y = 0
 ·obtain ⟨z, p4, h4, e4, _, hc4⟩ := int_ok b p3 h3 [0, 1, 2, 6] (by decide) hc3
  exact ⟨_, _, _, _, _, Ev.bind e1 (Ev.got e2 (Ev.got e3 (Ev.pos c0 (Ev.got e4 (Ev.now _))))), hsm, hc4⟩
 by_cases c1 : y = 1
 ·obtain ⟨z, p4, h4, e4, _, _, _, hc4⟩ := below_ok b p3 h3 9 hc3
  exact ⟨_, _, _, _, _, Ev.bind e1 (Ev.got e2 (Ev.got e3 (Ev.neg c0 (Ev.pos c1 (Ev.pos x0 (Ev.pos x2 (Ev.got e4 (Ev.pos (by dsimp only; omega) (Ev.now _))))))))), hset _ (by simp; omega), hc4⟩
 by_cases c2 : y = 2
 ·obtain ⟨z, p4, h4, e4, _, _, _, hc4⟩ := below_ok b p3 h3 9 hc3
  exact ⟨_, _, _, _, _, Ev.bind e1 (Ev.got e2 (Ev.got e3 (Ev.neg c0 (Ev.neg c1 (Ev.pos c2 (Ev.pos x0 (Ev.pos x2 (Ev.got e4 (Ev.pos (by dsimp only; omega) (Ev.now _)))))))))), hset _ (by simp; omega), hc4⟩
 by_cases c3 : y = 3
 ·obtain ⟨l', p4, h4, e4, hl', hc4⟩ := any4_ok b p3 h3 hc3
  exact ⟨_, _, _, _, _, Ev.bind e1 (Ev.got e2 (Ev.got e3 (Ev.neg c0 (Ev.neg c1 (Ev.neg c2 (Ev.pos c3 (Ev.bind e4 (Ev.now _)))))))), ⟨hl', hsm.2.1, hsm.2.2⟩, hc4⟩
 by_cases c4 : y = 4
 ·exact ⟨_, _, _, _, _, Ev.bind e1 (Ev.got e2 (Ev.got e3 (Ev.neg c0 (Ev.neg c1 (Ev.neg c2 (Ev.neg c3 (Ev.pos c4 (Ev.pos (Int.natCast_nonneg _) (Ev.now _))))))))), ⟨l1, by simp, by simp⟩, hc3⟩
 ·exact ⟨_, _, _, _, _, Ev.bind e1 (Ev.got e2 (Ev.got e3 (Ev.neg c0 (Ev.neg c1 (Ev.neg c2 (Ev.neg c3 (Ev.neg c4 (Ev.now _)))))))), hsm, hc3⟩
theorem once_ok (b : List Int) (i h n : Int) (hc : Cur b i) : ∃ x i' h', spec_l1Once.f b i h n = some (x, i', h') ∧ Cur b i' := by
 obtain ⟨x, i1, h1, e1, _, _, _, hc1⟩ := below_ok b i h n hc
 unfold spec_l1Once.f
 rw [e1, Option.bind_some]
 exact ⟨_, _, _, rfl, hc1⟩
theorem str_ok (b : List Int) (i h : Int) (l : List ByteArray) (hl : 0 < l.length) (hc : Cur b i) : ∃ x i' h', spec_l1Str.f b i h l = some (x, i', h') ∧ x ∈ l ∧ Cur b i' := by
 obtain ⟨x, i1, h1, e1, x0, x1, _, hc1⟩ := below_ok b i h (l.length : Int) hc
 have x2 := x1 (by omega)
 unfold spec_l1Str.f
 rw [e1, Option.bind_some, if_pos x0, if_pos x2]
 exact ⟨_, _, _, rfl, rdOf_mem x0 x2, hc1⟩
def namesA : List ByteArray := [⟨#[]⟩, ⟨#[65]⟩, ⟨#[97, 32, 98]⟩, ⟨#[116, 119, 101, 110, 116, 121, 111, 110, 101, 98, 121, 116, 101, 115, 116, 119, 101, 110, 116, 121, 111]⟩, ⟨#[116, 119, 101, 110, 116, 121, 98, 121, 116, 101, 115, 116, 119, 101, 110, 116, 121, 98, 121, 116]⟩, ⟨#[47]⟩]
def namesB : List ByteArray := [⟨#[97]⟩, ⟨#[98]⟩, ⟨#[99, 97, 116, 47, 49]⟩, ⟨#[99, 97, 116, 47, 50]⟩, ⟨#[100, 111, 103]⟩, ⟨#[120, 45, 49]⟩]
theorem namesA_le : ∀ s ∈ namesA, s.size ≤ 21 := by decide
theorem namesB_le : ∀ s ∈ namesB, s.size ≤ 21 := by decide
theorem name_ok (b : List Int) (i h : Int) (hc : Cur b i) : ∃ s i' h', spec_l3Name.f b i h = some (s, i', h') ∧ s.size ≤ 21 ∧ Cur b i' := by
 obtain ⟨s, i2, h2, e2, hm, hc2⟩ := str_ok b i h namesB (by decide) hc
 unfold namesB at e2
 unfold spec_l3Name.f
 rw [e2, Option.bind_some]
 exact ⟨_, _, _, rfl, namesB_le s hm, hc2⟩
theorem nameAny_ok (b : List Int) (i h : Int) (hc : Cur b i) : ∃ s i' h', spec_l3Any.f b i h = some (s, i', h') ∧ s.size ≤ 21 ∧ Cur b i' := by
 unfold spec_l3Any.f
 obtain ⟨x, i1, h1, e1, hc1⟩ := once_ok b i h 5 hc
 rw [e1, Option.bind_some]
 by_cases hx : x = true
 ·rw [if_pos hx]
  obtain ⟨s, i2, h2, e2, hm, hc2⟩ := str_ok b i1 h1 namesA (by decide) hc1
  unfold namesA at e2
  rw [e2, Option.bind_some]
  exact ⟨_, _, _, rfl, namesA_le s hm, hc2⟩
 ·rw [if_neg hx]
  obtain ⟨s, i2, h2, e2, hs, hc2⟩ := name_ok b i1 h1 hc1
  rw [e2, Option.bind_some]
  exact ⟨_, _, _, rfl, hs, hc2⟩
def keepBy (p zs : List Int) (w : Bool) : List S76 → List Int
 | [] => []
 | d :: t => if hasI p d.f0 = true then keepBy p zs w t else if hasI zs d.f1 = w then d.f0 :: keepBy p zs w t else keepBy p zs w t
theorem keepBy_len (p zs : List Int) (w : Bool) : ∀ l : List S76, (keepBy p zs w l).length ≤ l.length
 | [] => Nat.le_refl _
 | d :: t => by
  have := keepBy_len p zs w t
  rw [keepBy]
  (repeat' split) <;> simp only [List.length_cons] <;> omega
theorem spec_hand_l1 (l : List S76) (hl : l.length ≤ 1048576) (p zs : List Int) (hp : p.length ≤ 1048576) (hz : zs.length ≤ 1048576) (x : Int) (w : Bool) (hw : (x == 1) = w) (R : List Int) :
  ∀ (t : List S76) (i : Nat) (acc : List Int), l.drop i = t → acc.length + t.length ≤ 4194304 → Ev (fun k => spec_Handoffs.l0 k l p zs (acc ++ keepBy p zs w t) (wrap64 (x + 1))) R → Ev (fun k => spec_Handoffs.l1 k l p zs acc x (i : Int)) R
 | [], i, acc, h, ha, hr => by
  have h1 := drop_nil' h
  rw [keepBy, List.append_nil] at hr
  exact Ev.step (fun k => by rw [spec_Handoffs.l1, if_neg (by omega)]) hr
 | d :: t, i, acc, h, ha, hr => by
  obtain ⟨h1, _, h3⟩ := drop_cons' h z76
  rw [List.length_cons] at ha
  have hrd : Hd (rd_T76 l (i : Int) = d) := ⟨rdT_at76 h⟩
  have wi : Hd (wrap64 ((i : Int) + 1) = ((i + 1 : Nat) : Int)) := ⟨w64s h1 (by omega)⟩
  rw [keepBy] at hr
  refine Ev.step (f := fun k => (spec_l4Has.f k p d.f0).bind fun t1 => if t1 = true then spec_Handoffs.l1 k l p zs acc x ((i + 1 : Nat) : Int) else (spec_l4Has.f k zs d.f1).bind fun t2 => if (t2 == (x == 1)) = true then (if acc.length < 17592186044416 then spec_Handoffs.l1 k l p zs (acc ++ [d.f0]) x ((i + 1 : Nat) : Int) else none) else spec_Handoffs.l1 k l p zs acc x ((i + 1 : Nat) : Int)) (fun k => by rw [spec_Handoffs.l1, if_pos (by omega), if_pos (by omega), hrd.out, wi.out]) (Ev.bind (l4Has_ev p d.f0 (by omega)) ?_)
  by_cases c : hasI p d.f0 = true
  ·rw [if_pos c] at hr
   exact Ev.pos c (spec_hand_l1 l hl p zs hp hz x w hw R t (i + 1) acc h3 (by omega) hr)
  ·rw [if_neg c] at hr
   refine Ev.neg c (Ev.bind (l4Has_ev zs d.f1 (by omega)) ?_)
   by_cases c2 : hasI zs d.f1 = w
   ·rw [if_pos c2] at hr
    refine Ev.pos (by rw [hw, c2, beq_self_eq_true]) (Ev.pos (by omega) ?_)
    exact spec_hand_l1 l hl p zs hp hz x w hw R t (i + 1) (acc ++ [d.f0]) h3 (by simp; omega) (by rw [List.append_assoc]; exact hr)
   ·rw [if_neg c2] at hr
    refine Ev.neg (by rw [hw, beq_iff_eq]; exact c2) ?_
    exact spec_hand_l1 l hl p zs hp hz x w hw R t (i + 1) acc h3 (by omega) hr
def handOf (p zs : List Int) (l : List S76) : List Int := keepBy p zs false l ++ keepBy p zs true l
theorem spec_hand_l0 (l : List S76) (hl : l.length ≤ 1048576) (p zs : List Int) (hp : p.length ≤ 1048576) (hz : zs.length ≤ 1048576) : Ev (fun k => spec_Handoffs.l0 k l p zs [] 0) (handOf p zs l) := by
 have hk := keepBy_len p zs false l
 have e2 : Ev (fun k => spec_Handoffs.l0 k l p zs (handOf p zs l) (wrap64 (1 + 1))) (handOf p zs l) :=
  Ev.step (f := fun _ => some (handOf p zs l)) (fun k => by rw [w64 (x := 1 + 1) (by omega) (by omega), spec_Handoffs.l0, if_neg (by decide)]) (Ev.now _)
 have e1 := spec_hand_l1 l hl p zs hp hz 1 true rfl (handOf p zs l) l 0 (keepBy p zs false l) rfl (by omega) e2
 have e1' : Ev (fun k => spec_Handoffs.l0 k l p zs ([] ++ keepBy p zs false l) (wrap64 (0 + 1))) (handOf p zs l) :=
  Ev.step (f := fun k => spec_Handoffs.l1 k l p zs (keepBy p zs false l) 1 ((0 : Nat) : Int)) (fun k => by rw [List.nil_append, w64 (x := 0 + 1) (by omega) (by omega), spec_Handoffs.l0, if_pos (by decide)]; rfl) e1
 have e0 := spec_hand_l1 l hl p zs hp hz 0 false rfl (handOf p zs l) l 0 [] rfl (by simp; omega) e1'
 exact Ev.step (fun k => by rw [spec_Handoffs.l0, if_pos (by decide)]; rfl) e0
theorem impl_hand_l0 (l : List S76) (hl : l.length ≤ 1048576) (p zs : List Int) (hp : p.length ≤ 1048576) (hz : zs.length ≤ 1048576) :
  ∀ (t : List S76) (i : Nat) (out rest : List Int), l.drop i = t → out.length + t.length ≤ 4194304 → rest.length + t.length ≤ 4194304 → Ev (fun k => impl_Handoffs.l0 k p zs out rest l (l.length : Int) (i : Int)) ((out ++ keepBy p zs false t) ++ (rest ++ keepBy p zs true t))
 | [], i, out, rest, h, h1', h2' => by
  have h1 := drop_nil' h
  refine Ev.step (f := fun _ => some (out ++ rest)) (fun k => ?_) (Ev.eq (Ev.now _) (by rw [keepBy, keepBy, List.append_nil, List.append_nil]))
  rw [impl_Handoffs.l0, if_neg (by omega), if_pos (by omega)]
 | d :: t, i, out, rest, h, h1', h2' => by
  obtain ⟨h1, _, h3⟩ := drop_cons' h z76
  rw [List.length_cons] at h1' h2'
  have hrd : Hd (rd_T76 l (i : Int) = d) := ⟨rdT_at76 h⟩
  have wi : Hd (wrap64 ((i : Int) + 1) = ((i + 1 : Nat) : Int)) := ⟨w64s h1 (by omega)⟩
  rw [keepBy, keepBy]
  refine Ev.step (f := fun k => (impl_hasInt.f k p d.f0).bind fun t1 => if t1 = true then impl_Handoffs.l0 k p zs out rest l (l.length : Int) ((i + 1 : Nat) : Int) else (impl_hasInt.f k zs d.f1).bind fun t2 => if t2 = true then (if rest.length < 17592186044416 then impl_Handoffs.l0 k p zs out (rest ++ [d.f0]) l (l.length : Int) ((i + 1 : Nat) : Int) else none) else (if out.length < 17592186044416 then impl_Handoffs.l0 k p zs (out ++ [d.f0]) rest l (l.length : Int) ((i + 1 : Nat) : Int) else none)) (fun k => by rw [impl_Handoffs.l0, if_pos (by omega), if_pos (by omega), if_pos (by omega), hrd.out, wi.out]) (Ev.bind (hasInt_ev p d.f0 (by omega)) ?_)
  by_cases c : hasI p d.f0 = true
  ·rw [if_pos c, if_pos c]
   exact Ev.pos c (impl_hand_l0 l hl p zs hp hz t (i + 1) out rest h3 (by omega) (by omega))
  ·rw [if_neg c, if_neg c]
   refine Ev.neg c (Ev.bind (hasInt_ev zs d.f1 (by omega)) ?_)
   by_cases c2 : hasI zs d.f1 = true
   ·rw [if_neg (by rw [c2]; decide), if_pos c2]
    refine Ev.pos c2 (Ev.pos (by omega) ?_)
    exact Ev.eq (impl_hand_l0 l hl p zs hp hz t (i + 1) out (rest ++ [d.f0]) h3 (by omega) (by simp; omega)) (by simp only [List.append_assoc, List.cons_append, List.nil_append])
   ·rw [if_pos (Bool.eq_false_iff.mpr c2), if_neg c2]
    refine Ev.neg c2 (Ev.pos (by omega) ?_)
    exact Ev.eq (impl_hand_l0 l hl p zs hp hz t (i + 1) (out ++ [d.f0]) rest h3 (by simp; omega) (by omega)) (by simp only [List.append_assoc, List.cons_append, List.nil_append])
theorem hash_l0 (s : ByteArray) (hN : s.size ≤ 4611686018427387904) (d : Nat) : ∀ (i : Nat) (x : Int), s.size - i = d → 0 ≤ x → x < 4294967296 → ∃ r, Ev (fun k => spec_Hash.l0 k s x (i : Int)) r ∧ Ev (fun k => impl_Hash.l0 k s x (i : Int)) r ∧ 0 ≤ r ∧ r < 4294967296 := by
 induction d with
 | zero =>
  intro i x hd h0 h1
  refine ⟨x, Ev.step (f := fun _ => some x) (fun k => ?_) (Ev.now _), Ev.step (f := fun _ => some x) (fun k => ?_) (Ev.now _), h0, h1⟩
  ·rw [spec_Hash.l0, if_neg (by omega)]
  ·rw [impl_Hash.l0, if_neg (by omega), w64 (by omega) (by omega)]
 | succ d ih =>
  intro i x hd h0 h1
  have hb := bt_range s i
  obtain ⟨e1, e2, e3⟩ := xorSame h0 h1 hb.1 (y := bt s i) (by omega)
  obtain ⟨r, r1, r2, r3⟩ := ih (i + 1) ((Go.bits .xor .u32 x (bt s i) * 16777619) % 4294967296) (by omega) (by omega) (by omega)
  refine ⟨r, Ev.step (fun k => ?_) r1, Ev.step (fun k => ?_) r2, r3⟩
  ·rw [spec_Hash.l0, if_pos (by omega), if_pos (by omega), w64 (x := bt s i) (by omega) (by omega), e1, w64 (by omega) (by omega), andLow32 (by omega) (by omega), w64s (n := i + 1) (by omega) (by omega)]
  ·rw [impl_Hash.l0, if_pos (by omega), if_pos (by omega), show bt s i % 4294967296 = bt s i by omega, w64s (n := i + 1) (by omega) (by omega)]
theorem hash_ev (s : ByteArray) (hN : s.size ≤ 4611686018427387904) : ∃ r, Ev (fun k => spec_Hash.f k s) r ∧ Ev (fun k => impl_Hash.f k s) r ∧ 0 ≤ r ∧ r < 4294967296 :=
 hash_l0 s hN s.size 0 2166136261 (by omega) (by omega) (by omega)
theorem partOf_ev (s : ByteArray) (n : Int) (hN : s.size ≤ 4611686018427387904) : ∃ r, Ev (fun k => spec_PartOf.f k s n) r ∧ Ev (fun k => impl_PartOf.f k s n) r ∧ 0 ≤ r ∧ (1 ≤ n → r < n) := by
 obtain ⟨r, r1, r2, r3, r4⟩ := hash_ev s hN
 by_cases h : n < 1
 ·refine ⟨0, Ev.congr (f := fun _ => some 0) (fun k => ?_) (Ev.now _), Ev.congr (f := fun _ => some 0) (fun k => ?_) (Ev.now _), by omega, by omega⟩
  ·rw [spec_PartOf.f, if_pos h]
  ·rw [impl_PartOf.f, if_pos h]
 ·refine ⟨Int.tmod r n, Ev.congr (fun k => ?_) (Ev.bind (f := fun _ t => some (Int.tmod t n)) r1 (Ev.now _)), Ev.congr (fun k => ?_) (Ev.bind (f := fun _ t => some (Int.tmod t n)) r2 (Ev.now _)), ?_, ?_⟩
  ·simp only [spec_PartOf.f, if_neg h, if_neg (show ¬ n = 0 by omega)]
  ·simp only [impl_PartOf.f, if_neg h, if_neg (show ¬ n = 0 by omega)]
  ·rw [Int.tmod_eq_emod_of_nonneg r3]; exact Int.emod_nonneg _ (by omega)
  ·intro _; rw [Int.tmod_eq_emod_of_nonneg r3]; exact Int.emod_lt_of_pos _ (by omega)
def pick (ps : List S29) (i : Int) : List Int := if ps.length = 0 then [] else (rd_T29 ps i).f0
theorem rdT_mem29 {xs : List S29} {i : Int} (h0 : 0 ≤ i) (h1 : i < xs.length) : rd_T29 xs i ∈ xs := by
 unfold rd_T29
 rw [List.getD_eq_getElem?_getD, List.getElem?_eq_getElem (by omega), Option.getD_some]
 exact List.getElem_mem _
theorem prim_ev (a : Int) (ps : List S29) (s : ByteArray) (hs : s.size ≤ 4611686018427387904) (hN : ps.length ≤ 1048576) (hx : ∀ x ∈ ps, x.f0.length ≤ 1048576) :
  ∃ i, Ev (fun k => spec_Primaries.f k a ps s) (pick ps i) ∧ Ev (fun k => impl_Primaries.f k a ps s) (pick ps i) ∧ (ps.length ≠ 0 → 0 ≤ i ∧ i < ps.length) ∧ (pick ps i).length ≤ 1048576 := by
 by_cases c : (ps.length : Int) = 0
 ·refine ⟨0, ?_, ?_, fun h => absurd (by omega) h, ?_⟩
  ·refine Ev.congr (f := fun _ => some []) (fun k => ?_) (Ev.eq (Ev.now _) ?_)
   ·rw [spec_Primaries.f, if_pos c]
   ·rw [pick, if_pos (by omega)]
  ·refine Ev.congr (f := fun _ => some []) (fun k => ?_) (Ev.eq (Ev.now _) ?_)
   ·rw [impl_Primaries.f, if_pos c]
   ·rw [pick, if_pos (by omega)]
  ·rw [pick, if_pos (by omega)]; exact Nat.zero_le _
 ·obtain ⟨i, p1, p2, i0, i1⟩ := partOf_ev s (ps.length : Int) hs
  have i2 := i1 (by omega)
  have hl := hx _ (rdT_mem29 i0 i2)
  have e : pick ps i = (rd_T29 ps i).f0 := by rw [pick, if_neg (by omega)]
  refine ⟨i, ?_, ?_, fun _ => ⟨i0, i2⟩, by rw [e]; exact hl⟩
  ·rw [e]
   simp only [spec_Primaries.f]
   refine Ev.neg c (Ev.some_bind (Ev.bind p1 (Ev.pos i0 (Ev.pos i2 (Ev.pos (by simp; omega) ?_)))))
   rw [List.nil_append]
   exact Ev.now _
  ·rw [e]
   simp only [impl_Primaries.f]
   refine Ev.neg c (Ev.bind p2 (Ev.pos i0 (Ev.pos i2 ?_)))
   refine Ev.got (a := (rd_T29 ps i).f0) ?_ (Ev.now _)
   rw [impl_copyInts.f, if_pos (by simp; omega), List.nil_append]
theorem hand_ev (a : Int) (ps : List S29) (l : List S76) (s : ByteArray) (p : List Int) (hl : l.length ≤ 1048576) (hp : p.length ≤ 1048576) (e1 : Ev (fun k => spec_Primaries.f k a ps s) p) (e2 : Ev (fun k => impl_Primaries.f k a ps s) p) :
  Ev (fun k => spec_Handoffs.f k a ps l s) (handOf p (zonesOf p l) l) ∧ Ev (fun k => impl_Handoffs.f k a ps l s) (handOf p (zonesOf p l) l) := by
 obtain ⟨z1, z2⟩ := zones_ev p l hp hl
 have hz : (zonesOf p l).length ≤ 1048576 := by
  have := zonesFrom_len l p []
  rw [List.length_nil, Nat.zero_add] at this
  exact Nat.le_trans this hp
 simp only [spec_Handoffs.f, impl_Handoffs.f]
 exact ⟨Ev.bind e1 (Ev.bind z1 (spec_hand_l0 l hl p _ hp hz)), Ev.bind e2 (Ev.bind z2 (impl_hand_l0 l hl p _ hp hz l 0 [] [] rfl (by simp; omega) (by simp; omega)))⟩
theorem lawHas_l0 (xs : List Int) (x : Int) (hN : xs.length ≤ 4611686018427387904) : ∀ (l : List Int) (i : Nat), xs.drop i = l → Ev (fun k => laws_has.l0 k xs x (i : Int)) (hasI l x)
 | [], i, h => by
  have h1 := drop_nil' h
  refine Ev.step (f := fun _ => some false) (fun k => ?_) (Ev.now _)
  rw [laws_has.l0, if_neg (by omega)]
 | a :: t, i, h => by
  obtain ⟨h1, _, h3⟩ := drop_cons' h 0
  refine Ev.step (f := fun k => if a = x then some true else laws_has.l0 k xs x ((i + 1 : Nat) : Int)) (fun k => ?_) ?_
  ·rw [laws_has.l0, if_pos (by omega), if_pos (by omega), rd_at h, w64s h1 hN]
  ·by_cases c : a = x
   ·rw [hasI, if_pos c]; exact Ev.pos c (Ev.now _)
   ·rw [hasI, if_neg c]; exact Ev.neg c (lawHas_l0 xs x hN t (i + 1) h3)
theorem lawHas_ev (xs : List Int) (x : Int) (hN : xs.length ≤ 4611686018427387904) : Ev (fun k => laws_has.f k xs x) (hasI xs x) := lawHas_l0 xs x hN xs 0 rfl
def apartFrom : List Int → List Int → Bool
 | _, [] => true
 | pre, a :: t => if hasI pre a = true then false else apartFrom (pre ++ [a]) t
def apartI (l : List Int) : Bool := apartFrom [] l
theorem apart_l0 (xs : List Int) (hN : xs.length ≤ 4611686018427387904) (reps : Int) : ∀ (l : List Int) (i : Nat), xs.drop i = l →
  Ev (fun k => spec_l5Part.l0 k reps (i : Int) xs) (apartFrom (xs.take i) l && ((xs.length : Int) == reps)) ∧ Ev (fun k => impl_apart.l0 k xs xs (xs.length : Int) (i : Int)) (apartFrom (xs.take i) l)
 | [], i, h => by
  have h1 := drop_nil' h
  refine ⟨Ev.step (f := fun _ => some ((xs.length : Int) == reps)) (fun k => ?_) (Ev.eq (Ev.now _) (by rw [apartFrom, Bool.true_and])), Ev.step (f := fun _ => some true) (fun k => ?_) (Ev.now _)⟩
  ·rw [spec_l5Part.l0, if_neg (by omega)]
  ·rw [impl_apart.l0, if_neg (by omega)]
 | a :: t, i, h => by
  obtain ⟨h1, _, h3⟩ := drop_cons' h 0
  have hr : Hd (rd xs (i : Int) = a) := ⟨rd_at h⟩
  have w : Hd (wrap64 ((i : Int) + 1) = ((i + 1 : Nat) : Int)) := ⟨w64s h1 (by omega)⟩
  have ht : xs.take (i + 1) = xs.take i ++ [a] := by
   rw [List.take_succ_eq_append_getElem h1]
   have := List.drop_eq_getElem_cons h1
   rw [h] at this
   injection this with e _
   rw [← e]
  have hl : (xs.take i).length ≤ 4611686018427387904 := by rw [List.length_take]; omega
  obtain ⟨i1, i2⟩ := apart_l0 xs hN reps t (i + 1) h3
  rw [ht] at i1 i2
  rw [apartFrom]
  refine ⟨Ev.step (f := fun k => (spec_l4Has.f k (xs.take i) a).bind fun t1 => if t1 = true then some false else spec_l5Part.l0 k reps ((i + 1 : Nat) : Int) xs) (fun k => ?_) (Ev.bind (l4Has_ev (xs.take i) a hl) ?_), Ev.step (f := fun k => (impl_hasInt.f k (xs.take i) a).bind fun t1 => if t1 = true then some false else impl_apart.l0 k xs xs (xs.length : Int) ((i + 1 : Nat) : Int)) (fun k => ?_) (Ev.bind (hasInt_ev (xs.take i) a hl) ?_)⟩
  ·rw [spec_l5Part.l0, if_pos (by omega), if_pos (by omega), if_pos (by omega), hr.out, w.out, Int.toNat_natCast]
  ·by_cases c : hasI (xs.take i) a = true
   ·rw [if_pos c]; exact Ev.pos c (Ev.now _)
   ·rw [if_neg c]; exact Ev.neg c i1
  ·rw [impl_apart.l0, if_pos (by omega), if_pos (by omega), if_pos (by omega), if_pos (by omega), hr.out, w.out, Int.toNat_natCast]
  ·by_cases c : hasI (xs.take i) a = true
   ·rw [if_pos c]; exact Ev.pos c (Ev.now _)
   ·rw [if_neg c]; exact Ev.neg c i2
theorem l5Part_ev (xs : List Int) (reps : Int) (hN : xs.length ≤ 4611686018427387904) : Ev (fun k => spec_l5Part.f k xs reps) (apartI xs && ((xs.length : Int) == reps)) :=
 (apart_l0 xs hN reps xs 0 rfl).1
theorem apart_ev (xs : List Int) (hN : xs.length ≤ 4611686018427387904) : Ev (fun k => impl_apart.f k xs) (apartI xs) :=
 (apart_l0 xs hN 0 xs 0 rfl).2
def allIn (l : List S76) : List Int → Bool
 | [] => true
 | id :: t => if (devAt id l).2.2.2 = true then allIn l t else false
def partsOk (reps : Int) (l : List S76) : List S29 → Bool
 | [] => true
 | p :: t => if (p.f0.length : Int) = reps ∧ apartI p.f0 = true then (if allIn l p.f0 = true then partsOk reps l t else false) else false
theorem spec_ring_l1 (l : List S76) (hl : l.length ≤ 4611686018427387904) (ps : List S29) (p : S29) (reps : Int) (i : Nat) (hi : i < ps.length) (hp : rd_T29 ps (i : Int) = p) (hN : p.f0.length ≤ 4611686018427387904) (r : Bool) (hr : Ev (fun k => spec_RingOk.l0 k l (wrap64 ((i : Int) + 1)) reps ps) r) :
  ∀ (t : List Int) (j : Nat), p.f0.drop j = t → Ev (fun k => spec_RingOk.l1 k l (i : Int) (j : Int) reps ps) (if allIn l t = true then r else false)
 | [], j, h => by
  have h1 := drop_nil' h
  refine Ev.step (fun k => ?_) hr
  rw [spec_RingOk.l1, if_pos (by omega), if_pos (by omega), hp, if_neg (by omega)]
 | a :: t, j, h => by
  obtain ⟨h1, _, h3⟩ := drop_cons' h 0
  have hrd : Hd (rd p.f0 (j : Int) = a) := ⟨rd_at h⟩
  have w : Hd (wrap64 ((j : Int) + 1) = ((j + 1 : Nat) : Int)) := ⟨w64s h1 hN⟩
  have ih := spec_ring_l1 l hl ps p reps i hi hp hN r hr t (j + 1) h3
  refine Ev.step (f := fun k => (spec_DevAt.f k l a).bind fun b => if b.2.2.2 = true then spec_RingOk.l1 k l (i : Int) ((j + 1 : Nat) : Int) reps ps else some false) (fun k => ?_) (Ev.bind (devAt_ev l a hl).1 ?_)
  ·rw [spec_RingOk.l1, if_pos (by omega), if_pos (by omega), hp, if_pos (by omega), if_pos (by omega), hrd.out, w.out]
  ·rw [allIn]
   by_cases c : (devAt a l).2.2.2 = true
   ·rw [if_pos c]; exact Ev.pos c ih
   ·rw [if_neg c]; exact Ev.neg c (Ev.now _)
theorem impl_ring_l1 (l : List S76) (hl : l.length ≤ 4611686018427387904) (ps : List S29) (xs : List Int) (reps n i : Int) (hN : xs.length ≤ 4611686018427387904) (r : Bool) (hr : Ev (fun k => impl_RingOk.l0 k l ps n (wrap64 (i + 1)) reps ps) r) :
  ∀ (t : List Int) (j : Nat), xs.drop j = t → Ev (fun k => impl_RingOk.l1 k l ps n i xs (xs.length : Int) (j : Int) reps ps) (if allIn l t = true then r else false)
 | [], j, h => by
  have h1 := drop_nil' h
  refine Ev.step (fun k => ?_) hr
  rw [impl_RingOk.l1, if_neg (by omega)]
 | a :: t, j, h => by
  obtain ⟨h1, _, h3⟩ := drop_cons' h 0
  have hrd : Hd (rd xs (j : Int) = a) := ⟨rd_at h⟩
  have w : Hd (wrap64 ((j : Int) + 1) = ((j + 1 : Nat) : Int)) := ⟨w64s h1 hN⟩
  have ih := impl_ring_l1 l hl ps xs reps n i hN r hr t (j + 1) h3
  refine Ev.step (f := fun k => (impl_DevAt.f k l a).bind fun b => if b.2.2.2 = true then impl_RingOk.l1 k l ps n i xs (xs.length : Int) ((j + 1 : Nat) : Int) reps ps else some false) (fun k => ?_) (Ev.bind (devAt_ev l a hl).2 ?_)
  ·rw [impl_RingOk.l1, if_pos (by omega), if_pos (by omega), if_pos (by omega), hrd.out, w.out]
  ·rw [allIn]
   by_cases c : (devAt a l).2.2.2 = true
   ·rw [if_pos c]; exact Ev.pos c ih
   ·rw [if_neg c]; exact Ev.neg c (Ev.now _)
theorem ring_l0 (l : List S76) (hl : l.length ≤ 4611686018427387904) (ps : List S29) (reps : Int) (hN : ps.length ≤ 4611686018427387904) (hx : ∀ x ∈ ps, x.f0.length ≤ 4611686018427387904) : ∀ (t : List S29) (i : Nat), ps.drop i = t →
  Ev (fun k => spec_RingOk.l0 k l (i : Int) reps ps) (partsOk reps l t) ∧ Ev (fun k => impl_RingOk.l0 k l ps (ps.length : Int) (i : Int) reps ps) (partsOk reps l t)
 | [], i, h => by
  have h1 := drop_nil' h
  refine ⟨Ev.step (f := fun _ => some true) (fun k => ?_) (Ev.now _), Ev.step (f := fun _ => some true) (fun k => ?_) (Ev.now _)⟩
  ·rw [spec_RingOk.l0, if_neg (by omega)]
  ·rw [impl_RingOk.l0, if_neg (by omega)]
 | p :: t, i, h => by
  obtain ⟨h1, _, h3⟩ := drop_cons' h z29
  have hrd : Hd (rd_T29 ps (i : Int) = p) := ⟨rdT_at29 h⟩
  have hp : p.f0.length ≤ 4611686018427387904 := hx p (List.mem_of_mem_drop (by rw [h]; exact List.mem_cons_self))
  obtain ⟨i1, i2⟩ := ring_l0 l hl ps reps hN hx t (i + 1) h3
  have w : wrap64 ((i : Int) + 1) = ((i + 1 : Nat) : Int) := w64s h1 hN
  have j1 := spec_ring_l1 l hl ps p reps i h1 hrd.out hp _ (by rw [w]; exact i1) p.f0 0 rfl
  have j2 := impl_ring_l1 l hl ps p.f0 reps (ps.length : Int) (i : Int) hp _ (by rw [w]; exact i2) p.f0 0 rfl
  clear w
  rw [partsOk]
  refine ⟨Ev.step (f := fun k => (spec_l5Part.f k p.f0 reps).bind fun t1 => if t1 = true then spec_RingOk.l1 k l (i : Int) 0 reps ps else some false) (fun k => ?_) (Ev.bind (l5Part_ev p.f0 reps hp) ?_), ?_⟩
  ·rw [spec_RingOk.l0, if_pos (by omega), if_pos (by omega), hrd.out]
  ·by_cases c : (p.f0.length : Int) = reps ∧ apartI p.f0 = true
   ·rw [if_pos c]; exact Ev.pos (by rw [c.2, c.1]; simp) j1
   ·rw [if_neg c]
    refine Ev.neg (fun hc => c ?_) (Ev.now _)
    rw [Bool.and_eq_true, beq_iff_eq] at hc
    exact ⟨hc.2, hc.1⟩
  ·by_cases c0 : (p.f0.length : Int) = reps
   ·refine Ev.step (f := fun k => (impl_apart.f k p.f0).bind fun t1 => impl_RingOk.j2 k l ps (ps.length : Int) (i : Int) (!t1) reps ps p.f0) (fun k => ?_) (Ev.bind (apart_ev p.f0 hp) ?_)
    ·rw [impl_RingOk.l0, if_pos (by omega), if_pos (by omega), if_pos (by omega), hrd.out, if_pos c0]
    ·by_cases c1 : apartI p.f0 = true
     ·rw [if_pos ⟨c0, c1⟩, c1]
      exact Ev.step (fun k => by rw [impl_RingOk.j2, if_neg (by decide)]; rfl) j2
     ·rw [if_neg (fun hc => c1 hc.2), Bool.eq_false_iff.mpr c1]
      exact Ev.step (f := fun _ => some false) (fun k => by rw [impl_RingOk.j2, if_pos (by decide)]) (Ev.now _)
   ·rw [if_neg (fun hc => c0 hc.1)]
    refine Ev.step (f := fun k => impl_RingOk.j2 k l ps (ps.length : Int) (i : Int) true reps ps p.f0) (fun k => ?_) (Ev.step (f := fun _ => some false) (fun k => by rw [impl_RingOk.j2, if_pos rfl]) (Ev.now _))
    rw [impl_RingOk.l0, if_pos (by omega), if_pos (by omega), if_pos (by omega), hrd.out, if_neg c0]
def ringOk (reps : Int) (ps : List S29) (l : List S76) : Bool := if devsOk l = true ∧ (1 ≤ reps ∧ reps ≤ 5) ∧ (1 ≤ (ps.length : Int) ∧ (ps.length : Int) ≤ 64) then partsOk reps l ps else false
theorem ringOk_ev (reps : Int) (ps : List S29) (l : List S76) (hl : l.length ≤ 4611686018427387904) (hN : ps.length ≤ 4611686018427387904) (hx : ∀ x ∈ ps, x.f0.length ≤ 4611686018427387904) :
  Ev (fun k => spec_RingOk.f k reps ps l) (ringOk reps ps l) ∧ Ev (fun k => impl_RingOk.f k reps ps l) (ringOk reps ps l) := by
 obtain ⟨d1, d2⟩ := devsOk_ev l hl
 obtain ⟨r1, r2⟩ := ring_l0 l hl ps reps hN hx ps 0 rfl
 have n1 : Ev (fun k => spec_RingOk.j0 k l true reps ps) false := Ev.step (f := fun _ => some false) (fun k => by rw [spec_RingOk.j0, if_pos rfl]) (Ev.now _)
 have n2 : Ev (fun k => impl_RingOk.j0 k l true reps ps) false := Ev.step (f := fun _ => some false) (fun k => by rw [impl_RingOk.j0, if_pos rfl]) (Ev.now _)
 simp only [spec_RingOk.f, impl_RingOk.f, l1In_eq, in_eq, Option.bind_some, decide_eq_true_eq]
 unfold ringOk
 refine ⟨Ev.bind d1 ?_, Ev.bind d2 ?_⟩
 ·by_cases c1 : devsOk l = true
  ·refine Ev.pos c1 ?_
   by_cases c2 : 1 ≤ reps ∧ reps ≤ 5
   ·refine Ev.pos c2 ?_
    by_cases c3 : 1 ≤ (ps.length : Int) ∧ (ps.length : Int) ≤ 64
    ·rw [if_pos ⟨c1, c2, c3⟩, decide_eq_true c3]
     exact Ev.step (fun k => by rw [Bool.not_true, spec_RingOk.j0, if_neg (by decide)]; rfl) r1
    ·rw [if_neg (fun hc => c3 hc.2.2), decide_eq_false c3]
     exact n1
   ·rw [if_neg (fun hc => c2 hc.2.1)]
    exact Ev.neg c2 n1
  ·rw [if_neg (fun hc => c1 hc.1)]
   exact Ev.neg c1 n1
 ·by_cases c1 : devsOk l = true
  ·refine Ev.pos c1 ?_
   by_cases c2 : 1 ≤ reps ∧ reps ≤ 5
   ·refine Ev.pos c2 ?_
    by_cases c3 : 1 ≤ (ps.length : Int) ∧ (ps.length : Int) ≤ 64
    ·rw [if_pos ⟨c1, c2, c3⟩, decide_eq_true c3]
     exact Ev.step (fun k => by rw [Bool.not_true, impl_RingOk.j0, if_neg (by decide)]; rfl) r2
    ·rw [if_neg (fun hc => c3 hc.2.2), decide_eq_false c3]
     exact n2
   ·rw [if_neg (fun hc => c2 hc.2.1)]
    exact Ev.neg c2 n2
  ·rw [if_neg (fun hc => c1 hc.1)]
   exact Ev.neg c1 n2
def cin (p : List Int) : List S76 → Nat
 | [] => 0
 | d :: t => (if hasI p d.f0 = true then 1 else 0) + cin p t
theorem keep_len (p zs : List Int) : ∀ l : List S76, (keepBy p zs false l).length + (keepBy p zs true l).length + cin p l = l.length
 | [] => rfl
 | d :: t => by
  have := keep_len p zs t
  rw [keepBy, keepBy, cin, List.length_cons]
  by_cases c : hasI p d.f0 = true
  ·rw [if_pos c, if_pos c, if_pos c]; omega
  ·rw [if_neg c, if_neg c, if_neg c]
   by_cases c2 : hasI zs d.f1 = true
   ·rw [if_neg (by rw [c2]; decide), if_pos c2, List.length_cons]; omega
   ·rw [if_pos (Bool.eq_false_iff.mpr c2), if_neg c2, List.length_cons]; omega
theorem hasI_snoc (p : List Int) (a x : Int) : hasI (p ++ [a]) x = true ↔ hasI p x = true ∨ x = a := by
 rw [hasI_iff, hasI_iff, List.mem_append, List.mem_singleton]
theorem cin_skip (p : List Int) (a : Int) : ∀ l : List S76, (∀ d ∈ l, d.f0 ≠ a) → cin (p ++ [a]) l = cin p l
 | [], _ => rfl
 | d :: t, h => by
  rw [cin, cin, cin_skip p a t (fun x hx => h x (List.mem_cons_of_mem _ hx))]
  have hd := h d List.mem_cons_self
  by_cases c : hasI p d.f0 = true
  ·rw [if_pos c, if_pos ((hasI_snoc p a d.f0).2 (Or.inl c))]
  ·rw [if_neg c, if_neg (fun hc => ((hasI_snoc p a d.f0).1 hc).elim c hd)]
theorem cin_snoc (p : List Int) (a : Int) (ha : ¬hasI p a = true) : ∀ l : List S76, l.Pairwise (fun x y => x.f0 < y.f0) → (∃ d ∈ l, d.f0 = a) → cin (p ++ [a]) l = cin p l + 1
 | [], _, h => by obtain ⟨d, hd, _⟩ := h; cases hd
 | d :: t, hp, h => by
  rw [List.pairwise_cons] at hp
  rw [cin, cin]
  by_cases c : d.f0 = a
  ·rw [cin_skip p a t (fun x hx => by have := hp.1 x hx; omega), if_pos ((hasI_snoc p a d.f0).2 (Or.inr c)), if_neg (by rw [c]; exact ha)]
   omega
  ·obtain ⟨e, he, ee⟩ := h
   rw [cin_snoc p a ha t hp.2 ⟨e, by
    rcases List.mem_cons.1 he with rfl | he
    ·exact absurd ee c
    ·exact he, ee⟩]
   by_cases c2 : hasI p d.f0 = true
   ·rw [if_pos c2, if_pos ((hasI_snoc p a d.f0).2 (Or.inl c2))]; omega
   ·rw [if_neg c2, if_neg (fun hc => ((hasI_snoc p a d.f0).1 hc).elim c2 c)]; omega
theorem cin_apart (l : List S76) (hl : l.Pairwise (fun x y => x.f0 < y.f0)) : ∀ (t pre : List Int), apartFrom pre t = true → (∀ a ∈ t, ∃ d ∈ l, d.f0 = a) → cin (pre ++ t) l = cin pre l + t.length
 | [], pre, _, _ => by rw [List.append_nil]; rfl
 | a :: t, pre, h, hm => by
  rw [apartFrom] at h
  by_cases c : hasI pre a = true
  ·rw [if_pos c] at h; cases h
  ·rw [if_neg c] at h
   have h1 := cin_apart l hl t (pre ++ [a]) h (fun x hx => hm x (List.mem_cons_of_mem _ hx))
   rw [cin_snoc pre a c l hl (hm a List.mem_cons_self), List.append_assoc] at h1
   rw [List.length_cons]
   simp only [List.cons_append, List.nil_append] at h1
   omega
theorem cin_nil : ∀ l : List S76, cin [] l = 0
 | [] => rfl
 | d :: t => by rw [cin, cin_nil t]; rfl
theorem devsFrom_lt (n : Nat) : ∀ (l : List S76) (pr : Option S76), devsFrom n pr l = true → (∀ q, pr = some q → ∀ d ∈ l, q.f0 < d.f0) ∧ l.Pairwise (fun a b => a.f0 < b.f0)
 | [], _, _ => ⟨fun _ _ _ hd => (by cases hd), List.Pairwise.nil⟩
 | a :: t, pr, h => by
  rw [devsFrom] at h
  by_cases c : (0 ≤ a.f0 ∧ a.f0 ≤ 20) ∧ (0 ≤ a.f1 ∧ a.f1 ≤ 20) ∧ (1 ≤ a.f2 ∧ a.f2 ≤ 1000) ∧ (∀ q, pr = some q → q.f0 < a.f0)
  ·rw [if_pos c] at h
   obtain ⟨h1, h2⟩ := devsFrom_lt n t (some a) h
   have h3 := h1 a rfl
   refine ⟨fun q e d hd => ?_, List.pairwise_cons.2 ⟨h3, h2⟩⟩
   have hq := c.2.2.2 q e
   rcases List.mem_cons.1 hd with rfl | hd
   ·exact hq
   ·have := h3 d hd; omega
  ·rw [if_neg c] at h
   cases h
theorem devAt_mem (id : Int) : ∀ l : List S76, (devAt id l).2.2.2 = true → ∃ d ∈ l, d.f0 = id
 | [], h => by rw [devAt] at h; cases h
 | d :: t, h => by
  by_cases c : d.f0 = id
  ·exact ⟨d, List.mem_cons_self, c⟩
  ·rw [devAt, if_neg c] at h
   obtain ⟨x, hx, e⟩ := devAt_mem id t h
   exact ⟨x, List.mem_cons_of_mem _ hx, e⟩
theorem allIn_mem (l : List S76) : ∀ p : List Int, allIn l p = true → ∀ a ∈ p, ∃ d ∈ l, d.f0 = a
 | [], _, a, ha => by cases ha
 | b :: t, h, a, ha => by
  rw [allIn] at h
  by_cases c : (devAt b l).2.2.2 = true
  ·rw [if_pos c] at h
   rcases List.mem_cons.1 ha with rfl | ha
   ·exact devAt_mem a l c
   ·exact allIn_mem l t h a ha
  ·rw [if_neg c] at h; cases h
theorem partsOk_mem (reps : Int) (l : List S76) : ∀ ps : List S29, partsOk reps l ps = true → ∀ p ∈ ps, (p.f0.length : Int) = reps ∧ apartI p.f0 = true ∧ allIn l p.f0 = true
 | [], _, p, hp => by cases hp
 | q :: t, h, p, hp => by
  rw [partsOk] at h
  by_cases c : (q.f0.length : Int) = reps ∧ apartI q.f0 = true
  ·rw [if_pos c] at h
   by_cases c2 : allIn l q.f0 = true
   ·rw [if_pos c2] at h
    rcases List.mem_cons.1 hp with rfl | hp
    ·exact ⟨c.1, c.2, c2⟩
    ·exact partsOk_mem reps l t h p hp
   ·rw [if_neg c2] at h; cases h
  ·rw [if_neg c] at h; cases h
theorem ring_count (reps : Int) (ps : List S29) (l : List S76) (h : ringOk reps ps l = true) (p : S29) (hp : p ∈ ps) (zs : List Int) : p.f0.length + (handOf p.f0 zs l).length = l.length ∧ (p.f0.length : Int) = reps := by
 unfold ringOk at h
 by_cases c : devsOk l = true ∧ (1 ≤ reps ∧ reps ≤ 5) ∧ (1 ≤ (ps.length : Int) ∧ (ps.length : Int) ≤ 64)
 ·rw [if_pos c] at h
  obtain ⟨h1, h2, h3⟩ := partsOk_mem reps l ps h p hp
  have hl := (devsFrom_lt l.length l none c.1).2
  have hc := cin_apart l hl p.f0 [] h2 (allIn_mem l p.f0 h3)
  rw [List.nil_append, cin_nil] at hc
  have hk := keep_len p.f0 zs l
  refine ⟨?_, h1⟩
  rw [handOf, List.length_append]
  omega
 ·rw [if_neg c] at h; cases h
theorem keep_has (p zs : List Int) (w : Bool) (x : Int) : ∀ l : List S76, x ∈ keepBy p zs w l ↔ ∃ d ∈ l, d.f0 = x ∧ ¬hasI p d.f0 = true ∧ hasI zs d.f1 = w
 | [] => by rw [keepBy]; simp
 | d :: t => by
  have ih := keep_has p zs w x t
  rw [keepBy]
  simp only [List.mem_cons, exists_eq_or_imp]
  by_cases c : hasI p d.f0 = true
  ·rw [if_pos c, ih]
   exact ⟨Or.inr, fun hc => hc.elim (fun hc => absurd c hc.2.1) id⟩
  ·rw [if_neg c]
   by_cases c2 : hasI zs d.f1 = w
   ·rw [if_pos c2, List.mem_cons, ih]
    exact ⟨fun hc => hc.imp (fun e => ⟨e.symm, c, c2⟩) id, fun hc => hc.imp (fun e => e.1.symm) id⟩
   ·rw [if_neg c2, ih]
    exact ⟨Or.inr, fun hc => hc.elim (fun hc => absurd hc.2.2 c2) id⟩
theorem hand_has (p zs : List Int) (l : List S76) (d : S76) (hd : d ∈ l) : hasI (handOf p zs l) d.f0 = !hasI p d.f0 := by
 by_cases c : hasI p d.f0 = true
 ·rw [c]
  refine Bool.eq_false_iff.mpr (fun hc => ?_)
  rw [hasI_iff, handOf, List.mem_append, keep_has, keep_has] at hc
  rcases hc with ⟨x, _, e, h, _⟩ | ⟨x, _, e, h, _⟩ <;> exact h (by rw [e]; exact c)
 ·rw [Bool.eq_false_iff.mpr c]
  refine (hasI_iff _ _).2 ?_
  rw [handOf, List.mem_append, keep_has, keep_has]
  by_cases c2 : hasI zs d.f1 = true
  ·exact Or.inr ⟨d, hd, rfl, c, c2⟩
  ·exact Or.inl ⟨d, hd, rfl, c, Bool.eq_false_iff.mpr c2⟩
end Go.Proofs.Ytbhllgifciaepaa.PureFnPlaces
namespace Go.Proofs.Ytbhllgifciaepaa.Pure
open Go.RowKit Go.Proofs.Ytbhllgifciaepaa.PFnPlaces Go.Proofs.YtbhllgifciaepaaW.PrintWords Go.Proofs.YtbhllgifciaepaaW.PrintLast Go.Proofs.YtbhllgifciaepaaW.PrintMore Go.Proofs.Ytbhllgifciaepaa.Base Go.Proofs.Ytbhllgifciaepaa.PureFnPlaces
set_option linter.unusedVariables false
attribute [local irreducible] Go.bits IntKind.wrap shl shr
theorem places_l0 (a : Int) (ps : List S29) (l : List S76) (s : ByteArray) (p zs : List Int) (hl : l.length ≤ 1048576) (hp : p.length ≤ 1048576) (hlo : (handOf p zs l).length ≤ 4611686018427387904) (hi : ∀ id : Int, Ev (fun k => impl_IsPrimary.f k a ps s id) (hasI p id))
  (hr : Ev (fun k => spec_RingOk.f k a ps l) (ringOk a ps l)) (hring : ringOk a ps l = true → p.length + (handOf p zs l).length = l.length ∧ (p.length : Int) = a) :
  ∀ (t : List S76) (i : Nat), l.drop i = t → Ev (fun k => laws_FnPlaces.l0 k l s p (handOf p zs l) (i : Int) a ps) true
 | [], i, h => by
  have h1 := drop_nil' h
  refine Ev.step (f := fun k => (spec_RingOk.f k a ps l).bind fun t1 => if t1 = true then (if wrap64 ((p.length : Int) + ((handOf p zs l).length : Int)) = (l.length : Int) then some ((p.length : Int) == a) else some false) else some true) (fun k => by rw [laws_FnPlaces.l0, if_neg (by omega)]) (Ev.bind hr ?_)
  by_cases c : ringOk a ps l = true
  ·obtain ⟨q1, q2⟩ := hring c
   refine Ev.pos c (Ev.pos ?_ ?_)
   ·rw [w64 (by omega) (by omega)]; omega
   ·rw [q2, beq_self_eq_true]; exact Ev.now _
  ·exact Ev.neg c (Ev.now _)
 | d :: t, i, h => by
  obtain ⟨h1, _, h3⟩ := drop_cons' h z76
  have hd : d ∈ l := List.mem_of_mem_drop (by rw [h]; exact List.mem_cons_self)
  have hrd : Hd (rd_T76 l (i : Int) = d) := ⟨rdT_at76 h⟩
  have wi : Hd (wrap64 ((i : Int) + 1) = ((i + 1 : Nat) : Int)) := ⟨w64s h1 (by omega)⟩
  have ih := places_l0 a ps l s p zs hl hp hlo hi hr hring t (i + 1) h3
  refine Ev.step (f := fun k => (laws_has.f k p d.f0).bind fun t1 => (laws_has.f k (handOf p zs l) d.f0).bind fun t2 => if (t1 == t2) = true then some false else (laws_has.f k p d.f0).bind fun t3 => (impl_IsPrimary.f k a ps s d.f0).bind fun t4 => if (t3 != t4) = true then some false else laws_FnPlaces.l0 k l s p (handOf p zs l) ((i + 1 : Nat) : Int) a ps) (fun k => by rw [laws_FnPlaces.l0, if_pos (by omega), if_pos (by omega), hrd.out, wi.out]) ?_
  refine Ev.bind (lawHas_ev p d.f0 (by omega)) (Ev.bind (lawHas_ev (handOf p zs l) d.f0 hlo) ?_)
  rw [hand_has p zs l d hd]
  refine Ev.neg (by cases hasI p d.f0 <;> decide) ?_
  exact Ev.bind (lawHas_ev p d.f0 (by omega)) (Ev.bind (hi d.f0) (Ev.neg (by simp) ih))
theorem FnPlaces (code : List Int) (h0 : Bytes code) : ∃ k, laws_FnPlaces.f k code = some true := by
 apply Ev.rounds (g := fun k => laws_FnPlaces.f k code)
 simp only [laws_FnPlaces.f, laws_big.f, Option.bind_some]
 by_cases hb : (code.length : Int) > 1048576
 ·exact Ev.pos (decide_eq_true hb) (Ev.now _)
 refine Ev.neg (by simp; omega) ?_
 obtain ⟨g, e0, hc0⟩ := new_ev code (by omega)
 obtain ⟨l, a, ps, i1, g1, e1, ⟨s1, s2, s3⟩, hc1⟩ := any5_ok code 0 g hc0
 obtain ⟨s, i2, g2, e2, hs, hc2⟩ := nameAny_ok code i1 g1 hc1
 have ed : Ev (fun k => spec_DrawHandoffs.f k code) (a, ps, l, s) := by
  simp only [spec_DrawHandoffs.f]
  exact Ev.bind e0 (Ev.bind e1 (Ev.got e2 (Ev.now _)))
 obtain ⟨i, p1, p2, p3, p4⟩ := prim_ev a ps s (by omega) (by omega) (fun x hx => Nat.le_trans (s3 x hx) (by omega))
 obtain ⟨h1, h2⟩ := hand_ev a ps l s _ (by omega) p4 p1 p2
 have hlo : (handOf (pick ps i) (zonesOf (pick ps i) l) l).length ≤ 4611686018427387904 := by
  rw [handOf, List.length_append]
  have k1 := keepBy_len (pick ps i) (zonesOf (pick ps i) l) false l
  have k2 := keepBy_len (pick ps i) (zonesOf (pick ps i) l) true l
  omega
 refine Ev.bind ed (Ev.bind p2 (Ev.bind h2 (Ev.bind p1 (Ev.pos rfl (Ev.bind h1 ?_)))))
 rw [show ∀ z : Int, (z != z) = false from fun z => by simp]
 refine Ev.step (fun k => by rw [laws_FnPlaces.j0, if_neg (by decide)]; rfl) (places_l0 a ps l s (pick ps i) (zonesOf (pick ps i) l) (by omega) p4 hlo (fun id => ?_) (ringOk_ev a ps l (by omega) (by omega) (fun x hx => Nat.le_trans (s3 x hx) (by omega))).1 (fun hc => ?_) l 0 rfl)
 ·simp only [impl_IsPrimary.f]
  exact Ev.bind p2 (Ev.bind (hasInt_ev _ id (by omega)) (Ev.now _))
 ·by_cases c : ps.length = 0
  ·unfold ringOk at hc
   rw [if_neg (by omega)] at hc
   cases hc
  ·have q := p3 c
   have e : pick ps i = (rd_T29 ps i).f0 := by rw [pick, if_neg c]
   rw [e]
   exact ring_count a ps l hc _ (rdT_mem29 q.1 q.2) _
end Go.Proofs.Ytbhllgifciaepaa.Pure
