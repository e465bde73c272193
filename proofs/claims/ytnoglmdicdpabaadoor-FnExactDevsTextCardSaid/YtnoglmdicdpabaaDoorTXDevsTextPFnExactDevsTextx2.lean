/- Trimmed by a program of this session (trim.py). Not trusted: Lean checks it. -/
import Derived.Test.YtnoglmdicdpabaaDoorTXDevsTextPFnExactDevsTextx0
import Derived.Test.YtnoglmdicdpabaaDoorTXDevsTextPFnExactDevsTextx1
namespace Go.Proofs.YtnoglmdicdpabaaDoor.PFnExactDevsText
open Go.RowKit Go.Proofs.YtnoglmdicdpabaaDoorW.PrintWords Go.Proofs.YtnoglmdicdpabaaDoorW.PrintLast Go.Proofs.YtnoglmdicdpabaaDoorW.PrintMore Go.Proofs.YtnoglmdicdpabaaDoor.St
attribute [local go_sem] max2_int min2_int max_two min_two max_three min_three max_four min_four
set_option linter.unusedVariables false
set_option linter.unusedSimpArgs false
def spec_l2Text.f:Nat→Int→Option (ByteArray)
 | 0,_=>none
 | k+1,a0=>if a0 < 10 then (some (strOfNums (([(wrap64 (48+a0)) % 256]:List Int)))) else ((spec_l2Text.f k (wrap64 (Int.tdiv a0 10))).bind fun t111=>((some (([(wrap64 (48+(Int.tmod a0 10))) % 256]:List Int):List Int)).bind fun y112=>(if t111.size+(strOfNums y112).size≤9223372036854775807 then (some (t111 ++ (strOfNums y112))) else (none))))
def spec_l2Text.T3:Bool × List (List Nat × List Nat):=(true,[([],[]),([0],[0]),([1],[1]),([],[]),([3],[3]),([4],[4]),([5],[5]),([6],[6]),([7],[7]),([2,8],[2,8]),([9,2,0,1,2,3,4,5,6,7,8,9],[9])])
def spec_l2Text.B3:List Nat:=[0,1,3,0,8,24,56,120,248,511,1023]
theorem spec_l2Text.tab3:rtab .any (opsOf Tryd.f41 3)=spec_l2Text.T3:=by kernel_rfl
theorem spec_l2Text.bits3:waitsOk spec_l2Text.T3.2 spec_l2Text.B3=true:=by kernel_rfl
set_option maxHeartbeats 8000000 in
set_option maxRecDepth 100000 in
theorem spec_l2Text.calls (k:Nat) : ∀ (a0:Int) (r:ByteArray) (w:World) (h:spec_l2Text.f k a0=some r),
  Calls Tryd.prog 41 #[.int .i64 a0] w fun e w'=>e = .returned (.string r)∧Below w.heap.size w w':=by
 induction k using Nat.strongRecOn with
 | _ k ih=>
 intro a0 r w h
 cases k with
 | zero=>exact absurd h (by simp [spec_l2Text.f])
 | succ k=>
 simp only [spec_l2Text.f] at h
 have HB:=Aside0.mk (Below.refl w.heap.size w)
 have H:(if a0 < 10 then (some (strOfNums (([(wrap64 (48+a0)) % 256]:List Int)))) else ((spec_l2Text.f k (wrap64 (Int.tdiv a0 10))).bind fun t111=>((some (([(wrap64 (48+(Int.tmod a0 10))) % 256]:List Int):List Int)).bind fun y112=>(if t111.size+(strOfNums y112).size≤9223372036854775807 then (some (t111 ++ (strOfNums y112))) else (none)))))=some r:=h
 clear h
 by_cases c2:a0 < 10
 ·rw [if_pos c2] at H
  have c2b0:decide (a0 < 10)=true:=decide_eq_true c2
  clear c2
  obtain ⟨y108,hy108⟩ : ∃ y_:List Int,y_=(([(wrap64 (48+a0)) % 256]:List Int)):=⟨_,rfl⟩
  replace H:(some (strOfNums y108))=some r:=by first|(rw [hy108];with_reducible exact H)|(have H2_:=(Option.bind_some _ _).symm.trans H;rw [hy108];with_reducible exact H2_)|(have H2_:=(Option.bind_some _ _).symm.trans H;with_reducible exact H2_)|with_reducible exact H|(rw [hy108];exact H)|exact H
  have Ny108:=Aside0.mk hy108
  clear hy108
  obtain rfl:=Option.some.inj H
  go_enter Tryd.func41,Tryd.ntmps41
  go_wp2_with (first|((with_reducible refine gate_dst (N:=8) rfl ?_);refine Kd.R_lit (Kd.int .u8) _ 5 ?hg (N:=8) ?hd (xs:=([(wrap64 (48+a0)) % 256]:List Int)) (inner:=[.int .u8 ((wrap64 (48+a0)) % 256)]) (ok:=fun _=>True) (okp:=fun _=>True) ?hr ?hp (fun _ hk=>hk) trivial (Below.refl _ _) (Nat.le_refl _) (by simp) ?_;(case hd=>rfl);(case hg=>rfl);(case hr=>first|(go_simp;done)|(go_simp;rfl));(case hp=>exact (Reps.one (show Kd.M (Kd.int .u8) _ _ _ ((wrap64 (48+a0)) % 256) [.int .u8 ((wrap64 (48+a0)) % 256)] from rfl) (Reps.none _ _)));intro v109 w3 ho4 hb hg_ hnew_;clear hg_ hnew_;(first|rw [← Ny108.out] at ho4|(simp only [Int.reduceToNat] at ho4;rw [← Ny108.out] at ho4));have n0_:=Aside0.mk (Kd.R_lower ho4 (below_size be));have n1_:=bs hb;clear HB;have HO110:=n0_;have HB:=n1_;clear n0_ n1_;clear hb ho4;have hcv5:=own_string (P:=Tryd.prog) Tryd.underlying39 Tryd.underlying5 Tryd.underlying9 (Kd.own_of_R HO110.out)))
  go_ret
  exact ⟨rz,be⟩
 ·rw [if_neg c2] at H
  have c2b0:decide (a0 < 10)=false:=decide_eq_false c2
  clear c2
  replace H:=Option.bind_eq_some_iff.mp H
  obtain ⟨t111,A60,H⟩:=H
  try dsimp only at H
  have A6:=Aside0.mk A60
  clear A60
  obtain ⟨y112,hy112⟩ : ∃ y_:List Int,y_=(([(wrap64 (48+(Int.tmod a0 10))) % 256]:List Int)):=⟨_,rfl⟩
  replace H:(if t111.size+(strOfNums y112).size≤9223372036854775807 then (some (t111 ++ (strOfNums y112))) else (none))=some r:=by first|(rw [hy112];with_reducible exact H)|(have H2_:=(Option.bind_some _ _).symm.trans H;rw [hy112];with_reducible exact H2_)|(have H2_:=(Option.bind_some _ _).symm.trans H;with_reducible exact H2_)|with_reducible exact H|(rw [hy112];exact H)|exact H
  have Ny112:=Aside0.mk hy112
  clear hy112
  by_cases c7:t111.size+(strOfNums y112).size≤9223372036854775807
  ·rw [if_pos c7] at H
   have c7b0:=eq_true c7
   have c7b1:decide (t111.size+(strOfNums y112).size≤9223372036854775807)=true:=decide_eq_true c7
   try have c7b2:(9223372036854775807 < t111.size+(strOfNums y112).size)=False:=eq_false (Nat.not_lt.2 c7)
   obtain rfl:=Option.some.inj H
   go_enter Tryd.func41,Tryd.ntmps41
   try go_wp2
   have n0_:=Aside0.mk (below_drew1 HB.out)
   clear HB
   have HB:=n0_
   clear n0_
   refine start_ (n:=11) (S:=fun w'=>True) (ds:=[]) (fl 11 0) (by kernel_rfl) rfl rfl trivial (fun hHeld=>?_);refine with_tabW spec_l2Text.tab3 spec_l2Text.bits3 (fun HT_ HW_=>?_)
   generalize w.drew=w8 at HB hHeld ⊢
   refine pt 0 10 (fl 11 1) HT_ ?_
   refine pt 1 11 (fl 11 3) HT_ ?_
   refine pt 3 13 (fl 11 11) HT_ ?_
   refine pt 4 14 (fl 11 27) HT_ ?_
   refine pt 5 15 (fl 11 59) HT_ ?_
   refine pt 6 16 (fl 11 123) HT_ ?_
   refine join_ (σ:=Value) 2 (fl 11 511) (fun s_=>[(12,.string t111),(17,s_),(18,.string (strOfNums y112))]) (fun s_ w'=>(Kd.R (Kd.int .u8) 5 w' w.heap.size (fun _=>True) s_ y112)∧(Below w.heap.size w w')) ?_ ?_
   rotate_left
   ·intro hCont
    refine two_ (i:=2) (j:=7) (Ni:=some 12) (Nj:=some 17) (fl 11 127) (fl 11 251) rfl rfl rfl rfl (two_of HT_.out (by kernel_rfl)) (by decide) (by decide) (fun K hK=>?_) (fun K hK=>?_)
    ·skip
     refine goes_ Tryd.func41 (by kernel_rfl) rfl #[.int .i64 (wrap64 (Int.tdiv a0 10))] (by rfl) rfl rfl (by (try simp only [List.map_toArray,List.map_cons,List.map_nil]);first|done|rfl|(simp only [List.length_drop,List.length_take];rfl)) ?_
     with_reducible refine (ih k (by omega) (wrap64 (Int.tdiv a0 10)) t111 _ A6.out).mono ?_
     rintro e w9 ⟨rfl,hb⟩
     refine ⟨_,rfl,?_⟩
     have n0_:=bs hb
     clear HB
     have HB:=n0_
     clear n0_
     (try clear hb)
     (try clear hb2)
     (try clear hk)
     (try clear hi)
     refine hK.out _ _ trivial (fun hHeld=>?_)
     clear hK K
     refine no 12 ?_
     refine ot 7 (some 17) (fl 11 255) HT_ (fun K hK=>?_)
     refine Kd.R_lit_step (Kd.int .u8) _ 5 ?hg (N:=17) ?hd (xs:=([(wrap64 (48+(Int.tmod a0 10))) % 256]:List Int)) (inner:=[.int .u8 ((wrap64 (48+(Int.tmod a0 10))) % 256)]) (ok:=fun _=>True) (okp:=fun _=>True) ?hr ?hp (fun _ hk=>hk) trivial (Below.refl _ _) (Nat.le_refl _) (by simp) ?_;(case hd=>rfl);(case hg=>rfl);(case hr=>first|(go_simp;done)|(go_simp;rfl));(case hp=>exact (Reps.one (show Kd.M (Kd.int .u8) _ _ _ ((wrap64 (48+(Int.tmod a0 10))) % 256) [.int .u8 ((wrap64 (48+(Int.tmod a0 10))) % 256)] from rfl) (Reps.none _ _)))
     intro v113 w10 ho11 hb hg_ hnew_
     clear hg_ hnew_
     (first|rw [← Ny112.out] at ho11|(simp only [Int.reduceToNat] at ho11;rw [← Ny112.out] at ho11))
     have n0_:=Aside0.mk (Kd.R_lower ho11 (below_size be))
     have n1_:=bs hb
     clear HB
     have HO114:=n0_
     have HB:=n1_
     clear n0_ n1_
     clear hb ho11
     refine hK.out _ _ trivial (fun hHeld=>?_)
     clear hK K
     refine no 17 ?_
     refine ot 8 (some 18) (fl 11 511) HT_ (fun K hK=>?_)
     have hcv12:=own_string (P:=Tryd.prog) Tryd.underlying39 Tryd.underlying5 Tryd.underlying9 (Kd.own_of_R HO114.out)
     refine value_ (w1:=?_) (v:=?_) (by rfl) rfl ?_ ?_
     rotate_left 2
     ·go_simp
      constructor
      ·rfl
      ·rfl
     clear hcv12
     refine hK.out _ _ trivial (fun hHeld=>?_)
     clear hK K
     refine no 18 ?_
     exact norm_ (by simp only [putAll,Act.put,List.setIfInBounds_toArray,List.set_cons_zero,List.set_cons_succ]) (hCont (v113) _ ⟨(rR HO114),be⟩)
    ·skip
     refine Kd.R_lit_step (Kd.int .u8) _ 5 ?hg (N:=17) ?hd (xs:=([(wrap64 (48+(Int.tmod a0 10))) % 256]:List Int)) (inner:=[.int .u8 ((wrap64 (48+(Int.tmod a0 10))) % 256)]) (ok:=fun _=>True) (okp:=fun _=>True) ?hr ?hp (fun _ hk=>hk) trivial (Below.refl _ _) (Nat.le_refl _) (by simp) ?_;(case hd=>rfl);(case hg=>rfl);(case hr=>first|(go_simp;done)|(go_simp;rfl));(case hp=>exact (Reps.one (show Kd.M (Kd.int .u8) _ _ _ ((wrap64 (48+(Int.tmod a0 10))) % 256) [.int .u8 ((wrap64 (48+(Int.tmod a0 10))) % 256)] from rfl) (Reps.none _ _)))
     intro v113 w9 ho10 hb hg_ hnew_
     clear hg_ hnew_
     (first|rw [← Ny112.out] at ho10|(simp only [Int.reduceToNat] at ho10;rw [← Ny112.out] at ho10))
     have n0_:=Aside0.mk (Kd.R_lower ho10 (below_size be))
     have n1_:=bs hb
     clear HB
     have HO114:=n0_
     have HB:=n1_
     clear n0_ n1_
     clear hb ho10
     refine hK.out _ _ trivial (fun hHeld=>?_)
     clear hK K
     refine no 17 ?_
     refine two_ (i:=2) (j:=8) (Ni:=some 12) (Nj:=some 18) (fl 11 255) (fl 11 507) rfl rfl rfl rfl (two_of HT_.out (by kernel_rfl)) (by decide) (by decide) (fun K hK=>?_) (fun K hK=>?_)
     ·skip
      refine goes_ Tryd.func41 (by kernel_rfl) rfl #[.int .i64 (wrap64 (Int.tdiv a0 10))] (by rfl) rfl rfl (by (try simp only [List.map_toArray,List.map_cons,List.map_nil]);first|done|rfl|(simp only [List.length_drop,List.length_take];rfl)) ?_
      with_reducible refine (ih k (by omega) (wrap64 (Int.tdiv a0 10)) t111 _ A6.out).mono ?_
      rintro e w11 ⟨rfl,hb⟩
      refine ⟨_,rfl,?_⟩
      have n0_:=Aside0.mk (Kd.R_below ((rR HO114)) hb)
      have n1_:=bs hb
      clear HO114
      clear HB
      have HO114:=n0_
      have HB:=n1_
      clear n0_ n1_
      (try clear hb)
      (try clear hb2)
      (try clear hk)
      (try clear hi)
      refine hK.out _ _ trivial (fun hHeld=>?_)
      clear hK K
      refine no 12 ?_
      refine ot 8 (some 18) (fl 11 511) HT_ (fun K hK=>?_)
      have hcv12:=own_string (P:=Tryd.prog) Tryd.underlying39 Tryd.underlying5 Tryd.underlying9 (Kd.own_of_R HO114.out)
      refine value_ (w1:=?_) (v:=?_) (by rfl) rfl ?_ ?_
      rotate_left 2
      ·go_simp
       constructor
       ·rfl
       ·rfl
      clear hcv12
      refine hK.out _ _ trivial (fun hHeld=>?_)
      clear hK K
      refine no 18 ?_
      exact norm_ (by simp only [putAll,Act.put,List.setIfInBounds_toArray,List.set_cons_zero,List.set_cons_succ]) (hCont (v113) _ ⟨(rR HO114),be⟩)
     ·skip
      have hcv11:=own_string (P:=Tryd.prog) Tryd.underlying39 Tryd.underlying5 Tryd.underlying9 (Kd.own_of_R HO114.out)
      refine value_ (w1:=?_) (v:=?_) (by rfl) rfl ?_ ?_
      rotate_left 2
      ·go_simp
       constructor
       ·rfl
       ·rfl
      clear hcv11
      refine hK.out _ _ trivial (fun hHeld=>?_)
      clear hK K
      refine no 18 ?_
      refine ot 2 (some 12) (fl 11 511) HT_ (fun K hK=>?_)
      refine goes_ Tryd.func41 (by kernel_rfl) rfl #[.int .i64 (wrap64 (Int.tdiv a0 10))] (by rfl) rfl rfl (by (try simp only [List.map_toArray,List.map_cons,List.map_nil]);first|done|rfl|(simp only [List.length_drop,List.length_take];rfl)) ?_
      with_reducible refine (ih k (by omega) (wrap64 (Int.tdiv a0 10)) t111 _ A6.out).mono ?_
      rintro e w12 ⟨rfl,hb⟩
      refine ⟨_,rfl,?_⟩
      have n0_:=Aside0.mk (Kd.R_below ((rR HO114)) hb)
      have n1_:=bs hb
      clear HO114
      clear HB
      have HO114:=n0_
      have HB:=n1_
      clear n0_ n1_
      (try clear hb)
      (try clear hb2)
      (try clear hk)
      (try clear hi)
      refine hK.out _ _ trivial (fun hHeld=>?_)
      clear hK K
      refine no 12 ?_
      exact norm_ (by simp only [putAll,Act.put,List.setIfInBounds_toArray,List.set_cons_zero,List.set_cons_succ]) (hCont (v113) _ ⟨(rR HO114),be⟩)
   rintro v113 w13 ⟨h0_,h1_⟩
   have n0_:Aside0 (Kd.R (Kd.int .u8) 5 w13 w.heap.size (fun _=>True) v113 y112):=⟨h0_⟩
   have n1_:Aside0 (Below w.heap.size w w13):=⟨h1_⟩
   clear HB
   clear h0_ h1_
   have HO114:=n0_
   have HB:=n1_
   clear n0_ n1_
   have hHeld:=trivial
   refine norm_ (a':=?_) ?_ ?_
   rotate_left
   ·simp only [putAll,Act.put,List.setIfInBounds_toArray,List.set_cons_zero,List.set_cons_succ]
    rfl
   refine pt 9 19 (fl 11 1023) HT_ ?_
   refine pt 10 2 (fl 11 2047) HT_ ?_
   refine done_ (done_of HT_.out (by kernel_rfl)) ?_
   try go_wp2
   go_ret
   exact ⟨rz,be⟩
  ·rw [if_neg c7] at H
   exact absurd H (by simp)
def spec_DevsText.l0:Nat→List (S53)→ByteArray→Int→Option (ByteArray)
 | 0,_,_,_=>none
 | k+1,x0,x3,x4=>if x4 < (x0.length:Int) then (if x4 > 0 then (if x3.size+1≤9223372036854775807 then (if 0≤x4 then ((spec_l2Text.f k ((rd_T53 x0 x4).f0)).bind fun t117=>(if (x3 ++ (⟨#[32]⟩:ByteArray)).size+t117.size≤9223372036854775807 then (if ((x3 ++ (⟨#[32]⟩:ByteArray)) ++ t117).size+1≤9223372036854775807 then ((spec_l2Text.f k ((rd_T53 x0 x4).f1)).bind fun t119=>(if (((x3 ++ (⟨#[32]⟩:ByteArray)) ++ t117) ++ (⟨#[58]⟩:ByteArray)).size+t119.size≤9223372036854775807 then (if ((((x3 ++ (⟨#[32]⟩:ByteArray)) ++ t117) ++ (⟨#[58]⟩:ByteArray)) ++ t119).size+1≤9223372036854775807 then ((spec_l2Text.f k ((rd_T53 x0 x4).f2)).bind fun t121=>(if (((((x3 ++ (⟨#[32]⟩:ByteArray)) ++ t117) ++ (⟨#[58]⟩:ByteArray)) ++ t119) ++ (⟨#[58]⟩:ByteArray)).size+t121.size≤9223372036854775807 then (spec_DevsText.l0 k x0 ((((((x3 ++ (⟨#[32]⟩:ByteArray)) ++ t117) ++ (⟨#[58]⟩:ByteArray)) ++ t119) ++ (⟨#[58]⟩:ByteArray)) ++ t121) (wrap64 (x4+1))) else (none))) else (none)) else (none))) else (none)) else (none))) else (none)) else (none)) else (if 0≤x4 then ((spec_l2Text.f k ((rd_T53 x0 x4).f0)).bind fun t123=>(if x3.size+t123.size≤9223372036854775807 then (if (x3 ++ t123).size+1≤9223372036854775807 then ((spec_l2Text.f k ((rd_T53 x0 x4).f1)).bind fun t125=>(if ((x3 ++ t123) ++ (⟨#[58]⟩:ByteArray)).size+t125.size≤9223372036854775807 then (if (((x3 ++ t123) ++ (⟨#[58]⟩:ByteArray)) ++ t125).size+1≤9223372036854775807 then ((spec_l2Text.f k ((rd_T53 x0 x4).f2)).bind fun t127=>(if ((((x3 ++ t123) ++ (⟨#[58]⟩:ByteArray)) ++ t125) ++ (⟨#[58]⟩:ByteArray)).size+t127.size≤9223372036854775807 then (spec_DevsText.l0 k x0 (((((x3 ++ t123) ++ (⟨#[58]⟩:ByteArray)) ++ t125) ++ (⟨#[58]⟩:ByteArray)) ++ t127) (wrap64 (x4+1))) else (none))) else (none)) else (none))) else (none)) else (none))) else (none))) else (some x3)
def spec_DevsText.f (k:Nat) (l0:List (S53)):Option (ByteArray):=(spec_DevsOk.f k l0).bind fun t115=>(if t115=true then (spec_DevsText.l0 k l0 (⟨#[]⟩:ByteArray) 0) else (some (⟨#[]⟩:ByteArray)))
def spec_DevsText.T9:Bool × List (List Nat × List Nat):=(true,[([],[]),([],[]),([],[]),([1,2],[1,2]),([3],[3]),([4],[4]),([5],[5]),([0,6],[0,6]),([7],[7]),([],[]),([],[]),([9,10],[9,10]),([11],[11]),([12],[12]),([13,6],[13]),([8,14],[8,14]),([15],[15]),([],[]),([],[]),([17,18],[17,18]),([19],[19]),([20],[20]),([21,14],[21]),([16,22],[16,22]),([23,22,0,1,2,3,4,5,6,7,8,9,10,11,12,13,14,15,16,17,18,19,20,21,22,23],[0,23])])
def spec_DevsText.B9:List Nat:=[0,0,0,6,14,30,62,127,255,0,0,1536,3584,7680,15998,32767,65535,0,0,393216,917504,1966080,4095614,8388607,16777215]
theorem spec_DevsText.tab9:rtab .any (opsOf Tryd.f15 9)=spec_DevsText.T9:=by kernel_rfl
theorem spec_DevsText.bits9:waitsOk spec_DevsText.T9.2 spec_DevsText.B9=true:=by kernel_rfl
set_option maxHeartbeats 8000000 in
set_option maxRecDepth 100000 in
theorem spec_DevsText.calls (k:Nat) (A0:Option Addr) (c0:Nat) (l0:List (S53)) (r:ByteArray) (w:World) (hr0:Kd.C k53 w A0 l0.length l0) (hc0:l0.length≤c0) (h:spec_DevsText.f k l0=some r) :
  Calls Tryd.prog 15 #[.slice A0 l0.length c0] w fun e w'=>e = .returned (.string r)∧Below w.heap.size w w':=by
 have HR0:=Aside0.mk hr0
 have HC0:=Aside0.mk hc0
 clear hr0 hc0
 have HB:=Aside0.mk (Below.refl w.heap.size w)
 have H:((spec_DevsOk.f k l0).bind fun t115=>(if t115=true then (spec_DevsText.l0 k l0 (⟨#[]⟩:ByteArray) 0) else (some (⟨#[]⟩:ByteArray))))=some r:=h
 clear h
 replace H:=Option.bind_eq_some_iff.mp H
 obtain ⟨t115,A20,H⟩:=H
 try dsimp only at H
 have A2:=Aside0.mk A20
 clear A20
 by_cases c3:t115=true
 ·subst c3
  rw [if_pos rfl] at H
  have H':=Aside0.mk H
  clear H
  go_enter Tryd.func15,Tryd.ntmps15
  go_wp2_with (first|((with_reducible refine gate_callee (f:=36) rfl ?_);refine goesL_ (some 6) rfl rfl Tryd.func36 (by kernel_rfl) rfl #[.slice A0 l0.length c0] rfl (by (try simp only [List.map_toArray,List.map_cons,List.map_nil]);first|done|rfl|(simp only [List.length_drop,List.length_take];rfl)) ?_;(with_reducible refine (spec_DevsOk.calls k _ _ l0 true _ ?side1 ?side2 A2.out).mono ?_);(case side1=>exact sC HR0);(case side2=>exact HC0.out);rintro e w4 ⟨rfl,hb⟩;refine ⟨_,rfl,?_⟩;have n0_:=bs hb;clear HB;have HB:=n0_;clear n0_;(try clear hb);(try clear hb2);(try clear hk);(try clear hi)))
  go_loopg [3,4] k (fun kq v3 v4 w'=>∃ (x3_1:ByteArray) (x4_1:Int),v3 = .string x3_1∧v4 = .int .i64 x4_1∧Aside0 (spec_DevsText.l0 kq l0 x3_1 x4_1=some r)∧Aside0 (kq≤k)∧Aside0 (Below w.heap.size w w'))
  case atStart=>exact ⟨((⟨#[]⟩:ByteArray)),(0),rd_,rd_,H',⟨Nat.le_refl _⟩,⟨be⟩⟩
  case round=>
   clear H'
   try clear c1
   try clear p2
   try clear c3
   obtain ⟨x3_1,x4_1,rfl,rfl,HA,HK1,HB⟩:=hrel
   cases gk with
   | zero=>exact absurd HA.out (by simp [spec_DevsText.l0])
   | succ k1=>
    have H:=HA.out
    clear HA
    simp only [spec_DevsText.l0] at H
    by_cases c5:x4_1 < (l0.length:Int)
    ·rw [if_pos c5] at H
     have c5b0:decide (x4_1 < (l0.length:Int))=true:=decide_eq_true c5
     clear c5
     by_cases c6:x4_1 > 0
     ·rw [if_pos c6] at H
      have c6b0:decide (0 < x4_1)=true:=decide_eq_true c6
      clear c6
      by_cases c7:x3_1.size+1≤9223372036854775807
      ·rw [if_pos c7] at H
       have c7b0:=eq_true c7
       have c7b1:decide (x3_1.size+1≤9223372036854775807)=true:=decide_eq_true c7
       try have c7b2:(9223372036854775807 < x3_1.size+1)=False:=eq_false (Nat.not_lt.2 c7)
       by_cases c8:0≤x4_1
       ·rw [if_pos c8] at H
        have c8b0:decide (0≤x4_1)=true:=decide_eq_true c8
        clear c8
        replace H:=Option.bind_eq_some_iff.mp H
        obtain ⟨t117,A90,H⟩:=H
        try dsimp only at H
        have A9:=Aside0.mk A90
        clear A90
        by_cases c10:(x3_1 ++ (⟨#[32]⟩:ByteArray)).size+t117.size≤9223372036854775807
        ·rw [if_pos c10] at H
         have c10b0:=eq_true c10
         have c10b1:decide ((x3_1 ++ (⟨#[32]⟩:ByteArray)).size+t117.size≤9223372036854775807)=true:=decide_eq_true c10
         try have c10b2:(9223372036854775807 < (x3_1 ++ (⟨#[32]⟩:ByteArray)).size+t117.size)=False:=eq_false (Nat.not_lt.2 c10)
         try (have c10b3:=Nat.not_lt.2 c10;simp only [ByteArray.size_append,one_size] at c10b3;replace c10b3:=eq_false c10b3)
         by_cases c11:((x3_1 ++ (⟨#[32]⟩:ByteArray)) ++ t117).size+1≤9223372036854775807
         ·rw [if_pos c11] at H
          have c11b0:=eq_true c11
          have c11b1:decide (((x3_1 ++ (⟨#[32]⟩:ByteArray)) ++ t117).size+1≤9223372036854775807)=true:=decide_eq_true c11
          try have c11b2:(9223372036854775807 < ((x3_1 ++ (⟨#[32]⟩:ByteArray)) ++ t117).size+1)=False:=eq_false (Nat.not_lt.2 c11)
          try (have c11b3:=Nat.not_lt.2 c11;simp only [ByteArray.size_append,one_size] at c11b3;replace c11b3:=eq_false c11b3)
          replace H:=Option.bind_eq_some_iff.mp H
          obtain ⟨t119,A120,H⟩:=H
          try dsimp only at H
          have A12:=Aside0.mk A120
          clear A120
          by_cases c13:(((x3_1 ++ (⟨#[32]⟩:ByteArray)) ++ t117) ++ (⟨#[58]⟩:ByteArray)).size+t119.size≤9223372036854775807
          ·rw [if_pos c13] at H
           have c13b0:=eq_true c13
           have c13b1:decide ((((x3_1 ++ (⟨#[32]⟩:ByteArray)) ++ t117) ++ (⟨#[58]⟩:ByteArray)).size+t119.size≤9223372036854775807)=true:=decide_eq_true c13
           try have c13b2:(9223372036854775807 < (((x3_1 ++ (⟨#[32]⟩:ByteArray)) ++ t117) ++ (⟨#[58]⟩:ByteArray)).size+t119.size)=False:=eq_false (Nat.not_lt.2 c13)
           try (have c13b3:=Nat.not_lt.2 c13;simp only [ByteArray.size_append,one_size] at c13b3;replace c13b3:=eq_false c13b3)
           by_cases c14:((((x3_1 ++ (⟨#[32]⟩:ByteArray)) ++ t117) ++ (⟨#[58]⟩:ByteArray)) ++ t119).size+1≤9223372036854775807
           ·rw [if_pos c14] at H
            have c14b0:=eq_true c14
            have c14b1:decide (((((x3_1 ++ (⟨#[32]⟩:ByteArray)) ++ t117) ++ (⟨#[58]⟩:ByteArray)) ++ t119).size+1≤9223372036854775807)=true:=decide_eq_true c14
            try have c14b2:(9223372036854775807 < ((((x3_1 ++ (⟨#[32]⟩:ByteArray)) ++ t117) ++ (⟨#[58]⟩:ByteArray)) ++ t119).size+1)=False:=eq_false (Nat.not_lt.2 c14)
            try (have c14b3:=Nat.not_lt.2 c14;simp only [ByteArray.size_append,one_size] at c14b3;replace c14b3:=eq_false c14b3)
            replace H:=Option.bind_eq_some_iff.mp H
            obtain ⟨t121,A150,H⟩:=H
            try dsimp only at H
            have A15:=Aside0.mk A150
            clear A150
            by_cases c16:(((((x3_1 ++ (⟨#[32]⟩:ByteArray)) ++ t117) ++ (⟨#[58]⟩:ByteArray)) ++ t119) ++ (⟨#[58]⟩:ByteArray)).size+t121.size≤9223372036854775807
            ·rw [if_pos c16] at H
             have c16b0:=eq_true c16
             have c16b1:decide ((((((x3_1 ++ (⟨#[32]⟩:ByteArray)) ++ t117) ++ (⟨#[58]⟩:ByteArray)) ++ t119) ++ (⟨#[58]⟩:ByteArray)).size+t121.size≤9223372036854775807)=true:=decide_eq_true c16
             try have c16b2:(9223372036854775807 < (((((x3_1 ++ (⟨#[32]⟩:ByteArray)) ++ t117) ++ (⟨#[58]⟩:ByteArray)) ++ t119) ++ (⟨#[58]⟩:ByteArray)).size+t121.size)=False:=eq_false (Nat.not_lt.2 c16)
             try (have c16b3:=Nat.not_lt.2 c16;simp only [ByteArray.size_append,one_size] at c16b3;replace c16b3:=eq_false c16b3)
             have H':=Aside0.mk H
             clear H
             try go_wp2
             have n0_:=Aside0.mk (below_drew1 HB.out)
             clear HB
             have HB:=n0_
             clear n0_
             have p116:0≤(x4_1:Int):=of_decide_eq_true (by first|(with_reducible assumption)|assumption)
             have q116:x4_1 < (l0.length:Int):=of_decide_eq_true (by first|(with_reducible assumption)|assumption)
             obtain ⟨ad116,e116,hx116_0,hx116_1,hx116_2⟩:=at_T53 HR0.out x4_1 p116 q116
             have hw116_2:=hx116_2
             have hw116_1:=hx116_1
             have hw116_0:=hx116_0
             cases e116
             replace hx116_0:=(HB.out.cell (World.block_lt_of_cell? w _ hx116_0)).trans hx116_0
             replace hx116_1:=(HB.out.cell (World.block_lt_of_cell? w _ hx116_1)).trans hx116_1
             replace hx116_2:=(HB.out.cell (World.block_lt_of_cell? w _ hx116_2)).trans hx116_2
             replace p116:=eq_true p116
             replace q116:=eq_true q116
             have p118:0≤(x4_1:Int):=of_decide_eq_true (by first|(with_reducible assumption)|assumption)
             have q118:x4_1 < (l0.length:Int):=of_decide_eq_true (by first|(with_reducible assumption)|assumption)
             obtain ⟨ad118,e118,hx118_0,hx118_1,hx118_2⟩:=at_T53 HR0.out x4_1 p118 q118
             have hw118_2:=hx118_2
             have hw118_1:=hx118_1
             have hw118_0:=hx118_0
             obtain rfl:ad116=ad118:=(by injection e118)
             replace hx118_0:=(HB.out.cell (World.block_lt_of_cell? w _ hx118_0)).trans hx118_0
             replace hx118_1:=(HB.out.cell (World.block_lt_of_cell? w _ hx118_1)).trans hx118_1
             replace hx118_2:=(HB.out.cell (World.block_lt_of_cell? w _ hx118_2)).trans hx118_2
             replace p118:=eq_true p118
             replace q118:=eq_true q118
             have p120:0≤(x4_1:Int):=of_decide_eq_true (by first|(with_reducible assumption)|assumption)
             have q120:x4_1 < (l0.length:Int):=of_decide_eq_true (by first|(with_reducible assumption)|assumption)
             obtain ⟨ad120,e120,hx120_0,hx120_1,hx120_2⟩:=at_T53 HR0.out x4_1 p120 q120
             have hw120_2:=hx120_2
             have hw120_1:=hx120_1
             have hw120_0:=hx120_0
             obtain rfl:ad116=ad120:=(by injection e120)
             replace hx120_0:=(HB.out.cell (World.block_lt_of_cell? w _ hx120_0)).trans hx120_0
             replace hx120_1:=(HB.out.cell (World.block_lt_of_cell? w _ hx120_1)).trans hx120_1
             replace hx120_2:=(HB.out.cell (World.block_lt_of_cell? w _ hx120_2)).trans hx120_2
             replace p120:=eq_true p120
             replace q120:=eq_true q120
             refine start_ (n:=25) (S:=fun w'=>w'.cell? (ad116.add ((x4_1).toNat * 3))=some (.int .i64 ((rd_T53 l0 x4_1).f0))∧w'.cell? ⟨(ad116.add ((x4_1).toNat * 3)).block,(ad116.add ((x4_1).toNat * 3)).off+1,none⟩=some (.int .i64 ((rd_T53 l0 x4_1).f1))∧w'.cell? ⟨(ad116.add ((x4_1).toNat * 3)).block,(ad116.add ((x4_1).toNat * 3)).off+2,none⟩=some (.int .i64 ((rd_T53 l0 x4_1).f2))∧w'.cell? (ad116.add ((x4_1).toNat * 3))=some (.int .i64 ((rd_T53 l0 x4_1).f0))∧w'.cell? ⟨(ad116.add ((x4_1).toNat * 3)).block,(ad116.add ((x4_1).toNat * 3)).off+1,none⟩=some (.int .i64 ((rd_T53 l0 x4_1).f1))∧w'.cell? ⟨(ad116.add ((x4_1).toNat * 3)).block,(ad116.add ((x4_1).toNat * 3)).off+2,none⟩=some (.int .i64 ((rd_T53 l0 x4_1).f2))∧w'.cell? (ad116.add ((x4_1).toNat * 3))=some (.int .i64 ((rd_T53 l0 x4_1).f0))∧w'.cell? ⟨(ad116.add ((x4_1).toNat * 3)).block,(ad116.add ((x4_1).toNat * 3)).off+1,none⟩=some (.int .i64 ((rd_T53 l0 x4_1).f1))∧w'.cell? ⟨(ad116.add ((x4_1).toNat * 3)).block,(ad116.add ((x4_1).toNat * 3)).off+2,none⟩=some (.int .i64 ((rd_T53 l0 x4_1).f2))) (ds:=[]) (fl 25 0) (by kernel_rfl) rfl rfl ⟨((HB.out.cell (World.block_lt_of_cell? w _ hw116_0)).trans hw116_0),((HB.out.cell (World.block_lt_of_cell? w _ hw116_1)).trans hw116_1),((HB.out.cell (World.block_lt_of_cell? w _ hw116_2)).trans hw116_2),((HB.out.cell (World.block_lt_of_cell? w _ hw118_0)).trans hw118_0),((HB.out.cell (World.block_lt_of_cell? w _ hw118_1)).trans hw118_1),((HB.out.cell (World.block_lt_of_cell? w _ hw118_2)).trans hw118_2),((HB.out.cell (World.block_lt_of_cell? w _ hw120_0)).trans hw120_0),((HB.out.cell (World.block_lt_of_cell? w _ hw120_1)).trans hw120_1),((HB.out.cell (World.block_lt_of_cell? w _ hw120_2)).trans hw120_2)⟩ (fun hHeld=>?_);refine with_tabW spec_DevsText.tab9 spec_DevsText.bits9 (fun HT_ HW_=>?_)
             generalize wr.drew=w17 at HB hx116_0 hx116_1 hx116_2 hx118_0 hx118_1 hx118_2 hx120_0 hx120_1 hx120_2 hHeld ⊢
             refine pt 0 19 (fl 25 1) HT_ ?_
             refine pt 1 20 (fl 25 3) HT_ ?_
             refine pt 2 21 (fl 25 7) HT_ ?_
             refine pt 3 22 (fl 25 15) HT_ ?_
             refine pt 4 23 (fl 25 31) HT_ ?_
             refine pt 9 28 (fl 25 543) HT_ ?_
             refine pt 10 29 (fl 25 1567) HT_ ?_
             refine pt 11 30 (fl 25 3615) HT_ ?_
             refine pt 12 31 (fl 25 7711) HT_ ?_
             refine pt 17 36 (fl 25 138783) HT_ ?_
             refine pt 18 37 (fl 25 400927) HT_ ?_
             refine pt 19 38 (fl 25 925215) HT_ ?_
             refine pt 20 39 (fl 25 1973791) HT_ ?_
             refine tt 5 24 (fl 25 1973823) HT_ HW_ hHeld ?_
             refine tt 13 32 (fl 25 1982015) HT_ HW_ hHeld ?_
             refine tt 21 40 (fl 25 4079167) HT_ HW_ hHeld ?_
             refine ot 6 (some 25) (fl 25 4079231) HT_ (fun K hK=>?_)
             refine goes_ Tryd.func41 (by kernel_rfl) rfl #[.int .i64 ((rd_T53 l0 x4_1).f0)] (by rfl) rfl rfl (by (try simp only [List.map_toArray,List.map_cons,List.map_nil]);first|done|rfl|(simp only [List.length_drop,List.length_take];rfl)) ?_
             with_reducible refine (spec_l2Text.calls k1 ((rd_T53 l0 x4_1).f0) t117 _ A9.out).mono ?_
             rintro e w18 ⟨rfl,hb⟩
             refine ⟨_,rfl,?_⟩
             have n0_:=bs hb
             clear HB
             have HB:=n0_
             clear n0_
             (try clear hb)
             (try clear hb2)
             (try clear hk)
             (try clear hi)
             refine hK.out _ _ ⟨((HB.out.cell (World.block_lt_of_cell? w _ hw116_0)).trans hw116_0),((HB.out.cell (World.block_lt_of_cell? w _ hw116_1)).trans hw116_1),((HB.out.cell (World.block_lt_of_cell? w _ hw116_2)).trans hw116_2),((HB.out.cell (World.block_lt_of_cell? w _ hw118_0)).trans hw118_0),((HB.out.cell (World.block_lt_of_cell? w _ hw118_1)).trans hw118_1),((HB.out.cell (World.block_lt_of_cell? w _ hw118_2)).trans hw118_2),((HB.out.cell (World.block_lt_of_cell? w _ hw120_0)).trans hw120_0),((HB.out.cell (World.block_lt_of_cell? w _ hw120_1)).trans hw120_1),((HB.out.cell (World.block_lt_of_cell? w _ hw120_2)).trans hw120_2)⟩ (fun hHeld=>?_)
             clear hK K
             refine no 25 ?_
             refine pt 7 26 (fl 25 4079359) HT_ ?_
             refine pt 8 27 (fl 25 4079615) HT_ ?_
             refine ot 14 (some 33) (fl 25 4095999) HT_ (fun K hK=>?_)
             refine goes_ Tryd.func41 (by kernel_rfl) rfl #[.int .i64 ((rd_T53 l0 x4_1).f1)] (by rfl) rfl rfl (by (try simp only [List.map_toArray,List.map_cons,List.map_nil]);first|done|rfl|(simp only [List.length_drop,List.length_take];rfl)) ?_
             with_reducible refine (spec_l2Text.calls k1 ((rd_T53 l0 x4_1).f1) t119 _ A12.out).mono ?_
             rintro e w19 ⟨rfl,hb⟩
             refine ⟨_,rfl,?_⟩
             have n0_:=bs hb
             clear HB
             have HB:=n0_
             clear n0_
             (try clear hb)
             (try clear hb2)
             (try clear hk)
             (try clear hi)
             refine hK.out _ _ ⟨((HB.out.cell (World.block_lt_of_cell? w _ hw116_0)).trans hw116_0),((HB.out.cell (World.block_lt_of_cell? w _ hw116_1)).trans hw116_1),((HB.out.cell (World.block_lt_of_cell? w _ hw116_2)).trans hw116_2),((HB.out.cell (World.block_lt_of_cell? w _ hw118_0)).trans hw118_0),((HB.out.cell (World.block_lt_of_cell? w _ hw118_1)).trans hw118_1),((HB.out.cell (World.block_lt_of_cell? w _ hw118_2)).trans hw118_2),((HB.out.cell (World.block_lt_of_cell? w _ hw120_0)).trans hw120_0),((HB.out.cell (World.block_lt_of_cell? w _ hw120_1)).trans hw120_1),((HB.out.cell (World.block_lt_of_cell? w _ hw120_2)).trans hw120_2)⟩ (fun hHeld=>?_)
             clear hK K
             refine no 33 ?_
             refine pt 15 34 (fl 25 4128767) HT_ ?_
             refine pt 16 35 (fl 25 4194303) HT_ ?_
             refine ot 22 (some 41) (fl 25 8388607) HT_ (fun K hK=>?_)
             refine goes_ Tryd.func41 (by kernel_rfl) rfl #[.int .i64 ((rd_T53 l0 x4_1).f2)] (by rfl) rfl rfl (by (try simp only [List.map_toArray,List.map_cons,List.map_nil]);first|done|rfl|(simp only [List.length_drop,List.length_take];rfl)) ?_
             with_reducible refine (spec_l2Text.calls k1 ((rd_T53 l0 x4_1).f2) t121 _ A15.out).mono ?_
             rintro e w20 ⟨rfl,hb⟩
             refine ⟨_,rfl,?_⟩
             have n0_:=bs hb
             clear HB
             have HB:=n0_
             clear n0_
             (try clear hb)
             (try clear hb2)
             (try clear hk)
             (try clear hi)
             refine hK.out _ _ ⟨((HB.out.cell (World.block_lt_of_cell? w _ hw116_0)).trans hw116_0),((HB.out.cell (World.block_lt_of_cell? w _ hw116_1)).trans hw116_1),((HB.out.cell (World.block_lt_of_cell? w _ hw116_2)).trans hw116_2),((HB.out.cell (World.block_lt_of_cell? w _ hw118_0)).trans hw118_0),((HB.out.cell (World.block_lt_of_cell? w _ hw118_1)).trans hw118_1),((HB.out.cell (World.block_lt_of_cell? w _ hw118_2)).trans hw118_2),((HB.out.cell (World.block_lt_of_cell? w _ hw120_0)).trans hw120_0),((HB.out.cell (World.block_lt_of_cell? w _ hw120_1)).trans hw120_1),((HB.out.cell (World.block_lt_of_cell? w _ hw120_2)).trans hw120_2)⟩ (fun hHeld=>?_)
             clear hK K
             refine no 41 ?_
             refine pt 23 42 (fl 25 16777215) HT_ ?_
             refine pt 24 3 (fl 25 33554431) HT_ ?_
             refine done_ (done_of HT_.out (by kernel_rfl)) ?_
             try go_wp2
             go_roundg k1
             case measure=>have:=HK1.out;omega
             case rel=>exact ⟨((((((x3_1 ++ (⟨#[32]⟩:ByteArray)) ++ t117) ++ (⟨#[58]⟩:ByteArray)) ++ t119) ++ (⟨#[58]⟩:ByteArray)) ++ t121),(wrap64 (x4_1+1)),rd_,rd_,H',⟨by have:=HK1.out;omega⟩,⟨be⟩⟩
            ·rw [if_neg c16] at H
             exact absurd H (by simp)
           ·rw [if_neg c14] at H
            exact absurd H (by simp)
          ·rw [if_neg c13] at H
           exact absurd H (by simp)
         ·rw [if_neg c11] at H
          exact absurd H (by simp)
        ·rw [if_neg c10] at H
         exact absurd H (by simp)
       ·rw [if_neg c8] at H
        exact absurd H (by simp)
      ·rw [if_neg c7] at H
       exact absurd H (by simp)
     ·rw [if_neg c6] at H
      have c6b0:decide (0 < x4_1)=false:=decide_eq_false c6
      clear c6
      by_cases c21:0≤x4_1
      ·rw [if_pos c21] at H
       have c21b0:decide (0≤x4_1)=true:=decide_eq_true c21
       clear c21
       replace H:=Option.bind_eq_some_iff.mp H
       obtain ⟨t123,A220,H⟩:=H
       try dsimp only at H
       have A22:=Aside0.mk A220
       clear A220
       by_cases c23:x3_1.size+t123.size≤9223372036854775807
       ·rw [if_pos c23] at H
        have c23b0:=eq_true c23
        have c23b1:decide (x3_1.size+t123.size≤9223372036854775807)=true:=decide_eq_true c23
        try have c23b2:(9223372036854775807 < x3_1.size+t123.size)=False:=eq_false (Nat.not_lt.2 c23)
        by_cases c24:(x3_1 ++ t123).size+1≤9223372036854775807
        ·rw [if_pos c24] at H
         have c24b0:=eq_true c24
         have c24b1:decide ((x3_1 ++ t123).size+1≤9223372036854775807)=true:=decide_eq_true c24
         try have c24b2:(9223372036854775807 < (x3_1 ++ t123).size+1)=False:=eq_false (Nat.not_lt.2 c24)
         try (have c24b3:=Nat.not_lt.2 c24;simp only [ByteArray.size_append,one_size] at c24b3;replace c24b3:=eq_false c24b3)
         replace H:=Option.bind_eq_some_iff.mp H
         obtain ⟨t125,A250,H⟩:=H
         try dsimp only at H
         have A25:=Aside0.mk A250
         clear A250
         by_cases c26:((x3_1 ++ t123) ++ (⟨#[58]⟩:ByteArray)).size+t125.size≤9223372036854775807
         ·rw [if_pos c26] at H
          have c26b0:=eq_true c26
          have c26b1:decide (((x3_1 ++ t123) ++ (⟨#[58]⟩:ByteArray)).size+t125.size≤9223372036854775807)=true:=decide_eq_true c26
          try have c26b2:(9223372036854775807 < ((x3_1 ++ t123) ++ (⟨#[58]⟩:ByteArray)).size+t125.size)=False:=eq_false (Nat.not_lt.2 c26)
          try (have c26b3:=Nat.not_lt.2 c26;simp only [ByteArray.size_append,one_size] at c26b3;replace c26b3:=eq_false c26b3)
          by_cases c27:(((x3_1 ++ t123) ++ (⟨#[58]⟩:ByteArray)) ++ t125).size+1≤9223372036854775807
          ·rw [if_pos c27] at H
           have c27b0:=eq_true c27
           have c27b1:decide ((((x3_1 ++ t123) ++ (⟨#[58]⟩:ByteArray)) ++ t125).size+1≤9223372036854775807)=true:=decide_eq_true c27
           try have c27b2:(9223372036854775807 < (((x3_1 ++ t123) ++ (⟨#[58]⟩:ByteArray)) ++ t125).size+1)=False:=eq_false (Nat.not_lt.2 c27)
           try (have c27b3:=Nat.not_lt.2 c27;simp only [ByteArray.size_append,one_size] at c27b3;replace c27b3:=eq_false c27b3)
           replace H:=Option.bind_eq_some_iff.mp H
           obtain ⟨t127,A280,H⟩:=H
           try dsimp only at H
           have A28:=Aside0.mk A280
           clear A280
           by_cases c29:((((x3_1 ++ t123) ++ (⟨#[58]⟩:ByteArray)) ++ t125) ++ (⟨#[58]⟩:ByteArray)).size+t127.size≤9223372036854775807
           ·rw [if_pos c29] at H
            have c29b0:=eq_true c29
            have c29b1:decide (((((x3_1 ++ t123) ++ (⟨#[58]⟩:ByteArray)) ++ t125) ++ (⟨#[58]⟩:ByteArray)).size+t127.size≤9223372036854775807)=true:=decide_eq_true c29
            try have c29b2:(9223372036854775807 < ((((x3_1 ++ t123) ++ (⟨#[58]⟩:ByteArray)) ++ t125) ++ (⟨#[58]⟩:ByteArray)).size+t127.size)=False:=eq_false (Nat.not_lt.2 c29)
            try (have c29b3:=Nat.not_lt.2 c29;simp only [ByteArray.size_append,one_size] at c29b3;replace c29b3:=eq_false c29b3)
            have H':=Aside0.mk H
            clear H
            try go_wp2
            have n0_:=Aside0.mk (below_drew1 HB.out)
            clear HB
            have HB:=n0_
            clear n0_
            have p122:0≤(x4_1:Int):=of_decide_eq_true (by first|(with_reducible assumption)|assumption)
            have q122:x4_1 < (l0.length:Int):=of_decide_eq_true (by first|(with_reducible assumption)|assumption)
            obtain ⟨ad122,e122,hx122_0,hx122_1,hx122_2⟩:=at_T53 HR0.out x4_1 p122 q122
            have hw122_2:=hx122_2
            have hw122_1:=hx122_1
            have hw122_0:=hx122_0
            cases e122
            replace hx122_0:=(HB.out.cell (World.block_lt_of_cell? w _ hx122_0)).trans hx122_0
            replace hx122_1:=(HB.out.cell (World.block_lt_of_cell? w _ hx122_1)).trans hx122_1
            replace hx122_2:=(HB.out.cell (World.block_lt_of_cell? w _ hx122_2)).trans hx122_2
            replace p122:=eq_true p122
            replace q122:=eq_true q122
            have p124:0≤(x4_1:Int):=of_decide_eq_true (by first|(with_reducible assumption)|assumption)
            have q124:x4_1 < (l0.length:Int):=of_decide_eq_true (by first|(with_reducible assumption)|assumption)
            obtain ⟨ad124,e124,hx124_0,hx124_1,hx124_2⟩:=at_T53 HR0.out x4_1 p124 q124
            have hw124_2:=hx124_2
            have hw124_1:=hx124_1
            have hw124_0:=hx124_0
            obtain rfl:ad122=ad124:=(by injection e124)
            replace hx124_0:=(HB.out.cell (World.block_lt_of_cell? w _ hx124_0)).trans hx124_0
            replace hx124_1:=(HB.out.cell (World.block_lt_of_cell? w _ hx124_1)).trans hx124_1
            replace hx124_2:=(HB.out.cell (World.block_lt_of_cell? w _ hx124_2)).trans hx124_2
            replace p124:=eq_true p124
            replace q124:=eq_true q124
            have p126:0≤(x4_1:Int):=of_decide_eq_true (by first|(with_reducible assumption)|assumption)
            have q126:x4_1 < (l0.length:Int):=of_decide_eq_true (by first|(with_reducible assumption)|assumption)
            obtain ⟨ad126,e126,hx126_0,hx126_1,hx126_2⟩:=at_T53 HR0.out x4_1 p126 q126
            have hw126_2:=hx126_2
            have hw126_1:=hx126_1
            have hw126_0:=hx126_0
            obtain rfl:ad122=ad126:=(by injection e126)
            replace hx126_0:=(HB.out.cell (World.block_lt_of_cell? w _ hx126_0)).trans hx126_0
            replace hx126_1:=(HB.out.cell (World.block_lt_of_cell? w _ hx126_1)).trans hx126_1
            replace hx126_2:=(HB.out.cell (World.block_lt_of_cell? w _ hx126_2)).trans hx126_2
            replace p126:=eq_true p126
            replace q126:=eq_true q126
            refine start_ (n:=25) (S:=fun w'=>w'.cell? (ad122.add ((x4_1).toNat * 3))=some (.int .i64 ((rd_T53 l0 x4_1).f0))∧w'.cell? ⟨(ad122.add ((x4_1).toNat * 3)).block,(ad122.add ((x4_1).toNat * 3)).off+1,none⟩=some (.int .i64 ((rd_T53 l0 x4_1).f1))∧w'.cell? ⟨(ad122.add ((x4_1).toNat * 3)).block,(ad122.add ((x4_1).toNat * 3)).off+2,none⟩=some (.int .i64 ((rd_T53 l0 x4_1).f2))∧w'.cell? (ad122.add ((x4_1).toNat * 3))=some (.int .i64 ((rd_T53 l0 x4_1).f0))∧w'.cell? ⟨(ad122.add ((x4_1).toNat * 3)).block,(ad122.add ((x4_1).toNat * 3)).off+1,none⟩=some (.int .i64 ((rd_T53 l0 x4_1).f1))∧w'.cell? ⟨(ad122.add ((x4_1).toNat * 3)).block,(ad122.add ((x4_1).toNat * 3)).off+2,none⟩=some (.int .i64 ((rd_T53 l0 x4_1).f2))∧w'.cell? (ad122.add ((x4_1).toNat * 3))=some (.int .i64 ((rd_T53 l0 x4_1).f0))∧w'.cell? ⟨(ad122.add ((x4_1).toNat * 3)).block,(ad122.add ((x4_1).toNat * 3)).off+1,none⟩=some (.int .i64 ((rd_T53 l0 x4_1).f1))∧w'.cell? ⟨(ad122.add ((x4_1).toNat * 3)).block,(ad122.add ((x4_1).toNat * 3)).off+2,none⟩=some (.int .i64 ((rd_T53 l0 x4_1).f2))) (ds:=[]) (fl 25 0) (by kernel_rfl) rfl rfl ⟨((HB.out.cell (World.block_lt_of_cell? w _ hw122_0)).trans hw122_0),((HB.out.cell (World.block_lt_of_cell? w _ hw122_1)).trans hw122_1),((HB.out.cell (World.block_lt_of_cell? w _ hw122_2)).trans hw122_2),((HB.out.cell (World.block_lt_of_cell? w _ hw124_0)).trans hw124_0),((HB.out.cell (World.block_lt_of_cell? w _ hw124_1)).trans hw124_1),((HB.out.cell (World.block_lt_of_cell? w _ hw124_2)).trans hw124_2),((HB.out.cell (World.block_lt_of_cell? w _ hw126_0)).trans hw126_0),((HB.out.cell (World.block_lt_of_cell? w _ hw126_1)).trans hw126_1),((HB.out.cell (World.block_lt_of_cell? w _ hw126_2)).trans hw126_2)⟩ (fun hHeld=>?_);refine with_tabW spec_DevsText.tab9 spec_DevsText.bits9 (fun HT_ HW_=>?_)
            generalize wr.drew=w30 at HB hx122_0 hx122_1 hx122_2 hx124_0 hx124_1 hx124_2 hx126_0 hx126_1 hx126_2 hHeld ⊢
            refine pt 0 19 (fl 25 1) HT_ ?_
            refine pt 1 20 (fl 25 3) HT_ ?_
            refine pt 2 21 (fl 25 7) HT_ ?_
            refine pt 3 22 (fl 25 15) HT_ ?_
            refine pt 4 23 (fl 25 31) HT_ ?_
            refine pt 9 28 (fl 25 543) HT_ ?_
            refine pt 10 29 (fl 25 1567) HT_ ?_
            refine pt 11 30 (fl 25 3615) HT_ ?_
            refine pt 12 31 (fl 25 7711) HT_ ?_
            refine pt 17 36 (fl 25 138783) HT_ ?_
            refine pt 18 37 (fl 25 400927) HT_ ?_
            refine pt 19 38 (fl 25 925215) HT_ ?_
            refine pt 20 39 (fl 25 1973791) HT_ ?_
            refine tt 5 24 (fl 25 1973823) HT_ HW_ hHeld ?_
            refine tt 13 32 (fl 25 1982015) HT_ HW_ hHeld ?_
            refine tt 21 40 (fl 25 4079167) HT_ HW_ hHeld ?_
            refine ot 6 (some 25) (fl 25 4079231) HT_ (fun K hK=>?_)
            refine goes_ Tryd.func41 (by kernel_rfl) rfl #[.int .i64 ((rd_T53 l0 x4_1).f0)] (by rfl) rfl rfl (by (try simp only [List.map_toArray,List.map_cons,List.map_nil]);first|done|rfl|(simp only [List.length_drop,List.length_take];rfl)) ?_
            with_reducible refine (spec_l2Text.calls k1 ((rd_T53 l0 x4_1).f0) t123 _ A22.out).mono ?_
            rintro e w31 ⟨rfl,hb⟩
            refine ⟨_,rfl,?_⟩
            have n0_:=bs hb
            clear HB
            have HB:=n0_
            clear n0_
            (try clear hb)
            (try clear hb2)
            (try clear hk)
            (try clear hi)
            refine hK.out _ _ ⟨((HB.out.cell (World.block_lt_of_cell? w _ hw122_0)).trans hw122_0),((HB.out.cell (World.block_lt_of_cell? w _ hw122_1)).trans hw122_1),((HB.out.cell (World.block_lt_of_cell? w _ hw122_2)).trans hw122_2),((HB.out.cell (World.block_lt_of_cell? w _ hw124_0)).trans hw124_0),((HB.out.cell (World.block_lt_of_cell? w _ hw124_1)).trans hw124_1),((HB.out.cell (World.block_lt_of_cell? w _ hw124_2)).trans hw124_2),((HB.out.cell (World.block_lt_of_cell? w _ hw126_0)).trans hw126_0),((HB.out.cell (World.block_lt_of_cell? w _ hw126_1)).trans hw126_1),((HB.out.cell (World.block_lt_of_cell? w _ hw126_2)).trans hw126_2)⟩ (fun hHeld=>?_)
            clear hK K
            refine no 25 ?_
            refine pt 7 26 (fl 25 4079359) HT_ ?_
            refine pt 8 27 (fl 25 4079615) HT_ ?_
            refine ot 14 (some 33) (fl 25 4095999) HT_ (fun K hK=>?_)
            refine goes_ Tryd.func41 (by kernel_rfl) rfl #[.int .i64 ((rd_T53 l0 x4_1).f1)] (by rfl) rfl rfl (by (try simp only [List.map_toArray,List.map_cons,List.map_nil]);first|done|rfl|(simp only [List.length_drop,List.length_take];rfl)) ?_
            with_reducible refine (spec_l2Text.calls k1 ((rd_T53 l0 x4_1).f1) t125 _ A25.out).mono ?_
            rintro e w32 ⟨rfl,hb⟩
            refine ⟨_,rfl,?_⟩
            have n0_:=bs hb
            clear HB
            have HB:=n0_
            clear n0_
            (try clear hb)
            (try clear hb2)
            (try clear hk)
            (try clear hi)
            refine hK.out _ _ ⟨((HB.out.cell (World.block_lt_of_cell? w _ hw122_0)).trans hw122_0),((HB.out.cell (World.block_lt_of_cell? w _ hw122_1)).trans hw122_1),((HB.out.cell (World.block_lt_of_cell? w _ hw122_2)).trans hw122_2),((HB.out.cell (World.block_lt_of_cell? w _ hw124_0)).trans hw124_0),((HB.out.cell (World.block_lt_of_cell? w _ hw124_1)).trans hw124_1),((HB.out.cell (World.block_lt_of_cell? w _ hw124_2)).trans hw124_2),((HB.out.cell (World.block_lt_of_cell? w _ hw126_0)).trans hw126_0),((HB.out.cell (World.block_lt_of_cell? w _ hw126_1)).trans hw126_1),((HB.out.cell (World.block_lt_of_cell? w _ hw126_2)).trans hw126_2)⟩ (fun hHeld=>?_)
            clear hK K
            refine no 33 ?_
            refine pt 15 34 (fl 25 4128767) HT_ ?_
            refine pt 16 35 (fl 25 4194303) HT_ ?_
            refine ot 22 (some 41) (fl 25 8388607) HT_ (fun K hK=>?_)
            refine goes_ Tryd.func41 (by kernel_rfl) rfl #[.int .i64 ((rd_T53 l0 x4_1).f2)] (by rfl) rfl rfl (by (try simp only [List.map_toArray,List.map_cons,List.map_nil]);first|done|rfl|(simp only [List.length_drop,List.length_take];rfl)) ?_
            with_reducible refine (spec_l2Text.calls k1 ((rd_T53 l0 x4_1).f2) t127 _ A28.out).mono ?_
            rintro e w33 ⟨rfl,hb⟩
            refine ⟨_,rfl,?_⟩
            have n0_:=bs hb
            clear HB
            have HB:=n0_
            clear n0_
            (try clear hb)
            (try clear hb2)
            (try clear hk)
            (try clear hi)
            refine hK.out _ _ ⟨((HB.out.cell (World.block_lt_of_cell? w _ hw122_0)).trans hw122_0),((HB.out.cell (World.block_lt_of_cell? w _ hw122_1)).trans hw122_1),((HB.out.cell (World.block_lt_of_cell? w _ hw122_2)).trans hw122_2),((HB.out.cell (World.block_lt_of_cell? w _ hw124_0)).trans hw124_0),((HB.out.cell (World.block_lt_of_cell? w _ hw124_1)).trans hw124_1),((HB.out.cell (World.block_lt_of_cell? w _ hw124_2)).trans hw124_2),((HB.out.cell (World.block_lt_of_cell? w _ hw126_0)).trans hw126_0),((HB.out.cell (World.block_lt_of_cell? w _ hw126_1)).trans hw126_1),((HB.out.cell (World.block_lt_of_cell? w _ hw126_2)).trans hw126_2)⟩ (fun hHeld=>?_)
            clear hK K
            refine no 41 ?_
            refine pt 23 42 (fl 25 16777215) HT_ ?_
            refine pt 24 3 (fl 25 33554431) HT_ ?_
            refine done_ (done_of HT_.out (by kernel_rfl)) ?_
            try go_wp2
            go_roundg k1
            case measure=>have:=HK1.out;omega
            case rel=>exact ⟨(((((x3_1 ++ t123) ++ (⟨#[58]⟩:ByteArray)) ++ t125) ++ (⟨#[58]⟩:ByteArray)) ++ t127),(wrap64 (x4_1+1)),rd_,rd_,H',⟨by have:=HK1.out;omega⟩,⟨be⟩⟩
           ·rw [if_neg c29] at H
            exact absurd H (by simp)
          ·rw [if_neg c27] at H
           exact absurd H (by simp)
         ·rw [if_neg c26] at H
          exact absurd H (by simp)
        ·rw [if_neg c24] at H
         exact absurd H (by simp)
       ·rw [if_neg c23] at H
        exact absurd H (by simp)
      ·rw [if_neg c21] at H
       exact absurd H (by simp)
    ·rw [if_neg c5] at H
     have c5b0:decide (x4_1 < (l0.length:Int))=false:=decide_eq_false c5
     clear c5
     obtain rfl:=Option.some.inj H
     go_wp2
     go_ret
     exact ⟨rz,be⟩
 ·replace c3:=Bool.eq_false_iff.mpr c3
  subst c3
  have H1:(some (⟨#[]⟩:ByteArray))=some r:=by rw [if_neg (show ¬ (false=true) by decide)] at H;exact H
  clear H
  have H:=H1
  clear H1
  obtain rfl:=Option.some.inj H
  go_enter Tryd.func15,Tryd.ntmps15
  go_wp2_with (first|((with_reducible refine gate_callee (f:=36) rfl ?_);refine goesL_ (some 6) rfl rfl Tryd.func36 (by kernel_rfl) rfl #[.slice A0 l0.length c0] rfl (by (try simp only [List.map_toArray,List.map_cons,List.map_nil]);first|done|rfl|(simp only [List.length_drop,List.length_take];rfl)) ?_;(with_reducible refine (spec_DevsOk.calls k _ _ l0 false _ ?side1 ?side2 A2.out).mono ?_);(case side1=>exact sC HR0);(case side2=>exact HC0.out);rintro e w34 ⟨rfl,hb⟩;refine ⟨_,rfl,?_⟩;have n0_:=bs hb;clear HB;have HB:=n0_;clear n0_;(try clear hb);(try clear hb2);(try clear hk);(try clear hi)))
  go_ret
  exact ⟨rz,be⟩
def laws_toDev.f (a0_0:Int) (a0_1:Int) (a0_2:Int):Option (Int × Int × Int):=some (a0_0,a0_1,a0_2)
set_option maxHeartbeats 8000000 in
set_option maxRecDepth 100000 in
theorem laws_toDev.calls (a0_0:Int) (a0_1:Int) (a0_2:Int) (r1:Int) (r2:Int) (r3:Int) (w:World) (h:laws_toDev.f a0_0 a0_1 a0_2=some (r1,r2,r3)) :
  Calls Tryd.prog 43 #[.agg #[.int .i64 a0_0,.int .i64 a0_1,.int .i64 a0_2]] w fun e w'=>e = .returned (.agg #[.int .i64 r1,.int .i64 r2,.int .i64 r3])∧Below w.heap.size w w':=by
 have hu59:=Tryd.underlying59
 have hu53:=Tryd.underlying53
 have HB:=Aside0.mk (Below.refl w.heap.size w)
 have H:(some (a0_0,a0_1,a0_2))=some (r1,r2,r3):=h
 clear h
 simp only [Option.some.injEq,Prod.mk.injEq] at H
 obtain ⟨rfl,rfl,rfl⟩:=H
 go_enter Tryd.func43,Tryd.ntmps43
 go_wp2_with (first|((with_reducible refine gate_dst (N:=1) rfl ?_);refine box_event ?hg (N:=1) ?hd (cs:=#[.int .i64 a0_0,.int .i64 a0_1,.int .i64 a0_2]) (t:=59) ?hr ?_;(case hd=>rfl);(case hg=>rfl);(case hr=>first|(go_simp;done)|(go_simp;rfl));intro gb128 hg w2 hbox hb;have n0_:=bs hb;have n1_:=Aside0.mk (hbox);have n2_:=Aside0.mk ((by rw [hg];exact (below_size be):w.heap.size≤gb128));have n3_:=Aside0.mk ((by rw [hg];exact (below_size be):w.heap.size≤gb128));clear HB;have HB:=n0_;have BK128:=n1_;have GW128:=n2_;have GE128:=n3_;clear n0_ n1_ n2_ n3_;clear hb hbox hg)|((with_reducible refine gate_dst (N:=2) rfl ?_);refine box_event ?hg (N:=2) ?hd (cs:=#[.int .i64 0,.int .i64 0,.int .i64 0]) (t:=53) ?hr ?_;(case hd=>rfl);(case hg=>rfl);(case hr=>first|(go_simp;done)|(go_simp;rfl));intro gb129 hg w3 hbox hb;have n0_:=Aside0.mk (blk_below (g:=gb128) (o:=.cells #[.int .i64 a0_0,.int .i64 a0_1,.int .i64 a0_2] 59 (0,0)) (bk BK128) hb);have n1_:=bs hb;have n2_:=Aside0.mk (hbox);have n3_:=Aside0.mk ((by rw [hg];exact (below_size be):w.heap.size≤gb129));have n4_:=Aside0.mk ((by rw [hg];exact (below_size be):w.heap.size≤gb129));have n5_:=Aside0.mk ((by rw [hg];exact Nat.ne_of_lt (blk_lt (g:=gb128) (o:=.cells #[.int .i64 a0_0,.int .i64 a0_1,.int .i64 a0_2] 59 (0,0)) (bk BK128)):gb128 ≠ gb129));have n6_:=Aside0.mk ((by rw [hg];exact Nat.ne_of_gt (blk_lt (g:=gb128) (o:=.cells #[.int .i64 a0_0,.int .i64 a0_1,.int .i64 a0_2] 59 (0,0)) (bk BK128)):gb129 ≠ gb128));clear BK128;clear HB;have BK128:=n0_;have HB:=n1_;have BK129:=n2_;have GW129:=n3_;have GE129:=n4_;have NB128_129:=n5_;have NB129_128:=n6_;clear n0_ n1_ n2_ n3_ n4_ n5_ n6_;clear hb hbox hg)|((with_reducible refine gate_dst (N:=3) rfl ?_);refine box_event ?hg (N:=3) ?hd (cs:=#[.int .i64 0,.int .i64 0,.int .i64 0]) (t:=53) ?hr ?_;(case hd=>rfl);(case hg=>rfl);(case hr=>first|(go_simp;done)|(go_simp;rfl));intro gb130 hg w4 hbox hb;have n0_:=Aside0.mk (blk_below (g:=gb128) (o:=.cells #[.int .i64 a0_0,.int .i64 a0_1,.int .i64 a0_2] 59 (0,0)) (bk BK128) hb);have n1_:=Aside0.mk (blk_below (g:=gb129) (o:=.cells #[.int .i64 0,.int .i64 0,.int .i64 0] 53 (0,0)) (bk BK129) hb);have n2_:=bs hb;have n3_:=Aside0.mk (hbox);have n4_:=Aside0.mk ((by rw [hg];exact (below_size be):w.heap.size≤gb130));have n5_:=Aside0.mk ((by rw [hg];exact (below_size be):w.heap.size≤gb130));have n6_:=Aside0.mk ((by rw [hg];exact Nat.ne_of_lt (blk_lt (g:=gb128) (o:=.cells #[.int .i64 a0_0,.int .i64 a0_1,.int .i64 a0_2] 59 (0,0)) (bk BK128)):gb128 ≠ gb130));have n7_:=Aside0.mk ((by rw [hg];exact Nat.ne_of_gt (blk_lt (g:=gb128) (o:=.cells #[.int .i64 a0_0,.int .i64 a0_1,.int .i64 a0_2] 59 (0,0)) (bk BK128)):gb130 ≠ gb128));have n8_:=Aside0.mk ((by rw [hg];exact Nat.ne_of_lt (blk_lt (g:=gb129) (o:=.cells #[.int .i64 0,.int .i64 0,.int .i64 0] 53 (0,0)) (bk BK129)):gb129 ≠ gb130));have n9_:=Aside0.mk ((by rw [hg];exact Nat.ne_of_gt (blk_lt (g:=gb129) (o:=.cells #[.int .i64 0,.int .i64 0,.int .i64 0] 53 (0,0)) (bk BK129)):gb130 ≠ gb129));clear BK128;clear BK129;clear HB;have BK128:=n0_;have BK129:=n1_;have HB:=n2_;have BK130:=n3_;have GW130:=n4_;have GE130:=n5_;have NB128_130:=n6_;have NB130_128:=n7_;have NB129_130:=n8_;have NB130_129:=n9_;clear n0_ n1_ n2_ n3_ n4_ n5_ n6_ n7_ n8_ n9_;clear hb hbox hg;have hnb5:=NB128_129.out;have hnc5:=NB129_128.out;have hnb6:=NB128_130.out;have hnc6:=NB130_128.out;have hcz7_0:w4.cell? ⟨gb128,0,none⟩=some (.int .i64 a0_0):=(blk_cell BK128.out 0).trans rfl;have hcz7_1:w4.cell? ⟨gb128,1,none⟩=some (.int .i64 a0_1):=(blk_cell BK128.out 1).trans rfl;have hcz7_2:w4.cell? ⟨gb128,2,none⟩=some (.int .i64 a0_2):=(blk_cell BK128.out 2).trans rfl;have hfz7_0:=blk_frozen BK128.out 0;have hfz7_1:=blk_frozen BK128.out 1;have hfz7_2:=blk_frozen BK128.out 2;have hnb8:=NB130_129.out;have hnc8:=NB129_130.out;have hcz9_0:w4.cell? ⟨gb130,0,none⟩=some (.int .i64 0):=(blk_cell BK130.out 0).trans rfl;have hcz9_1:w4.cell? ⟨gb130,1,none⟩=some (.int .i64 0):=(blk_cell BK130.out 1).trans rfl;have hcz9_2:w4.cell? ⟨gb130,2,none⟩=some (.int .i64 0):=(blk_cell BK130.out 2).trans rfl;have hfz9_0:=blk_frozen BK130.out 0;have hfz9_1:=blk_frozen BK130.out 1;have hfz9_2:=blk_frozen BK130.out 2;have hcz10_0:w4.cell? ⟨gb129,0,none⟩=some (.int .i64 0):=(blk_cell BK129.out 0).trans rfl;have hcz10_1:w4.cell? ⟨gb129,1,none⟩=some (.int .i64 0):=(blk_cell BK129.out 1).trans rfl;have hcz10_2:w4.cell? ⟨gb129,2,none⟩=some (.int .i64 0):=(blk_cell BK129.out 2).trans rfl;have hfz10_0:=blk_frozen BK129.out 0;have hfz10_1:=blk_frozen BK129.out 1;have hfz10_2:=blk_frozen BK129.out 2))
 refine bodyPost_ret (results_cell_row rfl _ _ gb129 53 #[.int .i64 a0_0,.int .i64 a0_1,.int .i64 a0_2] (0,0) _ rfl (by (with_reducible repeat (first|refine blk_drewN ?_ _|refine blk_drew ?_|refine blk_alloc ?_ _));refine blk_put (cs:=#[.int .i64 a0_0,.int .i64 a0_1,.int .i64 0]) ?_ 2 _ rfl;(with_reducible repeat (first|refine blk_drewN ?_ _|refine blk_drew ?_|refine blk_alloc ?_ _));refine blk_put (cs:=#[.int .i64 a0_0,.int .i64 0,.int .i64 0]) ?_ 1 _ rfl;(with_reducible repeat (first|refine blk_drewN ?_ _|refine blk_drew ?_|refine blk_alloc ?_ _));refine blk_put (cs:=#[.int .i64 0,.int .i64 0,.int .i64 0]) ?_ 0 _ rfl;(with_reducible repeat (first|refine blk_drewN ?_ _|refine blk_drew ?_|refine blk_alloc ?_ _));refine blk_far ?_ NB129_130.out _;(with_reducible repeat (first|refine blk_drewN ?_ _|refine blk_drew ?_|refine blk_alloc ?_ _));refine blk_far ?_ NB129_130.out _;(with_reducible repeat (first|refine blk_drewN ?_ _|refine blk_drew ?_|refine blk_alloc ?_ _));refine blk_far ?_ NB129_130.out _;(with_reducible repeat (first|refine blk_drewN ?_ _|refine blk_drew ?_|refine blk_alloc ?_ _));exact BK129.out) Tryd.underlying53 rfl (by kernel_rfl)) rfl ?_
 exact ⟨rz,be⟩
def laws_toDevS.l0:Nat→List (S59)→List (S53)→Int→Option ((List (S53)))
 | 0,_,_,_=>none
 | k+1,x0,x3,x4=>if x4 < (x0.length:Int) then (if 0≤x4 then ((laws_toDev.f ((rd_T59 x0 x4).f0) ((rd_T59 x0 x4).f1) ((rd_T59 x0 x4).f2)).bind fun bt135=>(if x4 < (x3.length:Int) then (laws_toDevS.l0 k x0 (x3.set (x4:Int).toNat (⟨bt135.1,bt135.2.1,bt135.2.2⟩:S53)) (wrap64 (x4+1))) else (none))) else (none)) else (some x3)
def laws_toDevS.f (k:Nat) (l0:List (S59)):Option ((List (S53))):=if 0≤(l0.length:Int) then (if ((l0.length:Int):Int).toNat≤11728124029610 then (laws_toDevS.l0 k l0 (List.replicate ((l0.length:Int):Int).toNat z53) 0) else (none)) else (none)
set_option maxHeartbeats 8000000 in
set_option maxRecDepth 100000 in
theorem laws_toDevS.calls (k:Nat) (A0:Option Addr) (c0:Nat) (l0:List (S59)) (r:List (S53)) (w:World) (hr0:Kd.C k59 w A0 l0.length l0) (hc0:l0.length≤c0) (h:laws_toDevS.f k l0=some r) :
  Calls Tryd.prog 16 #[.slice A0 l0.length c0] w fun e w'=>∃ v0_:Value,e = .returned (v0_)∧Kd.R k53 53 w' w.heap.size (fun _=>True) v0_ r∧Below w.heap.size w w':=by
 have hu59:=Tryd.underlying59
 have hu53:=Tryd.underlying53
 have HR0:=Aside0.mk hr0
 have HC0:=Aside0.mk hc0
 clear hr0 hc0
 have HB:=Aside0.mk (Below.refl w.heap.size w)
 have H:(if 0≤(l0.length:Int) then (if ((l0.length:Int):Int).toNat≤11728124029610 then (laws_toDevS.l0 k l0 (List.replicate ((l0.length:Int):Int).toNat z53) 0) else (none)) else (none))=some r:=h
 clear h
 by_cases c2:0≤(l0.length:Int)
 ·rw [if_pos c2] at H
  have c2b0:=eq_true c2
  have c2b1:decide (0≤(l0.length:Int))=true:=decide_eq_true c2
  clear c2
  by_cases c3:((l0.length:Int):Int).toNat≤11728124029610
  ·rw [if_pos c3] at H
   have c3b0:=eq_true c3
   have c3b1:decide (((l0.length:Int):Int).toNat≤11728124029610)=true:=decide_eq_true c3
   clear c3
   obtain ⟨y131,hy131⟩ : ∃ y_:List (S53),y_=(List.replicate ((l0.length:Int):Int).toNat z53):=⟨_,rfl⟩
   replace H:(laws_toDevS.l0 k l0 y131 0)=some r:=by first|(rw [hy131];with_reducible exact H)|(have H2_:=(Option.bind_some _ _).symm.trans H;rw [hy131];with_reducible exact H2_)|(have H2_:=(Option.bind_some _ _).symm.trans H;with_reducible exact H2_)|with_reducible exact H|(rw [hy131];exact H)|exact H
   have Ny131:=Aside0.mk hy131
   clear hy131
   have H':=Aside0.mk H
   clear H
   go_enter Tryd.func16,Tryd.ntmps16
   go_wp2_with (first|((with_reducible refine gate_dst (N:=7) rfl ?_);refine Kd.R_make k53 _ 53 rfl (N:=7) rfl 31 _ _ rfl (l0.length:Int) rfl rfl Tryd.underlying31 (.agg #[(.int .i64 0),(.int .i64 0),(.int .i64 0)]) 24 info53 rfl (by decide) (by omega) z53 (ok:=fun _=>True) (okp:=fun _=>True) (k53_mkM _ _ _ z53 ) (fun _ hk=>hk) trivial (of_decide_eq_true (by first|(with_reducible assumption)|assumption)) (Nat.le_trans (Nat.mul_le_mul_right _ (of_decide_eq_true (by first|(with_reducible assumption)|assumption):(l0.length:Int).toNat≤11728124029610)) (by omega)) (Below.refl _ _) (Nat.le_refl _) ?_;intro v132 w4 ho5 hb hg_ hnew_;clear hg_ hnew_;(first|rw [← Ny131.out] at ho5|(simp only [Int.reduceToNat] at ho5;rw [← Ny131.out] at ho5));have n0_:=Aside0.mk (Kd.R_lower ho5 (below_size be));have n1_:=bs hb;clear HB;have HO133:=n0_;have HB:=n1_;clear n0_ n1_;clear hb ho5))
   go_loopg [4] k (fun kq v4 w'=>∃ (x3_1:List (S53)) (x4_1:Int),v4 = .int .i64 x4_1∧Aside0 (laws_toDevS.l0 kq l0 x3_1 x4_1=some r)∧Aside0 (kq≤k)∧Aside0 (Kd.R k53 53 w' w.heap.size (fun _=>True) v132 x3_1)∧Aside0 (Below w.heap.size w w'))
   case atStart=>exact ⟨(y131),(0),rd_,H',⟨Nat.le_refl _⟩,⟨rR HO133⟩,⟨be⟩⟩
   case round=>
    clear H'
    try clear c1
    try clear c2
    try clear c2b0
    try clear c2b1
    try clear p2
    try clear c3
    try clear c3b0
    try clear c3b1
    obtain ⟨x3_1,x4_1,rfl,HA,HK1,HO_3,HB⟩:=hrel
    cases gk with
    | zero=>exact absurd HA.out (by simp [laws_toDevS.l0])
    | succ k1=>
     have H:=HA.out
     clear HA
     simp only [laws_toDevS.l0] at H
     by_cases c6:x4_1 < (l0.length:Int)
     ·rw [if_pos c6] at H
      have c6b0:decide (x4_1 < (l0.length:Int))=true:=decide_eq_true c6
      clear c6
      by_cases c7:0≤x4_1
      ·rw [if_pos c7] at H
       have c7b0:decide (0≤x4_1)=true:=decide_eq_true c7
       clear c7
       replace H:=Option.bind_eq_some_iff.mp H
       obtain ⟨⟨t135,t136,t137⟩,A80,H⟩:=H
       try dsimp only at H
       have A8:=Aside0.mk A80
       clear A80
       by_cases c9:x4_1 < (x3_1.length:Int)
       ·rw [if_pos c9] at H
        have c9b0:decide (x4_1 < (x3_1.length:Int))=true:=decide_eq_true c9
        clear c9
        obtain ⟨y138,hy138⟩ : ∃ y_:List (S53),y_=(x3_1.set (x4_1:Int).toNat (⟨t135,t136,t137⟩:S53)):=⟨_,rfl⟩
        replace H:(laws_toDevS.l0 k1 l0 y138 (wrap64 (x4_1+1)))=some r:=by first|(rw [hy138];with_reducible exact H)|(have H2_:=(Option.bind_some _ _).symm.trans H;rw [hy138];with_reducible exact H2_)|(have H2_:=(Option.bind_some _ _).symm.trans H;with_reducible exact H2_)|with_reducible exact H|(rw [hy138];exact H)|exact H
        have Ny138:=Aside0.mk hy138
        clear hy138
        have H':=Aside0.mk H
        clear H
        have p134:0≤(x4_1:Int):=of_decide_eq_true (by first|(with_reducible assumption)|assumption)
        have q134:x4_1 < (l0.length:Int):=of_decide_eq_true (by first|(with_reducible assumption)|assumption)
        obtain ⟨ad134,e134,hx134_0,hx134_1,hx134_2⟩:=at_T59 HR0.out x4_1 p134 q134
        cases e134
        replace hx134_0:=(HB.out.cell (World.block_lt_of_cell? w _ hx134_0)).trans hx134_0
        replace hx134_1:=(HB.out.cell (World.block_lt_of_cell? w _ hx134_1)).trans hx134_1
        replace hx134_2:=(HB.out.cell (World.block_lt_of_cell? w _ hx134_2)).trans hx134_2
        replace p134:=eq_true p134
        replace q134:=eq_true q134
        go_wp2_with (first|((with_reducible refine gate_callee (f:=43) rfl ?_);refine goesL_ (some 20) rfl rfl Tryd.func43 (by kernel_rfl) rfl #[.agg #[.int .i64 ((rd_T59 l0 x4_1).f0),.int .i64 ((rd_T59 l0 x4_1).f1),.int .i64 ((rd_T59 l0 x4_1).f2)]] rfl (by (try simp only [List.map_toArray,List.map_cons,List.map_nil]);first|done|rfl|(simp only [List.length_drop,List.length_take];rfl)) ?_;(with_reducible refine (laws_toDev.calls ((rd_T59 l0 x4_1).f0) ((rd_T59 l0 x4_1).f1) ((rd_T59 l0 x4_1).f2) t135 t136 t137 _ A8.out).mono ?_);rintro e w11 ⟨rfl,hb⟩;refine ⟨_,rfl,?_⟩;have n0_:=Aside0.mk (Kd.R_below ((rR HO_3)) hb);have n1_:=bs hb;clear HO_3;clear HB;have HO_3:=n0_;have HB:=n1_;clear n0_ n1_;(try clear hb);(try clear hb2);(try clear hk);(try clear hi);have p10:0≤(x4_1:Int):=of_decide_eq_true (by first|(with_reducible assumption)|assumption);have q10:(x4_1:Int) < ((x3_1.length:Int):Int):=of_decide_eq_true (by first|(with_reducible assumption)|assumption);obtain ⟨go10,co10,eo10,gb10,gl10,cl10,HG10⟩:=Kd.R_form HO_3.out (by omega);(first|cases eo10|(injection eo10 with ea_ en_ ec_;(first|subst ea_|(injection ea_ with ea_;subst ea_));subst ec_;clear en_));have GB10:=Aside0.mk gb10;have GG10:=Aside0.mk HG10;clear gb10 gl10 HG10;obtain ⟨ce10,hcl10,hM10,hcc10,hfr10⟩:=Kd.R_elem HO_3.out z53 (x4_1:Int) p10 q10;obtain rfl:=k53_openM hM10;have hx10_0:w11.cell? ⟨go10,(x4_1:Int).toNat * 3,none⟩=some (.int .i64 ((rd_T53 x3_1 x4_1).f0)):=hcc10 0 _ rfl;have hx10_1:w11.cell? ⟨go10,(x4_1:Int).toNat * 3+1,none⟩=some (.int .i64 ((rd_T53 x3_1 x4_1).f1)):=hcc10 1 _ rfl;have hx10_2:w11.cell? ⟨go10,(x4_1:Int).toNat * 3+2,none⟩=some (.int .i64 ((rd_T53 x3_1 x4_1).f2)):=hcc10 2 _ rfl;have hf10_0:w11.frozen? ⟨go10,(x4_1:Int).toNat * 3,none⟩=false:=hfr10 0;have hf10_1:w11.frozen? ⟨go10,(x4_1:Int).toNat * 3+1,none⟩=false:=hfr10 1;have hf10_2:w11.frozen? ⟨go10,(x4_1:Int).toNat * 3+2,none⟩=false:=hfr10 2;clear hcl10 hcc10 hfr10 hM10;replace p10:=eq_true p10;replace q10:=eq_true q10;have HX12:=Aside0.mk (show Kd.R k53 53 w11 w.heap.size (fun _=>True) (.slice (some ⟨go10,0,none⟩) x3_1.length co10) x3_1 from (rR HO_3));obtain ⟨ce12,hcl12,hM12,hcc12,hfr12⟩:=Kd.R_elem HX12.out z53 (x4_1:Int) (of_decide_eq_true (by first|(with_reducible assumption)|assumption)) (by have h_:(x4_1:Int) < ((x3_1.length:Int):Int):=of_decide_eq_true (by first|(with_reducible assumption)|assumption);first|exact h_|(have e_:=(Kd.R_reads' HO_3.out).1;omega)|simpa using h_);obtain rfl:=k53_openM hM12;have HP12:=Kd.R_seg HX12.out (x4_1:Int) (of_decide_eq_true (by first|(with_reducible assumption)|assumption)) (by have h_:(x4_1:Int) < ((x3_1.length:Int):Int):=of_decide_eq_true (by first|(with_reducible assumption)|assumption);first|exact h_|(have e_:=(Kd.R_reads' HO_3.out).1;omega)|simpa using h_) (seg:=[.int .i64 t135,.int .i64 t136,.int .i64 t137]) (j:=0) hcl12 hcc12 (show 3≤3 from by decide) (x':=(⟨t135,t136,t137⟩:S53)) (k53_mkM _ _ _ (⟨t135,t136,t137⟩:S53) ) (fun _ hk=>hk);have hx12_0:=hcc12 0 _ rfl;(try simp only [show (k53).sz=3 from rfl,Nat.mul_one,Nat.add_zero] at hx12_0);have hf12_0:=hfr12 0;(try simp only [show (k53).sz=3 from rfl,Nat.mul_one,Nat.add_zero] at hf12_0);have hx12_1:=hcc12 1 _ rfl;(try simp only [show (k53).sz=3 from rfl,Nat.mul_one,Nat.add_zero] at hx12_1);have hf12_1:=hfr12 1;(try simp only [show (k53).sz=3 from rfl,Nat.mul_one,Nat.add_zero] at hf12_1);have hx12_2:=hcc12 2 _ rfl;(try simp only [show (k53).sz=3 from rfl,Nat.mul_one,Nat.add_zero] at hx12_2);have hf12_2:=hfr12 2;(try simp only [show (k53).sz=3 from rfl,Nat.mul_one,Nat.add_zero] at hf12_2);clear hcl12 hcc12 hfr12 hM12)|((with_reducible refine gate_store (t:=53) (p:=21) rfl ?_);refine store_event (t:=53) (p:=21) (v:=?vo_w13) (w1:=(((w11.setCell ⟨go10,(x4_1:Int).toNat * 3,none⟩ (.int .i64 t135)).setCell ⟨go10,(x4_1:Int).toNat * 3+1,none⟩ (.int .i64 t136)).setCell ⟨go10,(x4_1:Int).toNat * 3+2,none⟩ (.int .i64 t137))) ?hg ?ho ?hn ?hr ?_;(case ho=>rfl);(case hg=>rfl);(case hn=>rfl);(case hr=>first|(go_simp;done)|(go_simp;rfl));intro w13 hw;have hg:w11.grownBy w13 (some go10):=(by rw [hw];exact HP12.2);have hp_:Kd.R k53 53 w13 w.heap.size (fun _=>True) (.slice (some ⟨go10,0,none⟩) x3_1.length co10) y138:=(by rw [hw,Ny138.out];exact HP12.1);clear HP12;have n0_:=Aside0.mk (hp_);have n1_:=Aside0.mk ((by rw [hw];exact below_set (below_set (below_set (HB.out) GB10.out) GB10.out) GB10.out:Below w.heap.size w w13));clear HO_3;clear HB;have HO_3:=n0_;have HB:=n1_;clear n0_ n1_;clear hg hw hp_))
        go_roundg k1
        case measure=>have:=HK1.out;omega
        case rel=>exact ⟨(y138),(wrap64 (x4_1+1)),rd_,H',⟨by have:=HK1.out;omega⟩,⟨rR HO_3⟩,⟨be⟩⟩
       ·rw [if_neg c9] at H
        exact absurd H (by simp)
      ·rw [if_neg c7] at H
       exact absurd H (by simp)
     ·rw [if_neg c6] at H
      have c6b0:decide (x4_1 < (l0.length:Int))=false:=decide_eq_false c6
      clear c6
      obtain rfl:=Option.some.inj H
      go_wp2
      go_ret
      exact ⟨_,rz,rR HO_3,be⟩
  ·rw [if_neg c3] at H
   exact absurd H (by simp)
 ·rw [if_neg c2] at H
  exact absurd H (by simp)
def impl_in.f (a0:Int) (a1:Int) (a2:Int):Option (Bool):=if a0 ≥ a1 then (some (decide (a0≤a2))) else (some false)
set_option maxHeartbeats 8000000 in
set_option maxRecDepth 100000 in
theorem impl_in.calls (a0:Int) (a1:Int) (a2:Int) (r:Bool) (w:World) (h:impl_in.f a0 a1 a2=some r) :
  Calls Tryd.prog 53 #[.int .i64 a0,.int .i64 a1,.int .i64 a2] w fun e w'=>e = .returned (.bool r)∧Drawn0 w w':=by
 have H:(if a0 ≥ a1 then (some (decide (a0≤a2))) else (some false))=some r:=h
 clear h
 by_cases c4:a0 ≥ a1
 ·rw [if_pos c4] at H
  have c4b0:decide (a1≤a0)=true:=decide_eq_true c4
  clear c4
  obtain rfl:=Option.some.inj H
  go_enter Tryd.func53,Tryd.ntmps53
  go_wp2
  go_ret
  exact ⟨by first|rfl|(simp;done)|(simp [*];done),by repeat (first|exact Drawn0.refl _|apply Drawn0.step)⟩
 ·rw [if_neg c4] at H
  have c4b0:decide (a1≤a0)=false:=decide_eq_false c4
  clear c4
  obtain rfl:=Option.some.inj H
  go_enter Tryd.func53,Tryd.ntmps53
  go_wp2
  go_ret
  exact ⟨by first|rfl|(simp;done)|(simp [*];done),by repeat (first|exact Drawn0.refl _|apply Drawn0.step)⟩
end Go.Proofs.YtnoglmdicdpabaaDoor.PFnExactDevsText
