/- Trimmed by a program of this session (trim.py). Not trusted: Lean checks it. -/
import Derived.Test.YtpbjbfimnfghkaaTLRingsPFnRingsx0
import Derived.Test.YtpbjbfimnfghkaaTLRingsPFnRingsx4
import Derived.Test.YtpbjbfimnfghkaaTLRingsPFnRingsx6
import Derived.Test.YtpbjbfimnfghkaaTLRingsPFnRingsx7
import Derived.Test.YtpbjbfimnfghkaaTLRingsPFnRingsx9
namespace Go.Proofs.Ytpbjbfimnfghkaa.PFnRings
open Go.RowKit Go.Proofs.YtpbjbfimnfghkaaW.PrintWords Go.Proofs.YtpbjbfimnfghkaaW.PrintLast Go.Proofs.YtpbjbfimnfghkaaW.PrintMore Go.Proofs.Ytpbjbfimnfghkaa.St
attribute [local go_sem] max2_int min2_int max_two min_two max_three min_three max_four min_four
set_option linter.unusedVariables false
set_option linter.unusedSimpArgs false
mutual
def spec_Build.j0:Nat→List (S61)→Int→Int→Bool→Option (Int × (List (S35)) × Bool)
 | 0,_,_,_,_=>none
 | k+1,x0,x1,x2,x30=>if x30=true then (some (0,([]:List (S35)),false)) else (spec_Build.l0 k x0 x1 x2 0 x2 ([]:List (S35)))
def spec_Build.l0:Nat→List (S61)→Int→Int→Int→Int→List (S35)→Option (Int × (List (S35)) × Bool)
 | 0,_,_,_,_,_,_=>none
 | k+1,x0,x1,x2,x9,x328000,x328001=>if x9 < x1 then (if x328001.length < 5864062014805 then (spec_Build.l1 k x0 x1 x2 x9 0 x328000 (x328001 ++ [(⟨([]:List Int)⟩:S35)])) else (none)) else (some (x328000,x328001,true))
def spec_Build.l1:Nat→List (S61)→Int→Int→Int→Int→Int→List (S35)→Option (Int × (List (S35)) × Bool)
 | 0,_,_,_,_,_,_,_=>none
 | k+1,x0,x1,x2,x9,x10,x328000,x328001=>if x10 < x2 then (if 0≤x9 then (if x9 < (x328001.length:Int) then ((spec_Best.f k x328000 x328001 ((rd_T35 x328001 x9).f0) x0).bind fun t332=>(if ((rd_T35 x328001 x9).f0).length < 17592186044416 then (spec_Build.l1 k x0 x1 x2 x9 (wrap64 (x10+1)) x328000 (x328001.set (x9:Int).toNat (⟨(((rd_T35 x328001 x9).f0) ++ [t332])⟩:S35))) else (none))) else (none)) else (none)) else (spec_Build.l0 k x0 x1 x2 (wrap64 (x9+1)) x328000 x328001)
end
def spec_Build.f (k:Nat) (l0:List (S61)) (a1:Int) (a2:Int):Option (Int × (List (S35)) × Bool):=(spec_DevsOk.f k l0).bind fun t324=>(if t324=true then ((spec_l1In.f a1 1 64).bind fun t325=>(if t325=true then ((spec_l1In.f a2 1 5).bind fun t326=>(if t326=true then (spec_Build.j0 k l0 a1 a2 (decide (a2 > (l0.length:Int)))) else (spec_Build.j0 k l0 a1 a2 true))) else (spec_Build.j0 k l0 a1 a2 true))) else (spec_Build.j0 k l0 a1 a2 true))
def spec_Build.T11:Bool × List (List Nat × List Nat):=(true,[([],[]),([],[]),([1],[1]),([],[]),([2,3],[2,3]),([4],[4]),([],[]),([0,5,6],[0,5,6]),([7,7,0,1,2,3,4,5,6,7],[7])])
def spec_Build.B11:List Nat:=[0,0,2,0,14,30,0,127,255]
theorem spec_Build.tab11:rtab .any (opsOf Try.f32 11)=spec_Build.T11:=by kernel_rfl
theorem spec_Build.bits11:waitsOk spec_Build.T11.2 spec_Build.B11=true:=by kernel_rfl
def spec_Build.T12:Bool × List (List Nat × List Nat):=(true,[([],[]),([0],[0]),([],[]),([],[]),([3],[3]),([],[]),([4,5],[4,5]),([6],[6]),([7],[7]),([],[]),([9],[9]),([8,10],[8,10]),([1,2,0,1,2,3,4,5,6,7,8,9,10,11],[1,2]),([12,0,1,2,3,4,5,6,7,8,9,10,11],[12]),([13,11,11,0,1,2,3,4,5,6,7,8,9,10,11],[11,13])])
def spec_Build.B12:List Nat:=[0,1,0,0,8,0,56,120,248,0,512,2040,4095,8191,16383]
theorem spec_Build.tab12:rtab .any (opsOf Try.f32 12)=spec_Build.T12:=by kernel_rfl
theorem spec_Build.bits12:waitsOk spec_Build.T12.2 spec_Build.B12=true:=by kernel_rfl
set_option maxHeartbeats 8000000 in
set_option maxRecDepth 100000 in
theorem spec_Build.calls (k:Nat) (A0:Option Addr) (c0:Nat) (l0:List (S61)) (a1:Int) (a2:Int) (r1:Int) (r2:List (S35)) (r3:Bool) (w:World) (hr0:Kd.C k61 w A0 l0.length l0) (hc0:l0.length≤c0) (h:spec_Build.f k l0 a1 a2=some (r1,r2,r3)) :
  Calls Try.prog 32 #[.slice A0 l0.length c0,.int .i64 a1,.int .i64 a2] w fun e w'=>∃ v1_:Value,e = .returned (.tuple #[.agg #[.int .i64 r1,v1_],.bool r3])∧Kd.S k35 35 w' w.heap.size (fun _=>True) v1_ r2∧Below w.heap.size w w':=by
 have hu26:=Try.underlying26
 have hu35:=Try.underlying35
 have HR0:=Aside0.mk hr0
 have HC0:=Aside0.mk hc0
 clear hr0 hc0
 have HB:=Aside0.mk (Below.refl w.heap.size w)
 have H:((spec_DevsOk.f k l0).bind fun t324=>(if t324=true then ((spec_l1In.f a1 1 64).bind fun t325=>(if t325=true then ((spec_l1In.f a2 1 5).bind fun t326=>(if t326=true then (spec_Build.j0 k l0 a1 a2 (decide (a2 > (l0.length:Int)))) else (spec_Build.j0 k l0 a1 a2 true))) else (spec_Build.j0 k l0 a1 a2 true))) else (spec_Build.j0 k l0 a1 a2 true)))=some (r1,r2,r3):=h
 clear h
 have HC4:=Aside0.mk H
 clear H
 go_enter Try.func32,Try.ntmps32
 go_upto_region 1 with (first|((with_reducible refine gate_dst (N:=6) rfl ?_);(try (refine gate_guard (by rfl) ?_;dsimp only));refine box_event ?hg (N:=6) ?hd (cs:=#[.int .i64 0,.slice none 0 0]) (t:=26) ?hr ?_;(case hd=>rfl);(case hg=>rfl);(case hr=>first|(go_simp;done)|(go_simp;rfl));intro gb323 hg w5 hbox hb;have n0_:=bs hb;have n1_:=Aside0.mk (hbox);have n2_:=Aside0.mk ((by rw [hg];exact (below_size be):w.heap.size≤gb323));have n3_:=Aside0.mk ((by rw [hg];exact (below_size be):w.heap.size≤gb323));clear HB;have HB:=n0_;have BK323:=n1_;have GW323:=n2_;have GE323:=n3_;clear n0_ n1_ n2_ n3_;clear hb hbox hg))
 (try simp only [Act.put,List.setIfInBounds_toArray,List.set_cons_zero,List.set_cons_succ])
 go_cut [30] (fun v30 wc=>∃ (kq:Nat) (x30_3:Bool),v30 = .bool x30_3∧Aside0 (spec_Build.j0 kq l0 a1 a2 x30_3=some (r1,r2,r3))∧Aside0 (kq≤k)∧Aside0 (wc.heap[gb323]?=some (.cells #[.int .i64 0,(.slice none 0 0)] 26 (0,0)))∧Aside0 (Below w.heap.size w wc))
 case first=>
  have H:=HC4.out
  clear HC4
  replace H:=Option.bind_eq_some_iff.mp H
  obtain ⟨t324,A60,H⟩:=H
  try dsimp only at H
  have A6:=Aside0.mk A60
  clear A60
  by_cases c7:t324=true
  ·subst c7
   rw [if_pos rfl] at H
   replace H:=Option.bind_eq_some_iff.mp H
   obtain ⟨t325,A80,H⟩:=H
   try dsimp only at H
   have A8:=Aside0.mk A80
   clear A80
   by_cases c9:t325=true
   ·subst c9
    rw [if_pos rfl] at H
    replace H:=Option.bind_eq_some_iff.mp H
    obtain ⟨t326,A100,H⟩:=H
    try dsimp only at H
    have A10:=Aside0.mk A100
    clear A100
    by_cases c11:t326=true
    ·subst c11
     rw [if_pos rfl] at H
     have H':=Aside0.mk H
     clear H
     go_wp2_with (first|((with_reducible refine gate_callee (f:=53) rfl ?_);refine goesL_ (some 13) rfl rfl Try.func53 (by kernel_rfl) rfl #[.slice A0 l0.length c0] rfl (by (try simp only [List.map_toArray,List.map_cons,List.map_nil]);first|done|rfl|(simp only [List.length_drop,List.length_take];rfl)) ?_;(with_reducible refine (spec_DevsOk.calls k _ _ l0 true _ ?side1 ?side2 A6.out).mono ?_);(case side1=>exact rC HR0);(case side2=>exact HC0.out);rintro e w12 ⟨rfl,hb⟩;refine ⟨_,rfl,?_⟩;have n0_:=Aside0.mk (blk_below (g:=gb323) (o:=.cells #[.int .i64 0,.slice none 0 0] 26 (0,0)) (bk BK323) hb);have n1_:=bs hb;clear BK323;clear HB;have BK323:=n0_;have HB:=n1_;clear n0_ n1_;(try clear hb);(try clear hb2);(try clear hk);(try clear hi))|(go_at_call 54;(with_reducible refine (spec_l1In.calls a1 1 64 true _ A8.out).mono ?_);rintro e w' ⟨rfl,⟨nd,rfl⟩⟩)|(go_at_call 54;(with_reducible refine (spec_l1In.calls a2 1 5 true _ A10.out).mono ?_);rintro e w' ⟨rfl,⟨nd,rfl⟩⟩))
     go_meet
     case rel=>exact ⟨_,(decide (a2 > (l0.length:Int))),rd_,H',⟨by first|omega|exact Nat.le_refl _⟩,⟨bk BK323⟩,⟨be⟩⟩
    ·replace c11:=Bool.eq_false_iff.mpr c11
     subst c11
     have H1:(spec_Build.j0 k l0 a1 a2 true)=some (r1,r2,r3):=by rw [if_neg (show ¬ (false=true) by decide)] at H;exact H
     clear H
     have H:=H1
     clear H1
     have H':=Aside0.mk H
     clear H
     go_wp2_with (first|((with_reducible refine gate_callee (f:=53) rfl ?_);refine goesL_ (some 13) rfl rfl Try.func53 (by kernel_rfl) rfl #[.slice A0 l0.length c0] rfl (by (try simp only [List.map_toArray,List.map_cons,List.map_nil]);first|done|rfl|(simp only [List.length_drop,List.length_take];rfl)) ?_;(with_reducible refine (spec_DevsOk.calls k _ _ l0 true _ ?side1 ?side2 A6.out).mono ?_);(case side1=>exact rC HR0);(case side2=>exact HC0.out);rintro e w13 ⟨rfl,hb⟩;refine ⟨_,rfl,?_⟩;have n0_:=Aside0.mk (blk_below (g:=gb323) (o:=.cells #[.int .i64 0,.slice none 0 0] 26 (0,0)) (bk BK323) hb);have n1_:=bs hb;clear BK323;clear HB;have BK323:=n0_;have HB:=n1_;clear n0_ n1_;(try clear hb);(try clear hb2);(try clear hk);(try clear hi))|(go_at_call 54;(with_reducible refine (spec_l1In.calls a1 1 64 true _ A8.out).mono ?_);rintro e w' ⟨rfl,⟨nd,rfl⟩⟩)|(go_at_call 54;(with_reducible refine (spec_l1In.calls a2 1 5 false _ A10.out).mono ?_);rintro e w' ⟨rfl,⟨nd,rfl⟩⟩))
     go_meet
     case rel=>exact ⟨_,(true),rd_,H',⟨by first|omega|exact Nat.le_refl _⟩,⟨bk BK323⟩,⟨be⟩⟩
   ·replace c9:=Bool.eq_false_iff.mpr c9
    subst c9
    have H1:(spec_Build.j0 k l0 a1 a2 true)=some (r1,r2,r3):=by rw [if_neg (show ¬ (false=true) by decide)] at H;exact H
    clear H
    have H:=H1
    clear H1
    have H':=Aside0.mk H
    clear H
    go_wp2_with (first|((with_reducible refine gate_callee (f:=53) rfl ?_);refine goesL_ (some 13) rfl rfl Try.func53 (by kernel_rfl) rfl #[.slice A0 l0.length c0] rfl (by (try simp only [List.map_toArray,List.map_cons,List.map_nil]);first|done|rfl|(simp only [List.length_drop,List.length_take];rfl)) ?_;(with_reducible refine (spec_DevsOk.calls k _ _ l0 true _ ?side1 ?side2 A6.out).mono ?_);(case side1=>exact rC HR0);(case side2=>exact HC0.out);rintro e w14 ⟨rfl,hb⟩;refine ⟨_,rfl,?_⟩;have n0_:=Aside0.mk (blk_below (g:=gb323) (o:=.cells #[.int .i64 0,.slice none 0 0] 26 (0,0)) (bk BK323) hb);have n1_:=bs hb;clear BK323;clear HB;have BK323:=n0_;have HB:=n1_;clear n0_ n1_;(try clear hb);(try clear hb2);(try clear hk);(try clear hi))|(go_at_call 54;(with_reducible refine (spec_l1In.calls a1 1 64 false _ A8.out).mono ?_);rintro e w' ⟨rfl,⟨nd,rfl⟩⟩))
    go_meet
    case rel=>exact ⟨_,(true),rd_,H',⟨by first|omega|exact Nat.le_refl _⟩,⟨bk BK323⟩,⟨be⟩⟩
  ·replace c7:=Bool.eq_false_iff.mpr c7
   subst c7
   have H1:(spec_Build.j0 k l0 a1 a2 true)=some (r1,r2,r3):=by rw [if_neg (show ¬ (false=true) by decide)] at H;exact H
   clear H
   have H:=H1
   clear H1
   have H':=Aside0.mk H
   clear H
   go_wp2_with (first|((with_reducible refine gate_callee (f:=53) rfl ?_);refine goesL_ (some 13) rfl rfl Try.func53 (by kernel_rfl) rfl #[.slice A0 l0.length c0] rfl (by (try simp only [List.map_toArray,List.map_cons,List.map_nil]);first|done|rfl|(simp only [List.length_drop,List.length_take];rfl)) ?_;(with_reducible refine (spec_DevsOk.calls k _ _ l0 false _ ?side1 ?side2 A6.out).mono ?_);(case side1=>exact rC HR0);(case side2=>exact HC0.out);rintro e w15 ⟨rfl,hb⟩;refine ⟨_,rfl,?_⟩;have n0_:=Aside0.mk (blk_below (g:=gb323) (o:=.cells #[.int .i64 0,.slice none 0 0] 26 (0,0)) (bk BK323) hb);have n1_:=bs hb;clear BK323;clear HB;have BK323:=n0_;have HB:=n1_;clear n0_ n1_;(try clear hb);(try clear hb2);(try clear hk);(try clear hi)))
   go_meet
   case rel=>exact ⟨_,(true),rd_,H',⟨by first|omega|exact Nat.le_refl _⟩,⟨bk BK323⟩,⟨be⟩⟩
 case rest=>
  clear HC4
  try clear c1
  try clear p2
  try clear c3
  try clear c5
  try clear c7
  try clear c9
  try clear c11
  obtain ⟨kq,x30_3,rfl,HA,HJ3,BK323,HB⟩:=hcut
  cases kq with
  | zero=>exact absurd HA.out (by simp [spec_Build.j0])
  | succ kj3=>
   have H:=HA.out
   clear HA
   simp only [spec_Build.j0] at H
   by_cases c16:x30_3=true
   ·subst c16
    rw [if_pos rfl] at H
    simp only [Option.some.injEq,Prod.mk.injEq] at H
    obtain ⟨rfl,rfl,rfl⟩:=H
    have hcz17_0:wc.cell? ⟨gb323,0,none⟩=some (.int .i64 0):=(blk_cell BK323.out 0).trans rfl
    have hcz17_1:wc.cell? ⟨gb323,1,none⟩=some (.slice none 0 0):=(blk_cell BK323.out 1).trans rfl
    have hfz17_0:=blk_frozen BK323.out 0
    have hfz17_1:=blk_frozen BK323.out 1
    go_wp2
    refine bodyPost_ret (results_ct rfl _ _ gb323 26 #[.int .i64 0,.slice none 0 0] (0,0) _ rfl (by (with_reducible repeat (first|refine blk_drewN ?_ _|refine blk_drew ?_|refine blk_alloc ?_ _));refine blk_put (cs:=#[.int .i64 0,.slice none 0 0]) ?_ 1 _ rfl;(with_reducible repeat (first|refine blk_drewN ?_ _|refine blk_drew ?_|refine blk_alloc ?_ _));refine blk_put (cs:=#[.int .i64 0,.slice none 0 0]) ?_ 0 _ rfl;(with_reducible repeat (first|refine blk_drewN ?_ _|refine blk_drew ?_|refine blk_alloc ?_ _));exact BK323.out) Try.underlying26 rfl (by kernel_rfl)) rfl ?_
    exact ⟨_,rz,by first|exact Kd.S_nil _ _ _ _ _|exact Kd.N_nil _ _ _ _ _|exact Kd.V_nil _ _ _ _ _|exact Kd.Q_nil _ _ _ _ _|exact Kd.R_nil _ _ _ _ _,be⟩
   ·replace c16:=Bool.eq_false_iff.mpr c16
    subst c16
    have H1:(spec_Build.l0 kj3 l0 a1 a2 0 a2 ([]:List (S35)))=some (r1,r2,r3):=by rw [if_neg (show ¬ (false=true) by decide)] at H;exact H
    clear H
    have H:=H1
    clear H1
    have H':=Aside0.mk H
    clear H
    go_wp2_with (first|((with_reducible refine gate_dst (N:=8) rfl ?_);(try (refine gate_guard (by rfl) ?_;dsimp only));refine box_event ?hg (N:=8) ?hd (cs:=#[.int .i64 0,.slice none 0 0]) (t:=26) ?hr ?_;(case hd=>rfl);(case hg=>rfl);(case hr=>first|(go_simp;done)|(go_simp;rfl));intro gb327 hg w18 hbox hb;have n0_:=Aside0.mk (blk_below (g:=gb323) (o:=.cells #[.int .i64 0,.slice none 0 0] 26 (0,0)) (bk BK323) hb);have n1_:=bs hb;have n2_:=Aside0.mk (hbox);have n3_:=Aside0.mk ((by rw [hg];exact (below_size be):w.heap.size≤gb327));have n4_:=Aside0.mk ((by rw [hg];exact (below_size be):w.heap.size≤gb327));have n5_:=Aside0.mk ((by rw [hg];exact Nat.ne_of_lt (blk_lt (g:=gb323) (o:=.cells #[.int .i64 0,.slice none 0 0] 26 (0,0)) (bk BK323)):gb323 ≠ gb327));have n6_:=Aside0.mk ((by rw [hg];exact Nat.ne_of_gt (blk_lt (g:=gb323) (o:=.cells #[.int .i64 0,.slice none 0 0] 26 (0,0)) (bk BK323)):gb327 ≠ gb323));clear BK323;clear HB;have BK323:=n0_;have HB:=n1_;have BK327:=n2_;have GW327:=n3_;have GE327:=n4_;have NB323_327:=n5_;have NB327_323:=n6_;clear n0_ n1_ n2_ n3_ n4_ n5_ n6_;clear hb hbox hg;have hnb19:=NB327_323.out;have hnc19:=NB323_327.out;have hcz20_0:w18.cell? ⟨gb327,0,none⟩=some (.int .i64 0):=(blk_cell BK327.out 0).trans rfl;have hcz20_1:w18.cell? ⟨gb327,1,none⟩=some (.slice none 0 0):=(blk_cell BK327.out 1).trans rfl;have hfz20_0:=blk_frozen BK327.out 0;have hfz20_1:=blk_frozen BK327.out 1))
    go_loopg [9] kj3 (fun kq v9 w'=>∃ (x9_2:Int) (x328001_2:List (S35)) (u328001:Value),v9 = .int .i64 x9_2∧Aside0 (spec_Build.l0 kq l0 a1 a2 x9_2 a2 x328001_2=some (r1,r2,r3))∧Aside0 (kq≤kj3)∧Aside0 (Kd.S k35 35 w' w.heap.size (fun _=>True) u328001 x328001_2)∧Aside0 (w'.heap[gb323]?=some (.cells #[.int .i64 0,(.slice none 0 0)] 26 (0,0)))∧Aside0 (w'.heap[gb327]?=some (.cells #[.int .i64 a2,u328001] 26 (0,0)))∧Aside0 (Below w.heap.size w w'))
    case atStart=>exact ⟨(0),(([]:List (S35))),(.slice none 0 0),rd_,H',⟨Nat.le_refl _⟩,⟨by first|exact Kd.S_nil _ _ _ _ _|exact Kd.N_nil _ _ _ _ _|exact Kd.V_nil _ _ _ _ _|exact Kd.Q_nil _ _ _ _ _|exact Kd.R_nil _ _ _ _ _⟩,⟨by (with_reducible repeat (first|refine blk_drewN ?_ _|refine blk_drew ?_|refine blk_alloc ?_ _));refine blk_far ?_ NB323_327.out _;(with_reducible repeat (first|refine blk_drewN ?_ _|refine blk_drew ?_|refine blk_alloc ?_ _));refine blk_far ?_ NB323_327.out _;(with_reducible repeat (first|refine blk_drewN ?_ _|refine blk_drew ?_|refine blk_alloc ?_ _));exact BK323.out⟩,⟨by (with_reducible repeat (first|refine blk_drewN ?_ _|refine blk_drew ?_|refine blk_alloc ?_ _));refine blk_put (cs:=#[.int .i64 a2,.slice none 0 0]) ?_ 1 _ rfl;(with_reducible repeat (first|refine blk_drewN ?_ _|refine blk_drew ?_|refine blk_alloc ?_ _));refine blk_put (cs:=#[.int .i64 0,.slice none 0 0]) ?_ 0 _ rfl;(with_reducible repeat (first|refine blk_drewN ?_ _|refine blk_drew ?_|refine blk_alloc ?_ _));exact BK327.out⟩,⟨be⟩⟩
    case round=>
     clear H'
     try clear c1
     try clear p2
     try clear c3
     try clear c5
     try clear c7
     try clear c9
     try clear c11
     try clear c16
     try clear c19
     try clear hcz17_0
     try clear hcz17_1
     try clear hcz20_0
     try clear hcz20_1
     try clear hfz17_0
     try clear hfz17_1
     try clear hfz20_0
     try clear hfz20_1
     try clear p2
     obtain ⟨x9_2,x328001_2,u328001,rfl,HA,HK2,HO_328001,BK323,BK327,HB⟩:=hrel
     cases gk with
     | zero=>exact absurd HA.out (by simp [spec_Build.l0])
     | succ k2=>
      have H:=HA.out
      clear HA
      simp only [spec_Build.l0] at H
      by_cases c21:x9_2 < a1
      ·rw [if_pos c21] at H
       have c21b0:decide (x9_2 < a1)=true:=decide_eq_true c21
       clear c21
       by_cases c22:x328001_2.length < 5864062014805
       ·rw [if_pos c22] at H
        have LMc22:=Aside0.mk c22
        clear c22
        obtain ⟨y328,hy328⟩ : ∃ y_:List (S35),y_=(x328001_2 ++ [(⟨([]:List Int)⟩:S35)]):=⟨_,rfl⟩
        replace H:(spec_Build.l1 k2 l0 a1 a2 x9_2 0 a2 y328)=some (r1,r2,r3):=by first|(rw [hy328];with_reducible exact H)|(have H2_:=(Option.bind_some _ _).symm.trans H;rw [hy328];with_reducible exact H2_)|(have H2_:=(Option.bind_some _ _).symm.trans H;with_reducible exact H2_)|with_reducible exact H|(rw [hy328];exact H)|exact H
        have Ny328:=Aside0.mk hy328
        clear hy328
        have H':=Aside0.mk H
        clear H
        have hnb23:=NB327_323.out
        have hnc23:=NB323_327.out
        have hcz24_0:wr.cell? ⟨gb327,0,none⟩=some (.int .i64 a2):=(blk_cell BK327.out 0).trans rfl
        have hcz24_1:wr.cell? ⟨gb327,1,none⟩=some (u328001):=(blk_cell BK327.out 1).trans rfl
        have hfz24_0:=blk_frozen BK327.out 0
        have hfz24_1:=blk_frozen BK327.out 1
        go_wp2_with (first|((with_reducible refine gate_builtin (b:=.append) (xs:=#[.tmp 40,.tmp 42]) rfl ?_);(try (refine gate_guard (by rfl) ?_;dsimp only));at_builtin;refine Kd.S_append k35 (w0:=w) w.heap.size rfl (.tmp 40) (.tmp 42) 24 35 (.agg #[(.slice none 0 0)]) 24 rfl Try.underlying24 info35 rfl (by decide) (by omega) u328001 x328001_2 (⟨([]:List Int)⟩:S35) [.slice none 0 0] (fun _=>True) (fun _=>False) rfl rfl ?aP (fun k_ hk_=>hk_.elim) ?aF ?aO ?aB ?aS ?aL ?_;(case aP=>exact k35_mkM _ _ _ (⟨([]:List Int)⟩:S35) (Kd.R_nil _ _ _ _ _));(case aB=>exact be);(case aF=>exact (fun _ _=>trivial));(case aO=>exact (by (with_reducible repeat (first|apply Kd.S_alloc|apply Kd.S_drewN|apply Kd.S_drew));exact Kd.S_mono HO_328001.out (fun k_ hk=>⟨trivial,fun e_=>e_⟩)));(case aS=>exact (below_size be));(case aL=>have:=LMc22.out;omega);intro v329 w25 ho hb hg hat;rw [← Ny328.out] at ho;have n0_:=Aside0.mk (blk_grown (g:=gb323) (o:=.cells #[.int .i64 0,.slice none 0 0] 26 (0,0)) (bk BK323) hg (Kd.S_ne HO_328001.out BK323.out (by decide)));have n1_:=Aside0.mk (blk_grown (g:=gb327) (o:=.cells #[.int .i64 a2,u328001] 26 (0,0)) (bk BK327) hg (Kd.S_ne HO_328001.out BK327.out (by decide)));have n2_:=Aside0.mk (hb);have n3_:=Aside0.mk (ho);clear BK323;clear BK327;clear HB;clear HO_328001;have BK323:=n0_;have BK327:=n1_;have HB:=n2_;have HO330:=n3_;clear n0_ n1_ n2_ n3_;clear ho hb hg hat;obtain ⟨Ao26,co26,eo26⟩:=Kd.S_slice HO330.out;subst eo26;have hcz27_0:w25.cell? ⟨gb327,0,none⟩=some (.int .i64 a2):=(blk_cell BK327.out 0).trans rfl;have hcz27_1:w25.cell? ⟨gb327,1,none⟩=some (u328001):=(blk_cell BK327.out 1).trans rfl;have hfz27_0:=blk_frozen BK327.out 0;have hfz27_1:=blk_frozen BK327.out 1))
        go_loopg [10] k2 (fun kq v10 w'=>∃ (x10_3:Int) (x328001_3:List (S35)) (u328001:Value),v10 = .int .i64 x10_3∧Aside0 (spec_Build.l1 kq l0 a1 a2 x9_2 x10_3 a2 x328001_3=some (r1,r2,r3))∧Aside0 (kq≤k2)∧Aside0 (Kd.S k35 35 w' w.heap.size (fun _=>True) u328001 x328001_3)∧Aside0 (w'.heap[gb323]?=some (.cells #[.int .i64 0,(.slice none 0 0)] 26 (0,0)))∧Aside0 (w'.heap[gb327]?=some (.cells #[.int .i64 a2,u328001] 26 (0,0)))∧Aside0 (Below w.heap.size w w'))
        case atStart=>exact ⟨(0),(y328),(.slice Ao26 y328.length co26),rd_,H',⟨Nat.le_refl _⟩,⟨by (with_reducible repeat (first|apply Kd.S_alloc|apply Kd.S_drewN|apply Kd.S_drew));exact Kd.S_mono (Kd.S_far (p:=⟨gb327,1,none⟩) (Kd.S_types HO330.out BK327.out (by decide)) (fun _ hk=>hk.2) (.slice Ao26 y328.length co26)) (fun _ hk=>trivial)⟩,⟨by (with_reducible repeat (first|refine blk_drewN ?_ _|refine blk_drew ?_|refine blk_alloc ?_ _));refine blk_far ?_ NB323_327.out _;(with_reducible repeat (first|refine blk_drewN ?_ _|refine blk_drew ?_|refine blk_alloc ?_ _));exact BK323.out⟩,⟨by (with_reducible repeat (first|refine blk_drewN ?_ _|refine blk_drew ?_|refine blk_alloc ?_ _));refine blk_put (cs:=#[.int .i64 a2,u328001]) ?_ 1 _ rfl;(with_reducible repeat (first|refine blk_drewN ?_ _|refine blk_drew ?_|refine blk_alloc ?_ _));exact BK327.out⟩,⟨be⟩⟩
        case round=>
         clear H'
         try clear c1
         try clear c2
         try clear p2
         try clear c3
         try clear c5
         try clear c7
         try clear c9
         try clear c11
         try clear c16
         try clear c19
         try clear c21
         try clear c21b0
         try clear c22
         try clear c23
         try clear hcz17_0
         try clear hcz17_1
         try clear hcz20_0
         try clear hcz20_1
         try clear hcz24_0
         try clear hcz24_1
         try clear hcz27_0
         try clear hcz27_1
         try clear hfz17_0
         try clear hfz17_1
         try clear hfz20_0
         try clear hfz20_1
         try clear hfz24_0
         try clear hfz24_1
         try clear hfz27_0
         try clear hfz27_1
         try clear p2
         obtain ⟨x10_3,x328001_3,u328001,rfl,HA,HK3,HO_328001,BK323,BK327,HB⟩:=hrel
         cases gk with
         | zero=>exact absurd HA.out (by simp [spec_Build.l1])
         | succ k3=>
          have H:=HA.out
          clear HA
          simp only [spec_Build.l1] at H
          by_cases c28:x10_3 < a2
          ·rw [if_pos c28] at H
           have c28b0:decide (x10_3 < a2)=true:=decide_eq_true c28
           clear c28
           by_cases c29:0≤x9_2
           ·rw [if_pos c29] at H
            have c29b0:decide (0≤x9_2)=true:=decide_eq_true c29
            clear c29
            by_cases c30:x9_2 < (x328001_3.length:Int)
            ·rw [if_pos c30] at H
             have c30b0:decide (x9_2 < (x328001_3.length:Int))=true:=decide_eq_true c30
             clear c30
             replace H:=Option.bind_eq_some_iff.mp H
             obtain ⟨t332,A310,H⟩:=H
             try dsimp only at H
             have A31:=Aside0.mk A310
             clear A310
             by_cases c32:((rd_T35 x328001_3 x9_2).f0).length < 17592186044416
             ·rw [if_pos c32] at H
              have LMc32:=Aside0.mk c32
              clear c32
              obtain ⟨y334,hy334⟩ : ∃ y_:List Int,y_=(((rd_T35 x328001_3 x9_2).f0) ++ [t332]):=⟨_,rfl⟩
              replace H:(spec_Build.l1 k3 l0 a1 a2 x9_2 (wrap64 (x10_3+1)) a2 (x328001_3.set (x9_2:Int).toNat (⟨y334⟩:S35)))=some (r1,r2,r3):=by first|(rw [hy334];with_reducible exact H)|(have H2_:=(Option.bind_some _ _).symm.trans H;rw [hy334];with_reducible exact H2_)|(have H2_:=(Option.bind_some _ _).symm.trans H;with_reducible exact H2_)|with_reducible exact H|(rw [hy334];exact H)|exact H
              have Ny334:=Aside0.mk hy334
              clear hy334
              obtain ⟨y337,hy337⟩ : ∃ y_:List (S35),y_=(x328001_3.set (x9_2:Int).toNat (⟨y334⟩:S35)):=⟨_,rfl⟩
              replace H:(spec_Build.l1 k3 l0 a1 a2 x9_2 (wrap64 (x10_3+1)) a2 y337)=some (r1,r2,r3):=by first|(rw [hy337];with_reducible exact H)|(have H2_:=(Option.bind_some _ _).symm.trans H;rw [hy337];with_reducible exact H2_)|(have H2_:=(Option.bind_some _ _).symm.trans H;with_reducible exact H2_)|with_reducible exact H|(rw [hy337];exact H)|exact H
              have Ny337:=Aside0.mk hy337
              clear hy337
              have H':=Aside0.mk H
              clear H
              try go_wp2
              have n0_:=Aside0.mk (Kd.S_drew HO_328001.out)
              have n1_:=Aside0.mk (blk_drew BK323.out)
              have n2_:=Aside0.mk (blk_drew BK327.out)
              have n3_:=Aside0.mk (below_drew1 HB.out)
              clear HO_328001
              clear BK323
              clear BK327
              clear HB
              have HO_328001:=n0_
              have BK323:=n1_
              have BK327:=n2_
              have HB:=n3_
              clear n0_ n1_ n2_ n3_
              obtain ⟨Ao35,co35,eo35⟩:=Kd.S_slice HO_328001.out
              (first|subst eo35|(injection eo35 with f1_ f2_ f3_;have f4_:=f1_.symm;have f5_:=f3_.symm;clear f1_ f2_ f3_;subst f4_;subst f5_))
              have p331:0≤(x9_2:Int):=of_decide_eq_true (by first|(with_reducible assumption)|assumption)
              have q331:x9_2 < (x328001_3.length:Int):=of_decide_eq_true (by first|(with_reducible assumption)|assumption)
              obtain ⟨ad331,A331_0,c331_0,e331,hx331_0,hl331_0,hi331_0⟩:=at_T35 (Kd.S_reads' HO_328001.out).2.2 x9_2 p331 q331
              cases e331
              obtain ⟨ce331,hce331,hMe331,hcc331⟩:=Kd.S_get HO_328001.out z35 x9_2 p331 (by first|exact q331|exact of_decide_eq_true (by first|(with_reducible assumption)|assumption)|(have e_:=(Kd.S_reads' HO_328001.out).1;omega))
              obtain ⟨ve331_0,rfl,ge331_0⟩:=k35_openM hMe331
              have hv331_0:=hcc331 0 _ rfl
              rw [Nat.add_zero,show (k35).sz=1 from rfl,Nat.mul_one] at hv331_0
              replace hv331_0:=Option.some.inj (hv331_0.symm.trans hx331_0)
              rw [hv331_0] at ge331_0
              have HL331_0:=Aside0.mk (show Kd.R (Kd.int .i64) 3 _ _ _ _ ((rd_T35 x328001_3 x9_2).f0) from ge331_0)
              clear hv331_0 ge331_0
              have HX331_0:=Aside0.mk hx331_0
              clear hcc331 hce331
              have HR331_0:=Aside0.mk hi331_0
              have HC331_0:=Aside0.mk hl331_0
              clear hi331_0 hl331_0
              replace p331:=eq_true p331
              replace q331:=eq_true q331
              refine start_ (n:=9) (S:=fun w'=>w'.cell? ⟨gb327,0,none⟩=some (.int .i64 a2)∧w'.cell? ⟨gb327,1,none⟩=some (.slice (some ad331) x328001_3.length co35)∧w'.cell? (ad331.add (x9_2).toNat)=some (.slice A331_0 ((rd_T35 x328001_3 x9_2).f0).length c331_0)) (ds:=[]) (fl 9 0) (by kernel_rfl) rfl rfl ⟨(blk_cell BK327.out 0).trans rfl,(blk_cell BK327.out 1).trans rfl,hx331_0⟩ (fun hHeld=>?_);refine with_tabW spec_Build.tab11 spec_Build.bits11 (fun HT_ HW_=>?_)
              generalize wr.drew=w34 at HO_328001 BK323 BK327 HB HL331_0 HR331_0 HX331_0 hx331_0 hHeld ⊢
              refine pt 1 51 (fl 9 2) HT_ ?_
              refine pt 3 53 (fl 9 10) HT_ ?_
              refine pt 6 56 (fl 9 74) HT_ ?_
              refine tt 0 50 (fl 9 75) HT_ HW_ hHeld ?_
              refine tt 2 52 (fl 9 79) HT_ HW_ hHeld ?_
              refine pt 4 54 (fl 9 95) HT_ ?_
              refine tt 5 55 (fl 9 127) HT_ HW_ hHeld ?_
              refine ot 7 (some 57) (fl 9 255) HT_ (fun K hK=>?_)
              refine goes_ Try.func50 (by kernel_rfl) rfl #[.agg #[.int .i64 a2,.slice (some ad331) x328001_3.length co35],.agg #[.slice A331_0 ((rd_T35 x328001_3 x9_2).f0).length c331_0],.slice A0 l0.length c0] (by rfl) rfl rfl (by (try simp only [List.map_toArray,List.map_cons,List.map_nil]);first|done|rfl|(simp only [List.length_drop,List.length_take];rfl)) ?_
              with_reducible refine (spec_Best.calls k3 a2 _ _ x328001_3 _ _ ((rd_T35 x328001_3 x9_2).f0) _ _ l0 t332 _ ?side1 ?side2 ?side3 ?side4 ?side5 ?side6 A31.out).mono ?_
              (case side1=>exact sS HO_328001)
              (case side2=>exact (Kd.S_reads' HO_328001.out).2.1)
              (case side3=>repeat (first|exact (by repeat (first|(with_reducible exact HR331_0.out)|(with_reducible refine Kd.C_alloc ?_ _)|(with_reducible refine Kd.C_drewN ?_ _)|(with_reducible refine Kd.C_drew ?_)|exact HR331_0.out))|(with_reducible refine Kd.C_alloc ?_ _)|(with_reducible refine Kd.C_drewN ?_ _)|(with_reducible refine Kd.C_drew ?_)))
              (case side4=>exact HC331_0.out)
              (case side5=>exact rC HR0)
              (case side6=>exact HC0.out)
              rintro e w36 ⟨rfl,hb⟩
              have HS2_:=(hb.cell (World.block_lt_of_cell? _ _ (hHeld.2.2))).trans (hHeld.2.2)
              refine ⟨_,rfl,?_⟩
              have n0_:=Aside0.mk (Kd.S_below ((rS HO_328001)) hb)
              have n1_:=Aside0.mk (Kd.R_below ((by (with_reducible repeat (first|apply Kd.R_alloc|apply Kd.R_drewN|apply Kd.R_drew));exact HL331_0.out)) hb)
              have n2_:=Aside0.mk (blk_below (g:=gb323) (o:=.cells #[.int .i64 0,.slice none 0 0] 26 (0,0)) (bk BK323) hb)
              have n3_:=Aside0.mk (blk_below (g:=gb327) (o:=.cells #[.int .i64 a2,.slice (some ad331) x328001_3.length co35] 26 (0,0)) (bk BK327) hb)
              have n4_:=Aside0.mk (Kd.C_below (by repeat (first|(with_reducible exact HR331_0.out)|(with_reducible refine Kd.C_alloc ?_ _)|(with_reducible refine Kd.C_drewN ?_ _)|(with_reducible refine Kd.C_drew ?_)|exact HR331_0.out)) hb)
              have n5_:=Aside0.mk (pw_cell_below hb HX331_0.out)
              have n6_:=bs hb
              clear HO_328001
              clear HL331_0
              clear BK323
              clear BK327
              clear HR331_0
              clear HX331_0
              clear HB
              have HO_328001:=n0_
              have HL331_0:=n1_
              have BK323:=n2_
              have BK327:=n3_
              have HR331_0:=n4_
              have HX331_0:=n5_
              have HB:=n6_
              clear n0_ n1_ n2_ n3_ n4_ n5_ n6_
              (try clear hb)
              (try clear hb2)
              (try clear hk)
              (try clear hi)
              refine hK.out _ _ ⟨(blk_cell BK327.out 0).trans rfl,(blk_cell BK327.out 1).trans rfl,HS2_⟩ (fun hHeld=>?_)
              clear hK K
              refine no 57 ?_
              refine pt 8 11 (fl 9 511) HT_ ?_
              refine done_ (done_of HT_.out (by kernel_rfl)) ?_
              try go_wp2
              have n0_:=Aside0.mk (Kd.S_drew HO_328001.out)
              have n1_:=Aside0.mk (Kd.R_drew HL331_0.out)
              have n2_:=Aside0.mk (blk_drew BK323.out)
              have n3_:=Aside0.mk (blk_drew BK327.out)
              have n4_:=Aside0.mk (Kd.C_drew HR331_0.out)
              have n5_:=Aside0.mk (below_drew1 HB.out)
              clear HO_328001
              clear HL331_0
              clear BK323
              clear BK327
              clear HR331_0
              clear HB
              have HO_328001:=n0_
              have HL331_0:=n1_
              have BK323:=n2_
              have BK327:=n3_
              have HR331_0:=n4_
              have HB:=n5_
              clear n0_ n1_ n2_ n3_ n4_ n5_
              have p333:0≤(x9_2:Int):=of_decide_eq_true (by first|(with_reducible assumption)|assumption)
              have q333:x9_2 < (x328001_3.length:Int):=of_decide_eq_true (by first|(with_reducible assumption)|assumption)
              obtain ⟨ad333,A333_0,c333_0,e333,hx333_0,hl333_0,hi333_0⟩:=at_T35 (Kd.S_reads' HO_328001.out).2.2 x9_2 p333 q333
              obtain rfl:ad331=ad333:=(by injection e333)
              obtain ⟨ce333,hce333,hMe333,hcc333⟩:=Kd.S_get HO_328001.out z35 x9_2 p333 (by first|exact q333|exact of_decide_eq_true (by first|(with_reducible assumption)|assumption)|(have e_:=(Kd.S_reads' HO_328001.out).1;omega))
              obtain ⟨ve333_0,rfl,ge333_0⟩:=k35_openM hMe333
              have hv333_0:=hcc333 0 _ rfl
              rw [Nat.add_zero,show (k35).sz=1 from rfl,Nat.mul_one] at hv333_0
              replace hv333_0:=Option.some.inj (hv333_0.symm.trans hx333_0)
              rw [hv333_0] at ge333_0
              have HL333_0:=Aside0.mk (show Kd.R (Kd.int .i64) 3 _ _ _ _ ((rd_T35 x328001_3 x9_2).f0) from ge333_0)
              clear hv333_0 ge333_0
              have HX333_0:=Aside0.mk hx333_0
              clear hcc333 hce333
              have HR333_0:=Aside0.mk hi333_0
              have HC333_0:=Aside0.mk hl333_0
              clear hi333_0 hl333_0
              replace p333:=eq_true p333
              replace q333:=eq_true q333
              obtain ⟨go38,co38,eo38,gb38,gl38,cl38,HG38⟩:=Kd.S_form HO_328001.out (by have h_:(x9_2:Int) < ((x328001_3.length:Int):Int):=of_decide_eq_true (by first|(with_reducible assumption)|assumption);have h2_:0≤(x9_2:Int):=(of_decide_eq_true (by first|(with_reducible assumption)|assumption));omega)
              (first|cases eo38|(injection eo38 with ea_ en_ ec_;(first|subst ea_|(injection ea_ with ea_;subst ea_));subst ec_;clear en_))
              have GB38:=Aside0.mk gb38
              have GG38:=Aside0.mk HG38
              clear gb38 gl38 HG38
              (first|simp only [add_plain] at hx331_0|skip)
              (first|simp only [add_plain] at hx333_0|skip)
              obtain ⟨oki38,ce38,hcl38,hM38,hcc38,_,_,hH38⟩:=Kd.S_elem HO_328001.out z35 (x9_2:Int) (of_decide_eq_true (by first|(with_reducible assumption)|assumption)) (by have h_:(x9_2:Int) < ((x328001_3.length:Int):Int):=of_decide_eq_true (by first|(with_reducible assumption)|assumption);first|exact h_|(have e_:=(Kd.S_reads' HO_328001.out).1;omega)|simpa using h_)
              obtain ⟨ve38_0,rfl,ge38_0⟩:=k35_openM hM38
              have hv38:=hcc38 0 _ rfl
              have hX38:=HX333_0.out
              (try simp only [add_plain] at hX38)
              (try simp only [Nat.add_zero] at hv38)
              (try rw [show (k35).sz=1 from rfl,Nat.mul_one] at hv38)
              replace hv38:=Option.some.inj (hv38.symm.trans hX38)
              subst hv38
              clear hX38 hcc38 hcl38
              have UU38:=Aside0.mk (show Kd.R (Kd.int .i64) 3 _ w.heap.size oki38 (.slice A333_0 ((rd_T35 x328001_3 x9_2).f0).length c333_0) ((rd_T35 x328001_3 x9_2).f0) from ge38_0)
              have HH38:=Aside0.mk hH38
              have HN38:=Aside0.mk (Kd.S_reads' HO_328001.out).1
              clear hH38 ge38_0
              refine start_ (n:=15) (S:=fun w'=>w'.cell? ⟨gb327,0,none⟩=some (.int .i64 a2)∧w'.cell? ⟨gb327,1,none⟩=some (.slice (some ⟨go38,0,none⟩) x328001_3.length co35)∧w'.cell? ⟨go38,(x9_2).toNat,none⟩=some (.slice A333_0 ((rd_T35 x328001_3 x9_2).f0).length c333_0)) (ds:=[14]) (fl 15 0) (by kernel_rfl) rfl rfl ⟨(blk_cell BK327.out 0).trans rfl,(blk_cell BK327.out 1).trans rfl,hx333_0⟩ (fun hHeld=>?_);refine with_tabW spec_Build.tab12 spec_Build.bits12 (fun HT_ HW_=>?_)
              generalize w36.drew=w37 at HO_328001 HL331_0 BK323 BK327 HR331_0 HB GG38 HH38 HL333_0 HR333_0 HX333_0 UU38 hx331_0 hx333_0 hHeld ⊢
              refine pt 0 58 (fl 15 1) HT_ ?_
              refine pt 2 60 (fl 15 5) HT_ ?_
              refine pt 3 61 (fl 15 13) HT_ ?_
              refine pt 5 63 (fl 15 45) HT_ ?_
              refine pt 9 67 (fl 15 557) HT_ ?_
              refine tt 1 59 (fl 15 559) HT_ HW_ hHeld ?_
              refine tt 4 62 (fl 15 575) HT_ HW_ hHeld ?_
              refine pt 6 64 (fl 15 639) HT_ ?_
              refine pt 7 65 (fl 15 767) HT_ ?_
              refine tt 8 66 (fl 15 1023) HT_ HW_ hHeld ?_
              refine ot 10 (some 68) (fl 15 2047) HT_ (fun K hK=>?_)
              refine value_ (w1:=?_) (v:=?_) (by rfl) rfl ?_ ?_
              rotate_left 2
              ·go_simp
               constructor
               ·rfl
               ·rfl
              refine hK.out _ _ ⟨(blk_cell (blk_alloc BK327.out _) 0).trans rfl,(blk_cell (blk_alloc BK327.out _) 1).trans rfl,(World.cell?_alloc_lt _ _ _ (World.block_lt_of_cell? _ _ (hHeld.2.2))).trans (hHeld.2.2)⟩ (fun hHeld=>?_)
              clear hK K
              refine no 68 ?_
              refine ot 11 (some 69) (fl 15 4095) HT_ (fun K hK=>?_)
              refine Kd.R_append_step (Kd.int .i64) (w0:=w) w.heap.size (by rfl) (.tmp 66) (.tmp 68) 33 3 (.int .i64 0) 8 rfl Try.underlying33 info3 rfl (by decide) (by omega) (.slice A333_0 ((rd_T35 x328001_3 x9_2).f0).length c333_0) ((rd_T35 x328001_3 x9_2).f0) t332 [.int .i64 t332] (fun k_=>oki38 k_ ∨ ((fun _=>True)) k_∧w37.heap.size≤k_) (fun _=>False) rfl rfl ?aP (fun _ hk=>hk.elim) ?aF ?aO ?aB ?aS ?aL ?_
              (case aP=>exact rfl)
              (case aB=>exact be)
              (case aF=>exact (fun k_ hk=>.inr ⟨trivial,hk⟩))
              (case aO=>exact (by (with_reducible repeat (first|apply Kd.R_alloc|apply Kd.R_drewN|apply Kd.R_drew));exact Kd.R_mono UU38.out (fun _ hk=>.inl hk)))
              (case aS=>exact (below_size be))
              (case aL=>have:=LMc32.out;omega)
              intro v335 w39 ho hb hg hat
              (first|have HS2_:=cell_grown hg (hHeld.2.2) (by first|(rw [add_block];exact (fun e_=>((HL333_0.out.1 _ e_.symm).2) rfl))|(show some (Addr.add _ _).block ≠ _;rw [add_block];exact (fun e_=>((HL333_0.out.1 _ e_.symm).2) rfl))|exact (fun e_=>((HL333_0.out.1 _ e_.symm).2) rfl))|have HS2_:=cell_grown hg (cell_unalloc (hHeld.2.2) (by first|(rw [add_block];exact Kd.S_lt HO_328001.out _ rfl)|(show (Addr.add _ _).block < _;rw [add_block];exact Kd.S_lt HO_328001.out _ rfl)|exact Kd.S_lt HO_328001.out _ rfl)) (by first|(rw [add_block];exact (fun e_=>((HL333_0.out.1 _ e_.symm).2) rfl))|(show some (Addr.add _ _).block ≠ _;rw [add_block];exact (fun e_=>((HL333_0.out.1 _ e_.symm).2) rfl))|exact (fun e_=>((HL333_0.out.1 _ e_.symm).2) rfl)))
              rw [← Ny334.out] at ho
              have n0_:=Aside0.mk (blk_grown (g:=gb323) (o:=.cells #[.int .i64 0,.slice none 0 0] 26 (0,0)) (bk BK323) hg (Kd.R_ne HL333_0.out BK323.out (by decide)))
              have n1_:=Aside0.mk (blk_grown (g:=gb327) (o:=.cells #[.int .i64 a2,.slice (some ⟨go38,0,none⟩) x328001_3.length co35] 26 (0,0)) (bk BK327) hg (Kd.R_ne HL333_0.out BK327.out (by decide)))
              have n2_:=Aside0.mk (hb)
              have n3_:=Aside0.mk (Kd.H_grown (Kd.H_widen (by repeat (first|exact HH38.out|refine Kd.H_alloc ?_ _|refine Kd.H_drewN ?_ _|refine Kd.H_drew ?_))) hg (fun k_ e_=>.inl (UU38.out.1 k_ e_)))
              have n4_:=Aside0.mk (ho)
              clear BK323
              clear BK327
              clear HB
              clear HH38
              clear HO_328001
              clear UU38
              clear HL331_0
              clear HL333_0
              have BK323:=n0_
              have BK327:=n1_
              have HB:=n2_
              have HH38:=n3_
              have HO336:=n4_
              clear n0_ n1_ n2_ n3_ n4_
              clear ho hb hg hat
              have p33:0≤(x9_2:Int):=of_decide_eq_true (by first|(with_reducible assumption)|assumption)
              have q33:(x9_2:Int) < ((x328001_3.length:Int):Int):=of_decide_eq_true (by first|(with_reducible assumption)|assumption)
              replace p33:=eq_true p33
              replace q33:=eq_true q33
              obtain ⟨Ao42,co42,eo42⟩:=Kd.R_slice HO336.out
              (first|subst eo42|(injection eo42 with f1_ f2_ f3_;have f4_:=f1_.symm;have f5_:=f3_.symm;clear f1_ f2_ f3_;subst f4_;subst f5_))
              obtain ⟨_,_,hraw40,_,_,hcc40,_⟩:=Kd.H_raw HH38.out (of_decide_eq_true (by first|(with_reducible assumption)|assumption)) (by have h_:(x9_2:Int) < ((x328001_3.length:Int):Int):=of_decide_eq_true (by first|(with_reducible assumption)|assumption);first|exact h_|(have e_:=(HN38.out);omega)|simpa using h_)
              obtain ⟨_,hfr40⟩:=Kd.H_at HH38.out (of_decide_eq_true (by first|(with_reducible assumption)|assumption)) (by have h_:(x9_2:Int) < ((x328001_3.length:Int):Int):=of_decide_eq_true (by first|(with_reducible assumption)|assumption);first|exact h_|(have e_:=(HN38.out);omega)|simpa using h_)
              have hx40_0:=hcc40 0 _ rfl
              have hf40_0:=hfr40 0
              (try simp only [Nat.add_zero] at hx40_0 hf40_0)
              (try rw [show (k35).sz=1 from rfl,Nat.mul_one] at hx40_0)
              (try rw [show (k35).sz=1 from rfl,Nat.mul_one] at hf40_0)
              have HP40:=Kd.S_seg0 HH38.out (of_decide_eq_true (by first|(with_reducible assumption)|assumption)) (by have h_:(x9_2:Int) < ((x328001_3.length:Int):Int):=of_decide_eq_true (by first|(with_reducible assumption)|assumption);first|exact h_|(have e_:=(HN38.out);omega)|simpa using h_) (seg:=[.slice Ao42 y334.length co42]) (j:=0) (show 1≤1 from by decide) (x':=(⟨y334⟩:S35)) (k35_mkM _ _ _ (⟨y334⟩:S35) HO336.out) (fun _ hk=>hk)
              (try simp only [show (k35).sz=1 from rfl,Nat.mul_one,Nat.add_zero] at HP40)
              clear hcc40 hfr40
              have HNB323_go38:=Aside0.mk (show gb323 ≠ go38 from by have h_:=Kd.R_ne hraw40 BK323.out (by decide);intro e_;exact h_ (by rw [e_];rfl))
              have HNB327_go38:=Aside0.mk (show gb327 ≠ go38 from by have h_:=Kd.R_ne hraw40 BK327.out (by decide);intro e_;exact h_ (by rw [e_];rfl))
              have HS40:=HP40.1
              rw [← Ny337.out] at HS40
              have HQ40:=Aside0.mk HS40
              obtain ⟨_,hgg40⟩:=Kd.R_typed hraw40 go38 rfl
              have GG40_:=Aside0.mk hgg40
              clear HP40 HS40 hgg40
              refine hK.out _ _ ⟨(blk_cell BK327.out 0).trans rfl,(blk_cell BK327.out 1).trans rfl,HS2_⟩ (fun hHeld=>?_)
              clear hK K
              refine no 69 ?_
              refine pt 12 70 (fl 15 8191) HT_ ?_
              refine pt 13 71 (fl 15 16383) HT_ ?_
              refine last_ (i:=14) (N:=none) (fl 15 32767) rfl rfl (one_of HT_.out (by kernel_rfl)) (by decide) (fun K hK=>?_)
              refine skip_ (w1:=?_) (by rfl) rfl ?_ ?_
              rotate_left
              ·go_simp
               rfl
              refine hK.out _ _ ?_
              clear hK K
              refine done_ (done_of HT_.out (by kernel_rfl)) ?_
              try go_wp2
              go_roundg k3
              case measure=>have:=HJ3.out;have:=HK2.out;have:=HK3.out;omega
              case rel=>exact ⟨(wrap64 (x10_3+1)),(y337),(.slice (some ⟨go38,0,none⟩) x328001_3.length co35),rd_,H',⟨by have:=HJ3.out;have:=HK2.out;have:=HK3.out;omega⟩,⟨by (with_reducible repeat (first|apply Kd.S_alloc|apply Kd.S_drewN|apply Kd.S_drew));exact HQ40.out⟩,⟨by (with_reducible repeat (first|refine blk_drewN ?_ _|refine blk_drew ?_|refine blk_alloc ?_ _));refine blk_far ?_ HNB323_go38.out _;(with_reducible repeat (first|refine blk_drewN ?_ _|refine blk_drew ?_|refine blk_alloc ?_ _));exact BK323.out⟩,⟨by (with_reducible repeat (first|refine blk_drewN ?_ _|refine blk_drew ?_|refine blk_alloc ?_ _));refine blk_far ?_ HNB327_go38.out _;(with_reducible repeat (first|refine blk_drewN ?_ _|refine blk_drew ?_|refine blk_alloc ?_ _));exact BK327.out⟩,⟨be⟩⟩
             ·rw [if_neg c32] at H
              exact absurd H (by simp)
            ·rw [if_neg c30] at H
             exact absurd H (by simp)
           ·rw [if_neg c29] at H
            exact absurd H (by simp)
          ·rw [if_neg c28] at H
           have c28b0:decide (x10_3 < a2)=false:=decide_eq_false c28
           clear c28
           have H':=Aside0.mk H
           clear H
           go_wp2
           go_roundg k3
           case measure=>have:=HJ3.out;have:=HK2.out;have:=HK3.out;omega
           case rel=>exact ⟨(wrap64 (x9_2+1)),(x328001_3),(u328001),rd_,H',⟨by have:=HJ3.out;have:=HK2.out;have:=HK3.out;omega⟩,⟨rS HO_328001⟩,⟨bk BK323⟩,⟨bk BK327⟩,⟨be⟩⟩
       ·rw [if_neg c22] at H
        exact absurd H (by simp)
      ·rw [if_neg c21] at H
       have c21b0:decide (x9_2 < a1)=false:=decide_eq_false c21
       clear c21
       simp only [Option.some.injEq,Prod.mk.injEq] at H
       obtain ⟨rfl,rfl,rfl⟩:=H
       have hnb43:=NB327_323.out
       have hnc43:=NB323_327.out
       have hcz44_0:wr.cell? ⟨gb327,0,none⟩=some (.int .i64 a2):=(blk_cell BK327.out 0).trans rfl
       have hcz44_1:wr.cell? ⟨gb327,1,none⟩=some (u328001):=(blk_cell BK327.out 1).trans rfl
       have hfz44_0:=blk_frozen BK327.out 0
       have hfz44_1:=blk_frozen BK327.out 1
       have hcz45_0:wr.cell? ⟨gb323,0,none⟩=some (.int .i64 0):=(blk_cell BK323.out 0).trans rfl
       have hcz45_1:wr.cell? ⟨gb323,1,none⟩=some (.slice none 0 0):=(blk_cell BK323.out 1).trans rfl
       have hfz45_0:=blk_frozen BK323.out 0
       have hfz45_1:=blk_frozen BK323.out 1
       obtain ⟨Ao46,co46,eo46⟩:=Kd.S_slice HO_328001.out
       subst eo46
       go_wp2
       refine bodyPost_ret (results_ct rfl _ _ gb323 26 #[.int .i64 a2,.slice Ao46 x328001_2.length co46] (0,0) _ rfl (by (with_reducible repeat (first|refine blk_drewN ?_ _|refine blk_drew ?_|refine blk_alloc ?_ _));refine blk_put (cs:=#[.int .i64 a2,.slice none 0 0]) ?_ 1 _ rfl;(with_reducible repeat (first|refine blk_drewN ?_ _|refine blk_drew ?_|refine blk_alloc ?_ _));refine blk_put (cs:=#[.int .i64 0,.slice none 0 0]) ?_ 0 _ rfl;(with_reducible repeat (first|refine blk_drewN ?_ _|refine blk_drew ?_|refine blk_alloc ?_ _));exact BK323.out) Try.underlying26 rfl (by kernel_rfl)) rfl ?_
       exact ⟨_,rz,by (with_reducible repeat (first|apply Kd.S_alloc|apply Kd.S_drewN|apply Kd.S_drew));exact Kd.S_mono (Kd.S_far (p:=⟨gb323,1,none⟩) (Kd.S_far (p:=⟨gb323,0,none⟩) (Kd.S_types HO_328001.out BK323.out (by decide)) (fun _ hk=>hk.2) (.int .i64 a2)) (fun _ hk=>hk.2) (.slice Ao46 x328001_2.length co46)) (fun _ hk=>trivial),be⟩
def impl_SpreadOf.f (k:Nat) (l0_0:List Int) (l1:List (S61)):Option (Int):=(impl_zonesIn.f k l0_0 l1).bind fun t339=>(some (t339.length:Int))
set_option maxHeartbeats 8000000 in
set_option maxRecDepth 100000 in
theorem impl_SpreadOf.calls (k:Nat) (A0_0:Option Addr) (c0_0:Nat) (l0_0:List Int) (A1:Option Addr) (c1:Nat) (l1:List (S61)) (r:Int) (w:World) (hr0_0:Kd.C (Kd.int .i64) w A0_0 l0_0.length l0_0) (hc0_0:l0_0.length≤c0_0) (hr1:Kd.C k61 w A1 l1.length l1) (hc1:l1.length≤c1) (h:impl_SpreadOf.f k l0_0 l1=some r) :
  Calls Try.prog 33 #[.agg #[.slice A0_0 l0_0.length c0_0],.slice A1 l1.length c1] w fun e w'=>e = .returned (.int .i64 r)∧Below w.heap.size w w':=by
 have hu35:=Try.underlying35
 have HR0_0:=Aside0.mk hr0_0
 have HC0_0:=Aside0.mk hc0_0
 clear hr0_0 hc0_0
 have HR1:=Aside0.mk hr1
 have HC1:=Aside0.mk hc1
 clear hr1 hc1
 have HB:=Aside0.mk (Below.refl w.heap.size w)
 have H:((impl_zonesIn.f k l0_0 l1).bind fun t339=>(some (t339.length:Int)))=some r:=h
 clear h
 replace H:=Option.bind_eq_some_iff.mp H
 obtain ⟨t339,A30,H⟩:=H
 try dsimp only at H
 have A3:=Aside0.mk A30
 clear A30
 obtain rfl:=Option.some.inj H
 go_enter Try.func33,Try.ntmps33
 go_wp2_with (first|((with_reducible refine gate_dst (N:=2) rfl ?_);refine box_event ?hg (N:=2) ?hd (cs:=#[.slice A0_0 l0_0.length c0_0]) (t:=35) ?hr ?_;(case hd=>rfl);(case hg=>rfl);(case hr=>first|(go_simp;done)|(go_simp;rfl));intro gb338 hg w4 hbox hb;have n0_:=bs hb;have n1_:=Aside0.mk (hbox);have n2_:=Aside0.mk ((by rw [hg];exact (below_size be):w.heap.size≤gb338));have n3_:=Aside0.mk ((by rw [hg];exact (below_size be):w.heap.size≤gb338));clear HB;have HB:=n0_;have BK338:=n1_;have GW338:=n2_;have GE338:=n3_;clear n0_ n1_ n2_ n3_;clear hb hbox hg;have hcz5_0:w4.cell? ⟨gb338,0,none⟩=some (.slice A0_0 l0_0.length c0_0):=(blk_cell BK338.out 0).trans rfl;have hfz5_0:=blk_frozen BK338.out 0)|((with_reducible refine gate_callee (f:=72) rfl ?_);refine goesL_ (some 8) rfl rfl Try.func72 (by kernel_rfl) rfl #[.slice A0_0 l0_0.length c0_0,.slice A1 l1.length c1] rfl (by (try simp only [List.map_toArray,List.map_cons,List.map_nil]);first|done|rfl|(simp only [List.length_drop,List.length_take];rfl)) ?_;(with_reducible refine (impl_zonesIn.calls k _ _ l0_0 _ _ l1 t339 _ ?side1 ?side2 ?side3 ?side4 A3.out).mono ?_);(case side1=>exact rC HR0_0);(case side2=>exact HC0_0.out);(case side3=>exact rC HR1);(case side4=>exact HC1.out);rintro e w6 ⟨v340,rfl,ho0,hb⟩;refine ⟨_,rfl,?_⟩;have n0_:=Aside0.mk (Kd.R_lower ho0 (below_size be));have n1_:=Aside0.mk (blk_below (g:=gb338) (o:=.cells #[.slice A0_0 l0_0.length c0_0] 35 (0,0)) (bk BK338) hb);have n2_:=bs hb;clear BK338;clear HB;have HO341:=n0_;have BK338:=n1_;have HB:=n2_;clear n0_ n1_ n2_;(try clear hb);(try clear hb2);(try clear hk);(try clear hi);(try clear ho0);obtain ⟨Ao7,co7,eo7⟩:=Kd.R_slice HO341.out;subst eo7))
 go_ret
 exact ⟨rz,be⟩
end Go.Proofs.Ytpbjbfimnfghkaa.PFnRings
