/- Trimmed by a program of this session (trim.py). Not trusted: Lean checks it. -/
import Derived.Test.YtbhllgifciaepaaTXBuildPFnExactBuildx0
import Derived.Test.YtbhllgifciaepaaTXBuildPFnExactBuildx2
import Derived.Test.YtbhllgifciaepaaTXBuildPFnExactBuildx3
import Derived.Test.YtbhllgifciaepaaTXBuildPFnExactBuildx5
namespace Go.Proofs.Ytbhllgifciaepaa.PFnExactBuild
open Go.RowKit Go.Proofs.YtbhllgifciaepaaW.PrintWords Go.Proofs.YtbhllgifciaepaaW.PrintLast Go.Proofs.YtbhllgifciaepaaW.PrintMore
attribute [local go_sem] max2_int min2_int max_two min_two max_three min_three max_four min_four
set_option linter.unusedVariables false
set_option linter.unusedSimpArgs false
mutual
def spec_Build.j0:Nat→List (S76)→Int→Int→Bool→Option (Int × (List (S29)) × Bool)
 | 0,_,_,_,_=>none
 | k+1,x0,x1,x2,x30=>if x30=true then (some (0,([]:List (S29)),false)) else (spec_Build.l0 k x0 x1 x2 0 x2 ([]:List (S29)))
def spec_Build.l0:Nat→List (S76)→Int→Int→Int→Int→List (S29)→Option (Int × (List (S29)) × Bool)
 | 0,_,_,_,_,_,_=>none
 | k+1,x0,x1,x2,x9,x180000,x180001=>if x9 < x1 then (if x180001.length < 5864062014805 then (spec_Build.l1 k x0 x1 x2 x9 0 x180000 (x180001 ++ [(⟨([]:List Int)⟩:S29)])) else (none)) else (some (x180000,x180001,true))
def spec_Build.l1:Nat→List (S76)→Int→Int→Int→Int→Int→List (S29)→Option (Int × (List (S29)) × Bool)
 | 0,_,_,_,_,_,_,_=>none
 | k+1,x0,x1,x2,x9,x10,x180000,x180001=>if x10 < x2 then (if 0≤x9 then (if x9 < (x180001.length:Int) then ((spec_Best.f k x180000 x180001 ((rd_T29 x180001 x9).f0) x0).bind fun t184=>(if ((rd_T29 x180001 x9).f0).length < 17592186044416 then (spec_Build.l1 k x0 x1 x2 x9 (wrap64 (x10+1)) x180000 (x180001.set (x9:Int).toNat (⟨(((rd_T29 x180001 x9).f0) ++ [t184])⟩:S29))) else (none))) else (none)) else (none)) else (spec_Build.l0 k x0 x1 x2 (wrap64 (x9+1)) x180000 x180001)
end
def spec_Build.f (k:Nat) (l0:List (S76)) (a1:Int) (a2:Int):Option (Int × (List (S29)) × Bool):=(spec_DevsOk.f k l0).bind fun t176=>(if t176=true then ((spec_l1In.f a1 1 64).bind fun t177=>(if t177=true then ((spec_l1In.f a2 1 5).bind fun t178=>(if t178=true then (spec_Build.j0 k l0 a1 a2 (decide (a2 > (l0.length:Int)))) else (spec_Build.j0 k l0 a1 a2 true))) else (spec_Build.j0 k l0 a1 a2 true))) else (spec_Build.j0 k l0 a1 a2 true))
def spec_Build.T11:Bool × List (List Nat × List Nat):=(true,[([],[]),([],[]),([1],[1]),([],[]),([2,3],[2,3]),([4],[4]),([],[]),([0,5,6],[0,5,6]),([7,7,0,1,2,3,4,5,6,7],[7])])
def spec_Build.B11:List Nat:=[0,0,2,0,14,30,0,127,255]
theorem spec_Build.tab11:rtab .any (opsOf Try.f60 11)=spec_Build.T11:=by kernel_rfl
theorem spec_Build.bits11:waitsOk spec_Build.T11.2 spec_Build.B11=true:=by kernel_rfl
def spec_Build.T12:Bool × List (List Nat × List Nat):=(true,[([],[]),([0],[0]),([],[]),([],[]),([3],[3]),([],[]),([4,5],[4,5]),([6],[6]),([7],[7]),([],[]),([9],[9]),([8,10],[8,10]),([1,2,0,1,2,3,4,5,6,7,8,9,10,11],[1,2]),([12,0,1,2,3,4,5,6,7,8,9,10,11],[12]),([13,11,11,0,1,2,3,4,5,6,7,8,9,10,11],[11,13])])
def spec_Build.B12:List Nat:=[0,1,0,0,8,0,56,120,248,0,512,2040,4095,8191,16383]
theorem spec_Build.tab12:rtab .any (opsOf Try.f60 12)=spec_Build.T12:=by kernel_rfl
theorem spec_Build.bits12:waitsOk spec_Build.T12.2 spec_Build.B12=true:=by kernel_rfl
set_option maxHeartbeats 8000000 in
set_option maxRecDepth 100000 in
theorem spec_Build.calls (k:Nat) (A0:Option Addr) (c0:Nat) (l0:List (S76)) (a1:Int) (a2:Int) (r1:Int) (r2:List (S29)) (r3:Bool) (w:World) (hr0:Kd.C k76 w A0 l0.length l0) (hc0:l0.length≤c0) (h:spec_Build.f k l0 a1 a2=some (r1,r2,r3)) :
  Calls Try.prog 60 #[.slice A0 l0.length c0,.int .i64 a1,.int .i64 a2] w fun e w'=>∃ v1_:Value,e = .returned (.tuple #[.agg #[.int .i64 r1,v1_],.bool r3])∧Kd.S k29 29 w' w.heap.size (fun _=>True) v1_ r2∧Below w.heap.size w w':=by
 have hu43:=Try.underlying43
 have hu29:=Try.underlying29
 have HR0:=Aside0.mk hr0
 have HC0:=Aside0.mk hc0
 clear hr0 hc0
 have HB:=Aside0.mk (Below.refl w.heap.size w)
 have H:((spec_DevsOk.f k l0).bind fun t176=>(if t176=true then ((spec_l1In.f a1 1 64).bind fun t177=>(if t177=true then ((spec_l1In.f a2 1 5).bind fun t178=>(if t178=true then (spec_Build.j0 k l0 a1 a2 (decide (a2 > (l0.length:Int)))) else (spec_Build.j0 k l0 a1 a2 true))) else (spec_Build.j0 k l0 a1 a2 true))) else (spec_Build.j0 k l0 a1 a2 true)))=some (r1,r2,r3):=h
 clear h
 have HC4:=Aside0.mk H
 clear H
 go_enter Try.func60,Try.ntmps60
 go_upto_region 1 with (first|((with_reducible refine gate_dst (N:=6) rfl ?_);(try (refine gate_guard (by rfl) ?_;dsimp only));refine box_event ?hg (N:=6) ?hd (cs:=#[.int .i64 0,.slice none 0 0]) (t:=43) ?hr ?_;(case hd=>rfl);(case hg=>rfl);(case hr=>first|(go_simp;done)|(go_simp;rfl));intro gb175 hg w5 hbox hb;have n0_:=Aside0.mk (below_step (by repeat (first|(with_reducible first|exact HB.out|apply below_alloc|apply pw_below_drewN|apply below_drew1)|exact HB.out)) hb);have n1_:=Aside0.mk (hbox);have n2_:=Aside0.mk ((by rw [hg];exact (below_size (by repeat (first|(with_reducible first|exact HB.out|apply below_alloc|apply pw_below_drewN|apply below_drew1)|exact HB.out))):w.heap.size≤gb175));have n3_:=Aside0.mk ((by rw [hg];exact (below_size (by repeat (first|(with_reducible first|exact HB.out|apply below_alloc|apply pw_below_drewN|apply below_drew1)|exact HB.out))):w.heap.size≤gb175));clear HB;have HB:=n0_;have BK175:=n1_;have GW175:=n2_;have GE175:=n3_;clear n0_ n1_ n2_ n3_;clear hb hbox hg))
 (try simp only [Act.put,List.setIfInBounds_toArray,List.set_cons_zero,List.set_cons_succ])
 go_cut [30] (fun v30 wc=>∃ (kq:Nat) (x30_3:Bool),v30 = .bool x30_3∧Aside0 (spec_Build.j0 kq l0 a1 a2 x30_3=some (r1,r2,r3))∧Aside0 (kq≤k)∧Aside0 (wc.heap[gb175]?=some (.cells #[.int .i64 0,(.slice none 0 0)] 43 (0,0)))∧Aside0 (Below w.heap.size w wc))
 case first=>
  have H:=HC4.out
  clear HC4
  replace H:=Option.bind_eq_some_iff.mp H
  obtain ⟨t176,A60,H⟩:=H
  replace H:(if t176=true then ((spec_l1In.f a1 1 64).bind fun t177=>(if t177=true then ((spec_l1In.f a2 1 5).bind fun t178=>(if t178=true then (spec_Build.j0 k l0 a1 a2 (decide (a2 > (l0.length:Int)))) else (spec_Build.j0 k l0 a1 a2 true))) else (spec_Build.j0 k l0 a1 a2 true))) else (spec_Build.j0 k l0 a1 a2 true))=some (r1,r2,r3):=H
  have A6:=Aside0.mk A60
  clear A60
  by_cases c7:t176=true
  ·subst c7
   have H1:((spec_l1In.f a1 1 64).bind fun t177=>(if t177=true then ((spec_l1In.f a2 1 5).bind fun t178=>(if t178=true then (spec_Build.j0 k l0 a1 a2 (decide (a2 > (l0.length:Int)))) else (spec_Build.j0 k l0 a1 a2 true))) else (spec_Build.j0 k l0 a1 a2 true)))=some (r1,r2,r3):=by rw [if_pos rfl] at H;exact H
   clear H
   have H:=H1
   clear H1
   replace H:=Option.bind_eq_some_iff.mp H
   obtain ⟨t177,A80,H⟩:=H
   replace H:(if t177=true then ((spec_l1In.f a2 1 5).bind fun t178=>(if t178=true then (spec_Build.j0 k l0 a1 a2 (decide (a2 > (l0.length:Int)))) else (spec_Build.j0 k l0 a1 a2 true))) else (spec_Build.j0 k l0 a1 a2 true))=some (r1,r2,r3):=H
   have A8:=Aside0.mk A80
   clear A80
   by_cases c9:t177=true
   ·subst c9
    have H1:((spec_l1In.f a2 1 5).bind fun t178=>(if t178=true then (spec_Build.j0 k l0 a1 a2 (decide (a2 > (l0.length:Int)))) else (spec_Build.j0 k l0 a1 a2 true)))=some (r1,r2,r3):=by rw [if_pos rfl] at H;exact H
    clear H
    have H:=H1
    clear H1
    replace H:=Option.bind_eq_some_iff.mp H
    obtain ⟨t178,A100,H⟩:=H
    replace H:(if t178=true then (spec_Build.j0 k l0 a1 a2 (decide (a2 > (l0.length:Int)))) else (spec_Build.j0 k l0 a1 a2 true))=some (r1,r2,r3):=H
    have A10:=Aside0.mk A100
    clear A100
    by_cases c11:t178=true
    ·subst c11
     have H1:(spec_Build.j0 k l0 a1 a2 (decide (a2 > (l0.length:Int))))=some (r1,r2,r3):=by rw [if_pos rfl] at H;exact H
     clear H
     have H:=H1
     clear H1
     have H':=Aside0.mk H
     clear H
     go_wp2_with (first|((with_reducible refine gate_callee (f:=49) rfl ?_);refine goesL_ (some 13) rfl rfl Try.func49 (by kernel_rfl) rfl #[.slice A0 l0.length c0] rfl (by (try simp only [List.map_toArray,List.map_cons,List.map_nil]);first|done|rfl|(simp only [List.length_drop,List.length_take];rfl)) ?_;(with_reducible refine (spec_DevsOk.calls k _ _ l0 true _ ?side1 ?side2 A6.out).mono ?_);(case side1=>repeat (first|exact (Kd.C_below HR0.out HB.out)|(with_reducible refine Kd.C_alloc ?_ _)|(with_reducible refine Kd.C_drewN ?_ _)|(with_reducible refine Kd.C_drew ?_)));(case side2=>exact HC0.out);rintro e w12 ⟨rfl,hb⟩;refine ⟨_,rfl,?_⟩;have n0_:=Aside0.mk (blk_below (g:=gb175) (o:=.cells #[.int .i64 0,.slice none 0 0] 43 (0,0)) (by (with_reducible repeat (first|refine blk_drewN ?_ _|refine blk_drew ?_|refine blk_alloc ?_ _));exact BK175.out) hb);have n1_:=Aside0.mk (below_step (by repeat (first|(with_reducible first|exact HB.out|apply below_alloc|apply pw_below_drewN|apply below_drew1|refine below_set ?_ GE175.out)|exact HB.out)) hb);clear BK175;clear HB;have BK175:=n0_;have HB:=n1_;clear n0_ n1_;(try clear hb);(try clear hb2);(try clear hk);(try clear hi))|(go_at_call 97;(with_reducible refine (spec_l1In.calls a1 1 64 true _ A8.out).mono ?_);rintro e w' ⟨rfl,⟨nd,rfl⟩⟩)|(go_at_call 97;(with_reducible refine (spec_l1In.calls a2 1 5 true _ A10.out).mono ?_);rintro e w' ⟨rfl,⟨nd,rfl⟩⟩))
     go_meet
     case rel=>exact ⟨_,(decide (a2 > (l0.length:Int))),(by first|rfl|(simp;done)|(simp [*];done)),H',⟨by first|omega|exact Nat.le_refl _⟩,⟨by (with_reducible repeat (first|refine blk_drewN ?_ _|refine blk_drew ?_|refine blk_alloc ?_ _));exact BK175.out⟩,⟨by repeat (first|(with_reducible first|exact HB.out|apply below_alloc|apply pw_below_drewN|apply below_drew1|refine below_set ?_ GE175.out)|exact HB.out)⟩⟩
    ·replace c11:=Bool.eq_false_iff.mpr c11
     subst c11
     have H1:(spec_Build.j0 k l0 a1 a2 true)=some (r1,r2,r3):=by rw [if_neg (show ¬ (false=true) by decide)] at H;exact H
     clear H
     have H:=H1
     clear H1
     have H':=Aside0.mk H
     clear H
     go_wp2_with (first|((with_reducible refine gate_callee (f:=49) rfl ?_);refine goesL_ (some 13) rfl rfl Try.func49 (by kernel_rfl) rfl #[.slice A0 l0.length c0] rfl (by (try simp only [List.map_toArray,List.map_cons,List.map_nil]);first|done|rfl|(simp only [List.length_drop,List.length_take];rfl)) ?_;(with_reducible refine (spec_DevsOk.calls k _ _ l0 true _ ?side1 ?side2 A6.out).mono ?_);(case side1=>repeat (first|exact (Kd.C_below HR0.out HB.out)|(with_reducible refine Kd.C_alloc ?_ _)|(with_reducible refine Kd.C_drewN ?_ _)|(with_reducible refine Kd.C_drew ?_)));(case side2=>exact HC0.out);rintro e w13 ⟨rfl,hb⟩;refine ⟨_,rfl,?_⟩;have n0_:=Aside0.mk (blk_below (g:=gb175) (o:=.cells #[.int .i64 0,.slice none 0 0] 43 (0,0)) (by (with_reducible repeat (first|refine blk_drewN ?_ _|refine blk_drew ?_|refine blk_alloc ?_ _));exact BK175.out) hb);have n1_:=Aside0.mk (below_step (by repeat (first|(with_reducible first|exact HB.out|apply below_alloc|apply pw_below_drewN|apply below_drew1|refine below_set ?_ GE175.out)|exact HB.out)) hb);clear BK175;clear HB;have BK175:=n0_;have HB:=n1_;clear n0_ n1_;(try clear hb);(try clear hb2);(try clear hk);(try clear hi))|(go_at_call 97;(with_reducible refine (spec_l1In.calls a1 1 64 true _ A8.out).mono ?_);rintro e w' ⟨rfl,⟨nd,rfl⟩⟩)|(go_at_call 97;(with_reducible refine (spec_l1In.calls a2 1 5 false _ A10.out).mono ?_);rintro e w' ⟨rfl,⟨nd,rfl⟩⟩))
     go_meet
     case rel=>exact ⟨_,(true),(by first|rfl|(simp;done)|(simp [*];done)),H',⟨by first|omega|exact Nat.le_refl _⟩,⟨by (with_reducible repeat (first|refine blk_drewN ?_ _|refine blk_drew ?_|refine blk_alloc ?_ _));exact BK175.out⟩,⟨by repeat (first|(with_reducible first|exact HB.out|apply below_alloc|apply pw_below_drewN|apply below_drew1|refine below_set ?_ GE175.out)|exact HB.out)⟩⟩
   ·replace c9:=Bool.eq_false_iff.mpr c9
    subst c9
    have H1:(spec_Build.j0 k l0 a1 a2 true)=some (r1,r2,r3):=by rw [if_neg (show ¬ (false=true) by decide)] at H;exact H
    clear H
    have H:=H1
    clear H1
    have H':=Aside0.mk H
    clear H
    go_wp2_with (first|((with_reducible refine gate_callee (f:=49) rfl ?_);refine goesL_ (some 13) rfl rfl Try.func49 (by kernel_rfl) rfl #[.slice A0 l0.length c0] rfl (by (try simp only [List.map_toArray,List.map_cons,List.map_nil]);first|done|rfl|(simp only [List.length_drop,List.length_take];rfl)) ?_;(with_reducible refine (spec_DevsOk.calls k _ _ l0 true _ ?side1 ?side2 A6.out).mono ?_);(case side1=>repeat (first|exact (Kd.C_below HR0.out HB.out)|(with_reducible refine Kd.C_alloc ?_ _)|(with_reducible refine Kd.C_drewN ?_ _)|(with_reducible refine Kd.C_drew ?_)));(case side2=>exact HC0.out);rintro e w14 ⟨rfl,hb⟩;refine ⟨_,rfl,?_⟩;have n0_:=Aside0.mk (blk_below (g:=gb175) (o:=.cells #[.int .i64 0,.slice none 0 0] 43 (0,0)) (by (with_reducible repeat (first|refine blk_drewN ?_ _|refine blk_drew ?_|refine blk_alloc ?_ _));exact BK175.out) hb);have n1_:=Aside0.mk (below_step (by repeat (first|(with_reducible first|exact HB.out|apply below_alloc|apply pw_below_drewN|apply below_drew1|refine below_set ?_ GE175.out)|exact HB.out)) hb);clear BK175;clear HB;have BK175:=n0_;have HB:=n1_;clear n0_ n1_;(try clear hb);(try clear hb2);(try clear hk);(try clear hi))|(go_at_call 97;(with_reducible refine (spec_l1In.calls a1 1 64 false _ A8.out).mono ?_);rintro e w' ⟨rfl,⟨nd,rfl⟩⟩))
    go_meet
    case rel=>exact ⟨_,(true),(by first|rfl|(simp;done)|(simp [*];done)),H',⟨by first|omega|exact Nat.le_refl _⟩,⟨by (with_reducible repeat (first|refine blk_drewN ?_ _|refine blk_drew ?_|refine blk_alloc ?_ _));exact BK175.out⟩,⟨by repeat (first|(with_reducible first|exact HB.out|apply below_alloc|apply pw_below_drewN|apply below_drew1|refine below_set ?_ GE175.out)|exact HB.out)⟩⟩
  ·replace c7:=Bool.eq_false_iff.mpr c7
   subst c7
   have H1:(spec_Build.j0 k l0 a1 a2 true)=some (r1,r2,r3):=by rw [if_neg (show ¬ (false=true) by decide)] at H;exact H
   clear H
   have H:=H1
   clear H1
   have H':=Aside0.mk H
   clear H
   go_wp2_with (first|((with_reducible refine gate_callee (f:=49) rfl ?_);refine goesL_ (some 13) rfl rfl Try.func49 (by kernel_rfl) rfl #[.slice A0 l0.length c0] rfl (by (try simp only [List.map_toArray,List.map_cons,List.map_nil]);first|done|rfl|(simp only [List.length_drop,List.length_take];rfl)) ?_;(with_reducible refine (spec_DevsOk.calls k _ _ l0 false _ ?side1 ?side2 A6.out).mono ?_);(case side1=>repeat (first|exact (Kd.C_below HR0.out HB.out)|(with_reducible refine Kd.C_alloc ?_ _)|(with_reducible refine Kd.C_drewN ?_ _)|(with_reducible refine Kd.C_drew ?_)));(case side2=>exact HC0.out);rintro e w15 ⟨rfl,hb⟩;refine ⟨_,rfl,?_⟩;have n0_:=Aside0.mk (blk_below (g:=gb175) (o:=.cells #[.int .i64 0,.slice none 0 0] 43 (0,0)) (by (with_reducible repeat (first|refine blk_drewN ?_ _|refine blk_drew ?_|refine blk_alloc ?_ _));exact BK175.out) hb);have n1_:=Aside0.mk (below_step (by repeat (first|(with_reducible first|exact HB.out|apply below_alloc|apply pw_below_drewN|apply below_drew1|refine below_set ?_ GE175.out)|exact HB.out)) hb);clear BK175;clear HB;have BK175:=n0_;have HB:=n1_;clear n0_ n1_;(try clear hb);(try clear hb2);(try clear hk);(try clear hi)))
   go_meet
   case rel=>exact ⟨_,(true),(by first|rfl|(simp;done)|(simp [*];done)),H',⟨by first|omega|exact Nat.le_refl _⟩,⟨by (with_reducible repeat (first|refine blk_drewN ?_ _|refine blk_drew ?_|refine blk_alloc ?_ _));exact BK175.out⟩,⟨by repeat (first|(with_reducible first|exact HB.out|apply below_alloc|apply pw_below_drewN|apply below_drew1|refine below_set ?_ GE175.out)|exact HB.out)⟩⟩
 case rest=>
  clear HC4
  try clear c1
  try clear p2
  try clear c4
  try clear c6
  try clear c7
  try clear c9
  try clear c11
  obtain ⟨kq,x30_3,rfl,HA,HJ3,BK175,HB⟩:=hcut
  cases kq with
  | zero=>exact absurd HA.out (by simp [spec_Build.j0])
  | succ kj3=>
   have H:=HA.out
   clear HA
   simp only [spec_Build.j0] at H
   by_cases c16:x30_3=true
   ·subst c16
    have H1:(some (0,([]:List (S29)),false))=some (r1,r2,r3):=by rw [if_pos rfl] at H;exact H
    clear H
    have H:=H1
    clear H1
    simp only [Option.some.injEq,Prod.mk.injEq] at H
    obtain ⟨rfl,rfl,rfl⟩:=H
    have hcz17_0:wc.cell? ⟨gb175,0,none⟩=some (.int .i64 0):=(blk_cell BK175.out 0).trans rfl
    have hcz17_1:wc.cell? ⟨gb175,1,none⟩=some (.slice none 0 0):=(blk_cell BK175.out 1).trans rfl
    have hfz17_0:=blk_frozen BK175.out 0
    have hfz17_1:=blk_frozen BK175.out 1
    go_wp2
    refine bodyPost_ret (results_ct rfl _ _ gb175 43 #[.int .i64 0,.slice none 0 0] (0,0) _ rfl (by (with_reducible repeat (first|refine blk_drewN ?_ _|refine blk_drew ?_|refine blk_alloc ?_ _));refine blk_put (cs:=#[.int .i64 0,.slice none 0 0]) ?_ 1 _ rfl;(with_reducible repeat (first|refine blk_drewN ?_ _|refine blk_drew ?_|refine blk_alloc ?_ _));refine blk_put (cs:=#[.int .i64 0,.slice none 0 0]) ?_ 0 _ rfl;(with_reducible repeat (first|refine blk_drewN ?_ _|refine blk_drew ?_|refine blk_alloc ?_ _));exact BK175.out) Try.underlying43 rfl (by kernel_rfl)) rfl ?_
    exact ⟨_,by first|rfl|(simp [errW_none,errW_some] <;> rfl)|(simp [*,errW_none,errW_some] <;> rfl),by first|exact Kd.S_nil _ _ _ _ _|exact Kd.N_nil _ _ _ _ _|exact Kd.V_nil _ _ _ _ _|exact Kd.Q_nil _ _ _ _ _|exact Kd.R_nil _ _ _ _ _,by repeat (first|(with_reducible first|exact HB.out|apply below_alloc|apply pw_below_drewN|apply below_drew1|refine below_set ?_ GE175.out)|exact HB.out)⟩
   ·replace c16:=Bool.eq_false_iff.mpr c16
    subst c16
    have H1:(spec_Build.l0 kj3 l0 a1 a2 0 a2 ([]:List (S29)))=some (r1,r2,r3):=by rw [if_neg (show ¬ (false=true) by decide)] at H;exact H
    clear H
    have H:=H1
    clear H1
    have H':=Aside0.mk H
    clear H
    go_wp2_with (first|((with_reducible refine gate_dst (N:=8) rfl ?_);(try (refine gate_guard (by rfl) ?_;dsimp only));refine box_event ?hg (N:=8) ?hd (cs:=#[.int .i64 0,.slice none 0 0]) (t:=43) ?hr ?_;(case hd=>rfl);(case hg=>rfl);(case hr=>first|(go_simp;done)|(go_simp;rfl));intro gb179 hg w18 hbox hb;have n0_:=Aside0.mk (blk_below (g:=gb175) (o:=.cells #[.int .i64 0,.slice none 0 0] 43 (0,0)) (by (with_reducible repeat (first|refine blk_drewN ?_ _|refine blk_drew ?_|refine blk_alloc ?_ _));exact BK175.out) hb);have n1_:=Aside0.mk (below_step (by repeat (first|(with_reducible first|exact HB.out|apply below_alloc|apply pw_below_drewN|apply below_drew1|refine below_set ?_ GE175.out)|exact HB.out)) hb);have n2_:=Aside0.mk (hbox);have n3_:=Aside0.mk ((by rw [hg];exact (below_size (by repeat (first|(with_reducible first|exact HB.out|apply below_alloc|apply pw_below_drewN|apply below_drew1|refine below_set ?_ GE175.out)|exact HB.out))):w.heap.size≤gb179));have n4_:=Aside0.mk ((by rw [hg];exact (below_size (by repeat (first|(with_reducible first|exact HB.out|apply below_alloc|apply pw_below_drewN|apply below_drew1|refine below_set ?_ GE175.out)|exact HB.out))):w.heap.size≤gb179));have n5_:=Aside0.mk ((by rw [hg];exact Nat.ne_of_lt (blk_lt (g:=gb175) (o:=.cells #[.int .i64 0,.slice none 0 0] 43 (0,0)) (by (with_reducible repeat (first|refine blk_drewN ?_ _|refine blk_drew ?_|refine blk_alloc ?_ _));exact BK175.out)):gb175 ≠ gb179));have n6_:=Aside0.mk ((by rw [hg];exact Nat.ne_of_gt (blk_lt (g:=gb175) (o:=.cells #[.int .i64 0,.slice none 0 0] 43 (0,0)) (by (with_reducible repeat (first|refine blk_drewN ?_ _|refine blk_drew ?_|refine blk_alloc ?_ _));exact BK175.out)):gb179 ≠ gb175));clear BK175;clear HB;have BK175:=n0_;have HB:=n1_;have BK179:=n2_;have GW179:=n3_;have GE179:=n4_;have NB175_179:=n5_;have NB179_175:=n6_;clear n0_ n1_ n2_ n3_ n4_ n5_ n6_;clear hb hbox hg;have hnb19:=NB179_175.out;have hnc19:=NB175_179.out;have hcz20_0:w18.cell? ⟨gb179,0,none⟩=some (.int .i64 0):=(blk_cell BK179.out 0).trans rfl;have hcz20_1:w18.cell? ⟨gb179,1,none⟩=some (.slice none 0 0):=(blk_cell BK179.out 1).trans rfl;have hfz20_0:=blk_frozen BK179.out 0;have hfz20_1:=blk_frozen BK179.out 1))
    go_loopg [9] kj3 (fun kq v9 w'=>∃ (x9_2:Int) (x180001_2:List (S29)) (u180001:Value),v9 = .int .i64 x9_2∧Aside0 (spec_Build.l0 kq l0 a1 a2 x9_2 a2 x180001_2=some (r1,r2,r3))∧Aside0 (kq≤kj3)∧Aside0 (Kd.S k29 29 w' w.heap.size (fun _=>True) u180001 x180001_2)∧Aside0 (w'.heap[gb175]?=some (.cells #[.int .i64 0,(.slice none 0 0)] 43 (0,0)))∧Aside0 (w'.heap[gb179]?=some (.cells #[.int .i64 a2,u180001] 43 (0,0)))∧Aside0 (Below w.heap.size w w'))
    case atStart=>exact ⟨(0),(([]:List (S29))),(.slice none 0 0),(by first|rfl|(simp;done)|(simp [*];done)),H',⟨Nat.le_refl _⟩,⟨by first|exact Kd.S_nil _ _ _ _ _|exact Kd.N_nil _ _ _ _ _|exact Kd.V_nil _ _ _ _ _|exact Kd.Q_nil _ _ _ _ _|exact Kd.R_nil _ _ _ _ _⟩,⟨by (with_reducible repeat (first|refine blk_drewN ?_ _|refine blk_drew ?_|refine blk_alloc ?_ _));refine blk_far ?_ NB175_179.out _;(with_reducible repeat (first|refine blk_drewN ?_ _|refine blk_drew ?_|refine blk_alloc ?_ _));refine blk_far ?_ NB175_179.out _;(with_reducible repeat (first|refine blk_drewN ?_ _|refine blk_drew ?_|refine blk_alloc ?_ _));exact BK175.out⟩,⟨by (with_reducible repeat (first|refine blk_drewN ?_ _|refine blk_drew ?_|refine blk_alloc ?_ _));refine blk_put (cs:=#[.int .i64 a2,.slice none 0 0]) ?_ 1 _ rfl;(with_reducible repeat (first|refine blk_drewN ?_ _|refine blk_drew ?_|refine blk_alloc ?_ _));refine blk_put (cs:=#[.int .i64 0,.slice none 0 0]) ?_ 0 _ rfl;(with_reducible repeat (first|refine blk_drewN ?_ _|refine blk_drew ?_|refine blk_alloc ?_ _));exact BK179.out⟩,⟨by repeat (first|(with_reducible first|exact HB.out|apply below_alloc|apply pw_below_drewN|apply below_drew1|refine below_set ?_ GE175.out|refine below_set ?_ GE179.out)|exact HB.out)⟩⟩
    case round=>
     clear H'
     try clear c1
     try clear p2
     try clear c4
     try clear c6
     try clear c7
     try clear c9
     try clear c11
     try clear c16
     try clear c19
     try clear hcz17_0
     try clear hcz17_1
     try clear hcz20_0
     try clear hcz20_1
     try clear hfz17_0
     try clear hfz17_1
     try clear hfz20_0
     try clear hfz20_1
     try clear p2
     obtain ⟨x9_2,x180001_2,u180001,rfl,HA,HK2,HO_180001,BK175,BK179,HB⟩:=hrel
     cases gk with
     | zero=>exact absurd HA.out (by simp [spec_Build.l0])
     | succ k2=>
      have H:=HA.out
      clear HA
      simp only [spec_Build.l0] at H
      by_cases c21:x9_2 < a1
      ·rw [if_pos c21] at H
       have c21b0:decide (x9_2 < a1)=true:=decide_eq_true c21
       clear c21
       by_cases c22:x180001_2.length < 5864062014805
       ·rw [if_pos c22] at H
        have LMc22:=Aside0.mk c22
        clear c22
        obtain ⟨y180,hy180⟩ : ∃ y_:List (S29),y_=(x180001_2 ++ [(⟨([]:List Int)⟩:S29)]):=⟨_,rfl⟩
        replace H:(spec_Build.l1 k2 l0 a1 a2 x9_2 0 a2 y180)=some (r1,r2,r3):=by first|(rw [hy180];with_reducible exact H)|(have H2_:=(Option.bind_some _ _).symm.trans H;rw [hy180];with_reducible exact H2_)|(have H2_:=(Option.bind_some _ _).symm.trans H;with_reducible exact H2_)|with_reducible exact H|(rw [hy180];exact H)|exact H
        have Ny180:=Aside0.mk hy180
        clear hy180
        have H':=Aside0.mk H
        clear H
        have hnb23:=NB179_175.out
        have hnc23:=NB175_179.out
        have hcz24_0:wr.cell? ⟨gb179,0,none⟩=some (.int .i64 a2):=(blk_cell BK179.out 0).trans rfl
        have hcz24_1:wr.cell? ⟨gb179,1,none⟩=some (u180001):=(blk_cell BK179.out 1).trans rfl
        have hfz24_0:=blk_frozen BK179.out 0
        have hfz24_1:=blk_frozen BK179.out 1
        go_wp2_with (first|((with_reducible refine gate_builtin (b:=.append) (xs:=#[.tmp 40,.tmp 42]) rfl ?_);(try (refine gate_guard (by rfl) ?_;dsimp only));at_builtin;refine Kd.S_append k29 (w0:=w) w.heap.size rfl (.tmp 40) (.tmp 42) 41 29 (.agg #[(.slice none 0 0)]) 24 rfl Try.underlying41 info29 rfl (by decide) (by omega) u180001 x180001_2 (⟨([]:List Int)⟩:S29) [.slice none 0 0] (fun _=>True) (fun _=>False) rfl rfl ?aP (fun k_ hk_=>hk_.elim) ?aF ?aO ?aB ?aS ?aL ?_;(case aP=>exact k29_mkM _ _ _ (⟨([]:List Int)⟩:S29) (Kd.R_nil _ _ _ _ _));(case aB=>exact (by repeat (first|(with_reducible first|exact HB.out|apply below_alloc|apply pw_below_drewN|apply below_drew1|refine below_set ?_ GE175.out|refine below_set ?_ GE179.out)|exact HB.out)));(case aF=>exact (fun _ _=>trivial));(case aO=>exact (by (with_reducible repeat (first|apply Kd.S_alloc|apply Kd.S_drewN|apply Kd.S_drew));exact Kd.S_mono HO_180001.out (fun k_ hk=>⟨trivial,fun e_=>e_⟩)));(case aS=>exact (below_size (by repeat (first|(with_reducible first|exact HB.out|apply below_alloc|apply pw_below_drewN|apply below_drew1|refine below_set ?_ GE175.out|refine below_set ?_ GE179.out)|exact HB.out))));(case aL=>have:=LMc22.out;omega);intro v181 w25 ho hb hg hat;rw [← Ny180.out] at ho;have n0_:=Aside0.mk (blk_grown (g:=gb175) (o:=.cells #[.int .i64 0,.slice none 0 0] 43 (0,0)) (by (with_reducible repeat (first|refine blk_drewN ?_ _|refine blk_drew ?_|refine blk_alloc ?_ _));exact BK175.out) hg (Kd.S_ne HO_180001.out BK175.out (by decide)));have n1_:=Aside0.mk (blk_grown (g:=gb179) (o:=.cells #[.int .i64 a2,u180001] 43 (0,0)) (by (with_reducible repeat (first|refine blk_drewN ?_ _|refine blk_drew ?_|refine blk_alloc ?_ _));exact BK179.out) hg (Kd.S_ne HO_180001.out BK179.out (by decide)));have n2_:=Aside0.mk (hb);have n3_:=Aside0.mk (ho);clear BK175;clear BK179;clear HB;clear HO_180001;have BK175:=n0_;have BK179:=n1_;have HB:=n2_;have HO182:=n3_;clear n0_ n1_ n2_ n3_;clear ho hb hg hat;obtain ⟨Ao26,co26,eo26⟩:=Kd.S_slice HO182.out;subst eo26;have hcz27_0:w25.cell? ⟨gb179,0,none⟩=some (.int .i64 a2):=(blk_cell BK179.out 0).trans rfl;have hcz27_1:w25.cell? ⟨gb179,1,none⟩=some (u180001):=(blk_cell BK179.out 1).trans rfl;have hfz27_0:=blk_frozen BK179.out 0;have hfz27_1:=blk_frozen BK179.out 1))
        go_loopg [10] k2 (fun kq v10 w'=>∃ (x10_3:Int) (x180001_3:List (S29)) (u180001:Value),v10 = .int .i64 x10_3∧Aside0 (spec_Build.l1 kq l0 a1 a2 x9_2 x10_3 a2 x180001_3=some (r1,r2,r3))∧Aside0 (kq≤k2)∧Aside0 (Kd.S k29 29 w' w.heap.size (fun _=>True) u180001 x180001_3)∧Aside0 (w'.heap[gb175]?=some (.cells #[.int .i64 0,(.slice none 0 0)] 43 (0,0)))∧Aside0 (w'.heap[gb179]?=some (.cells #[.int .i64 a2,u180001] 43 (0,0)))∧Aside0 (Below w.heap.size w w'))
        case atStart=>exact ⟨(0),(y180),(.slice Ao26 y180.length co26),(by first|rfl|(simp;done)|(simp [*];done)),H',⟨Nat.le_refl _⟩,⟨by (with_reducible repeat (first|apply Kd.S_alloc|apply Kd.S_drewN|apply Kd.S_drew));exact Kd.S_mono (Kd.S_far (p:=⟨gb179,1,none⟩) (Kd.S_types HO182.out BK179.out (by decide)) (fun _ hk=>hk.2) (.slice Ao26 y180.length co26)) (fun _ hk=>trivial)⟩,⟨by (with_reducible repeat (first|refine blk_drewN ?_ _|refine blk_drew ?_|refine blk_alloc ?_ _));refine blk_far ?_ NB175_179.out _;(with_reducible repeat (first|refine blk_drewN ?_ _|refine blk_drew ?_|refine blk_alloc ?_ _));exact BK175.out⟩,⟨by (with_reducible repeat (first|refine blk_drewN ?_ _|refine blk_drew ?_|refine blk_alloc ?_ _));refine blk_put (cs:=#[.int .i64 a2,u180001]) ?_ 1 _ rfl;(with_reducible repeat (first|refine blk_drewN ?_ _|refine blk_drew ?_|refine blk_alloc ?_ _));exact BK179.out⟩,⟨by repeat (first|(with_reducible first|exact HB.out|apply below_alloc|apply pw_below_drewN|apply below_drew1|refine below_set ?_ GE175.out|refine below_set ?_ GE179.out)|exact HB.out)⟩⟩
        case round=>
         clear H'
         try clear c1
         try clear c2
         try clear p2
         try clear c4
         try clear c6
         try clear c7
         try clear c9
         try clear c11
         try clear c16
         try clear c19
         try clear c21
         try clear c21b0
         try clear c22
         try clear c23
         try clear hcz17_0
         try clear hcz17_1
         try clear hcz20_0
         try clear hcz20_1
         try clear hcz24_0
         try clear hcz24_1
         try clear hcz27_0
         try clear hcz27_1
         try clear hfz17_0
         try clear hfz17_1
         try clear hfz20_0
         try clear hfz20_1
         try clear hfz24_0
         try clear hfz24_1
         try clear hfz27_0
         try clear hfz27_1
         try clear p2
         obtain ⟨x10_3,x180001_3,u180001,rfl,HA,HK3,HO_180001,BK175,BK179,HB⟩:=hrel
         cases gk with
         | zero=>exact absurd HA.out (by simp [spec_Build.l1])
         | succ k3=>
          have H:=HA.out
          clear HA
          simp only [spec_Build.l1] at H
          by_cases c28:x10_3 < a2
          ·rw [if_pos c28] at H
           have c28b0:decide (x10_3 < a2)=true:=decide_eq_true c28
           clear c28
           by_cases c29:0≤x9_2
           ·rw [if_pos c29] at H
            have c29b0:decide (0≤x9_2)=true:=decide_eq_true c29
            clear c29
            by_cases c30:x9_2 < (x180001_3.length:Int)
            ·rw [if_pos c30] at H
             have c30b0:decide (x9_2 < (x180001_3.length:Int))=true:=decide_eq_true c30
             clear c30
             replace H:=Option.bind_eq_some_iff.mp H
             obtain ⟨t184,A310,H⟩:=H
             replace H:(if ((rd_T29 x180001_3 x9_2).f0).length < 17592186044416 then (spec_Build.l1 k3 l0 a1 a2 x9_2 (wrap64 (x10_3+1)) a2 (x180001_3.set (x9_2:Int).toNat (⟨(((rd_T29 x180001_3 x9_2).f0) ++ [t184])⟩:S29))) else (none))=some (r1,r2,r3):=H
             have A31:=Aside0.mk A310
             clear A310
             by_cases c32:((rd_T29 x180001_3 x9_2).f0).length < 17592186044416
             ·rw [if_pos c32] at H
              have LMc32:=Aside0.mk c32
              clear c32
              obtain ⟨y186,hy186⟩ : ∃ y_:List Int,y_=(((rd_T29 x180001_3 x9_2).f0) ++ [t184]):=⟨_,rfl⟩
              replace H:(spec_Build.l1 k3 l0 a1 a2 x9_2 (wrap64 (x10_3+1)) a2 (x180001_3.set (x9_2:Int).toNat (⟨y186⟩:S29)))=some (r1,r2,r3):=by first|(rw [hy186];with_reducible exact H)|(have H2_:=(Option.bind_some _ _).symm.trans H;rw [hy186];with_reducible exact H2_)|(have H2_:=(Option.bind_some _ _).symm.trans H;with_reducible exact H2_)|with_reducible exact H|(rw [hy186];exact H)|exact H
              have Ny186:=Aside0.mk hy186
              clear hy186
              obtain ⟨y189,hy189⟩ : ∃ y_:List (S29),y_=(x180001_3.set (x9_2:Int).toNat (⟨y186⟩:S29)):=⟨_,rfl⟩
              replace H:(spec_Build.l1 k3 l0 a1 a2 x9_2 (wrap64 (x10_3+1)) a2 y189)=some (r1,r2,r3):=by first|(rw [hy189];with_reducible exact H)|(have H2_:=(Option.bind_some _ _).symm.trans H;rw [hy189];with_reducible exact H2_)|(have H2_:=(Option.bind_some _ _).symm.trans H;with_reducible exact H2_)|with_reducible exact H|(rw [hy189];exact H)|exact H
              have Ny189:=Aside0.mk hy189
              clear hy189
              have H':=Aside0.mk H
              clear H
              try go_wp2
              have n0_:=Aside0.mk (Kd.S_drew HO_180001.out)
              have n1_:=Aside0.mk (blk_drew BK175.out)
              have n2_:=Aside0.mk (blk_drew BK179.out)
              have n3_:=Aside0.mk (below_drew1 HB.out)
              clear HO_180001
              clear BK175
              clear BK179
              clear HB
              have HO_180001:=n0_
              have BK175:=n1_
              have BK179:=n2_
              have HB:=n3_
              clear n0_ n1_ n2_ n3_
              obtain ⟨Ao35,co35,eo35⟩:=Kd.S_slice HO_180001.out
              (first|subst eo35|(injection eo35 with f1_ f2_ f3_;have f4_:=f1_.symm;have f5_:=f3_.symm;clear f1_ f2_ f3_;subst f4_;subst f5_))
              have p183:0≤(x9_2:Int):=of_decide_eq_true (by first|(with_reducible assumption)|assumption)
              have q183:x9_2 < (x180001_3.length:Int):=of_decide_eq_true (by first|(with_reducible assumption)|assumption)
              obtain ⟨ad183,A183_0,c183_0,e183,hx183_0,hl183_0,hi183_0⟩:=at_T29 (Kd.S_reads' HO_180001.out).2.2 x9_2 p183 q183
              cases e183
              obtain ⟨ce183,hce183,hMe183,hcc183⟩:=Kd.S_get HO_180001.out z29 x9_2 p183 (by first|exact q183|exact of_decide_eq_true (by first|(with_reducible assumption)|assumption)|(have e_:=(Kd.S_reads' HO_180001.out).1;omega))
              obtain ⟨ve183_0,rfl,ge183_0⟩:=k29_openM hMe183
              have hv183_0:=hcc183 0 _ rfl
              rw [Nat.add_zero,show (k29).sz=1 from rfl,Nat.mul_one] at hv183_0
              replace hv183_0:=Option.some.inj (hv183_0.symm.trans hx183_0)
              rw [hv183_0] at ge183_0
              have HL183_0:=Aside0.mk (show Kd.R (Kd.int .i64) 3 _ _ _ _ ((rd_T29 x180001_3 x9_2).f0) from ge183_0)
              clear hv183_0 ge183_0
              have HX183_0:=Aside0.mk hx183_0
              clear hcc183 hce183
              have HR183_0:=Aside0.mk hi183_0
              have HC183_0:=Aside0.mk hl183_0
              clear hi183_0 hl183_0
              replace p183:=eq_true p183
              replace q183:=eq_true q183
              refine start_ (n:=9) (S:=fun w'=>w'.cell? ⟨gb179,0,none⟩=some (.int .i64 a2)∧w'.cell? ⟨gb179,1,none⟩=some (.slice (some ad183) x180001_3.length co35)∧w'.cell? (ad183.add (x9_2).toNat)=some (.slice A183_0 ((rd_T29 x180001_3 x9_2).f0).length c183_0)) (ds:=[]) #[false,false,false,false,false,false,false,false,false] (by kernel_rfl) rfl rfl ⟨(blk_cell BK179.out 0).trans rfl,(blk_cell BK179.out 1).trans rfl,hx183_0⟩ (fun hHeld=>?_);refine with_tabW spec_Build.tab11 spec_Build.bits11 (fun HT_ HW_=>?_)
              generalize wr.drew=w34 at HO_180001 BK175 BK179 HB HL183_0 HR183_0 HX183_0 hx183_0 hHeld ⊢
              refine pure_ (i:=1) (N:=some 51) (v:=?_) (a':=?_) #[false,true,false,false,false,false,false,false,false] rfl rfl (any_of HT_.out (by kernel_rfl)) (fun _ _ _ h=>h) (Or.inl ⟨by rfl,?_⟩) ?_ ?_
              rotate_left
              ·intro w'
               go_simp
               with_reducible rfl
              rotate_left
              ·simp only [Act.put,List.setIfInBounds_toArray,List.set_cons_zero,List.set_cons_succ,i64_w,i32_w]
               rfl
              refine pure_ (i:=3) (N:=some 53) (v:=?_) (a':=?_) #[false,true,false,true,false,false,false,false,false] rfl rfl (any_of HT_.out (by kernel_rfl)) (fun _ _ _ h=>h) (Or.inl ⟨by rfl,?_⟩) ?_ ?_
              rotate_left
              ·intro w'
               go_simp
               with_reducible rfl
              rotate_left
              ·simp only [Act.put,List.setIfInBounds_toArray,List.set_cons_zero,List.set_cons_succ,i64_w,i32_w]
               rfl
              refine pure_ (i:=6) (N:=some 56) (v:=?_) (a':=?_) #[false,true,false,true,false,false,true,false,false] rfl rfl (any_of HT_.out (by kernel_rfl)) (fun _ _ _ h=>h) (Or.inl ⟨by rfl,?_⟩) ?_ ?_
              rotate_left
              ·intro w'
               go_simp
               with_reducible rfl
              rotate_left
              ·simp only [Act.put,List.setIfInBounds_toArray,List.set_cons_zero,List.set_cons_succ,i64_w,i32_w]
               rfl
              refine take_ (i:=0) (N:=some 50) (v:=?_) (a':=?_) #[true,true,false,true,false,false,true,false,false] rfl rfl (take_ofW HT_.out HW_.out (by kernel_rfl)) (fun _ _ _ h=>h) (Or.inl ⟨by rfl,?_⟩) hHeld ?_ ?_
              rotate_left
              ·rintro w' ⟨s0,s1,s2⟩
               go_simp
               with_reducible rfl
              rotate_left
              ·simp only [Act.put,List.setIfInBounds_toArray,List.set_cons_zero,List.set_cons_succ,i64_w,i32_w]
               rfl
              refine take_ (i:=2) (N:=some 52) (v:=?_) (a':=?_) #[true,true,true,true,false,false,true,false,false] rfl rfl (take_ofW HT_.out HW_.out (by kernel_rfl)) (fun _ _ _ h=>h) (Or.inl ⟨by rfl,?_⟩) hHeld ?_ ?_
              rotate_left
              ·rintro w' ⟨s0,s1,s2⟩
               go_simp
               with_reducible rfl
              rotate_left
              ·simp only [Act.put,List.setIfInBounds_toArray,List.set_cons_zero,List.set_cons_succ,i64_w,i32_w]
               rfl
              refine pure_ (i:=4) (N:=some 54) (v:=?_) (a':=?_) #[true,true,true,true,true,false,true,false,false] rfl rfl (any_of HT_.out (by kernel_rfl)) (fun _ _ _ h=>h) (Or.inl ⟨by rfl,?_⟩) ?_ ?_
              rotate_left
              ·intro w'
               go_simp
               with_reducible rfl
              rotate_left
              ·simp only [Act.put,List.setIfInBounds_toArray,List.set_cons_zero,List.set_cons_succ,i64_w,i32_w]
               rfl
              refine take_ (i:=5) (N:=some 55) (v:=?_) (a':=?_) #[true,true,true,true,true,true,true,false,false] rfl rfl (take_ofW HT_.out HW_.out (by kernel_rfl)) (fun _ _ _ h=>h) (Or.inl ⟨by rfl,?_⟩) hHeld ?_ ?_
              rotate_left
              ·rintro w' ⟨s0,s1,s2⟩
               go_simp
               with_reducible rfl
              rotate_left
              ·simp only [Act.put,List.setIfInBounds_toArray,List.set_cons_zero,List.set_cons_succ,i64_w,i32_w]
               rfl
              refine one_ (i:=7) (N:=some 57) #[true,true,true,true,true,true,true,true,false] rfl rfl (one_of HT_.out (by kernel_rfl)) (by decide) (fun K hK=>?_)
              refine goes_ Try.func48 (by kernel_rfl) rfl #[.agg #[.int .i64 a2,.slice (some ad183) x180001_3.length co35],.agg #[.slice A183_0 ((rd_T29 x180001_3 x9_2).f0).length c183_0],.slice A0 l0.length c0] (by rfl) rfl rfl (by (try simp only [List.map_toArray,List.map_cons,List.map_nil]);first|done|rfl|(simp only [List.length_drop,List.length_take];rfl)) ?_
              with_reducible refine (spec_Best.calls k3 a2 _ _ x180001_3 _ _ ((rd_T29 x180001_3 x9_2).f0) _ _ l0 t184 _ ?side1 ?side2 ?side3 ?side4 ?side5 ?side6 A31.out).mono ?_
              (case side1=>repeat (first|exact (Kd.S_reads' HO_180001.out).2.2|(with_reducible refine Kd.C_alloc ?_ _)|(with_reducible refine Kd.C_drewN ?_ _)|(with_reducible refine Kd.C_drew ?_)))
              (case side2=>exact (Kd.S_reads' HO_180001.out).2.1)
              (case side3=>repeat (first|exact (by repeat (first|(with_reducible exact HR183_0.out)|(with_reducible refine Kd.C_alloc ?_ _)|(with_reducible refine Kd.C_drewN ?_ _)|(with_reducible refine Kd.C_drew ?_)|exact HR183_0.out))|(with_reducible refine Kd.C_alloc ?_ _)|(with_reducible refine Kd.C_drewN ?_ _)|(with_reducible refine Kd.C_drew ?_)))
              (case side4=>exact HC183_0.out)
              (case side5=>repeat (first|exact (Kd.C_below HR0.out HB.out)|(with_reducible refine Kd.C_alloc ?_ _)|(with_reducible refine Kd.C_drewN ?_ _)|(with_reducible refine Kd.C_drew ?_)))
              (case side6=>exact HC0.out)
              rintro e w36 ⟨rfl,hb⟩
              have HS2_:=(hb.cell (World.block_lt_of_cell? _ _ (hHeld.2.2))).trans (hHeld.2.2)
              refine ⟨_,rfl,?_⟩
              have n0_:=Aside0.mk (Kd.S_below ((by (with_reducible repeat (first|apply Kd.S_alloc|apply Kd.S_drewN|apply Kd.S_drew));exact HO_180001.out)) hb)
              have n1_:=Aside0.mk (Kd.R_below ((by (with_reducible repeat (first|apply Kd.R_alloc|apply Kd.R_drewN|apply Kd.R_drew));exact HL183_0.out)) hb)
              have n2_:=Aside0.mk (blk_below (g:=gb175) (o:=.cells #[.int .i64 0,.slice none 0 0] 43 (0,0)) (by (with_reducible repeat (first|refine blk_drewN ?_ _|refine blk_drew ?_|refine blk_alloc ?_ _));exact BK175.out) hb)
              have n3_:=Aside0.mk (blk_below (g:=gb179) (o:=.cells #[.int .i64 a2,.slice (some ad183) x180001_3.length co35] 43 (0,0)) (by (with_reducible repeat (first|refine blk_drewN ?_ _|refine blk_drew ?_|refine blk_alloc ?_ _));exact BK179.out) hb)
              have n4_:=Aside0.mk (Kd.C_below (by repeat (first|(with_reducible exact HR183_0.out)|(with_reducible refine Kd.C_alloc ?_ _)|(with_reducible refine Kd.C_drewN ?_ _)|(with_reducible refine Kd.C_drew ?_)|exact HR183_0.out)) hb)
              have n5_:=Aside0.mk (pw_cell_below hb HX183_0.out)
              have n6_:=Aside0.mk (below_step (by repeat (first|(with_reducible first|exact HB.out|apply below_alloc|apply pw_below_drewN|apply below_drew1|refine below_set ?_ GE175.out|refine below_set ?_ GE179.out)|exact HB.out)) hb)
              clear HO_180001
              clear HL183_0
              clear BK175
              clear BK179
              clear HR183_0
              clear HX183_0
              clear HB
              have HO_180001:=n0_
              have HL183_0:=n1_
              have BK175:=n2_
              have BK179:=n3_
              have HR183_0:=n4_
              have HX183_0:=n5_
              have HB:=n6_
              clear n0_ n1_ n2_ n3_ n4_ n5_ n6_
              (try clear hb)
              (try clear hb2)
              (try clear hk)
              (try clear hi)
              refine hK.out _ _ ⟨(blk_cell BK179.out 0).trans rfl,(blk_cell BK179.out 1).trans rfl,HS2_⟩ (fun hHeld=>?_)
              clear hK K
              refine norm_ (a':=?_) ?_ ?_
              rotate_left
              ·show Act.put _ (some 57) _=_
               simp only [Act.put,List.setIfInBounds_toArray,List.set_cons_zero,List.set_cons_succ,i64_w,i32_w]
               rfl
              refine pure_ (i:=8) (N:=some 11) (v:=?_) (a':=?_) #[true,true,true,true,true,true,true,true,true] rfl rfl (any_of HT_.out (by kernel_rfl)) (fun _ _ _ h=>h) (Or.inl ⟨by rfl,?_⟩) ?_ ?_
              rotate_left
              ·intro w'
               go_simp
               with_reducible rfl
              rotate_left
              ·simp only [Act.put,List.setIfInBounds_toArray,List.set_cons_zero,List.set_cons_succ,i64_w,i32_w]
               rfl
              refine done_ (done_of HT_.out (by kernel_rfl)) ?_
              try go_wp2
              have n0_:=Aside0.mk (Kd.S_drew HO_180001.out)
              have n1_:=Aside0.mk (Kd.R_drew HL183_0.out)
              have n2_:=Aside0.mk (blk_drew BK175.out)
              have n3_:=Aside0.mk (blk_drew BK179.out)
              have n4_:=Aside0.mk (Kd.C_drew HR183_0.out)
              have n5_:=Aside0.mk (below_drew1 HB.out)
              clear HO_180001
              clear HL183_0
              clear BK175
              clear BK179
              clear HR183_0
              clear HB
              have HO_180001:=n0_
              have HL183_0:=n1_
              have BK175:=n2_
              have BK179:=n3_
              have HR183_0:=n4_
              have HB:=n5_
              clear n0_ n1_ n2_ n3_ n4_ n5_
              have p185:0≤(x9_2:Int):=of_decide_eq_true (by first|(with_reducible assumption)|assumption)
              have q185:x9_2 < (x180001_3.length:Int):=of_decide_eq_true (by first|(with_reducible assumption)|assumption)
              obtain ⟨ad185,A185_0,c185_0,e185,hx185_0,hl185_0,hi185_0⟩:=at_T29 (Kd.S_reads' HO_180001.out).2.2 x9_2 p185 q185
              obtain rfl:ad183=ad185:=(by injection e185)
              obtain ⟨ce185,hce185,hMe185,hcc185⟩:=Kd.S_get HO_180001.out z29 x9_2 p185 (by first|exact q185|exact of_decide_eq_true (by first|(with_reducible assumption)|assumption)|(have e_:=(Kd.S_reads' HO_180001.out).1;omega))
              obtain ⟨ve185_0,rfl,ge185_0⟩:=k29_openM hMe185
              have hv185_0:=hcc185 0 _ rfl
              rw [Nat.add_zero,show (k29).sz=1 from rfl,Nat.mul_one] at hv185_0
              replace hv185_0:=Option.some.inj (hv185_0.symm.trans hx185_0)
              rw [hv185_0] at ge185_0
              have HL185_0:=Aside0.mk (show Kd.R (Kd.int .i64) 3 _ _ _ _ ((rd_T29 x180001_3 x9_2).f0) from ge185_0)
              clear hv185_0 ge185_0
              have HX185_0:=Aside0.mk hx185_0
              clear hcc185 hce185
              have HR185_0:=Aside0.mk hi185_0
              have HC185_0:=Aside0.mk hl185_0
              clear hi185_0 hl185_0
              replace p185:=eq_true p185
              replace q185:=eq_true q185
              obtain ⟨go38,co38,eo38,gb38,gl38,cl38,HG38⟩:=Kd.S_form HO_180001.out (by have h_:(x9_2:Int) < ((x180001_3.length:Int):Int):=of_decide_eq_true (by first|(with_reducible assumption)|assumption);have h2_:0≤(x9_2:Int):=(of_decide_eq_true (by first|(with_reducible assumption)|assumption));omega)
              (first|cases eo38|(injection eo38 with ea_ en_ ec_;(first|subst ea_|(injection ea_ with ea_;subst ea_));subst ec_;clear en_))
              have GB38:=Aside0.mk gb38
              have GG38:=Aside0.mk HG38
              clear gb38 gl38 HG38
              (first|simp only [add_plain] at hx183_0|skip)
              (first|simp only [add_plain] at hx185_0|skip)
              obtain ⟨oki38,ce38,hcl38,hM38,hcc38,_,_,hH38⟩:=Kd.S_elem HO_180001.out z29 (x9_2:Int) (of_decide_eq_true (by first|(with_reducible assumption)|assumption)) (by have h_:(x9_2:Int) < ((x180001_3.length:Int):Int):=of_decide_eq_true (by first|(with_reducible assumption)|assumption);first|exact h_|(have e_:=(Kd.S_reads' HO_180001.out).1;omega)|simpa using h_)
              obtain ⟨ve38_0,rfl,ge38_0⟩:=k29_openM hM38
              have hv38:=hcc38 0 _ rfl
              have hX38:=HX185_0.out
              (try simp only [add_plain] at hX38)
              (try simp only [Nat.add_zero] at hv38)
              (try rw [show (k29).sz=1 from rfl,Nat.mul_one] at hv38)
              replace hv38:=Option.some.inj (hv38.symm.trans hX38)
              subst hv38
              clear hX38 hcc38 hcl38
              have UU38:=Aside0.mk (show Kd.R (Kd.int .i64) 3 _ w.heap.size oki38 (.slice A185_0 ((rd_T29 x180001_3 x9_2).f0).length c185_0) ((rd_T29 x180001_3 x9_2).f0) from ge38_0)
              have HH38:=Aside0.mk hH38
              have HN38:=Aside0.mk (Kd.S_reads' HO_180001.out).1
              clear hH38 ge38_0
              refine start_ (n:=15) (S:=fun w'=>w'.cell? ⟨gb179,0,none⟩=some (.int .i64 a2)∧w'.cell? ⟨gb179,1,none⟩=some (.slice (some ⟨go38,0,none⟩) x180001_3.length co35)∧w'.cell? ⟨go38,(x9_2).toNat,none⟩=some (.slice A185_0 ((rd_T29 x180001_3 x9_2).f0).length c185_0)) (ds:=[14]) #[false,false,false,false,false,false,false,false,false,false,false,false,false,false,false] (by kernel_rfl) rfl rfl ⟨(blk_cell BK179.out 0).trans rfl,(blk_cell BK179.out 1).trans rfl,hx185_0⟩ (fun hHeld=>?_);refine with_tabW spec_Build.tab12 spec_Build.bits12 (fun HT_ HW_=>?_)
              generalize w36.drew=w37 at HO_180001 HL183_0 BK175 BK179 HR183_0 HB GG38 HH38 HL185_0 HR185_0 HX185_0 UU38 hx183_0 hx185_0 hHeld ⊢
              refine pure_ (i:=0) (N:=some 58) (v:=?_) (a':=?_) #[true,false,false,false,false,false,false,false,false,false,false,false,false,false,false] rfl rfl (any_of HT_.out (by kernel_rfl)) (fun _ _ _ h=>h) (Or.inl ⟨by rfl,?_⟩) ?_ ?_
              rotate_left
              ·intro w'
               go_simp
               with_reducible rfl
              rotate_left
              ·simp only [Act.put,List.setIfInBounds_toArray,List.set_cons_zero,List.set_cons_succ,i64_w,i32_w]
               rfl
              refine pure_ (i:=2) (N:=some 60) (v:=?_) (a':=?_) #[true,false,true,false,false,false,false,false,false,false,false,false,false,false,false] rfl rfl (any_of HT_.out (by kernel_rfl)) (fun _ _ _ h=>h) (Or.inl ⟨by rfl,?_⟩) ?_ ?_
              rotate_left
              ·intro w'
               go_simp
               with_reducible rfl
              rotate_left
              ·simp only [Act.put,List.setIfInBounds_toArray,List.set_cons_zero,List.set_cons_succ,i64_w,i32_w]
               rfl
              refine pure_ (i:=3) (N:=some 61) (v:=?_) (a':=?_) #[true,false,true,true,false,false,false,false,false,false,false,false,false,false,false] rfl rfl (any_of HT_.out (by kernel_rfl)) (fun _ _ _ h=>h) (Or.inl ⟨by rfl,?_⟩) ?_ ?_
              rotate_left
              ·intro w'
               go_simp
               with_reducible rfl
              rotate_left
              ·simp only [Act.put,List.setIfInBounds_toArray,List.set_cons_zero,List.set_cons_succ,i64_w,i32_w]
               rfl
              refine pure_ (i:=5) (N:=some 63) (v:=?_) (a':=?_) #[true,false,true,true,false,true,false,false,false,false,false,false,false,false,false] rfl rfl (any_of HT_.out (by kernel_rfl)) (fun _ _ _ h=>h) (Or.inl ⟨by rfl,?_⟩) ?_ ?_
              rotate_left
              ·intro w'
               go_simp
               with_reducible rfl
              rotate_left
              ·simp only [Act.put,List.setIfInBounds_toArray,List.set_cons_zero,List.set_cons_succ,i64_w,i32_w]
               rfl
              refine pure_ (i:=9) (N:=some 67) (v:=?_) (a':=?_) #[true,false,true,true,false,true,false,false,false,true,false,false,false,false,false] rfl rfl (any_of HT_.out (by kernel_rfl)) (fun _ _ _ h=>h) (Or.inl ⟨by rfl,?_⟩) ?_ ?_
              rotate_left
              ·intro w'
               go_simp
               with_reducible rfl
              rotate_left
              ·simp only [Act.put,List.setIfInBounds_toArray,List.set_cons_zero,List.set_cons_succ,i64_w,i32_w]
               rfl
              refine take_ (i:=1) (N:=some 59) (v:=?_) (a':=?_) #[true,true,true,true,false,true,false,false,false,true,false,false,false,false,false] rfl rfl (take_ofW HT_.out HW_.out (by kernel_rfl)) (fun _ _ _ h=>h) (Or.inl ⟨by rfl,?_⟩) hHeld ?_ ?_
              rotate_left
              ·rintro w' ⟨s0,s1,s2⟩
               go_simp
               with_reducible rfl
              rotate_left
              ·simp only [Act.put,List.setIfInBounds_toArray,List.set_cons_zero,List.set_cons_succ,i64_w,i32_w]
               rfl
              refine take_ (i:=4) (N:=some 62) (v:=?_) (a':=?_) #[true,true,true,true,true,true,false,false,false,true,false,false,false,false,false] rfl rfl (take_ofW HT_.out HW_.out (by kernel_rfl)) (fun _ _ _ h=>h) (Or.inl ⟨by rfl,?_⟩) hHeld ?_ ?_
              rotate_left
              ·rintro w' ⟨s0,s1,s2⟩
               go_simp
               with_reducible rfl
              rotate_left
              ·simp only [Act.put,List.setIfInBounds_toArray,List.set_cons_zero,List.set_cons_succ,i64_w,i32_w]
               rfl
              refine pure_ (i:=6) (N:=some 64) (v:=?_) (a':=?_) #[true,true,true,true,true,true,true,false,false,true,false,false,false,false,false] rfl rfl (any_of HT_.out (by kernel_rfl)) (fun _ _ _ h=>h) (Or.inl ⟨by rfl,?_⟩) ?_ ?_
              rotate_left
              ·intro w'
               go_simp
               with_reducible rfl
              rotate_left
              ·simp only [Act.put,List.setIfInBounds_toArray,List.set_cons_zero,List.set_cons_succ,i64_w,i32_w]
               rfl
              refine pure_ (i:=7) (N:=some 65) (v:=?_) (a':=?_) #[true,true,true,true,true,true,true,true,false,true,false,false,false,false,false] rfl rfl (any_of HT_.out (by kernel_rfl)) (fun _ _ _ h=>h) (Or.inl ⟨by rfl,?_⟩) ?_ ?_
              rotate_left
              ·intro w'
               go_simp
               with_reducible rfl
              rotate_left
              ·simp only [Act.put,List.setIfInBounds_toArray,List.set_cons_zero,List.set_cons_succ,i64_w,i32_w]
               rfl
              refine take_ (i:=8) (N:=some 66) (v:=?_) (a':=?_) #[true,true,true,true,true,true,true,true,true,true,false,false,false,false,false] rfl rfl (take_ofW HT_.out HW_.out (by kernel_rfl)) (fun _ _ _ h=>h) (Or.inl ⟨by rfl,?_⟩) hHeld ?_ ?_
              rotate_left
              ·rintro w' ⟨s0,s1,s2⟩
               go_simp
               with_reducible rfl
              rotate_left
              ·simp only [Act.put,List.setIfInBounds_toArray,List.set_cons_zero,List.set_cons_succ,i64_w,i32_w]
               rfl
              refine one_ (i:=10) (N:=some 68) #[true,true,true,true,true,true,true,true,true,true,true,false,false,false,false] rfl rfl (one_of HT_.out (by kernel_rfl)) (by decide) (fun K hK=>?_)
              refine value_ (w1:=?_) (v:=?_) (by rfl) rfl ?_ ?_
              rotate_left 2
              ·go_simp
               constructor
               ·rfl
               ·rfl
              refine hK.out _ _ ⟨(blk_cell (blk_alloc BK179.out _) 0).trans rfl,(blk_cell (blk_alloc BK179.out _) 1).trans rfl,(World.cell?_alloc_lt _ _ _ (World.block_lt_of_cell? _ _ (hHeld.2.2))).trans (hHeld.2.2)⟩ (fun hHeld=>?_)
              clear hK K
              refine norm_ (a':=?_) ?_ ?_
              rotate_left
              ·show Act.put _ (some 68) _=_
               simp only [Act.put,List.setIfInBounds_toArray,List.set_cons_zero,List.set_cons_succ,i64_w,i32_w]
               rfl
              refine one_ (i:=11) (N:=some 69) #[true,true,true,true,true,true,true,true,true,true,true,true,false,false,false] rfl rfl (one_of HT_.out (by kernel_rfl)) (by decide) (fun K hK=>?_)
              refine Kd.R_append_step (Kd.int .i64) (w0:=w) w.heap.size (by rfl) (.tmp 66) (.tmp 68) 22 3 (.int .i64 0) 8 rfl Try.underlying22 info3 rfl (by decide) (by omega) (.slice A185_0 ((rd_T29 x180001_3 x9_2).f0).length c185_0) ((rd_T29 x180001_3 x9_2).f0) t184 [.int .i64 t184] (fun k_=>oki38 k_ ∨ ((fun _=>True)) k_∧w37.heap.size≤k_) (fun _=>False) rfl rfl ?aP (fun _ hk=>hk.elim) ?aF ?aO ?aB ?aS ?aL ?_
              (case aP=>exact rfl)
              (case aB=>exact (by repeat (first|(with_reducible first|exact HB.out|apply below_alloc|apply pw_below_drewN|apply below_drew1|refine below_set ?_ GE175.out|refine below_set ?_ GE179.out)|exact HB.out)))
              (case aF=>exact (fun k_ hk=>.inr ⟨trivial,hk⟩))
              (case aO=>exact (by (with_reducible repeat (first|apply Kd.R_alloc|apply Kd.R_drewN|apply Kd.R_drew));exact Kd.R_mono UU38.out (fun _ hk=>.inl hk)))
              (case aS=>exact (below_size (by repeat (first|(with_reducible first|exact HB.out|apply below_alloc|apply pw_below_drewN|apply below_drew1|refine below_set ?_ GE175.out|refine below_set ?_ GE179.out)|exact HB.out))))
              (case aL=>have:=LMc32.out;omega)
              intro v187 w39 ho hb hg hat
              (first|have HS2_:=cell_grown hg (hHeld.2.2) (by first|(rw [add_block];exact (fun e_=>((HL185_0.out.1 _ e_.symm).2) rfl))|(show some (Addr.add _ _).block ≠ _;rw [add_block];exact (fun e_=>((HL185_0.out.1 _ e_.symm).2) rfl))|exact (fun e_=>((HL185_0.out.1 _ e_.symm).2) rfl))|have HS2_:=cell_grown hg (cell_unalloc (hHeld.2.2) (by first|(rw [add_block];exact Kd.S_lt HO_180001.out _ rfl)|(show (Addr.add _ _).block < _;rw [add_block];exact Kd.S_lt HO_180001.out _ rfl)|exact Kd.S_lt HO_180001.out _ rfl)) (by first|(rw [add_block];exact (fun e_=>((HL185_0.out.1 _ e_.symm).2) rfl))|(show some (Addr.add _ _).block ≠ _;rw [add_block];exact (fun e_=>((HL185_0.out.1 _ e_.symm).2) rfl))|exact (fun e_=>((HL185_0.out.1 _ e_.symm).2) rfl)))
              rw [← Ny186.out] at ho
              have n0_:=Aside0.mk (blk_grown (g:=gb175) (o:=.cells #[.int .i64 0,.slice none 0 0] 43 (0,0)) (by (with_reducible repeat (first|refine blk_drewN ?_ _|refine blk_drew ?_|refine blk_alloc ?_ _));exact BK175.out) hg (Kd.R_ne HL185_0.out BK175.out (by decide)))
              have n1_:=Aside0.mk (blk_grown (g:=gb179) (o:=.cells #[.int .i64 a2,.slice (some ⟨go38,0,none⟩) x180001_3.length co35] 43 (0,0)) (by (with_reducible repeat (first|refine blk_drewN ?_ _|refine blk_drew ?_|refine blk_alloc ?_ _));exact BK179.out) hg (Kd.R_ne HL185_0.out BK179.out (by decide)))
              have n2_:=Aside0.mk (hb)
              have n3_:=Aside0.mk (Kd.H_grown (Kd.H_widen (by repeat (first|exact HH38.out|refine Kd.H_alloc ?_ _|refine Kd.H_drewN ?_ _|refine Kd.H_drew ?_))) hg (fun k_ e_=>.inl (UU38.out.1 k_ e_)))
              have n4_:=Aside0.mk (ho)
              clear BK175
              clear BK179
              clear HB
              clear HH38
              clear HO_180001
              clear UU38
              clear HL183_0
              clear HL185_0
              have BK175:=n0_
              have BK179:=n1_
              have HB:=n2_
              have HH38:=n3_
              have HO188:=n4_
              clear n0_ n1_ n2_ n3_ n4_
              clear ho hb hg hat
              have p33:0≤(x9_2:Int):=of_decide_eq_true (by first|(with_reducible assumption)|assumption)
              have q33:(x9_2:Int) < ((x180001_3.length:Int):Int):=of_decide_eq_true (by first|(with_reducible assumption)|assumption)
              replace p33:=eq_true p33
              replace q33:=eq_true q33
              obtain ⟨Ao42,co42,eo42⟩:=Kd.R_slice HO188.out
              (first|subst eo42|(injection eo42 with f1_ f2_ f3_;have f4_:=f1_.symm;have f5_:=f3_.symm;clear f1_ f2_ f3_;subst f4_;subst f5_))
              obtain ⟨_,_,hraw40,_,_,hcc40,_⟩:=Kd.H_raw HH38.out (of_decide_eq_true (by first|(with_reducible assumption)|assumption)) (by have h_:(x9_2:Int) < ((x180001_3.length:Int):Int):=of_decide_eq_true (by first|(with_reducible assumption)|assumption);first|exact h_|(have e_:=(HN38.out);omega)|simpa using h_)
              obtain ⟨_,hfr40⟩:=Kd.H_at HH38.out (of_decide_eq_true (by first|(with_reducible assumption)|assumption)) (by have h_:(x9_2:Int) < ((x180001_3.length:Int):Int):=of_decide_eq_true (by first|(with_reducible assumption)|assumption);first|exact h_|(have e_:=(HN38.out);omega)|simpa using h_)
              have hx40_0:=hcc40 0 _ rfl
              have hf40_0:=hfr40 0
              (try simp only [Nat.add_zero] at hx40_0 hf40_0)
              (try rw [show (k29).sz=1 from rfl,Nat.mul_one] at hx40_0)
              (try rw [show (k29).sz=1 from rfl,Nat.mul_one] at hf40_0)
              have HP40:=Kd.S_seg0 HH38.out (of_decide_eq_true (by first|(with_reducible assumption)|assumption)) (by have h_:(x9_2:Int) < ((x180001_3.length:Int):Int):=of_decide_eq_true (by first|(with_reducible assumption)|assumption);first|exact h_|(have e_:=(HN38.out);omega)|simpa using h_) (seg:=[.slice Ao42 y186.length co42]) (j:=0) (show 1≤1 from by decide) (x':=(⟨y186⟩:S29)) (k29_mkM _ _ _ (⟨y186⟩:S29) HO188.out) (fun _ hk=>hk)
              (try simp only [show (k29).sz=1 from rfl,Nat.mul_one,Nat.add_zero] at HP40)
              clear hcc40 hfr40
              have HNB175_go38:=Aside0.mk (show gb175 ≠ go38 from by have h_:=Kd.R_ne hraw40 BK175.out (by decide);intro e_;exact h_ (by rw [e_];rfl))
              have HNB179_go38:=Aside0.mk (show gb179 ≠ go38 from by have h_:=Kd.R_ne hraw40 BK179.out (by decide);intro e_;exact h_ (by rw [e_];rfl))
              have HS40:=HP40.1
              rw [← Ny189.out] at HS40
              have HQ40:=Aside0.mk HS40
              obtain ⟨_,hgg40⟩:=Kd.R_typed hraw40 go38 rfl
              have GG40_:=Aside0.mk hgg40
              clear HP40 HS40 hgg40
              refine hK.out _ _ ⟨(blk_cell BK179.out 0).trans rfl,(blk_cell BK179.out 1).trans rfl,HS2_⟩ (fun hHeld=>?_)
              clear hK K
              refine norm_ (a':=?_) ?_ ?_
              rotate_left
              ·show Act.put _ (some 69) _=_
               simp only [Act.put,List.setIfInBounds_toArray,List.set_cons_zero,List.set_cons_succ,i64_w,i32_w]
               rfl
              refine pure_ (i:=12) (N:=some 70) (v:=?_) (a':=?_) #[true,true,true,true,true,true,true,true,true,true,true,true,true,false,false] rfl rfl (any_of HT_.out (by kernel_rfl)) (fun _ _ _ h=>h) (Or.inl ⟨by rfl,?_⟩) ?_ ?_
              rotate_left
              ·intro w'
               go_simp
               with_reducible rfl
              rotate_left
              ·simp only [Act.put,List.setIfInBounds_toArray,List.set_cons_zero,List.set_cons_succ,i64_w,i32_w]
               rfl
              refine pure_ (i:=13) (N:=some 71) (v:=?_) (a':=?_) #[true,true,true,true,true,true,true,true,true,true,true,true,true,true,false] rfl rfl (any_of HT_.out (by kernel_rfl)) (fun _ _ _ h=>h) (Or.inl ⟨by rfl,?_⟩) ?_ ?_
              rotate_left
              ·intro w'
               go_simp
               with_reducible rfl
              rotate_left
              ·simp only [Act.put,List.setIfInBounds_toArray,List.set_cons_zero,List.set_cons_succ,i64_w,i32_w]
               rfl
              refine last_ (i:=14) (N:=none) #[true,true,true,true,true,true,true,true,true,true,true,true,true,true,true] rfl rfl (one_of HT_.out (by kernel_rfl)) (by decide) (fun K hK=>?_)
              refine skip_ (w1:=?_) (by rfl) rfl ?_ ?_
              rotate_left
              ·go_simp
               rfl
              refine hK.out _ _ ?_
              clear hK K
              refine done_ (done_of HT_.out (by kernel_rfl)) ?_
              try go_wp2
              go_roundg k3
              case measure=>have:=HJ3.out;have:=HK2.out;have:=HK3.out;omega
              case rel=>exact ⟨(wrap64 (x10_3+1)),(y189),(.slice (some ⟨go38,0,none⟩) x180001_3.length co35),(by first|rfl|(simp;done)|(simp [*];done)),H',⟨by have:=HJ3.out;have:=HK2.out;have:=HK3.out;omega⟩,⟨by (with_reducible repeat (first|apply Kd.S_alloc|apply Kd.S_drewN|apply Kd.S_drew));exact HQ40.out⟩,⟨by (with_reducible repeat (first|refine blk_drewN ?_ _|refine blk_drew ?_|refine blk_alloc ?_ _));refine blk_far ?_ HNB175_go38.out _;(with_reducible repeat (first|refine blk_drewN ?_ _|refine blk_drew ?_|refine blk_alloc ?_ _));exact BK175.out⟩,⟨by (with_reducible repeat (first|refine blk_drewN ?_ _|refine blk_drew ?_|refine blk_alloc ?_ _));refine blk_far ?_ HNB179_go38.out _;(with_reducible repeat (first|refine blk_drewN ?_ _|refine blk_drew ?_|refine blk_alloc ?_ _));exact BK179.out⟩,⟨by repeat (first|(with_reducible first|exact HB.out|apply below_alloc|apply pw_below_drewN|apply below_drew1|refine below_set ?_ GB38.out|refine below_set ?_ GE175.out|refine below_set ?_ GE179.out)|exact HB.out)⟩⟩
             ·rw [if_neg c32] at H
              exact absurd H (by simp)
            ·rw [if_neg c30] at H
             exact absurd H (by simp)
           ·rw [if_neg c29] at H
            exact absurd H (by simp)
          ·rw [if_neg c28] at H
           have c28b0:decide (x10_3 < a2)=false:=decide_eq_false c28
           clear c28
           have H':=Aside0.mk H
           clear H
           go_wp2
           go_roundg k3
           case measure=>have:=HJ3.out;have:=HK2.out;have:=HK3.out;omega
           case rel=>exact ⟨(wrap64 (x9_2+1)),(x180001_3),(u180001),(by first|rfl|(simp;done)|(simp [*];done)),H',⟨by have:=HJ3.out;have:=HK2.out;have:=HK3.out;omega⟩,⟨by (with_reducible repeat (first|apply Kd.S_alloc|apply Kd.S_drewN|apply Kd.S_drew));exact HO_180001.out⟩,⟨by (with_reducible repeat (first|refine blk_drewN ?_ _|refine blk_drew ?_|refine blk_alloc ?_ _));exact BK175.out⟩,⟨by (with_reducible repeat (first|refine blk_drewN ?_ _|refine blk_drew ?_|refine blk_alloc ?_ _));exact BK179.out⟩,⟨by repeat (first|(with_reducible first|exact HB.out|apply below_alloc|apply pw_below_drewN|apply below_drew1|refine below_set ?_ GE175.out|refine below_set ?_ GE179.out)|exact HB.out)⟩⟩
       ·rw [if_neg c22] at H
        exact absurd H (by simp)
      ·rw [if_neg c21] at H
       have c21b0:decide (x9_2 < a1)=false:=decide_eq_false c21
       clear c21
       simp only [Option.some.injEq,Prod.mk.injEq] at H
       obtain ⟨rfl,rfl,rfl⟩:=H
       have hnb43:=NB179_175.out
       have hnc43:=NB175_179.out
       have hcz44_0:wr.cell? ⟨gb179,0,none⟩=some (.int .i64 a2):=(blk_cell BK179.out 0).trans rfl
       have hcz44_1:wr.cell? ⟨gb179,1,none⟩=some (u180001):=(blk_cell BK179.out 1).trans rfl
       have hfz44_0:=blk_frozen BK179.out 0
       have hfz44_1:=blk_frozen BK179.out 1
       have hcz45_0:wr.cell? ⟨gb175,0,none⟩=some (.int .i64 0):=(blk_cell BK175.out 0).trans rfl
       have hcz45_1:wr.cell? ⟨gb175,1,none⟩=some (.slice none 0 0):=(blk_cell BK175.out 1).trans rfl
       have hfz45_0:=blk_frozen BK175.out 0
       have hfz45_1:=blk_frozen BK175.out 1
       obtain ⟨Ao46,co46,eo46⟩:=Kd.S_slice HO_180001.out
       subst eo46
       go_wp2
       refine bodyPost_ret (results_ct rfl _ _ gb175 43 #[.int .i64 a2,.slice Ao46 x180001_2.length co46] (0,0) _ rfl (by (with_reducible repeat (first|refine blk_drewN ?_ _|refine blk_drew ?_|refine blk_alloc ?_ _));refine blk_put (cs:=#[.int .i64 a2,.slice none 0 0]) ?_ 1 _ rfl;(with_reducible repeat (first|refine blk_drewN ?_ _|refine blk_drew ?_|refine blk_alloc ?_ _));refine blk_put (cs:=#[.int .i64 0,.slice none 0 0]) ?_ 0 _ rfl;(with_reducible repeat (first|refine blk_drewN ?_ _|refine blk_drew ?_|refine blk_alloc ?_ _));exact BK175.out) Try.underlying43 rfl (by kernel_rfl)) rfl ?_
       exact ⟨_,by first|rfl|(simp [errW_none,errW_some] <;> rfl)|(simp [*,errW_none,errW_some] <;> rfl),by (with_reducible repeat (first|apply Kd.S_alloc|apply Kd.S_drewN|apply Kd.S_drew));exact Kd.S_mono (Kd.S_far (p:=⟨gb175,1,none⟩) (Kd.S_far (p:=⟨gb175,0,none⟩) (Kd.S_types HO_180001.out BK175.out (by decide)) (fun _ hk=>hk.2) (.int .i64 a2)) (fun _ hk=>hk.2) (.slice Ao46 x180001_2.length co46)) (fun _ hk=>trivial),by repeat (first|(with_reducible first|exact HB.out|apply below_alloc|apply pw_below_drewN|apply below_drew1|refine below_set ?_ GE175.out|refine below_set ?_ GE179.out)|exact HB.out)⟩
end Go.Proofs.Ytbhllgifciaepaa.PFnExactBuild
