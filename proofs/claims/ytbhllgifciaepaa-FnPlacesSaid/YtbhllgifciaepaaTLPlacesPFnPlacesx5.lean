/- Trimmed by a program of this session (trim.py). Not trusted: Lean checks it. -/
import Derived.Test.YtbhllgifciaepaaTLPlacesPFnPlacesx0
import Derived.Test.YtbhllgifciaepaaTLPlacesPFnPlacesx2
import Derived.Test.YtbhllgifciaepaaTLPlacesPFnPlacesx3
import Derived.Test.YtbhllgifciaepaaTLPlacesPFnPlacesx4
namespace Go.Proofs.Ytbhllgifciaepaa.PFnPlaces
open Go.RowKit Go.Proofs.YtbhllgifciaepaaW.PrintWords Go.Proofs.YtbhllgifciaepaaW.PrintLast Go.Proofs.YtbhllgifciaepaaW.PrintMore
attribute [local go_sem] max2_int min2_int max_two min_two max_three min_three max_four min_four
set_option linter.unusedVariables false
set_option linter.unusedSimpArgs false
mutual
def spec_RingOk.j0:Nat→List (S76)→Bool→Int→List (S29)→Option (Bool)
 | 0,_,_,_,_=>none
 | k+1,x1,x24,x146000,x146001=>if x24=true then (some false) else (spec_RingOk.l0 k x1 0 x146000 x146001)
def spec_RingOk.l0:Nat→List (S76)→Int→Int→List (S29)→Option (Bool)
 | 0,_,_,_,_=>none
 | k+1,x1,x5,x146000,x146001=>if x5 < (x146001.length:Int) then (if 0≤x5 then ((spec_l5Part.f k ((rd_T29 x146001 x5).f0) x146000).bind fun t150=>(if t150=true then (spec_RingOk.l1 k x1 x5 0 x146000 x146001) else (some false))) else (none)) else (some true)
def spec_RingOk.l1:Nat→List (S76)→Int→Int→Int→List (S29)→Option (Bool)
 | 0,_,_,_,_,_=>none
 | k+1,x1,x5,x6,x146000,x146001=>if 0≤x5 then (if x5 < (x146001.length:Int) then (if x6 < (((rd_T29 x146001 x5).f0).length:Int) then (if 0≤x6 then ((spec_DevAt.f k x1 (rd ((rd_T29 x146001 x5).f0) x6)).bind fun bt154=>(if bt154.2.2.2=true then (spec_RingOk.l1 k x1 x5 (wrap64 (x6+1)) x146000 x146001) else (some false))) else (none)) else (spec_RingOk.l0 k x1 (wrap64 (x5+1)) x146000 x146001)) else (none)) else (none)
end
def spec_RingOk.f (k:Nat) (a0_0:Int) (l0_1:List (S29)) (l1:List (S76)):Option (Bool):=(spec_DevsOk.f k l1).bind fun t146=>(if t146=true then ((spec_l1In.f a0_0 1 5).bind fun t147=>(if t147=true then ((spec_l1In.f (l0_1.length:Int) 1 64).bind fun t148=>(spec_RingOk.j0 k l1 (!t148) a0_0 l0_1)) else (spec_RingOk.j0 k l1 true a0_0 l0_1))) else (spec_RingOk.j0 k l1 true a0_0 l0_1))
def spec_RingOk.T6:Bool × List (List Nat × List Nat):=(true,[([],[]),([0],[0]),([],[]),([1,2],[1,2]),([3],[3]),([],[]),([5],[5]),([4,6],[4,6]),([7],[7])])
def spec_RingOk.B6:List Nat:=[0,1,0,7,15,0,32,127,255]
theorem spec_RingOk.tab6:rtab .any (opsOf Try.f43 6)=spec_RingOk.T6:=by kernel_rfl
theorem spec_RingOk.bits6:waitsOk spec_RingOk.T6.2 spec_RingOk.B6=true:=by kernel_rfl
set_option maxHeartbeats 8000000 in
set_option maxRecDepth 100000 in
theorem spec_RingOk.calls (k:Nat) (a0_0:Int) (A0_1:Option Addr) (c0_1:Nat) (l0_1:List (S29)) (A1:Option Addr) (c1:Nat) (l1:List (S76)) (r:Bool) (w:World) (hr0_1:Kd.C k29 w A0_1 l0_1.length l0_1) (hc0_1:l0_1.length≤c0_1) (hr1:Kd.C k76 w A1 l1.length l1) (hc1:l1.length≤c1) (h:spec_RingOk.f k a0_0 l0_1 l1=some r) :
  Calls Try.prog 43 #[.agg #[.int .i64 a0_0,.slice A0_1 l0_1.length c0_1],.slice A1 l1.length c1] w fun e w'=>e = .returned (.bool r)∧Below w.heap.size w w':=by
 have hu43:=Try.underlying43
 have hu29:=Try.underlying29
 have hu76:=Try.underlying76
 have HR0_1:=Aside0.mk hr0_1
 have HC0_1:=Aside0.mk hc0_1
 clear hr0_1 hc0_1
 have HR1:=Aside0.mk hr1
 have HC1:=Aside0.mk hc1
 clear hr1 hc1
 have HB:=Aside0.mk (Below.refl w.heap.size w)
 have H:((spec_DevsOk.f k l1).bind fun t146=>(if t146=true then ((spec_l1In.f a0_0 1 5).bind fun t147=>(if t147=true then ((spec_l1In.f (l0_1.length:Int) 1 64).bind fun t148=>(spec_RingOk.j0 k l1 (!t148) a0_0 l0_1)) else (spec_RingOk.j0 k l1 true a0_0 l0_1))) else (spec_RingOk.j0 k l1 true a0_0 l0_1)))=some r:=h
 clear h
 have HC3:=Aside0.mk H
 clear H
 go_enter Try.func43,Try.ntmps43
 go_upto_region 1 with (first|((with_reducible refine gate_dst (N:=2) rfl ?_);(try (refine gate_guard (by rfl) ?_;dsimp only));refine box_event ?hg (N:=2) ?hd (cs:=#[.int .i64 a0_0,.slice A0_1 l0_1.length c0_1]) (t:=43) ?hr ?_;(case hd=>rfl);(case hg=>rfl);(case hr=>first|(go_simp;done)|(go_simp;rfl));intro gb145 hg w4 hbox hb;have n0_:=Aside0.mk (below_step (by repeat (first|(with_reducible first|exact HB.out|apply below_alloc|apply pw_below_drewN|apply below_drew1)|exact HB.out)) hb);have n1_:=Aside0.mk (hbox);have n2_:=Aside0.mk ((by rw [hg];exact (below_size (by repeat (first|(with_reducible first|exact HB.out|apply below_alloc|apply pw_below_drewN|apply below_drew1)|exact HB.out))):w.heap.size≤gb145));have n3_:=Aside0.mk ((by rw [hg];exact (below_size (by repeat (first|(with_reducible first|exact HB.out|apply below_alloc|apply pw_below_drewN|apply below_drew1)|exact HB.out))):w.heap.size≤gb145));clear HB;have HB:=n0_;have BK145:=n1_;have GW145:=n2_;have GE145:=n3_;clear n0_ n1_ n2_ n3_;clear hb hbox hg))
 (try simp only [Act.put,List.setIfInBounds_toArray,List.set_cons_zero,List.set_cons_succ])
 go_cut [24] (fun v24 wc=>∃ (kq:Nat) (x24_2:Bool),v24 = .bool x24_2∧Aside0 (spec_RingOk.j0 kq l1 x24_2 a0_0 l0_1=some r)∧Aside0 (kq≤k)∧Aside0 (wc.heap[gb145]?=some (.cells #[.int .i64 a0_0,(.slice A0_1 l0_1.length c0_1)] 43 (0,0)))∧Aside0 (Below w.heap.size w wc))
 case first=>
  have H:=HC3.out
  clear HC3
  replace H:=Option.bind_eq_some_iff.mp H
  obtain ⟨t146,A50,H⟩:=H
  replace H:(if t146=true then ((spec_l1In.f a0_0 1 5).bind fun t147=>(if t147=true then ((spec_l1In.f (l0_1.length:Int) 1 64).bind fun t148=>(spec_RingOk.j0 k l1 (!t148) a0_0 l0_1)) else (spec_RingOk.j0 k l1 true a0_0 l0_1))) else (spec_RingOk.j0 k l1 true a0_0 l0_1))=some r:=H
  have A5:=Aside0.mk A50
  clear A50
  by_cases c6:t146=true
  ·subst c6
   have H1:((spec_l1In.f a0_0 1 5).bind fun t147=>(if t147=true then ((spec_l1In.f (l0_1.length:Int) 1 64).bind fun t148=>(spec_RingOk.j0 k l1 (!t148) a0_0 l0_1)) else (spec_RingOk.j0 k l1 true a0_0 l0_1)))=some r:=by rw [if_pos rfl] at H;exact H
   clear H
   have H:=H1
   clear H1
   replace H:=Option.bind_eq_some_iff.mp H
   obtain ⟨t147,A70,H⟩:=H
   replace H:(if t147=true then ((spec_l1In.f (l0_1.length:Int) 1 64).bind fun t148=>(spec_RingOk.j0 k l1 (!t148) a0_0 l0_1)) else (spec_RingOk.j0 k l1 true a0_0 l0_1))=some r:=H
   have A7:=Aside0.mk A70
   clear A70
   by_cases c8:t147=true
   ·subst c8
    have H1:((spec_l1In.f (l0_1.length:Int) 1 64).bind fun t148=>(spec_RingOk.j0 k l1 (!t148) a0_0 l0_1))=some r:=by rw [if_pos rfl] at H;exact H
    clear H
    have H:=H1
    clear H1
    replace H:=Option.bind_eq_some_iff.mp H
    obtain ⟨t148,A90,H⟩:=H
    replace H:(spec_RingOk.j0 k l1 (!t148) a0_0 l0_1)=some r:=H
    have A9:=Aside0.mk A90
    clear A90
    have H':=Aside0.mk H
    clear H
    go_wp2_with (first|((with_reducible refine gate_callee (f:=49) rfl ?_);refine goesL_ (some 10) rfl rfl Try.func49 (by kernel_rfl) rfl #[.slice A1 l1.length c1] rfl (by (try simp only [List.map_toArray,List.map_cons,List.map_nil]);first|done|rfl|(simp only [List.length_drop,List.length_take];rfl)) ?_;(with_reducible refine (spec_DevsOk.calls k _ _ l1 true _ ?side1 ?side2 A5.out).mono ?_);(case side1=>repeat (first|exact (Kd.C_below HR1.out HB.out)|(with_reducible refine Kd.C_alloc ?_ _)|(with_reducible refine Kd.C_drewN ?_ _)|(with_reducible refine Kd.C_drew ?_)));(case side2=>exact HC1.out);rintro e w10 ⟨rfl,hb⟩;refine ⟨_,rfl,?_⟩;have n0_:=Aside0.mk (blk_below (g:=gb145) (o:=.cells #[.int .i64 a0_0,.slice A0_1 l0_1.length c0_1] 43 (0,0)) (by (with_reducible repeat (first|refine blk_drewN ?_ _|refine blk_drew ?_|refine blk_alloc ?_ _));exact BK145.out) hb);have n1_:=Aside0.mk (below_step (by repeat (first|(with_reducible first|exact HB.out|apply below_alloc|apply pw_below_drewN|apply below_drew1|refine below_set ?_ GE145.out)|exact HB.out)) hb);clear BK145;clear HB;have BK145:=n0_;have HB:=n1_;clear n0_ n1_;(try clear hb);(try clear hb2);(try clear hk);(try clear hi);have hcz11_0:w10.cell? ⟨gb145,0,none⟩=some (.int .i64 a0_0):=(blk_cell BK145.out 0).trans rfl;have hcz11_1:w10.cell? ⟨gb145,1,none⟩=some (.slice A0_1 l0_1.length c0_1):=(blk_cell BK145.out 1).trans rfl;have hfz11_0:=blk_frozen BK145.out 0;have hfz11_1:=blk_frozen BK145.out 1)|(go_at_call 97;(with_reducible refine (spec_l1In.calls a0_0 1 5 true _ A7.out).mono ?_);rintro e w' ⟨rfl,⟨nd,rfl⟩⟩)|(go_at_call 97;(with_reducible refine (spec_l1In.calls (l0_1.length:Int) 1 64 t148 _ A9.out).mono ?_);rintro e w' ⟨rfl,⟨nd,rfl⟩⟩))
    go_meet
    case rel=>exact ⟨_,(!t148),(by first|rfl|(simp;done)|(simp [*];done)),H',⟨by first|omega|exact Nat.le_refl _⟩,⟨by (with_reducible repeat (first|refine blk_drewN ?_ _|refine blk_drew ?_|refine blk_alloc ?_ _));exact BK145.out⟩,⟨by repeat (first|(with_reducible first|exact HB.out|apply below_alloc|apply pw_below_drewN|apply below_drew1|refine below_set ?_ GE145.out)|exact HB.out)⟩⟩
   ·replace c8:=Bool.eq_false_iff.mpr c8
    subst c8
    have H1:(spec_RingOk.j0 k l1 true a0_0 l0_1)=some r:=by rw [if_neg (show ¬ (false=true) by decide)] at H;exact H
    clear H
    have H:=H1
    clear H1
    have H':=Aside0.mk H
    clear H
    go_wp2_with (first|((with_reducible refine gate_callee (f:=49) rfl ?_);refine goesL_ (some 10) rfl rfl Try.func49 (by kernel_rfl) rfl #[.slice A1 l1.length c1] rfl (by (try simp only [List.map_toArray,List.map_cons,List.map_nil]);first|done|rfl|(simp only [List.length_drop,List.length_take];rfl)) ?_;(with_reducible refine (spec_DevsOk.calls k _ _ l1 true _ ?side1 ?side2 A5.out).mono ?_);(case side1=>repeat (first|exact (Kd.C_below HR1.out HB.out)|(with_reducible refine Kd.C_alloc ?_ _)|(with_reducible refine Kd.C_drewN ?_ _)|(with_reducible refine Kd.C_drew ?_)));(case side2=>exact HC1.out);rintro e w12 ⟨rfl,hb⟩;refine ⟨_,rfl,?_⟩;have n0_:=Aside0.mk (blk_below (g:=gb145) (o:=.cells #[.int .i64 a0_0,.slice A0_1 l0_1.length c0_1] 43 (0,0)) (by (with_reducible repeat (first|refine blk_drewN ?_ _|refine blk_drew ?_|refine blk_alloc ?_ _));exact BK145.out) hb);have n1_:=Aside0.mk (below_step (by repeat (first|(with_reducible first|exact HB.out|apply below_alloc|apply pw_below_drewN|apply below_drew1|refine below_set ?_ GE145.out)|exact HB.out)) hb);clear BK145;clear HB;have BK145:=n0_;have HB:=n1_;clear n0_ n1_;(try clear hb);(try clear hb2);(try clear hk);(try clear hi);have hcz13_0:w12.cell? ⟨gb145,0,none⟩=some (.int .i64 a0_0):=(blk_cell BK145.out 0).trans rfl;have hcz13_1:w12.cell? ⟨gb145,1,none⟩=some (.slice A0_1 l0_1.length c0_1):=(blk_cell BK145.out 1).trans rfl;have hfz13_0:=blk_frozen BK145.out 0;have hfz13_1:=blk_frozen BK145.out 1)|(go_at_call 97;(with_reducible refine (spec_l1In.calls a0_0 1 5 false _ A7.out).mono ?_);rintro e w' ⟨rfl,⟨nd,rfl⟩⟩))
    go_meet
    case rel=>exact ⟨_,(true),(by first|rfl|(simp;done)|(simp [*];done)),H',⟨by first|omega|exact Nat.le_refl _⟩,⟨by (with_reducible repeat (first|refine blk_drewN ?_ _|refine blk_drew ?_|refine blk_alloc ?_ _));exact BK145.out⟩,⟨by repeat (first|(with_reducible first|exact HB.out|apply below_alloc|apply pw_below_drewN|apply below_drew1|refine below_set ?_ GE145.out)|exact HB.out)⟩⟩
  ·replace c6:=Bool.eq_false_iff.mpr c6
   subst c6
   have H1:(spec_RingOk.j0 k l1 true a0_0 l0_1)=some r:=by rw [if_neg (show ¬ (false=true) by decide)] at H;exact H
   clear H
   have H:=H1
   clear H1
   have H':=Aside0.mk H
   clear H
   go_wp2_with (first|((with_reducible refine gate_callee (f:=49) rfl ?_);refine goesL_ (some 10) rfl rfl Try.func49 (by kernel_rfl) rfl #[.slice A1 l1.length c1] rfl (by (try simp only [List.map_toArray,List.map_cons,List.map_nil]);first|done|rfl|(simp only [List.length_drop,List.length_take];rfl)) ?_;(with_reducible refine (spec_DevsOk.calls k _ _ l1 false _ ?side1 ?side2 A5.out).mono ?_);(case side1=>repeat (first|exact (Kd.C_below HR1.out HB.out)|(with_reducible refine Kd.C_alloc ?_ _)|(with_reducible refine Kd.C_drewN ?_ _)|(with_reducible refine Kd.C_drew ?_)));(case side2=>exact HC1.out);rintro e w14 ⟨rfl,hb⟩;refine ⟨_,rfl,?_⟩;have n0_:=Aside0.mk (blk_below (g:=gb145) (o:=.cells #[.int .i64 a0_0,.slice A0_1 l0_1.length c0_1] 43 (0,0)) (by (with_reducible repeat (first|refine blk_drewN ?_ _|refine blk_drew ?_|refine blk_alloc ?_ _));exact BK145.out) hb);have n1_:=Aside0.mk (below_step (by repeat (first|(with_reducible first|exact HB.out|apply below_alloc|apply pw_below_drewN|apply below_drew1|refine below_set ?_ GE145.out)|exact HB.out)) hb);clear BK145;clear HB;have BK145:=n0_;have HB:=n1_;clear n0_ n1_;(try clear hb);(try clear hb2);(try clear hk);(try clear hi)))
   go_meet
   case rel=>exact ⟨_,(true),(by first|rfl|(simp;done)|(simp [*];done)),H',⟨by first|omega|exact Nat.le_refl _⟩,⟨by (with_reducible repeat (first|refine blk_drewN ?_ _|refine blk_drew ?_|refine blk_alloc ?_ _));exact BK145.out⟩,⟨by repeat (first|(with_reducible first|exact HB.out|apply below_alloc|apply pw_below_drewN|apply below_drew1|refine below_set ?_ GE145.out)|exact HB.out)⟩⟩
 case rest=>
  clear HC3
  try clear c1
  try clear p2
  try clear c4
  try clear c6
  try clear c8
  try clear hcz11_0
  try clear hcz11_1
  try clear hcz13_0
  try clear hcz13_1
  try clear hfz11_0
  try clear hfz11_1
  try clear hfz13_0
  try clear hfz13_1
  obtain ⟨kq,x24_2,rfl,HA,HJ2,BK145,HB⟩:=hcut
  cases kq with
  | zero=>exact absurd HA.out (by simp [spec_RingOk.j0])
  | succ kj2=>
   have H:=HA.out
   clear HA
   simp only [spec_RingOk.j0] at H
   by_cases c15:x24_2=true
   ·subst c15
    have H1:(some false)=some r:=by rw [if_pos rfl] at H;exact H
    clear H
    have H:=H1
    clear H1
    obtain rfl:=Option.some.inj H
    go_wp2
    go_ret
    exact ⟨by first|rfl|(simp [errW_none,errW_some] <;> rfl)|(simp [*,errW_none,errW_some] <;> rfl),by repeat (first|(with_reducible first|exact HB.out|apply below_alloc|apply pw_below_drewN|apply below_drew1|refine below_set ?_ GE145.out)|exact HB.out)⟩
   ·replace c15:=Bool.eq_false_iff.mpr c15
    subst c15
    have H1:(spec_RingOk.l0 kj2 l1 0 a0_0 l0_1)=some r:=by rw [if_neg (show ¬ (false=true) by decide)] at H;exact H
    clear H
    have H:=H1
    clear H1
    have H':=Aside0.mk H
    clear H
    go_wp2
    go_loopg [5] kj2 (fun kq v5 w'=>∃ (x5_2:Int),v5 = .int .i64 x5_2∧Aside0 (spec_RingOk.l0 kq l1 x5_2 a0_0 l0_1=some r)∧Aside0 (kq≤kj2)∧Aside0 (w'.heap[gb145]?=some (.cells #[.int .i64 a0_0,(.slice A0_1 l0_1.length c0_1)] 43 (0,0)))∧Aside0 (Below w.heap.size w w'))
    case atStart=>exact ⟨(0),(by first|rfl|(simp;done)|(simp [*];done)),H',⟨Nat.le_refl _⟩,⟨by (with_reducible repeat (first|refine blk_drewN ?_ _|refine blk_drew ?_|refine blk_alloc ?_ _));exact BK145.out⟩,⟨by repeat (first|(with_reducible first|exact HB.out|apply below_alloc|apply pw_below_drewN|apply below_drew1|refine below_set ?_ GE145.out)|exact HB.out)⟩⟩
    case round=>
     clear H'
     try clear c1
     try clear p2
     try clear c4
     try clear c6
     try clear c8
     try clear c15
     try clear hcz11_0
     try clear hcz11_1
     try clear hcz13_0
     try clear hcz13_1
     try clear hfz11_0
     try clear hfz11_1
     try clear hfz13_0
     try clear hfz13_1
     try clear p2
     obtain ⟨x5_2,rfl,HA,HK2,BK145,HB⟩:=hrel
     cases gk with
     | zero=>exact absurd HA.out (by simp [spec_RingOk.l0])
     | succ k2=>
      have H:=HA.out
      clear HA
      simp only [spec_RingOk.l0] at H
      by_cases c16:x5_2 < (l0_1.length:Int)
      ·rw [if_pos c16] at H
       have c16b0:decide (x5_2 < (l0_1.length:Int))=true:=decide_eq_true c16
       clear c16
       by_cases c17:0≤x5_2
       ·rw [if_pos c17] at H
        have c17b0:decide (0≤x5_2)=true:=decide_eq_true c17
        clear c17
        replace H:=Option.bind_eq_some_iff.mp H
        obtain ⟨t150,A180,H⟩:=H
        replace H:(if t150=true then (spec_RingOk.l1 k2 l1 x5_2 0 a0_0 l0_1) else (some false))=some r:=H
        have A18:=Aside0.mk A180
        clear A180
        by_cases c19:t150=true
        ·subst c19
         have H1:(spec_RingOk.l1 k2 l1 x5_2 0 a0_0 l0_1)=some r:=by rw [if_pos rfl] at H;exact H
         clear H
         have H:=H1
         clear H1
         have H':=Aside0.mk H
         clear H
         have hcz20_0:wr.cell? ⟨gb145,0,none⟩=some (.int .i64 a0_0):=(blk_cell BK145.out 0).trans rfl
         have hcz20_1:wr.cell? ⟨gb145,1,none⟩=some (.slice A0_1 l0_1.length c0_1):=(blk_cell BK145.out 1).trans rfl
         have hfz20_0:=blk_frozen BK145.out 0
         have hfz20_1:=blk_frozen BK145.out 1
         try go_wp2
         have n0_:=Aside0.mk (blk_drew BK145.out)
         have n1_:=Aside0.mk (below_drew1 HB.out)
         clear BK145
         clear HB
         have BK145:=n0_
         have HB:=n1_
         clear n0_ n1_
         have p149:0≤(x5_2:Int):=of_decide_eq_true (by first|(with_reducible assumption)|assumption)
         have q149:x5_2 < (l0_1.length:Int):=of_decide_eq_true (by first|(with_reducible assumption)|assumption)
         obtain ⟨ad149,A149_0,c149_0,e149,hx149_0,hl149_0,hi149_0⟩:=at_T29 HR0_1.out x5_2 p149 q149
         have hw149_0:=hx149_0
         cases e149
         replace hx149_0:=(HB.out.cell (World.block_lt_of_cell? w _ hx149_0)).trans hx149_0
         have HR149_0:=Aside0.mk hi149_0
         have HC149_0:=Aside0.mk hl149_0
         clear hi149_0 hl149_0
         replace p149:=eq_true p149
         replace q149:=eq_true q149
         refine start_ (n:=9) (S:=fun w'=>w'.cell? ⟨gb145,0,none⟩=some (.int .i64 a0_0)∧w'.cell? ⟨gb145,1,none⟩=some (.slice (some ad149) l0_1.length c0_1)∧w'.cell? (ad149.add (x5_2).toNat)=some (.slice A149_0 ((rd_T29 l0_1 x5_2).f0).length c149_0)) (ds:=[]) #[false,false,false,false,false,false,false,false,false] (by kernel_rfl) rfl rfl ⟨(blk_cell BK145.out 0).trans rfl,(blk_cell BK145.out 1).trans rfl,((HB.out.cell (World.block_lt_of_cell? w _ hw149_0)).trans hw149_0)⟩ (fun hHeld=>?_);refine with_tabW spec_RingOk.tab6 spec_RingOk.bits6 (fun HT_ HW_=>?_)
         generalize wr.drew=w21 at BK145 HB HR149_0 hx149_0 hHeld ⊢
         refine pure_ (i:=0) (N:=some 32) (v:=?_) (a':=?_) #[true,false,false,false,false,false,false,false,false] rfl rfl (any_of HT_.out (by kernel_rfl)) (fun _ _ _ h=>h) (Or.inl ⟨by rfl,?_⟩) ?_ ?_
         rotate_left
         ·intro w'
          go_simp
          with_reducible rfl
         rotate_left
         ·simp only [Act.put,List.setIfInBounds_toArray,List.set_cons_zero,List.set_cons_succ,i64_w,i32_w]
          rfl
         refine pure_ (i:=2) (N:=some 34) (v:=?_) (a':=?_) #[true,false,true,false,false,false,false,false,false] rfl rfl (any_of HT_.out (by kernel_rfl)) (fun _ _ _ h=>h) (Or.inl ⟨by rfl,?_⟩) ?_ ?_
         rotate_left
         ·intro w'
          go_simp
          with_reducible rfl
         rotate_left
         ·simp only [Act.put,List.setIfInBounds_toArray,List.set_cons_zero,List.set_cons_succ,i64_w,i32_w]
          rfl
         refine pure_ (i:=5) (N:=some 37) (v:=?_) (a':=?_) #[true,false,true,false,false,true,false,false,false] rfl rfl (any_of HT_.out (by kernel_rfl)) (fun _ _ _ h=>h) (Or.inl ⟨by rfl,?_⟩) ?_ ?_
         rotate_left
         ·intro w'
          go_simp
          with_reducible rfl
         rotate_left
         ·simp only [Act.put,List.setIfInBounds_toArray,List.set_cons_zero,List.set_cons_succ,i64_w,i32_w]
          rfl
         refine take_ (i:=1) (N:=some 33) (v:=?_) (a':=?_) #[true,true,true,false,false,true,false,false,false] rfl rfl (take_ofW HT_.out HW_.out (by kernel_rfl)) (fun _ _ _ h=>h) (Or.inl ⟨by rfl,?_⟩) hHeld ?_ ?_
         rotate_left
         ·rintro w' ⟨s0,s1,s2⟩
          go_simp
          with_reducible rfl
         rotate_left
         ·simp only [Act.put,List.setIfInBounds_toArray,List.set_cons_zero,List.set_cons_succ,i64_w,i32_w]
          rfl
         refine pure_ (i:=3) (N:=some 35) (v:=?_) (a':=?_) #[true,true,true,true,false,true,false,false,false] rfl rfl (any_of HT_.out (by kernel_rfl)) (fun _ _ _ h=>h) (Or.inl ⟨by rfl,?_⟩) ?_ ?_
         rotate_left
         ·intro w'
          go_simp
          with_reducible rfl
         rotate_left
         ·simp only [Act.put,List.setIfInBounds_toArray,List.set_cons_zero,List.set_cons_succ,i64_w,i32_w]
          rfl
         refine take_ (i:=4) (N:=some 36) (v:=?_) (a':=?_) #[true,true,true,true,true,true,false,false,false] rfl rfl (take_ofW HT_.out HW_.out (by kernel_rfl)) (fun _ _ _ h=>h) (Or.inl ⟨by rfl,?_⟩) hHeld ?_ ?_
         rotate_left
         ·rintro w' ⟨s0,s1,s2⟩
          go_simp
          with_reducible rfl
         rotate_left
         ·simp only [Act.put,List.setIfInBounds_toArray,List.set_cons_zero,List.set_cons_succ,i64_w,i32_w]
          rfl
         refine take_ (i:=6) (N:=some 38) (v:=?_) (a':=?_) #[true,true,true,true,true,true,true,false,false] rfl rfl (take_ofW HT_.out HW_.out (by kernel_rfl)) (fun _ _ _ h=>h) (Or.inl ⟨by rfl,?_⟩) hHeld ?_ ?_
         rotate_left
         ·rintro w' ⟨s0,s1,s2⟩
          go_simp
          with_reducible rfl
         rotate_left
         ·simp only [Act.put,List.setIfInBounds_toArray,List.set_cons_zero,List.set_cons_succ,i64_w,i32_w]
          rfl
         refine one_ (i:=7) (N:=some 39) #[true,true,true,true,true,true,true,true,false] rfl rfl (one_of HT_.out (by kernel_rfl)) (by decide) (fun K hK=>?_)
         refine goes_ Try.func98 (by kernel_rfl) rfl #[.agg #[.slice A149_0 ((rd_T29 l0_1 x5_2).f0).length c149_0],.int .i64 a0_0] (by rfl) rfl rfl (by (try simp only [List.map_toArray,List.map_cons,List.map_nil]);first|done|rfl|(simp only [List.length_drop,List.length_take];rfl)) ?_
         with_reducible refine (spec_l5Part.calls k2 _ _ ((rd_T29 l0_1 x5_2).f0) a0_0 true _ ?side1 ?side2 A18.out).mono ?_
         (case side1=>repeat (first|exact (Kd.C_below HR149_0.out HB.out)|(with_reducible refine Kd.C_alloc ?_ _)|(with_reducible refine Kd.C_drewN ?_ _)|(with_reducible refine Kd.C_drew ?_)))
         (case side2=>exact HC149_0.out)
         rintro e w22 ⟨rfl,hb⟩
         refine ⟨_,rfl,?_⟩
         have n0_:=Aside0.mk (blk_below (g:=gb145) (o:=.cells #[.int .i64 a0_0,.slice (some ad149) l0_1.length c0_1] 43 (0,0)) (by (with_reducible repeat (first|refine blk_drewN ?_ _|refine blk_drew ?_|refine blk_alloc ?_ _));exact BK145.out) hb)
         have n1_:=Aside0.mk (below_step (by repeat (first|(with_reducible first|exact HB.out|apply below_alloc|apply pw_below_drewN|apply below_drew1|refine below_set ?_ GE145.out)|exact HB.out)) hb)
         clear BK145
         clear HB
         have BK145:=n0_
         have HB:=n1_
         clear n0_ n1_
         (try clear hb)
         (try clear hb2)
         (try clear hk)
         (try clear hi)
         refine hK.out _ _ ⟨(blk_cell BK145.out 0).trans rfl,(blk_cell BK145.out 1).trans rfl,((HB.out.cell (World.block_lt_of_cell? w _ hw149_0)).trans hw149_0)⟩ (fun hHeld=>?_)
         clear hK K
         refine norm_ (a':=?_) ?_ ?_
         rotate_left
         ·show Act.put _ (some 39) _=_
          simp only [Act.put,List.setIfInBounds_toArray,List.set_cons_zero,List.set_cons_succ,i64_w,i32_w]
          rfl
         refine pure_ (i:=8) (N:=some 40) (v:=?_) (a':=?_) #[true,true,true,true,true,true,true,true,true] rfl rfl (any_of HT_.out (by kernel_rfl)) (fun _ _ _ h=>h) (Or.inl ⟨by rfl,?_⟩) ?_ ?_
         rotate_left
         ·intro w'
          go_simp
          with_reducible rfl
         rotate_left
         ·simp only [Act.put,List.setIfInBounds_toArray,List.set_cons_zero,List.set_cons_succ,i64_w,i32_w]
          rfl
         refine done_ (done_of HT_.out (by kernel_rfl)) ?_
         try go_wp2
         go_loopg [6] k2 (fun kq v6 w'=>∃ (x6_3:Int),v6 = .int .i64 x6_3∧Aside0 (spec_RingOk.l1 kq l1 x5_2 x6_3 a0_0 l0_1=some r)∧Aside0 (kq≤k2)∧Aside0 (w'.heap[gb145]?=some (.cells #[.int .i64 a0_0,(.slice (some ad149) l0_1.length c0_1)] 43 (0,0)))∧Aside0 (Below w.heap.size w w'))
         case atStart=>exact ⟨(0),(by first|rfl|(simp;done)|(simp [*];done)),H',⟨Nat.le_refl _⟩,⟨by (with_reducible repeat (first|refine blk_drewN ?_ _|refine blk_drew ?_|refine blk_alloc ?_ _));exact BK145.out⟩,⟨by repeat (first|(with_reducible first|exact HB.out|apply below_alloc|apply pw_below_drewN|apply below_drew1|refine below_set ?_ GE145.out)|exact HB.out)⟩⟩
         case round=>
          clear H'
          try clear c1
          try clear p1
          try clear q1
          try clear hx1
          try clear p2
          try clear c4
          try clear c6
          try clear c8
          try clear c9
          try clear c14
          try clear p14
          try clear q14
          try clear hx14
          try clear c15
          try clear c16
          try clear c16b0
          try clear c17
          try clear c17b0
          try clear c19
          try clear hcz11_0
          try clear hcz11_1
          try clear hcz13_0
          try clear hcz13_1
          try clear hcz20_0
          try clear hcz20_1
          try clear hfz11_0
          try clear hfz11_1
          try clear hfz13_0
          try clear hfz13_1
          try clear hfz20_0
          try clear hfz20_1
          try clear hx149_0
          try clear p149
          try clear p2
          try clear q149
          obtain ⟨x6_3,rfl,HA,HK3,BK145,HB⟩:=hrel
          cases gk with
          | zero=>exact absurd HA.out (by simp [spec_RingOk.l1])
          | succ k3=>
           have H:=HA.out
           clear HA
           simp only [spec_RingOk.l1] at H
           by_cases c23:0≤x5_2
           ·rw [if_pos c23] at H
            have c23b0:decide (0≤x5_2)=true:=decide_eq_true c23
            clear c23
            by_cases c24:x5_2 < (l0_1.length:Int)
            ·rw [if_pos c24] at H
             have c24b0:decide (x5_2 < (l0_1.length:Int))=true:=decide_eq_true c24
             clear c24
             by_cases c25:x6_3 < (((rd_T29 l0_1 x5_2).f0).length:Int)
             ·rw [if_pos c25] at H
              have c25b0:decide (x6_3 < (((rd_T29 l0_1 x5_2).f0).length:Int))=true:=decide_eq_true c25
              clear c25
              by_cases c26:0≤x6_3
              ·rw [if_pos c26] at H
               have c26b0:decide (0≤x6_3)=true:=decide_eq_true c26
               clear c26
               replace H:=Option.bind_eq_some_iff.mp H
               obtain ⟨⟨t154,t155,t156,t157⟩,A270,H⟩:=H
               replace H:(if t157=true then (spec_RingOk.l1 k3 l1 x5_2 (wrap64 (x6_3+1)) a0_0 l0_1) else (some false))=some r:=H
               have A27:=Aside0.mk A270
               clear A270
               by_cases c28:t157=true
               ·subst c28
                have H1:(spec_RingOk.l1 k3 l1 x5_2 (wrap64 (x6_3+1)) a0_0 l0_1)=some r:=by rw [if_pos rfl] at H;exact H
                clear H
                have H:=H1
                clear H1
                have H':=Aside0.mk H
                clear H
                have hcz29_0:wr.cell? ⟨gb145,0,none⟩=some (.int .i64 a0_0):=(blk_cell BK145.out 0).trans rfl
                have hcz29_1:wr.cell? ⟨gb145,1,none⟩=some (.slice (some ad149) l0_1.length c0_1):=(blk_cell BK145.out 1).trans rfl
                have hfz29_0:=blk_frozen BK145.out 0
                have hfz29_1:=blk_frozen BK145.out 1
                have p151:0≤(x5_2:Int):=of_decide_eq_true (by first|(with_reducible assumption)|assumption)
                have q151:x5_2 < (l0_1.length:Int):=of_decide_eq_true (by first|(with_reducible assumption)|assumption)
                obtain ⟨ad151,A151_0,c151_0,e151,hx151_0,hl151_0,hi151_0⟩:=at_T29 HR0_1.out x5_2 p151 q151
                obtain rfl:ad149=ad151:=(by injection e151)
                replace hx151_0:=(HB.out.cell (World.block_lt_of_cell? w _ hx151_0)).trans hx151_0
                have HR151_0:=Aside0.mk hi151_0
                have HC151_0:=Aside0.mk hl151_0
                clear hi151_0 hl151_0
                replace p151:=eq_true p151
                replace q151:=eq_true q151
                have p152:0≤(x5_2:Int):=of_decide_eq_true (by first|(with_reducible assumption)|assumption)
                have q152:x5_2 < (l0_1.length:Int):=of_decide_eq_true (by first|(with_reducible assumption)|assumption)
                obtain ⟨ad152,A152_0,c152_0,e152,hx152_0,hl152_0,hi152_0⟩:=at_T29 HR0_1.out x5_2 p152 q152
                obtain rfl:ad149=ad152:=(by injection e152)
                replace hx152_0:=(HB.out.cell (World.block_lt_of_cell? w _ hx152_0)).trans hx152_0
                have HR152_0:=Aside0.mk hi152_0
                have HC152_0:=Aside0.mk hl152_0
                clear hi152_0 hl152_0
                replace p152:=eq_true p152
                replace q152:=eq_true q152
                have ea_:=Option.some.inj (hx151_0.symm.trans hx152_0)
                injection ea_ with ea_ en_ ec_
                subst ea_
                subst ec_
                clear en_
                have p153:0≤(x6_3:Int):=of_decide_eq_true (by first|(with_reducible assumption)|assumption)
                have q153:x6_3 < (((rd_T29 l0_1 x5_2).f0).length:Int):=of_decide_eq_true (by first|(with_reducible assumption)|assumption)
                obtain ⟨ad153,e153,hx153_0⟩:=Kd.at_int HR152_0.out x6_3 p153 q153
                cases e153
                replace hx153_0:=(HB.out.cell (World.block_lt_of_cell? w _ hx153_0)).trans hx153_0
                replace p153:=eq_true p153
                replace q153:=eq_true q153
                go_wp2_with (first|((with_reducible refine gate_callee (f:=99) rfl ?_);refine goesL_ (some 63) rfl rfl Try.func99 (by kernel_rfl) rfl #[.slice A1 l1.length c1,.int .i64 (rd ((rd_T29 l0_1 x5_2).f0) x6_3)] rfl (by (try simp only [List.map_toArray,List.map_cons,List.map_nil]);first|done|rfl|(simp only [List.length_drop,List.length_take];rfl)) ?_;(with_reducible refine (spec_DevAt.calls k3 _ _ l1 (rd ((rd_T29 l0_1 x5_2).f0) x6_3) t154 t155 t156 true _ ?side1 ?side2 A27.out).mono ?_);(case side1=>repeat (first|exact (Kd.C_below HR1.out HB.out)|(with_reducible refine Kd.C_alloc ?_ _)|(with_reducible refine Kd.C_drewN ?_ _)|(with_reducible refine Kd.C_drew ?_)));(case side2=>exact HC1.out);rintro e w30 ⟨rfl,hb⟩;refine ⟨_,rfl,?_⟩;have n0_:=Aside0.mk (blk_below (g:=gb145) (o:=.cells #[.int .i64 a0_0,.slice (some ad149) l0_1.length c0_1] 43 (0,0)) (by (with_reducible repeat (first|refine blk_drewN ?_ _|refine blk_drew ?_|refine blk_alloc ?_ _));exact BK145.out) hb);have n1_:=Aside0.mk (below_step (by repeat (first|(with_reducible first|exact HB.out|apply below_alloc|apply pw_below_drewN|apply below_drew1|refine below_set ?_ GE145.out)|exact HB.out)) hb);clear BK145;clear HB;have BK145:=n0_;have HB:=n1_;clear n0_ n1_;(try clear hb);(try clear hb2);(try clear hk);(try clear hi))|((with_reducible refine gate_dst (N:=7) rfl ?_);(try (refine gate_guard (by rfl) ?_;dsimp only));refine box_event ?hg (N:=7) ?hd (cs:=#[.int .i64 0,.int .i64 0,.int .i64 0]) (t:=76) ?hr ?_;(case hd=>rfl);(case hg=>rfl);(case hr=>first|(go_simp;done)|(go_simp;rfl));intro gb158 hg w31 hbox hb;have n0_:=Aside0.mk (blk_below (g:=gb145) (o:=.cells #[.int .i64 a0_0,.slice (some ad149) l0_1.length c0_1] 43 (0,0)) (by (with_reducible repeat (first|refine blk_drewN ?_ _|refine blk_drew ?_|refine blk_alloc ?_ _));exact BK145.out) hb);have n1_:=Aside0.mk (below_step (by repeat (first|(with_reducible first|exact HB.out|apply below_alloc|apply pw_below_drewN|apply below_drew1|refine below_set ?_ GE145.out)|exact HB.out)) hb);have n2_:=Aside0.mk (hbox);have n3_:=Aside0.mk ((by rw [hg];exact (below_size (by repeat (first|(with_reducible first|exact HB.out|apply below_alloc|apply pw_below_drewN|apply below_drew1|refine below_set ?_ GE145.out)|exact HB.out))):w.heap.size≤gb158));have n4_:=Aside0.mk ((by rw [hg];exact (below_size (by repeat (first|(with_reducible first|exact HB.out|apply below_alloc|apply pw_below_drewN|apply below_drew1|refine below_set ?_ GE145.out)|exact HB.out))):w.heap.size≤gb158));have n5_:=Aside0.mk ((by rw [hg];exact Nat.ne_of_lt (blk_lt (g:=gb145) (o:=.cells #[.int .i64 a0_0,.slice (some ad149) l0_1.length c0_1] 43 (0,0)) (by (with_reducible repeat (first|refine blk_drewN ?_ _|refine blk_drew ?_|refine blk_alloc ?_ _));exact BK145.out)):gb145 ≠ gb158));have n6_:=Aside0.mk ((by rw [hg];exact Nat.ne_of_gt (blk_lt (g:=gb145) (o:=.cells #[.int .i64 a0_0,.slice (some ad149) l0_1.length c0_1] 43 (0,0)) (by (with_reducible repeat (first|refine blk_drewN ?_ _|refine blk_drew ?_|refine blk_alloc ?_ _));exact BK145.out)):gb158 ≠ gb145));clear BK145;clear HB;have BK145:=n0_;have HB:=n1_;have BK158:=n2_;have GW158:=n3_;have GE158:=n4_;have NB145_158:=n5_;have NB158_145:=n6_;clear n0_ n1_ n2_ n3_ n4_ n5_ n6_;clear hb hbox hg;have hnb32:=NB158_145.out;have hnc32:=NB145_158.out;have hcz33_0:w31.cell? ⟨gb158,0,none⟩=some (.int .i64 0):=(blk_cell BK158.out 0).trans rfl;have hcz33_1:w31.cell? ⟨gb158,1,none⟩=some (.int .i64 0):=(blk_cell BK158.out 1).trans rfl;have hcz33_2:w31.cell? ⟨gb158,2,none⟩=some (.int .i64 0):=(blk_cell BK158.out 2).trans rfl;have hfz33_0:=blk_frozen BK158.out 0;have hfz33_1:=blk_frozen BK158.out 1;have hfz33_2:=blk_frozen BK158.out 2))
                go_roundg k3
                case measure=>have:=HJ2.out;have:=HK2.out;have:=HK3.out;omega
                case rel=>exact ⟨(wrap64 (x6_3+1)),(by first|rfl|(simp;done)|(simp [*];done)),H',⟨by have:=HJ2.out;have:=HK2.out;have:=HK3.out;omega⟩,⟨by (with_reducible repeat (first|refine blk_drewN ?_ _|refine blk_drew ?_|refine blk_alloc ?_ _));refine blk_far ?_ NB145_158.out _;(with_reducible repeat (first|refine blk_drewN ?_ _|refine blk_drew ?_|refine blk_alloc ?_ _));refine blk_far ?_ NB145_158.out _;(with_reducible repeat (first|refine blk_drewN ?_ _|refine blk_drew ?_|refine blk_alloc ?_ _));refine blk_far ?_ NB145_158.out _;(with_reducible repeat (first|refine blk_drewN ?_ _|refine blk_drew ?_|refine blk_alloc ?_ _));exact BK145.out⟩,⟨by repeat (first|(with_reducible first|exact HB.out|apply below_alloc|apply pw_below_drewN|apply below_drew1|refine below_set ?_ GE145.out|refine below_set ?_ GE158.out)|exact HB.out)⟩⟩
               ·replace c28:=Bool.eq_false_iff.mpr c28
                subst c28
                have H1:(some false)=some r:=by rw [if_neg (show ¬ (false=true) by decide)] at H;exact H
                clear H
                have H:=H1
                clear H1
                obtain rfl:=Option.some.inj H
                have hcz34_0:wr.cell? ⟨gb145,0,none⟩=some (.int .i64 a0_0):=(blk_cell BK145.out 0).trans rfl
                have hcz34_1:wr.cell? ⟨gb145,1,none⟩=some (.slice (some ad149) l0_1.length c0_1):=(blk_cell BK145.out 1).trans rfl
                have hfz34_0:=blk_frozen BK145.out 0
                have hfz34_1:=blk_frozen BK145.out 1
                have p151:0≤(x5_2:Int):=of_decide_eq_true (by first|(with_reducible assumption)|assumption)
                have q151:x5_2 < (l0_1.length:Int):=of_decide_eq_true (by first|(with_reducible assumption)|assumption)
                obtain ⟨ad151,A151_0,c151_0,e151,hx151_0,hl151_0,hi151_0⟩:=at_T29 HR0_1.out x5_2 p151 q151
                obtain rfl:ad149=ad151:=(by injection e151)
                replace hx151_0:=(HB.out.cell (World.block_lt_of_cell? w _ hx151_0)).trans hx151_0
                have HR151_0:=Aside0.mk hi151_0
                have HC151_0:=Aside0.mk hl151_0
                clear hi151_0 hl151_0
                replace p151:=eq_true p151
                replace q151:=eq_true q151
                have p152:0≤(x5_2:Int):=of_decide_eq_true (by first|(with_reducible assumption)|assumption)
                have q152:x5_2 < (l0_1.length:Int):=of_decide_eq_true (by first|(with_reducible assumption)|assumption)
                obtain ⟨ad152,A152_0,c152_0,e152,hx152_0,hl152_0,hi152_0⟩:=at_T29 HR0_1.out x5_2 p152 q152
                obtain rfl:ad149=ad152:=(by injection e152)
                replace hx152_0:=(HB.out.cell (World.block_lt_of_cell? w _ hx152_0)).trans hx152_0
                have HR152_0:=Aside0.mk hi152_0
                have HC152_0:=Aside0.mk hl152_0
                clear hi152_0 hl152_0
                replace p152:=eq_true p152
                replace q152:=eq_true q152
                have ea_:=Option.some.inj (hx151_0.symm.trans hx152_0)
                injection ea_ with ea_ en_ ec_
                subst ea_
                subst ec_
                clear en_
                have p153:0≤(x6_3:Int):=of_decide_eq_true (by first|(with_reducible assumption)|assumption)
                have q153:x6_3 < (((rd_T29 l0_1 x5_2).f0).length:Int):=of_decide_eq_true (by first|(with_reducible assumption)|assumption)
                obtain ⟨ad153,e153,hx153_0⟩:=Kd.at_int HR152_0.out x6_3 p153 q153
                cases e153
                replace hx153_0:=(HB.out.cell (World.block_lt_of_cell? w _ hx153_0)).trans hx153_0
                replace p153:=eq_true p153
                replace q153:=eq_true q153
                go_wp2_with (first|((with_reducible refine gate_callee (f:=99) rfl ?_);refine goesL_ (some 63) rfl rfl Try.func99 (by kernel_rfl) rfl #[.slice A1 l1.length c1,.int .i64 (rd ((rd_T29 l0_1 x5_2).f0) x6_3)] rfl (by (try simp only [List.map_toArray,List.map_cons,List.map_nil]);first|done|rfl|(simp only [List.length_drop,List.length_take];rfl)) ?_;(with_reducible refine (spec_DevAt.calls k3 _ _ l1 (rd ((rd_T29 l0_1 x5_2).f0) x6_3) t154 t155 t156 false _ ?side1 ?side2 A27.out).mono ?_);(case side1=>repeat (first|exact (Kd.C_below HR1.out HB.out)|(with_reducible refine Kd.C_alloc ?_ _)|(with_reducible refine Kd.C_drewN ?_ _)|(with_reducible refine Kd.C_drew ?_)));(case side2=>exact HC1.out);rintro e w35 ⟨rfl,hb⟩;refine ⟨_,rfl,?_⟩;have n0_:=Aside0.mk (blk_below (g:=gb145) (o:=.cells #[.int .i64 a0_0,.slice (some ad149) l0_1.length c0_1] 43 (0,0)) (by (with_reducible repeat (first|refine blk_drewN ?_ _|refine blk_drew ?_|refine blk_alloc ?_ _));exact BK145.out) hb);have n1_:=Aside0.mk (below_step (by repeat (first|(with_reducible first|exact HB.out|apply below_alloc|apply pw_below_drewN|apply below_drew1|refine below_set ?_ GE145.out)|exact HB.out)) hb);clear BK145;clear HB;have BK145:=n0_;have HB:=n1_;clear n0_ n1_;(try clear hb);(try clear hb2);(try clear hk);(try clear hi))|((with_reducible refine gate_dst (N:=7) rfl ?_);(try (refine gate_guard (by rfl) ?_;dsimp only));refine box_event ?hg (N:=7) ?hd (cs:=#[.int .i64 0,.int .i64 0,.int .i64 0]) (t:=76) ?hr ?_;(case hd=>rfl);(case hg=>rfl);(case hr=>first|(go_simp;done)|(go_simp;rfl));intro gb158 hg w36 hbox hb;have n0_:=Aside0.mk (blk_below (g:=gb145) (o:=.cells #[.int .i64 a0_0,.slice (some ad149) l0_1.length c0_1] 43 (0,0)) (by (with_reducible repeat (first|refine blk_drewN ?_ _|refine blk_drew ?_|refine blk_alloc ?_ _));exact BK145.out) hb);have n1_:=Aside0.mk (below_step (by repeat (first|(with_reducible first|exact HB.out|apply below_alloc|apply pw_below_drewN|apply below_drew1|refine below_set ?_ GE145.out)|exact HB.out)) hb);have n2_:=Aside0.mk (hbox);have n3_:=Aside0.mk ((by rw [hg];exact (below_size (by repeat (first|(with_reducible first|exact HB.out|apply below_alloc|apply pw_below_drewN|apply below_drew1|refine below_set ?_ GE145.out)|exact HB.out))):w.heap.size≤gb158));have n4_:=Aside0.mk ((by rw [hg];exact (below_size (by repeat (first|(with_reducible first|exact HB.out|apply below_alloc|apply pw_below_drewN|apply below_drew1|refine below_set ?_ GE145.out)|exact HB.out))):w.heap.size≤gb158));have n5_:=Aside0.mk ((by rw [hg];exact Nat.ne_of_lt (blk_lt (g:=gb145) (o:=.cells #[.int .i64 a0_0,.slice (some ad149) l0_1.length c0_1] 43 (0,0)) (by (with_reducible repeat (first|refine blk_drewN ?_ _|refine blk_drew ?_|refine blk_alloc ?_ _));exact BK145.out)):gb145 ≠ gb158));have n6_:=Aside0.mk ((by rw [hg];exact Nat.ne_of_gt (blk_lt (g:=gb145) (o:=.cells #[.int .i64 a0_0,.slice (some ad149) l0_1.length c0_1] 43 (0,0)) (by (with_reducible repeat (first|refine blk_drewN ?_ _|refine blk_drew ?_|refine blk_alloc ?_ _));exact BK145.out)):gb158 ≠ gb145));clear BK145;clear HB;have BK145:=n0_;have HB:=n1_;have BK158:=n2_;have GW158:=n3_;have GE158:=n4_;have NB145_158:=n5_;have NB158_145:=n6_;clear n0_ n1_ n2_ n3_ n4_ n5_ n6_;clear hb hbox hg;have hnb37:=NB158_145.out;have hnc37:=NB145_158.out;have hcz38_0:w36.cell? ⟨gb158,0,none⟩=some (.int .i64 0):=(blk_cell BK158.out 0).trans rfl;have hcz38_1:w36.cell? ⟨gb158,1,none⟩=some (.int .i64 0):=(blk_cell BK158.out 1).trans rfl;have hcz38_2:w36.cell? ⟨gb158,2,none⟩=some (.int .i64 0):=(blk_cell BK158.out 2).trans rfl;have hfz38_0:=blk_frozen BK158.out 0;have hfz38_1:=blk_frozen BK158.out 1;have hfz38_2:=blk_frozen BK158.out 2))
                go_ret
                exact ⟨by first|rfl|(simp [errW_none,errW_some] <;> rfl)|(simp [*,errW_none,errW_some] <;> rfl),by repeat (first|(with_reducible first|exact HB.out|apply below_alloc|apply pw_below_drewN|apply below_drew1|refine below_set ?_ GE145.out|refine below_set ?_ GE158.out)|exact HB.out)⟩
              ·rw [if_neg c26] at H
               exact absurd H (by simp)
             ·rw [if_neg c25] at H
              have c25b0:decide (x6_3 < (((rd_T29 l0_1 x5_2).f0).length:Int))=false:=decide_eq_false c25
              clear c25
              have H':=Aside0.mk H
              clear H
              have hcz39_0:wr.cell? ⟨gb145,0,none⟩=some (.int .i64 a0_0):=(blk_cell BK145.out 0).trans rfl
              have hcz39_1:wr.cell? ⟨gb145,1,none⟩=some (.slice (some ad149) l0_1.length c0_1):=(blk_cell BK145.out 1).trans rfl
              have hfz39_0:=blk_frozen BK145.out 0
              have hfz39_1:=blk_frozen BK145.out 1
              have p151:0≤(x5_2:Int):=of_decide_eq_true (by first|(with_reducible assumption)|assumption)
              have q151:x5_2 < (l0_1.length:Int):=of_decide_eq_true (by first|(with_reducible assumption)|assumption)
              obtain ⟨ad151,A151_0,c151_0,e151,hx151_0,hl151_0,hi151_0⟩:=at_T29 HR0_1.out x5_2 p151 q151
              obtain rfl:ad149=ad151:=(by injection e151)
              replace hx151_0:=(HB.out.cell (World.block_lt_of_cell? w _ hx151_0)).trans hx151_0
              have HR151_0:=Aside0.mk hi151_0
              have HC151_0:=Aside0.mk hl151_0
              clear hi151_0 hl151_0
              replace p151:=eq_true p151
              replace q151:=eq_true q151
              go_wp2
              go_roundg k3
              case measure=>have:=HJ2.out;have:=HK2.out;have:=HK3.out;omega
              case rel=>exact ⟨(wrap64 (x5_2+1)),(by first|rfl|(simp;done)|(simp [*];done)),H',⟨by have:=HJ2.out;have:=HK2.out;have:=HK3.out;omega⟩,⟨by (with_reducible repeat (first|refine blk_drewN ?_ _|refine blk_drew ?_|refine blk_alloc ?_ _));exact BK145.out⟩,⟨by repeat (first|(with_reducible first|exact HB.out|apply below_alloc|apply pw_below_drewN|apply below_drew1|refine below_set ?_ GE145.out)|exact HB.out)⟩⟩
            ·rw [if_neg c24] at H
             exact absurd H (by simp)
           ·rw [if_neg c23] at H
            exact absurd H (by simp)
        ·replace c19:=Bool.eq_false_iff.mpr c19
         subst c19
         have H1:(some false)=some r:=by rw [if_neg (show ¬ (false=true) by decide)] at H;exact H
         clear H
         have H:=H1
         clear H1
         obtain rfl:=Option.some.inj H
         have hcz40_0:wr.cell? ⟨gb145,0,none⟩=some (.int .i64 a0_0):=(blk_cell BK145.out 0).trans rfl
         have hcz40_1:wr.cell? ⟨gb145,1,none⟩=some (.slice A0_1 l0_1.length c0_1):=(blk_cell BK145.out 1).trans rfl
         have hfz40_0:=blk_frozen BK145.out 0
         have hfz40_1:=blk_frozen BK145.out 1
         try go_wp2
         have n0_:=Aside0.mk (blk_drew BK145.out)
         have n1_:=Aside0.mk (below_drew1 HB.out)
         clear BK145
         clear HB
         have BK145:=n0_
         have HB:=n1_
         clear n0_ n1_
         have p149:0≤(x5_2:Int):=of_decide_eq_true (by first|(with_reducible assumption)|assumption)
         have q149:x5_2 < (l0_1.length:Int):=of_decide_eq_true (by first|(with_reducible assumption)|assumption)
         obtain ⟨ad149,A149_0,c149_0,e149,hx149_0,hl149_0,hi149_0⟩:=at_T29 HR0_1.out x5_2 p149 q149
         have hw149_0:=hx149_0
         cases e149
         replace hx149_0:=(HB.out.cell (World.block_lt_of_cell? w _ hx149_0)).trans hx149_0
         have HR149_0:=Aside0.mk hi149_0
         have HC149_0:=Aside0.mk hl149_0
         clear hi149_0 hl149_0
         replace p149:=eq_true p149
         replace q149:=eq_true q149
         refine start_ (n:=9) (S:=fun w'=>w'.cell? ⟨gb145,0,none⟩=some (.int .i64 a0_0)∧w'.cell? ⟨gb145,1,none⟩=some (.slice (some ad149) l0_1.length c0_1)∧w'.cell? (ad149.add (x5_2).toNat)=some (.slice A149_0 ((rd_T29 l0_1 x5_2).f0).length c149_0)) (ds:=[]) #[false,false,false,false,false,false,false,false,false] (by kernel_rfl) rfl rfl ⟨(blk_cell BK145.out 0).trans rfl,(blk_cell BK145.out 1).trans rfl,((HB.out.cell (World.block_lt_of_cell? w _ hw149_0)).trans hw149_0)⟩ (fun hHeld=>?_);refine with_tabW spec_RingOk.tab6 spec_RingOk.bits6 (fun HT_ HW_=>?_)
         generalize wr.drew=w41 at BK145 HB HR149_0 hx149_0 hHeld ⊢
         refine pure_ (i:=0) (N:=some 32) (v:=?_) (a':=?_) #[true,false,false,false,false,false,false,false,false] rfl rfl (any_of HT_.out (by kernel_rfl)) (fun _ _ _ h=>h) (Or.inl ⟨by rfl,?_⟩) ?_ ?_
         rotate_left
         ·intro w'
          go_simp
          with_reducible rfl
         rotate_left
         ·simp only [Act.put,List.setIfInBounds_toArray,List.set_cons_zero,List.set_cons_succ,i64_w,i32_w]
          rfl
         refine pure_ (i:=2) (N:=some 34) (v:=?_) (a':=?_) #[true,false,true,false,false,false,false,false,false] rfl rfl (any_of HT_.out (by kernel_rfl)) (fun _ _ _ h=>h) (Or.inl ⟨by rfl,?_⟩) ?_ ?_
         rotate_left
         ·intro w'
          go_simp
          with_reducible rfl
         rotate_left
         ·simp only [Act.put,List.setIfInBounds_toArray,List.set_cons_zero,List.set_cons_succ,i64_w,i32_w]
          rfl
         refine pure_ (i:=5) (N:=some 37) (v:=?_) (a':=?_) #[true,false,true,false,false,true,false,false,false] rfl rfl (any_of HT_.out (by kernel_rfl)) (fun _ _ _ h=>h) (Or.inl ⟨by rfl,?_⟩) ?_ ?_
         rotate_left
         ·intro w'
          go_simp
          with_reducible rfl
         rotate_left
         ·simp only [Act.put,List.setIfInBounds_toArray,List.set_cons_zero,List.set_cons_succ,i64_w,i32_w]
          rfl
         refine take_ (i:=1) (N:=some 33) (v:=?_) (a':=?_) #[true,true,true,false,false,true,false,false,false] rfl rfl (take_ofW HT_.out HW_.out (by kernel_rfl)) (fun _ _ _ h=>h) (Or.inl ⟨by rfl,?_⟩) hHeld ?_ ?_
         rotate_left
         ·rintro w' ⟨s0,s1,s2⟩
          go_simp
          with_reducible rfl
         rotate_left
         ·simp only [Act.put,List.setIfInBounds_toArray,List.set_cons_zero,List.set_cons_succ,i64_w,i32_w]
          rfl
         refine pure_ (i:=3) (N:=some 35) (v:=?_) (a':=?_) #[true,true,true,true,false,true,false,false,false] rfl rfl (any_of HT_.out (by kernel_rfl)) (fun _ _ _ h=>h) (Or.inl ⟨by rfl,?_⟩) ?_ ?_
         rotate_left
         ·intro w'
          go_simp
          with_reducible rfl
         rotate_left
         ·simp only [Act.put,List.setIfInBounds_toArray,List.set_cons_zero,List.set_cons_succ,i64_w,i32_w]
          rfl
         refine take_ (i:=4) (N:=some 36) (v:=?_) (a':=?_) #[true,true,true,true,true,true,false,false,false] rfl rfl (take_ofW HT_.out HW_.out (by kernel_rfl)) (fun _ _ _ h=>h) (Or.inl ⟨by rfl,?_⟩) hHeld ?_ ?_
         rotate_left
         ·rintro w' ⟨s0,s1,s2⟩
          go_simp
          with_reducible rfl
         rotate_left
         ·simp only [Act.put,List.setIfInBounds_toArray,List.set_cons_zero,List.set_cons_succ,i64_w,i32_w]
          rfl
         refine take_ (i:=6) (N:=some 38) (v:=?_) (a':=?_) #[true,true,true,true,true,true,true,false,false] rfl rfl (take_ofW HT_.out HW_.out (by kernel_rfl)) (fun _ _ _ h=>h) (Or.inl ⟨by rfl,?_⟩) hHeld ?_ ?_
         rotate_left
         ·rintro w' ⟨s0,s1,s2⟩
          go_simp
          with_reducible rfl
         rotate_left
         ·simp only [Act.put,List.setIfInBounds_toArray,List.set_cons_zero,List.set_cons_succ,i64_w,i32_w]
          rfl
         refine one_ (i:=7) (N:=some 39) #[true,true,true,true,true,true,true,true,false] rfl rfl (one_of HT_.out (by kernel_rfl)) (by decide) (fun K hK=>?_)
         refine goes_ Try.func98 (by kernel_rfl) rfl #[.agg #[.slice A149_0 ((rd_T29 l0_1 x5_2).f0).length c149_0],.int .i64 a0_0] (by rfl) rfl rfl (by (try simp only [List.map_toArray,List.map_cons,List.map_nil]);first|done|rfl|(simp only [List.length_drop,List.length_take];rfl)) ?_
         with_reducible refine (spec_l5Part.calls k2 _ _ ((rd_T29 l0_1 x5_2).f0) a0_0 false _ ?side1 ?side2 A18.out).mono ?_
         (case side1=>repeat (first|exact (Kd.C_below HR149_0.out HB.out)|(with_reducible refine Kd.C_alloc ?_ _)|(with_reducible refine Kd.C_drewN ?_ _)|(with_reducible refine Kd.C_drew ?_)))
         (case side2=>exact HC149_0.out)
         rintro e w42 ⟨rfl,hb⟩
         refine ⟨_,rfl,?_⟩
         have n0_:=Aside0.mk (blk_below (g:=gb145) (o:=.cells #[.int .i64 a0_0,.slice (some ad149) l0_1.length c0_1] 43 (0,0)) (by (with_reducible repeat (first|refine blk_drewN ?_ _|refine blk_drew ?_|refine blk_alloc ?_ _));exact BK145.out) hb)
         have n1_:=Aside0.mk (below_step (by repeat (first|(with_reducible first|exact HB.out|apply below_alloc|apply pw_below_drewN|apply below_drew1|refine below_set ?_ GE145.out)|exact HB.out)) hb)
         clear BK145
         clear HB
         have BK145:=n0_
         have HB:=n1_
         clear n0_ n1_
         (try clear hb)
         (try clear hb2)
         (try clear hk)
         (try clear hi)
         refine hK.out _ _ ⟨(blk_cell BK145.out 0).trans rfl,(blk_cell BK145.out 1).trans rfl,((HB.out.cell (World.block_lt_of_cell? w _ hw149_0)).trans hw149_0)⟩ (fun hHeld=>?_)
         clear hK K
         refine norm_ (a':=?_) ?_ ?_
         rotate_left
         ·show Act.put _ (some 39) _=_
          simp only [Act.put,List.setIfInBounds_toArray,List.set_cons_zero,List.set_cons_succ,i64_w,i32_w]
          rfl
         refine pure_ (i:=8) (N:=some 40) (v:=?_) (a':=?_) #[true,true,true,true,true,true,true,true,true] rfl rfl (any_of HT_.out (by kernel_rfl)) (fun _ _ _ h=>h) (Or.inl ⟨by rfl,?_⟩) ?_ ?_
         rotate_left
         ·intro w'
          go_simp
          with_reducible rfl
         rotate_left
         ·simp only [Act.put,List.setIfInBounds_toArray,List.set_cons_zero,List.set_cons_succ,i64_w,i32_w]
          rfl
         refine done_ (done_of HT_.out (by kernel_rfl)) ?_
         try go_wp2
         go_ret
         exact ⟨by first|rfl|(simp [errW_none,errW_some] <;> rfl)|(simp [*,errW_none,errW_some] <;> rfl),by repeat (first|(with_reducible first|exact HB.out|apply below_alloc|apply pw_below_drewN|apply below_drew1|refine below_set ?_ GE145.out)|exact HB.out)⟩
       ·rw [if_neg c17] at H
        exact absurd H (by simp)
      ·rw [if_neg c16] at H
       have c16b0:decide (x5_2 < (l0_1.length:Int))=false:=decide_eq_false c16
       clear c16
       obtain rfl:=Option.some.inj H
       have hcz43_0:wr.cell? ⟨gb145,0,none⟩=some (.int .i64 a0_0):=(blk_cell BK145.out 0).trans rfl
       have hcz43_1:wr.cell? ⟨gb145,1,none⟩=some (.slice A0_1 l0_1.length c0_1):=(blk_cell BK145.out 1).trans rfl
       have hfz43_0:=blk_frozen BK145.out 0
       have hfz43_1:=blk_frozen BK145.out 1
       go_wp2
       go_ret
       exact ⟨by first|rfl|(simp [errW_none,errW_some] <;> rfl)|(simp [*,errW_none,errW_some] <;> rfl),by repeat (first|(with_reducible first|exact HB.out|apply below_alloc|apply pw_below_drewN|apply below_drew1|refine below_set ?_ GE145.out)|exact HB.out)⟩
def laws_big.f (l0:List Int):Option (Bool):=some (decide ((l0.length:Int) > 1048576))
set_option maxHeartbeats 8000000 in
set_option maxRecDepth 100000 in
theorem laws_big.calls (A0:Option Addr) (c0:Nat) (l0:List Int) (r:Bool) (w:World) (hr0:Kd.C (Kd.int .u8) w A0 l0.length l0) (hc0:l0.length≤c0) (h:laws_big.f l0=some r) :
  Calls Try.prog 45 #[.slice A0 l0.length c0] w fun e w'=>e = .returned (.bool r)∧Drawn0 w w':=by
 have HR0:=Aside0.mk hr0
 have HC0:=Aside0.mk hc0
 clear hr0 hc0
 have H:(some (decide ((l0.length:Int) > 1048576)))=some r:=h
 clear h
 obtain rfl:=Option.some.inj H
 go_enter Try.func45,Try.ntmps45
 go_wp2
 go_ret
 exact ⟨by first|rfl|(simp;done)|(simp [*];done),by repeat (first|exact Drawn0.refl _|apply Drawn0.step)⟩
def laws_has.l0:Nat→List Int→Int→Int→Option (Bool)
 | 0,_,_,_=>none
 | k+1,x0,x1,x5=>if x5 < (x0.length:Int) then (if 0≤x5 then (if (rd x0 x5)=x1 then (some true) else (laws_has.l0 k x0 x1 (wrap64 (x5+1)))) else (none)) else (some false)
def laws_has.f (k:Nat) (l0:List Int) (a1:Int):Option (Bool):=laws_has.l0 k l0 a1 0
set_option maxHeartbeats 8000000 in
set_option maxRecDepth 100000 in
theorem laws_has.calls (k:Nat) (A0:Option Addr) (c0:Nat) (l0:List Int) (a1:Int) (r:Bool) (w:World) (hr0:Kd.C (Kd.int .i64) w A0 l0.length l0) (hc0:l0.length≤c0) (h:laws_has.f k l0 a1=some r) :
  Calls Try.prog 51 #[.slice A0 l0.length c0,.int .i64 a1] w fun e w'=>e = .returned (.bool r)∧Drawn0 w w':=by
 have HR0:=Aside0.mk hr0
 have HC0:=Aside0.mk hc0
 clear hr0 hc0
 have H:(laws_has.l0 k l0 a1 0)=some r:=h
 clear h
 have H':=Aside0.mk H
 clear H
 go_enter Try.func51,Try.ntmps51
 go_wp2
 go_loopg [5] k (fun kq v5 w'=>∃ (x5_1:Int),v5 = .int .i64 x5_1∧Aside0 (laws_has.l0 kq l0 a1 x5_1=some r)∧Aside0 (kq≤k)∧Drawn0 w w')
 case atStart=>exact ⟨(0),(by first|rfl|(simp;done)|(simp [*];done)),H',⟨Nat.le_refl _⟩,by repeat (first|exact Drawn0.refl _|apply Drawn0.step)⟩
 case round=>
  clear H'
  try clear p2
  obtain ⟨x5_1,rfl,HA,HK1,⟨m1,rfl⟩⟩:=hrel
  cases gk with
  | zero=>exact absurd HA.out (by simp [laws_has.l0])
  | succ k1=>
   have H:=HA.out
   clear HA
   simp only [laws_has.l0] at H
   by_cases c3:x5_1 < (l0.length:Int)
   ·rw [if_pos c3] at H
    have c3b0:decide (x5_1 < (l0.length:Int))=true:=decide_eq_true c3
    clear c3
    by_cases c4:0≤x5_1
    ·rw [if_pos c4] at H
     have c4b0:decide (0≤x5_1)=true:=decide_eq_true c4
     clear c4
     by_cases c5:(rd l0 x5_1)=a1
     ·rw [if_pos c5] at H
      have c5b0:((rd l0 x5_1) == a1)=true:=beq_iff_eq.mpr c5
      have c5b1:((rd l0 x5_1) != a1)=false:=bne_eq_false_iff_eq.mpr c5
      clear c5
      obtain rfl:=Option.some.inj H
      have p159:0≤(x5_1:Int):=of_decide_eq_true (by first|(with_reducible assumption)|assumption)
      have q159:x5_1 < (l0.length:Int):=of_decide_eq_true (by first|(with_reducible assumption)|assumption)
      obtain ⟨ad159,e159,hx159_0⟩:=Kd.at_int HR0.out x5_1 p159 q159
      cases e159
      replace p159:=eq_true p159
      replace q159:=eq_true q159
      go_wp2
      go_ret
      exact ⟨by first|rfl|(simp;done)|(simp [*];done),by repeat (first|exact Drawn0.refl _|apply Drawn0.step)⟩
     ·rw [if_neg c5] at H
      have c5b0:((rd l0 x5_1) == a1)=false:=beq_eq_false_iff_ne.mpr c5
      have c5b1:((rd l0 x5_1) != a1)=true:=bne_iff_ne.mpr c5
      have H':=Aside0.mk H
      clear H
      have p159:0≤(x5_1:Int):=of_decide_eq_true (by first|(with_reducible assumption)|assumption)
      have q159:x5_1 < (l0.length:Int):=of_decide_eq_true (by first|(with_reducible assumption)|assumption)
      obtain ⟨ad159,e159,hx159_0⟩:=Kd.at_int HR0.out x5_1 p159 q159
      cases e159
      replace p159:=eq_true p159
      replace q159:=eq_true q159
      go_wp2
      go_roundg k1
      case measure=>have:=HK1.out;omega
      case rel=>exact ⟨(wrap64 (x5_1+1)),(by first|rfl|(simp;done)|(simp [*];done)),H',⟨by have:=HK1.out;omega⟩,by repeat (first|exact Drawn0.refl _|apply Drawn0.step)⟩
    ·rw [if_neg c4] at H
     exact absurd H (by simp)
   ·rw [if_neg c3] at H
    have c3b0:decide (x5_1 < (l0.length:Int))=false:=decide_eq_false c3
    clear c3
    obtain rfl:=Option.some.inj H
    go_wp2
    go_ret
    exact ⟨by first|rfl|(simp;done)|(simp [*];done),by repeat (first|exact Drawn0.refl _|apply Drawn0.step)⟩
end Go.Proofs.Ytbhllgifciaepaa.PFnPlaces
