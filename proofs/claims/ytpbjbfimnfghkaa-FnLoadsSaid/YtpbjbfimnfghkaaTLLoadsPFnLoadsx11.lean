/- Trimmed by a program of this session (trim.py). Not trusted: Lean checks it. -/
import Derived.Test.YtpbjbfimnfghkaaTLLoadsPFnLoadsx0
import Derived.Test.YtpbjbfimnfghkaaTLLoadsPFnLoadsx1
import Derived.Test.YtpbjbfimnfghkaaTLLoadsPFnLoadsx2
import Derived.Test.YtpbjbfimnfghkaaTLLoadsPFnLoadsx4
import Derived.Test.YtpbjbfimnfghkaaTLLoadsPFnLoadsx5
import Derived.Test.YtpbjbfimnfghkaaTLLoadsPFnLoadsx10
namespace Go.Proofs.Ytpbjbfimnfghkaa.PFnLoads
open Go.RowKit Go.Proofs.YtpbjbfimnfghkaaW.PrintWords Go.Proofs.YtpbjbfimnfghkaaW.PrintLast Go.Proofs.YtpbjbfimnfghkaaW.PrintMore Go.Proofs.Ytpbjbfimnfghkaa.St
attribute [local go_sem] max2_int min2_int max_two min_two max_three min_three max_four min_four
set_option linter.unusedVariables false
set_option linter.unusedSimpArgs false
def spec_DrawRingOk.f (k:Nat) (l0:List Int):Option (Int × (List (S35)) × (List (S61))):=(spec_l1New.f k l0).bind fun bt387=>((spec_l5Any.f k bt387.1 bt387.2.1 bt387.2.2).bind fun bt391=>(some (bt391.2.1,bt391.2.2.1,bt391.1)))
set_option maxHeartbeats 8000000 in
set_option maxRecDepth 100000 in
theorem spec_DrawRingOk.calls (k:Nat) (A0:Option Addr) (c0:Nat) (l0:List Int) (r1:Int) (r2:List (S35)) (r3:List (S61)) (w:World) (hr0:Kd.C (Kd.int .u8) w A0 l0.length l0) (hc0:l0.length≤c0) (h:spec_DrawRingOk.f k l0=some (r1,r2,r3)) :
  Calls Try.prog 34 #[.slice A0 l0.length c0] w fun e w'=>∃ v1_ v2_:Value,e = .returned (.tuple #[.agg #[.int .i64 r1,v1_],v2_])∧Kd.S k35 35 w' w.heap.size (fun _=>True) v1_ r2∧Kd.R k61 61 w' w.heap.size (fun _=>True) v2_ r3∧Below w.heap.size w w':=by
 have hu26:=Try.underlying26
 have HR0:=Aside0.mk hr0
 have HC0:=Aside0.mk hc0
 clear hr0 hc0
 have HB:=Aside0.mk (Below.refl w.heap.size w)
 have H:((spec_l1New.f k l0).bind fun bt387=>((spec_l5Any.f k bt387.1 bt387.2.1 bt387.2.2).bind fun bt391=>(some (bt391.2.1,bt391.2.2.1,bt391.1))))=some (r1,r2,r3):=h
 clear h
 replace H:=Option.bind_eq_some_iff.mp H
 obtain ⟨⟨t387,t388,t389⟩,A20,H⟩:=H
 try dsimp only at H
 have A2:=Aside0.mk A20
 clear A20
 replace H:=Option.bind_eq_some_iff.mp H
 obtain ⟨⟨t391,t394,t395,t398,t399⟩,A30,H⟩:=H
 try dsimp only at H
 have A3:=Aside0.mk A30
 clear A30
 simp only [Option.some.injEq,Prod.mk.injEq] at H
 obtain ⟨rfl,rfl,rfl⟩:=H
 go_enter Try.func34,Try.ntmps34
 go_wp2_with (first|((with_reducible refine gate_dst (N:=2) rfl ?_);refine box_event ?hg (N:=2) ?hd (cs:=#[.int .i64 0,.slice none 0 0]) (t:=26) ?hr ?_;(case hd=>rfl);(case hg=>rfl);(case hr=>first|(go_simp;done)|(go_simp;rfl));intro gb386 hg w4 hbox hb;have n0_:=bs hb;have n1_:=Aside0.mk (hbox);have n2_:=Aside0.mk ((by rw [hg];exact (below_size be):w.heap.size≤gb386));have n3_:=Aside0.mk ((by rw [hg];exact (below_size be):w.heap.size≤gb386));clear HB;have HB:=n0_;have BK386:=n1_;have GW386:=n2_;have GE386:=n3_;clear n0_ n1_ n2_ n3_;clear hb hbox hg)|((with_reducible refine gate_callee (f:=36) rfl ?_);refine goesL_ (some 8) rfl rfl Try.func36 (by kernel_rfl) rfl #[.slice A0 l0.length c0] rfl (by (try simp only [List.map_toArray,List.map_cons,List.map_nil]);first|done|rfl|(simp only [List.length_drop,List.length_take];rfl)) ?_;(with_reducible refine (spec_l1New.calls k _ _ l0 t387 t388 t389 w _ ?side1 ?side2 ?side3 A2.out).mono ?_);(case side1=>exact be);(case side2=>exact HR0.out);(case side3=>exact HC0.out);rintro e w5 ⟨g390,rfl,hi,hb,hb2⟩;refine ⟨_,rfl,?_⟩;have n0_:=Aside0.mk (blk_below (g:=gb386) (o:=.cells #[.int .i64 0,.slice none 0 0] 26 (0,0)) (bk BK386) hb2);have n1_:=Aside0.mk (hb);have n2_:=Aside0.mk (hi);have n3_:=Aside0.mk (IsS93.ne_blk hi (blk_below (g:=gb386) (o:=.cells #[.int .i64 0,.slice none 0 0] 26 (0,0)) (bk BK386) hb2) (by decide));have n4_:=Aside0.mk (Ne.symm (IsS93.ne_blk hi (blk_below (g:=gb386) (o:=.cells #[.int .i64 0,.slice none 0 0] 26 (0,0)) (bk BK386) hb2) (by decide)));clear BK386;clear HB;have BK386:=n0_;have HB:=n1_;have HI390:=n2_;have NB390_386:=n3_;have NB386_390:=n4_;clear n0_ n1_ n2_ n3_ n4_;(try clear hb);(try clear hb2);(try clear hk);(try clear hi))|((with_reducible refine gate_callee (f:=39) rfl ?_);refine goesL_ (some 11) rfl rfl Try.func39 (by kernel_rfl) rfl #[.pointer (some ⟨g390,0,none⟩)] rfl (by (try simp only [List.map_toArray,List.map_cons,List.map_nil]);first|done|rfl|(simp only [List.length_drop,List.length_take];rfl)) ?_;(with_reducible refine (spec_l5Any.calls k g390 t387 t388 t389 t391 t394 t395 t398 t399 w _ ?side1 ?side2 A3.out).mono ?_);(case side1=>repeat (first|(with_reducible first|exact HI390.out|apply IsS93.alloc|apply IsS93.drewN|apply IsS93.drew|apply IsS93.set_1|apply IsS93.set_2|refine IsS93.far ?_ NB390_386.out _)|exact HI390.out));(case side2=>repeat (first|(with_reducible first|exact HB.out|apply below_alloc|apply pw_below_drewN|apply below_drew1|refine below_set ?_ (IsS93.ge HI390.out)|refine below_set ?_ GE386.out)|exact HB.out));rintro e w6 ⟨v392,v396,rfl,ho0,ho1,hi,hb,hk⟩;refine ⟨_,rfl,?_⟩;have n0_:=Aside0.mk (KeepBut.blk hk (g':=gb386) (o:=.cells #[.int .i64 0,.slice none 0 0] 26 (0,0)) (bk BK386) NB386_390.out (by simp));have n1_:=Aside0.mk (Kd.R_lower ho0 (below_size (by repeat (first|(with_reducible first|exact HB.out|apply below_alloc|apply pw_below_drewN|apply below_drew1|refine below_set ?_ (IsS93.ge HI390.out)|refine below_set ?_ GE386.out)|exact HB.out))));have n2_:=Aside0.mk (Kd.S_lower ho1 (below_size (by repeat (first|(with_reducible first|exact HB.out|apply below_alloc|apply pw_below_drewN|apply below_drew1|refine below_set ?_ (IsS93.ge HI390.out)|refine below_set ?_ GE386.out)|exact HB.out))));have n3_:=Aside0.mk (hb);have n4_:=Aside0.mk (hi);clear BK386;clear HB;clear HI390;have BK386:=n0_;have HO393:=n1_;have HO397:=n2_;have HB:=n3_;have HI390:=n4_;clear n0_ n1_ n2_ n3_ n4_;(try clear hb);(try clear hb2);(try clear hk);(try clear hi);(try clear ho0);(try clear ho1))|((with_reducible refine gate_dst (N:=6) rfl ?_);refine box_event ?hg (N:=6) ?hd (cs:=#[.int .i64 0,.slice none 0 0]) (t:=26) ?hr ?_;(case hd=>rfl);(case hg=>rfl);(case hr=>first|(go_simp;done)|(go_simp;rfl));intro gb400 hg w7 hbox hb;have n0_:=Aside0.mk (Kd.R_below (rR HO393) hb);have n1_:=Aside0.mk (Kd.S_below (rS HO397) hb);have n2_:=Aside0.mk (blk_below (g:=gb386) (o:=.cells #[.int .i64 0,.slice none 0 0] 26 (0,0)) (bk BK386) hb);have n3_:=Aside0.mk (IsS93.below (by repeat (first|(with_reducible first|exact HI390.out|apply IsS93.alloc|apply IsS93.drewN|apply IsS93.drew|apply IsS93.set_1|apply IsS93.set_2|refine IsS93.far ?_ NB390_386.out _)|exact HI390.out)) hb);have n4_:=Aside0.mk (below_step (by repeat (first|(with_reducible first|exact HB.out|apply below_alloc|apply pw_below_drewN|apply below_drew1|refine below_set ?_ (IsS93.ge HI390.out)|refine below_set ?_ GE386.out)|exact HB.out)) hb);have n5_:=Aside0.mk (hbox);have n6_:=Aside0.mk ((by rw [hg];exact (below_size (by repeat (first|(with_reducible first|exact HB.out|apply below_alloc|apply pw_below_drewN|apply below_drew1|refine below_set ?_ (IsS93.ge HI390.out)|refine below_set ?_ GE386.out)|exact HB.out))):w.heap.size≤gb400));have n7_:=Aside0.mk ((by rw [hg];exact (below_size (by repeat (first|(with_reducible first|exact HB.out|apply below_alloc|apply pw_below_drewN|apply below_drew1|refine below_set ?_ (IsS93.ge HI390.out)|refine below_set ?_ GE386.out)|exact HB.out))):w.heap.size≤gb400));have n8_:=Aside0.mk ((by rw [hg];exact Nat.ne_of_lt (blk_lt (g:=gb386) (o:=.cells #[.int .i64 0,.slice none 0 0] 26 (0,0)) (bk BK386)):gb386 ≠ gb400));have n9_:=Aside0.mk ((by rw [hg];exact Nat.ne_of_gt (blk_lt (g:=gb386) (o:=.cells #[.int .i64 0,.slice none 0 0] 26 (0,0)) (bk BK386)):gb400 ≠ gb386));have n10_:=Aside0.mk ((by rw [hg];exact Nat.ne_of_lt (IsS93.lt (show IsS93 w _ g390 t387 t398 t399 from by repeat (first|(with_reducible first|exact HI390.out|apply IsS93.alloc|apply IsS93.drewN|apply IsS93.drew|apply IsS93.set_1|apply IsS93.set_2|refine IsS93.far ?_ NB390_386.out _)|exact HI390.out))):g390 ≠ gb400));have n11_:=Aside0.mk ((by rw [hg];exact Nat.ne_of_gt (IsS93.lt (show IsS93 w _ g390 t387 t398 t399 from by repeat (first|(with_reducible first|exact HI390.out|apply IsS93.alloc|apply IsS93.drewN|apply IsS93.drew|apply IsS93.set_1|apply IsS93.set_2|refine IsS93.far ?_ NB390_386.out _)|exact HI390.out))):gb400 ≠ g390));clear HO393;clear HO397;clear BK386;clear HI390;clear HB;have HO393:=n0_;have HO397:=n1_;have BK386:=n2_;have HI390:=n3_;have HB:=n4_;have BK400:=n5_;have GW400:=n6_;have GE400:=n7_;have NB386_400:=n8_;have NB400_386:=n9_;have NB390_400:=n10_;have NB400_390:=n11_;clear n0_ n1_ n2_ n3_ n4_ n5_ n6_ n7_ n8_ n9_ n10_ n11_;clear hb hbox hg;have hnb8:=NB400_386.out;have hnc8:=NB386_400.out;have hnb9:=NB400_390.out;have hnc9:=NB390_400.out;have hcz10_0:w7.cell? ⟨gb400,0,none⟩=some (.int .i64 0):=(blk_cell BK400.out 0).trans rfl;have hcz10_1:w7.cell? ⟨gb400,1,none⟩=some (.slice none 0 0):=(blk_cell BK400.out 1).trans rfl;have hfz10_0:=blk_frozen BK400.out 0;have hfz10_1:=blk_frozen BK400.out 1;obtain ⟨Ao11,co11,eo11⟩:=Kd.S_slice HO397.out;subst eo11;have hnb12:=NB386_390.out;have hnc12:=NB390_386.out;have hcz13_0:w7.cell? ⟨gb386,0,none⟩=some (.int .i64 0):=(blk_cell BK386.out 0).trans rfl;have hcz13_1:w7.cell? ⟨gb386,1,none⟩=some (.slice none 0 0):=(blk_cell BK386.out 1).trans rfl;have hfz13_0:=blk_frozen BK386.out 0;have hfz13_1:=blk_frozen BK386.out 1))
 refine bodyPost_ret (results_ct rfl _ _ gb386 26 #[.int .i64 t394,.slice Ao11 t395.length co11] (0,0) _ rfl (by (with_reducible repeat (first|refine blk_drewN ?_ _|refine blk_drew ?_|refine blk_alloc ?_ _));refine blk_put (cs:=#[.int .i64 t394,.slice none 0 0]) ?_ 1 _ rfl;(with_reducible repeat (first|refine blk_drewN ?_ _|refine blk_drew ?_|refine blk_alloc ?_ _));refine blk_put (cs:=#[.int .i64 0,.slice none 0 0]) ?_ 0 _ rfl;(with_reducible repeat (first|refine blk_drewN ?_ _|refine blk_drew ?_|refine blk_alloc ?_ _));refine blk_far ?_ NB386_400.out _;(with_reducible repeat (first|refine blk_drewN ?_ _|refine blk_drew ?_|refine blk_alloc ?_ _));refine blk_far ?_ NB386_400.out _;(with_reducible repeat (first|refine blk_drewN ?_ _|refine blk_drew ?_|refine blk_alloc ?_ _));exact BK386.out) Try.underlying26 rfl (by kernel_rfl)) rfl ?_
 exact ⟨_,_,rz,by (with_reducible repeat (first|apply Kd.S_alloc|apply Kd.S_drewN|apply Kd.S_drew));exact Kd.S_mono (Kd.S_far (p:=⟨gb386,1,none⟩) (Kd.S_far (p:=⟨gb386,0,none⟩) (Kd.S_far (p:=⟨gb400,1,none⟩) (Kd.S_far (p:=⟨gb400,0,none⟩) (Kd.S_types (Kd.S_types HO397.out BK400.out (by decide)) BK386.out (by decide)) (fun _ hk=>hk.1.2) (.int .i64 t394)) (fun _ hk=>hk.1.2) (.slice Ao11 t395.length co11)) (fun _ hk=>hk.2) (.int .i64 t394)) (fun _ hk=>hk.2) (.slice Ao11 t395.length co11)) (fun _ hk=>trivial),by (with_reducible repeat (first|apply Kd.R_alloc|apply Kd.R_drewN|apply Kd.R_drew));exact Kd.R_mono (Kd.R_far (p:=⟨gb386,1,none⟩) (Kd.R_far (p:=⟨gb386,0,none⟩) (Kd.R_far (p:=⟨gb400,1,none⟩) (Kd.R_far (p:=⟨gb400,0,none⟩) (Kd.R_types (Kd.R_types HO393.out BK400.out (by decide)) BK386.out (by decide)) (fun _ hk=>hk.1.2) (.int .i64 t394)) (fun _ hk=>hk.1.2) (.slice Ao11 t395.length co11)) (fun _ hk=>hk.2) (.int .i64 t394)) (fun _ hk=>hk.2) (.slice Ao11 t395.length co11)) (fun _ hk=>trivial),by repeat (first|(with_reducible first|exact HB.out|apply below_alloc|apply pw_below_drewN|apply below_drew1|refine below_set ?_ (IsS93.ge HI390.out)|refine below_set ?_ GE386.out|refine below_set ?_ GE400.out)|exact HB.out)⟩
mutual
def impl_LoadOf.l0:Nat→Int→Int→List (S35)→Int→Int→Option (Int)
 | 0,_,_,_,_,_=>none
 | k+1,x1,x5,x11,x12,x13=>if x13 < x12 then (if 0≤x13 then (if x13 < (x11.length:Int) then (impl_LoadOf.l1 k x1 x5 x11 x12 x13 ((rd_T35 x11 x13).f0) (((rd_T35 x11 x13).f0).length:Int) 0) else (none)) else (none)) else (some x5)
def impl_LoadOf.l1:Nat→Int→Int→List (S35)→Int→Int→List Int→Int→Int→Option (Int)
 | 0,_,_,_,_,_,_,_,_=>none
 | k+1,x1,x5,x11,x12,x13,x18,x19,x20=>if x20 < x19 then (if 0≤x20 then (if x20 < (x18.length:Int) then (if (rd x18 x20)=x1 then (impl_LoadOf.l1 k x1 (wrap64 (x5+1)) x11 x12 x13 x18 x19 (wrap64 (x20+1))) else (impl_LoadOf.l1 k x1 x5 x11 x12 x13 x18 x19 (wrap64 (x20+1)))) else (none)) else (none)) else (impl_LoadOf.l0 k x1 x5 x11 x12 (wrap64 (x13+1)))
end
def impl_LoadOf.f (k:Nat) (a0_0:Int) (l0_1:List (S35)) (a1:Int):Option (Int):=impl_LoadOf.l0 k a1 0 l0_1 (l0_1.length:Int) 0
set_option maxHeartbeats 8000000 in
set_option maxRecDepth 100000 in
theorem impl_LoadOf.calls (k:Nat) (a0_0:Int) (A0_1:Option Addr) (c0_1:Nat) (l0_1:List (S35)) (a1:Int) (r:Int) (w:World) (hr0_1:Kd.C k35 w A0_1 l0_1.length l0_1) (hc0_1:l0_1.length≤c0_1) (h:impl_LoadOf.f k a0_0 l0_1 a1=some r) :
  Calls Try.prog 35 #[.agg #[.int .i64 a0_0,.slice A0_1 l0_1.length c0_1],.int .i64 a1] w fun e w'=>e = .returned (.int .i64 r)∧Below w.heap.size w w':=by
 have hu26:=Try.underlying26
 have hu35:=Try.underlying35
 have HR0_1:=Aside0.mk hr0_1
 have HC0_1:=Aside0.mk hc0_1
 clear hr0_1 hc0_1
 have HB:=Aside0.mk (Below.refl w.heap.size w)
 have H:(impl_LoadOf.l0 k a1 0 l0_1 (l0_1.length:Int) 0)=some r:=h
 clear h
 have H':=Aside0.mk H
 clear H
 go_enter Try.func35,Try.ntmps35
 go_wp2_with (first|((with_reducible refine gate_dst (N:=2) rfl ?_);refine box_event ?hg (N:=2) ?hd (cs:=#[.int .i64 a0_0,.slice A0_1 l0_1.length c0_1]) (t:=26) ?hr ?_;(case hd=>rfl);(case hg=>rfl);(case hr=>first|(go_simp;done)|(go_simp;rfl));intro gb401 hg w3 hbox hb;have n0_:=bs hb;have n1_:=Aside0.mk (hbox);have n2_:=Aside0.mk ((by rw [hg];exact (below_size be):w.heap.size≤gb401));have n3_:=Aside0.mk ((by rw [hg];exact (below_size be):w.heap.size≤gb401));clear HB;have HB:=n0_;have BK401:=n1_;have GW401:=n2_;have GE401:=n3_;clear n0_ n1_ n2_ n3_;clear hb hbox hg;have hcz4_0:w3.cell? ⟨gb401,0,none⟩=some (.int .i64 a0_0):=(blk_cell BK401.out 0).trans rfl;have hcz4_1:w3.cell? ⟨gb401,1,none⟩=some (.slice A0_1 l0_1.length c0_1):=(blk_cell BK401.out 1).trans rfl;have hfz4_0:=blk_frozen BK401.out 0;have hfz4_1:=blk_frozen BK401.out 1))
 go_loopg [5,13] k (fun kq v5 v13 w'=>∃ (x5_1:Int) (x13_1:Int),v5 = .int .i64 x5_1∧v13 = .int .i64 x13_1∧Aside0 (impl_LoadOf.l0 kq a1 x5_1 l0_1 (l0_1.length:Int) x13_1=some r)∧Aside0 (kq≤k)∧Aside0 (w'.heap[gb401]?=some (.cells #[.int .i64 a0_0,(.slice A0_1 l0_1.length c0_1)] 26 (0,0)))∧Aside0 (Below w.heap.size w w'))
 case atStart=>exact ⟨(0),(0),rd_,rd_,H',⟨Nat.le_refl _⟩,⟨bk BK401⟩,⟨be⟩⟩
 case round=>
  clear H'
  try clear p2
  try clear c3
  try clear hcz4_0
  try clear hcz4_1
  try clear hfz4_0
  try clear hfz4_1
  obtain ⟨x5_1,x13_1,rfl,rfl,HA,HK1,BK401,HB⟩:=hrel
  cases gk with
  | zero=>exact absurd HA.out (by simp [impl_LoadOf.l0])
  | succ k1=>
   have H:=HA.out
   clear HA
   simp only [impl_LoadOf.l0] at H
   by_cases c5:x13_1 < (l0_1.length:Int)
   ·rw [if_pos c5] at H
    have c5b0:decide (x13_1 < (l0_1.length:Int))=true:=decide_eq_true c5
    clear c5
    by_cases c6:0≤x13_1
    ·rw [if_pos c6] at H
     have c6b0:decide (0≤x13_1)=true:=decide_eq_true c6
     clear c6
     by_cases c7:x13_1 < (l0_1.length:Int)
     ·rw [if_pos c7] at H
      have c7b0:decide (x13_1 < (l0_1.length:Int))=true:=decide_eq_true c7
      clear c7
      have H':=Aside0.mk H
      clear H
      have p402:0≤(x13_1:Int):=of_decide_eq_true (by first|(with_reducible assumption)|assumption)
      have q402:x13_1 < (l0_1.length:Int):=of_decide_eq_true (by first|(with_reducible assumption)|assumption)
      obtain ⟨ad402,A402_0,c402_0,e402,hx402_0,hl402_0,hi402_0⟩:=at_T35 HR0_1.out x13_1 p402 q402
      cases e402
      replace hx402_0:=(HB.out.cell (World.block_lt_of_cell? w _ hx402_0)).trans hx402_0
      have HR402_0:=Aside0.mk hi402_0
      have HC402_0:=Aside0.mk hl402_0
      clear hi402_0 hl402_0
      replace p402:=eq_true p402
      replace q402:=eq_true q402
      go_wp2_with (first|((with_reducible refine gate_dst (N:=7) rfl ?_);refine box_event ?hg (N:=7) ?hd (cs:=#[.slice none 0 0]) (t:=35) ?hr ?_;(case hd=>rfl);(case hg=>rfl);(case hr=>first|(go_simp;done)|(go_simp;rfl));intro gb403 hg w8 hbox hb;have n0_:=Aside0.mk (blk_below (g:=gb401) (o:=.cells #[.int .i64 a0_0,.slice (some ad402) l0_1.length c0_1] 26 (0,0)) (bk BK401) hb);have n1_:=bs hb;have n2_:=Aside0.mk (hbox);have n3_:=Aside0.mk ((by rw [hg];exact (below_size be):w.heap.size≤gb403));have n4_:=Aside0.mk ((by rw [hg];exact (below_size be):w.heap.size≤gb403));have n5_:=Aside0.mk ((by rw [hg];exact Nat.ne_of_lt (blk_lt (g:=gb401) (o:=.cells #[.int .i64 a0_0,.slice (some ad402) l0_1.length c0_1] 26 (0,0)) (bk BK401)):gb401 ≠ gb403));have n6_:=Aside0.mk ((by rw [hg];exact Nat.ne_of_gt (blk_lt (g:=gb401) (o:=.cells #[.int .i64 a0_0,.slice (some ad402) l0_1.length c0_1] 26 (0,0)) (bk BK401)):gb403 ≠ gb401));clear BK401;clear HB;have BK401:=n0_;have HB:=n1_;have BK403:=n2_;have GW403:=n3_;have GE403:=n4_;have NB401_403:=n5_;have NB403_401:=n6_;clear n0_ n1_ n2_ n3_ n4_ n5_ n6_;clear hb hbox hg;have hnb9:=NB403_401.out;have hnc9:=NB401_403.out;have hcz10_0:w8.cell? ⟨gb403,0,none⟩=some (.slice none 0 0):=(blk_cell BK403.out 0).trans rfl;have hfz10_0:=blk_frozen BK403.out 0))
      go_loopg [5,20] k1 (fun kq v5 v20 w'=>∃ (x5_2:Int) (x20_2:Int),v5 = .int .i64 x5_2∧v20 = .int .i64 x20_2∧Aside0 (impl_LoadOf.l1 kq a1 x5_2 l0_1 (l0_1.length:Int) x13_1 ((rd_T35 l0_1 x13_1).f0) (((rd_T35 l0_1 x13_1).f0).length:Int) x20_2=some r)∧Aside0 (kq≤k1)∧Aside0 (w'.heap[gb401]?=some (.cells #[.int .i64 a0_0,(.slice (some ad402) l0_1.length c0_1)] 26 (0,0)))∧Aside0 (w'.heap[gb403]?=some (.cells #[(.slice A402_0 ((rd_T35 l0_1 x13_1).f0).length c402_0)] 35 (0,0)))∧Aside0 (Below w.heap.size w w'))
      case atStart=>exact ⟨(x5_1),(0),rd_,rd_,H',⟨Nat.le_refl _⟩,⟨by (with_reducible repeat (first|refine blk_drewN ?_ _|refine blk_drew ?_|refine blk_alloc ?_ _));refine blk_far ?_ NB401_403.out _;(with_reducible repeat (first|refine blk_drewN ?_ _|refine blk_drew ?_|refine blk_alloc ?_ _));exact BK401.out⟩,⟨by (with_reducible repeat (first|refine blk_drewN ?_ _|refine blk_drew ?_|refine blk_alloc ?_ _));refine blk_put (cs:=#[.slice none 0 0]) ?_ 0 _ rfl;(with_reducible repeat (first|refine blk_drewN ?_ _|refine blk_drew ?_|refine blk_alloc ?_ _));exact BK403.out⟩,⟨be⟩⟩
      case round=>
       clear H'
       try clear p2
       try clear c3
       try clear c4
       try clear p4
       try clear q4
       try clear hx4
       try clear c5
       try clear c5b0
       try clear c6
       try clear c6b0
       try clear c7
       try clear c7b0
       try clear c9
       try clear hcz10_0
       try clear hcz4_0
       try clear hcz4_1
       try clear hfz10_0
       try clear hfz4_0
       try clear hfz4_1
       try clear hx402_0
       try clear p2
       try clear p402
       try clear q402
       obtain ⟨x5_2,x20_2,rfl,rfl,HA,HK2,BK401,BK403,HB⟩:=hrel
       cases gk with
       | zero=>exact absurd HA.out (by simp [impl_LoadOf.l1])
       | succ k2=>
        have H:=HA.out
        clear HA
        simp only [impl_LoadOf.l1] at H
        by_cases c11:x20_2 < (((rd_T35 l0_1 x13_1).f0).length:Int)
        ·rw [if_pos c11] at H
         have c11b0:decide (x20_2 < (((rd_T35 l0_1 x13_1).f0).length:Int))=true:=decide_eq_true c11
         clear c11
         by_cases c12:0≤x20_2
         ·rw [if_pos c12] at H
          have c12b0:decide (0≤x20_2)=true:=decide_eq_true c12
          clear c12
          by_cases c13:x20_2 < (((rd_T35 l0_1 x13_1).f0).length:Int)
          ·rw [if_pos c13] at H
           have c13b0:decide (x20_2 < (((rd_T35 l0_1 x13_1).f0).length:Int))=true:=decide_eq_true c13
           clear c13
           by_cases c14:(rd ((rd_T35 l0_1 x13_1).f0) x20_2)=a1
           ·rw [if_pos c14] at H
            have c14b0:((rd ((rd_T35 l0_1 x13_1).f0) x20_2) == a1)=true:=beq_iff_eq.mpr c14
            have c14b1:((rd ((rd_T35 l0_1 x13_1).f0) x20_2) != a1)=false:=bne_eq_false_iff_eq.mpr c14
            clear c14
            have H':=Aside0.mk H
            clear H
            have p404:0≤(x20_2:Int):=of_decide_eq_true (by first|(with_reducible assumption)|assumption)
            have q404:x20_2 < (((rd_T35 l0_1 x13_1).f0).length:Int):=of_decide_eq_true (by first|(with_reducible assumption)|assumption)
            obtain ⟨ad404,e404,hx404_0⟩:=Kd.at_int HR402_0.out x20_2 p404 q404
            cases e404
            replace hx404_0:=(HB.out.cell (World.block_lt_of_cell? w _ hx404_0)).trans hx404_0
            replace p404:=eq_true p404
            replace q404:=eq_true q404
            go_wp2
            go_roundg k2
            case measure=>have:=HK1.out;have:=HK2.out;omega
            case rel=>exact ⟨(wrap64 (x5_2+1)),(wrap64 (x20_2+1)),rd_,rd_,H',⟨by have:=HK1.out;have:=HK2.out;omega⟩,⟨bk BK401⟩,⟨bk BK403⟩,⟨be⟩⟩
           ·rw [if_neg c14] at H
            have c14b0:((rd ((rd_T35 l0_1 x13_1).f0) x20_2) == a1)=false:=beq_eq_false_iff_ne.mpr c14
            have c14b1:((rd ((rd_T35 l0_1 x13_1).f0) x20_2) != a1)=true:=bne_iff_ne.mpr c14
            have H':=Aside0.mk H
            clear H
            have p404:0≤(x20_2:Int):=of_decide_eq_true (by first|(with_reducible assumption)|assumption)
            have q404:x20_2 < (((rd_T35 l0_1 x13_1).f0).length:Int):=of_decide_eq_true (by first|(with_reducible assumption)|assumption)
            obtain ⟨ad404,e404,hx404_0⟩:=Kd.at_int HR402_0.out x20_2 p404 q404
            cases e404
            replace hx404_0:=(HB.out.cell (World.block_lt_of_cell? w _ hx404_0)).trans hx404_0
            replace p404:=eq_true p404
            replace q404:=eq_true q404
            go_wp2
            go_roundg k2
            case measure=>have:=HK1.out;have:=HK2.out;omega
            case rel=>exact ⟨(x5_2),(wrap64 (x20_2+1)),rd_,rd_,H',⟨by have:=HK1.out;have:=HK2.out;omega⟩,⟨bk BK401⟩,⟨bk BK403⟩,⟨be⟩⟩
          ·rw [if_neg c13] at H
           exact absurd H (by simp)
         ·rw [if_neg c12] at H
          exact absurd H (by simp)
        ·rw [if_neg c11] at H
         have c11b0:decide (x20_2 < (((rd_T35 l0_1 x13_1).f0).length:Int))=false:=decide_eq_false c11
         clear c11
         have H':=Aside0.mk H
         clear H
         go_wp2
         go_roundg k2
         case measure=>have:=HK1.out;have:=HK2.out;omega
         case rel=>exact ⟨(x5_2),(wrap64 (x13_1+1)),rd_,rd_,H',⟨by have:=HK1.out;have:=HK2.out;omega⟩,⟨bk BK401⟩,⟨be⟩⟩
     ·rw [if_neg c7] at H
      exact absurd H (by simp)
    ·rw [if_neg c6] at H
     exact absurd H (by simp)
   ·rw [if_neg c5] at H
    have c5b0:decide (x13_1 < (l0_1.length:Int))=false:=decide_eq_false c5
    clear c5
    obtain rfl:=Option.some.inj H
    go_wp2
    go_ret
    exact ⟨rz,be⟩
mutual
def laws_FnLoads.j0:Nat→List (S61)→Bool→Bool→Int→List (S35)→Option (Bool)
 | 0,_,_,_,_,_=>none
 | k+1,x4,x5,x28,x414000,x414001=>if x28=true then ((spec_RingOk.f k x414000 x414001 x4).bind fun t416=>(some (x5 == t416))) else (laws_FnLoads.l0 k x4 0 0 x414000 x414001)
def laws_FnLoads.l0:Nat→List (S61)→Int→Int→Int→List (S35)→Option (Bool)
 | 0,_,_,_,_,_=>none
 | k+1,x4,x6,x7,x414000,x414001=>if x7 < (x4.length:Int) then (if 0≤x7 then ((impl_LoadOf.f k x414000 x414001 ((rd_T61 x4 x7).f0)).bind fun t418=>(laws_FnLoads.l0 k x4 (wrap64 (x6+t418)) (wrap64 (x7+1)) x414000 x414001)) else (none)) else (laws_FnLoads.l1 k x4 x6 0 x414000 x414001)
def laws_FnLoads.l1:Nat→List (S61)→Int→Int→Int→List (S35)→Option (Bool)
 | 0,_,_,_,_,_=>none
 | k+1,x4,x6,x8,x414000,x414001=>if x8 < (x414001.length:Int) then (if 0≤x8 then ((impl_SpreadOf.f k ((rd_T35 x414001 x8).f0) x4).bind fun t420=>(if t420 < 1 then (some false) else (if t420 > x414000 then (some false) else ((impl_ZonesOf.f k x4).bind fun t421=>(if t420 > (t421.length:Int) then (some false) else (laws_FnLoads.l1 k x4 x6 (wrap64 (x8+1)) x414000 x414001)))))) else (none)) else (some (x6 == (wrap64 (x414000 * (x414001.length:Int)))))
end
def laws_FnLoads.f (k:Nat) (l0:List Int):Option (Bool):=(laws_big.f l0).bind fun t405=>(if t405=true then (some true) else ((spec_DrawRingOk.f k l0).bind fun bt406=>((impl_RingOk.f k bt406.1 bt406.2.1 bt406.2.2).bind fun t414=>((spec_RingOk.f k bt406.1 bt406.2.1 bt406.2.2).bind fun t415=>(if (t414 != t415)=true then (laws_FnLoads.j0 k bt406.2.2 t414 true bt406.1 bt406.2.1) else (laws_FnLoads.j0 k bt406.2.2 t414 (!t414) bt406.1 bt406.2.1))))))
def laws_FnLoads.T11:Bool × List (List Nat × List Nat):=(true,[([],[]),([],[]),([],[]),([],[]),([2,3],[2,3]),([4],[4]),([5],[5]),([1,6],[1,6]),([0,7],[0,7]),([8,7,0,1,2,3,4,5,6,7,8],[0,8])])
def laws_FnLoads.B11:List Nat:=[0,0,0,0,12,28,60,126,255,511]
theorem laws_FnLoads.tab11:rtab .any (opsOf Try.f7 11)=laws_FnLoads.T11:=by kernel_rfl
theorem laws_FnLoads.bits11:waitsOk laws_FnLoads.T11.2 laws_FnLoads.B11=true:=by kernel_rfl
set_option maxHeartbeats 8000000 in
set_option maxRecDepth 100000 in
theorem laws_FnLoads.calls (k:Nat) (A0:Option Addr) (c0:Nat) (l0:List Int) (r:Bool) (w:World) (hr0:Kd.C (Kd.int .u8) w A0 l0.length l0) (hc0:l0.length≤c0) (h:laws_FnLoads.f k l0=some r) (hr_:Aside0 (r=true)) :
  Calls Try.prog 7 #[.slice A0 l0.length c0] w fun e w'=>e = .returned (.bool r)∧Below w.heap.size w w':=by
 have hu26:=Try.underlying26
 have hu35:=Try.underlying35
 have HR0:=Aside0.mk hr0
 have HC0:=Aside0.mk hc0
 clear hr0 hc0
 have HB:=Aside0.mk (Below.refl w.heap.size w)
 have H:((laws_big.f l0).bind fun t405=>(if t405=true then (some true) else ((spec_DrawRingOk.f k l0).bind fun bt406=>((impl_RingOk.f k bt406.1 bt406.2.1 bt406.2.2).bind fun t414=>((spec_RingOk.f k bt406.1 bt406.2.1 bt406.2.2).bind fun t415=>(if (t414 != t415)=true then (laws_FnLoads.j0 k bt406.2.2 t414 true bt406.1 bt406.2.1) else (laws_FnLoads.j0 k bt406.2.2 t414 (!t414) bt406.1 bt406.2.1)))))))=some r:=h
 clear h
 replace H:=Option.bind_eq_some_iff.mp H
 obtain ⟨t405,A20,H⟩:=H
 try dsimp only at H
 have A2:=Aside0.mk A20
 clear A20
 by_cases c3:t405=true
 ·subst c3
  rw [if_pos rfl] at H
  obtain rfl:=Option.some.inj H
  go_enter Try.func7,Try.ntmps7
  go_wp2_with (first|((with_reducible refine gate_callee (f:=8) rfl ?_);refine goesL_ (some 11) rfl rfl Try.func8 (by kernel_rfl) rfl #[.slice A0 l0.length c0] rfl (by (try simp only [List.map_toArray,List.map_cons,List.map_nil]);first|done|rfl|(simp only [List.length_drop,List.length_take];rfl)) ?_;(with_reducible refine (laws_big.calls _ _ l0 true _ ?side1 ?side2 A2.out).mono ?_);(case side1=>exact sC HR0);(case side2=>exact HC0.out);rintro e w' ⟨rfl,⟨nd,rfl⟩⟩;refine ⟨_,rfl,?_⟩))
  go_ret
  exact ⟨rz,be⟩
 ·replace c3:=Bool.eq_false_iff.mpr c3
  subst c3
  have H1:((spec_DrawRingOk.f k l0).bind fun bt406=>((impl_RingOk.f k bt406.1 bt406.2.1 bt406.2.2).bind fun t414=>((spec_RingOk.f k bt406.1 bt406.2.1 bt406.2.2).bind fun t415=>(if (t414 != t415)=true then (laws_FnLoads.j0 k bt406.2.2 t414 true bt406.1 bt406.2.1) else (laws_FnLoads.j0 k bt406.2.2 t414 (!t414) bt406.1 bt406.2.1)))))=some r:=by rw [if_neg (show ¬ (false=true) by decide)] at H;exact H
  clear H
  have H:=H1
  clear H1
  replace H:=Option.bind_eq_some_iff.mp H
  obtain ⟨⟨t406,t407,t410⟩,A40,H⟩:=H
  try dsimp only at H
  have A4:=Aside0.mk A40
  clear A40
  replace H:=Option.bind_eq_some_iff.mp H
  obtain ⟨t414,A50,H⟩:=H
  try dsimp only at H
  have A5:=Aside0.mk A50
  clear A50
  have HC6:=Aside0.mk H
  clear H
  go_enter Try.func7,Try.ntmps7
  go_upto_region 5 with (first|((with_reducible refine gate_callee (f:=8) rfl ?_);refine goesL_ (some 11) rfl rfl Try.func8 (by kernel_rfl) rfl #[.slice A0 l0.length c0] rfl (by (try simp only [List.map_toArray,List.map_cons,List.map_nil]);first|done|rfl|(simp only [List.length_drop,List.length_take];rfl)) ?_;(with_reducible refine (laws_big.calls _ _ l0 false _ ?side1 ?side2 A2.out).mono ?_);(case side1=>exact sC HR0);(case side2=>exact HC0.out);rintro e w' ⟨rfl,⟨nd,rfl⟩⟩;refine ⟨_,rfl,?_⟩)|((with_reducible refine gate_callee (f:=34) rfl ?_);refine goesL_ (some 14) rfl rfl Try.func34 (by kernel_rfl) rfl #[.slice A0 l0.length c0] rfl (by (try simp only [List.map_toArray,List.map_cons,List.map_nil]);first|done|rfl|(simp only [List.length_drop,List.length_take];rfl)) ?_;(with_reducible refine (spec_DrawRingOk.calls k _ _ l0 t406 t407 t410 _ ?side1 ?side2 A4.out).mono ?_);(case side1=>exact sC HR0);(case side2=>exact HC0.out);rintro e w7 ⟨v408,v411,rfl,ho0,ho1,hb⟩;refine ⟨_,rfl,?_⟩;have n0_:=Aside0.mk (Kd.S_lower ho0 (below_size be));have n1_:=Aside0.mk (Kd.R_lower ho1 (below_size be));have n2_:=bs hb;clear HB;have HO409:=n0_;have HO412:=n1_;have HB:=n2_;clear n0_ n1_ n2_;(try clear hb);(try clear hb2);(try clear hk);(try clear hi);(try clear ho0);(try clear ho1))|((with_reducible refine gate_dst (N:=3) rfl ?_);(try (refine gate_guard (by rfl) ?_;dsimp only));refine box_event ?hg (N:=3) ?hd (cs:=#[.int .i64 0,.slice none 0 0]) (t:=26) ?hr ?_;(case hd=>rfl);(case hg=>rfl);(case hr=>first|(go_simp;done)|(go_simp;rfl));intro gb413 hg w8 hbox hb;have n0_:=Aside0.mk (Kd.S_below (rS HO409) hb);have n1_:=Aside0.mk (Kd.R_below (rR HO412) hb);have n2_:=bs hb;have n3_:=Aside0.mk (hbox);have n4_:=Aside0.mk ((by rw [hg];exact (below_size be):w.heap.size≤gb413));have n5_:=Aside0.mk ((by rw [hg];exact (below_size be):w.heap.size≤gb413));clear HO409;clear HO412;clear HB;have HO409:=n0_;have HO412:=n1_;have HB:=n2_;have BK413:=n3_;have GW413:=n4_;have GE413:=n5_;clear n0_ n1_ n2_ n3_ n4_ n5_;clear hb hbox hg;have hcz9_0:w8.cell? ⟨gb413,0,none⟩=some (.int .i64 0):=(blk_cell BK413.out 0).trans rfl;have hcz9_1:w8.cell? ⟨gb413,1,none⟩=some (.slice none 0 0):=(blk_cell BK413.out 1).trans rfl;have hfz9_0:=blk_frozen BK413.out 0;have hfz9_1:=blk_frozen BK413.out 1;obtain ⟨Ao10,co10,eo10⟩:=Kd.S_slice HO409.out;subst eo10;obtain ⟨Ao11,co11,eo11⟩:=Kd.R_slice HO412.out;subst eo11)|((with_reducible refine gate_callee (f:=15) rfl ?_);refine goesL_ (some 19) rfl rfl Try.func15 (by kernel_rfl) rfl #[.agg #[.int .i64 t406,.slice Ao10 t407.length co10],.slice Ao11 t410.length co11] rfl (by (try simp only [List.map_toArray,List.map_cons,List.map_nil]);first|done|rfl|(simp only [List.length_drop,List.length_take];rfl)) ?_;(with_reducible refine (impl_RingOk.calls k t406 _ _ t407 _ _ t410 t414 _ ?side1 ?side2 ?side3 ?side4 A5.out).mono ?_);(case side1=>refine (Kd.S_reads' (e:=35) (base:=w.heap.size) (ok:=fun k_=>True) (n:=t407.length) (c:=co10) ?_).2.2;exact (by (with_reducible repeat (first|apply Kd.S_alloc|apply Kd.S_drewN|apply Kd.S_drew));exact (Kd.S_mono (Kd.S_far (p:=⟨gb413,1,none⟩) (Kd.S_far (p:=⟨gb413,0,none⟩) (Kd.S_types HO409.out BK413.out (by decide)) (fun _ hk=>hk.2) (.int .i64 t406)) (fun _ hk=>hk.2) (.slice Ao10 t407.length co10)) (fun _ h_=>h_.1))));(case side2=>exact (Kd.S_reads' HO409.out).2.1);(case side3=>refine (Kd.R_reads' (e:=61) (base:=w.heap.size) (ok:=fun k_=>True) (n:=t410.length) (c:=co11) ?_).2.2;exact (by (with_reducible repeat (first|apply Kd.R_alloc|apply Kd.R_drewN|apply Kd.R_drew));exact (Kd.R_mono (Kd.R_far (p:=⟨gb413,1,none⟩) (Kd.R_far (p:=⟨gb413,0,none⟩) (Kd.R_types HO412.out BK413.out (by decide)) (fun _ hk=>hk.2) (.int .i64 t406)) (fun _ hk=>hk.2) (.slice Ao10 t407.length co10)) (fun _ h_=>h_.1))));(case side4=>exact (Kd.R_reads' HO412.out).2.1);rintro e w12 ⟨rfl,hb⟩;refine ⟨_,rfl,?_⟩;have n0_:=Aside0.mk (Kd.S_below ((by (with_reducible repeat (first|apply Kd.S_alloc|apply Kd.S_drewN|apply Kd.S_drew));exact (Kd.S_mono (Kd.S_far (p:=⟨gb413,1,none⟩) (Kd.S_far (p:=⟨gb413,0,none⟩) (Kd.S_types HO409.out BK413.out (by decide)) (fun _ hk=>hk.2) (.int .i64 t406)) (fun _ hk=>hk.2) (.slice Ao10 t407.length co10)) (fun _ h_=>h_.1)))) hb);have n1_:=Aside0.mk (Kd.R_below ((by (with_reducible repeat (first|apply Kd.R_alloc|apply Kd.R_drewN|apply Kd.R_drew));exact (Kd.R_mono (Kd.R_far (p:=⟨gb413,1,none⟩) (Kd.R_far (p:=⟨gb413,0,none⟩) (Kd.R_types HO412.out BK413.out (by decide)) (fun _ hk=>hk.2) (.int .i64 t406)) (fun _ hk=>hk.2) (.slice Ao10 t407.length co10)) (fun _ h_=>h_.1)))) hb);have n2_:=Aside0.mk (blk_below (g:=gb413) (o:=.cells #[.int .i64 t406,.slice Ao10 t407.length co10] 26 (0,0)) (by (with_reducible repeat (first|refine blk_drewN ?_ _|refine blk_drew ?_|refine blk_alloc ?_ _));refine blk_put (cs:=#[.int .i64 t406,.slice none 0 0]) ?_ 1 _ rfl;(with_reducible repeat (first|refine blk_drewN ?_ _|refine blk_drew ?_|refine blk_alloc ?_ _));refine blk_put (cs:=#[.int .i64 0,.slice none 0 0]) ?_ 0 _ rfl;(with_reducible repeat (first|refine blk_drewN ?_ _|refine blk_drew ?_|refine blk_alloc ?_ _));exact BK413.out) hb);have n3_:=bs hb;clear HO409;clear HO412;clear BK413;clear HB;have HO409:=n0_;have HO412:=n1_;have BK413:=n2_;have HB:=n3_;clear n0_ n1_ n2_ n3_;(try clear hb);(try clear hb2);(try clear hk);(try clear hi)))
  (try simp only [Act.put,List.setIfInBounds_toArray,List.set_cons_zero,List.set_cons_succ])
  go_cut [28] (fun v28 wc=>∃ (kq:Nat) (x28_5:Bool),v28 = .bool x28_5∧Aside0 (laws_FnLoads.j0 kq t410 t414 x28_5 t406 t407=some r)∧Aside0 (kq≤k)∧Aside0 (Kd.R k61 61 wc w.heap.size (fun _=>True) (.slice Ao11 t410.length co11) t410)∧Aside0 (Kd.S k35 35 wc w.heap.size (fun _=>True) (.slice Ao10 t407.length co10) t407)∧Aside0 (wc.heap[gb413]?=some (.cells #[.int .i64 t406,(.slice Ao10 t407.length co10)] 26 (0,0)))∧Aside0 (Below w.heap.size w wc))
  case first=>
   have H:=HC6.out
   clear HC6
   replace H:=Option.bind_eq_some_iff.mp H
   obtain ⟨t415,A130,H⟩:=H
   try dsimp only at H
   have A13:=Aside0.mk A130
   clear A130
   by_cases c14:(t414 != t415)=true
   ·rw [if_pos c14] at H
    have c14b0:(t414 != t415)=true:=c14
    (try (have c14b1:decide (t414=t415)=false:=by simpa using c14))
    (try (have c14b2:(t414 == t415)=false:=by simpa using c14))
    (try (have c14b3 : ¬ (t414=t415):=by simpa using c14))
    clear c14
    (first|rw [c14b0]|(simp only [i64_w,i32_w];rw [c14b0])|skip)
    have H':=Aside0.mk H
    clear H
    have hcz15_0:w12.cell? ⟨gb413,0,none⟩=some (.int .i64 t406):=(blk_cell BK413.out 0).trans rfl
    have hcz15_1:w12.cell? ⟨gb413,1,none⟩=some (.slice Ao10 t407.length co10):=(blk_cell BK413.out 1).trans rfl
    have hfz15_0:=blk_frozen BK413.out 0
    have hfz15_1:=blk_frozen BK413.out 1
    go_wp2_with (first|((with_reducible refine gate_callee (f:=14) rfl ?_);refine goesL_ (some 23) rfl rfl Try.func14 (by kernel_rfl) rfl #[.agg #[.int .i64 t406,.slice Ao10 t407.length co10],.slice Ao11 t410.length co11] rfl (by (try simp only [List.map_toArray,List.map_cons,List.map_nil]);first|done|rfl|(simp only [List.length_drop,List.length_take];rfl)) ?_;(with_reducible refine (spec_RingOk.calls k t406 _ _ t407 _ _ t410 t415 _ ?side1 ?side2 ?side3 ?side4 A13.out).mono ?_);(case side1=>exact sS HO409);(case side2=>exact (Kd.S_reads' HO409.out).2.1);(case side3=>exact sR HO412);(case side4=>exact (Kd.R_reads' HO412.out).2.1);rintro e w16 ⟨rfl,hb⟩;refine ⟨_,rfl,?_⟩;have n0_:=Aside0.mk (Kd.S_below ((rS HO409)) hb);have n1_:=Aside0.mk (Kd.R_below ((rR HO412)) hb);have n2_:=Aside0.mk (blk_below (g:=gb413) (o:=.cells #[.int .i64 t406,.slice Ao10 t407.length co10] 26 (0,0)) (bk BK413) hb);have n3_:=bs hb;clear HO409;clear HO412;clear BK413;clear HB;have HO409:=n0_;have HO412:=n1_;have BK413:=n2_;have HB:=n3_;clear n0_ n1_ n2_ n3_;(try clear hb);(try clear hb2);(try clear hk);(try clear hi)))
    go_meet
    case rel=>exact ⟨_,(true),rd_,H',⟨by first|omega|exact Nat.le_refl _⟩,⟨rR HO412⟩,⟨rS HO409⟩,⟨bk BK413⟩,⟨be⟩⟩
   ·rw [if_neg c14] at H
    have c14b0:(t414 != t415)=false:=by simpa using c14
    (try (have c14b1:decide (t414=t415)=true:=by simpa using c14))
    (try (have c14b2:(t414 == t415)=true:=by simpa using c14))
    clear c14
    (first|rw [c14b0]|(simp only [i64_w,i32_w];rw [c14b0])|skip)
    have H':=Aside0.mk H
    clear H
    have hcz17_0:w12.cell? ⟨gb413,0,none⟩=some (.int .i64 t406):=(blk_cell BK413.out 0).trans rfl
    have hcz17_1:w12.cell? ⟨gb413,1,none⟩=some (.slice Ao10 t407.length co10):=(blk_cell BK413.out 1).trans rfl
    have hfz17_0:=blk_frozen BK413.out 0
    have hfz17_1:=blk_frozen BK413.out 1
    go_wp2_with (first|((with_reducible refine gate_callee (f:=14) rfl ?_);refine goesL_ (some 23) rfl rfl Try.func14 (by kernel_rfl) rfl #[.agg #[.int .i64 t406,.slice Ao10 t407.length co10],.slice Ao11 t410.length co11] rfl (by (try simp only [List.map_toArray,List.map_cons,List.map_nil]);first|done|rfl|(simp only [List.length_drop,List.length_take];rfl)) ?_;(with_reducible refine (spec_RingOk.calls k t406 _ _ t407 _ _ t410 t415 _ ?side1 ?side2 ?side3 ?side4 A13.out).mono ?_);(case side1=>exact sS HO409);(case side2=>exact (Kd.S_reads' HO409.out).2.1);(case side3=>exact sR HO412);(case side4=>exact (Kd.R_reads' HO412.out).2.1);rintro e w18 ⟨rfl,hb⟩;refine ⟨_,rfl,?_⟩;have n0_:=Aside0.mk (Kd.S_below ((rS HO409)) hb);have n1_:=Aside0.mk (Kd.R_below ((rR HO412)) hb);have n2_:=Aside0.mk (blk_below (g:=gb413) (o:=.cells #[.int .i64 t406,.slice Ao10 t407.length co10] 26 (0,0)) (bk BK413) hb);have n3_:=bs hb;clear HO409;clear HO412;clear BK413;clear HB;have HO409:=n0_;have HO412:=n1_;have BK413:=n2_;have HB:=n3_;clear n0_ n1_ n2_ n3_;(try clear hb);(try clear hb2);(try clear hk);(try clear hi)))
    go_meet
    case rel=>exact ⟨_,(!t414),rd_,H',⟨by first|omega|exact Nat.le_refl _⟩,⟨rR HO412⟩,⟨rS HO409⟩,⟨bk BK413⟩,⟨be⟩⟩
  case rest=>
   clear HC6
   try clear c1
   try clear p2
   try clear c3
   try clear c7
   try clear c8
   try clear c14
   try clear c14b0
   try clear c14b1
   try clear c14b2
   try clear c15
   try clear hcz15_0
   try clear hcz15_1
   try clear hcz17_0
   try clear hcz17_1
   try clear hcz9_0
   try clear hcz9_1
   try clear hfz15_0
   try clear hfz15_1
   try clear hfz17_0
   try clear hfz17_1
   try clear hfz9_0
   try clear hfz9_1
   obtain ⟨kq,x28_5,rfl,HA,HJ5,HO_4,HO_414001,BK413,HB⟩:=hcut
   cases kq with
   | zero=>exact absurd HA.out (by simp [laws_FnLoads.j0])
   | succ kj5=>
    have H:=HA.out
    clear HA
    simp only [laws_FnLoads.j0] at H
    by_cases c19:x28_5=true
    ·subst c19
     rw [if_pos rfl] at H
     replace H:=Option.bind_eq_some_iff.mp H
     obtain ⟨t416,A200,H⟩:=H
     try dsimp only at H
     have A20:=Aside0.mk A200
     clear A200
     obtain rfl:=Option.some.inj H
     have hcz21_0:wc.cell? ⟨gb413,0,none⟩=some (.int .i64 t406):=(blk_cell BK413.out 0).trans rfl
     have hcz21_1:wc.cell? ⟨gb413,1,none⟩=some (.slice Ao10 t407.length co10):=(blk_cell BK413.out 1).trans rfl
     have hfz21_0:=blk_frozen BK413.out 0
     have hfz21_1:=blk_frozen BK413.out 1
     go_wp2_with (first|((with_reducible refine gate_callee (f:=14) rfl ?_);refine goesL_ (some 32) rfl rfl Try.func14 (by kernel_rfl) rfl #[.agg #[.int .i64 t406,.slice Ao10 t407.length co10],.slice Ao11 t410.length co11] rfl (by (try simp only [List.map_toArray,List.map_cons,List.map_nil]);first|done|rfl|(simp only [List.length_drop,List.length_take];rfl)) ?_;(with_reducible refine (spec_RingOk.calls kj5 t406 _ _ t407 _ _ t410 t416 _ ?side1 ?side2 ?side3 ?side4 A20.out).mono ?_);(case side1=>exact sS HO_414001);(case side2=>exact (Kd.S_reads' HO_414001.out).2.1);(case side3=>exact sR HO_4);(case side4=>exact (Kd.R_reads' HO_4.out).2.1);rintro e w22 ⟨rfl,hb⟩;refine ⟨_,rfl,?_⟩;have n0_:=Aside0.mk (Kd.R_below ((rR HO_4)) hb);have n1_:=Aside0.mk (Kd.S_below ((rS HO_414001)) hb);have n2_:=Aside0.mk (blk_below (g:=gb413) (o:=.cells #[.int .i64 t406,.slice Ao10 t407.length co10] 26 (0,0)) (bk BK413) hb);have n3_:=bs hb;clear HO_4;clear HO_414001;clear BK413;clear HB;have HO_4:=n0_;have HO_414001:=n1_;have BK413:=n2_;have HB:=n3_;clear n0_ n1_ n2_ n3_;(try clear hb);(try clear hb2);(try clear hk);(try clear hi)))
     go_ret
     exact ⟨rz,be⟩
    ·replace c19:=Bool.eq_false_iff.mpr c19
     subst c19
     have H1:(laws_FnLoads.l0 kj5 t410 0 0 t406 t407)=some r:=by rw [if_neg (show ¬ (false=true) by decide)] at H;exact H
     clear H
     have H:=H1
     clear H1
     have H':=Aside0.mk H
     clear H
     go_wp2
     go_loopg [6,7] kj5 (fun kq v6 v7 w'=>∃ (x6_2:Int) (x7_2:Int),v6 = .int .i64 x6_2∧v7 = .int .i64 x7_2∧Aside0 (laws_FnLoads.l0 kq t410 x6_2 x7_2 t406 t407=some r)∧Aside0 (kq≤kj5)∧Aside0 (Kd.R k61 61 w' w.heap.size (fun _=>True) (.slice Ao11 t410.length co11) t410)∧Aside0 (Kd.S k35 35 w' w.heap.size (fun _=>True) (.slice Ao10 t407.length co10) t407)∧Aside0 (w'.heap[gb413]?=some (.cells #[.int .i64 t406,(.slice Ao10 t407.length co10)] 26 (0,0)))∧Aside0 (Below w.heap.size w w'))
     case atStart=>exact ⟨(0),(0),rd_,rd_,H',⟨Nat.le_refl _⟩,⟨rR HO_4⟩,⟨rS HO_414001⟩,⟨bk BK413⟩,⟨be⟩⟩
     case round=>
      clear H'
      try clear c1
      try clear p2
      try clear c3
      try clear c7
      try clear c8
      try clear c14
      try clear c14b0
      try clear c14b1
      try clear c14b2
      try clear c15
      try clear c19
      try clear hcz15_0
      try clear hcz15_1
      try clear hcz17_0
      try clear hcz17_1
      try clear hcz21_0
      try clear hcz21_1
      try clear hcz9_0
      try clear hcz9_1
      try clear hfz15_0
      try clear hfz15_1
      try clear hfz17_0
      try clear hfz17_1
      try clear hfz21_0
      try clear hfz21_1
      try clear hfz9_0
      try clear hfz9_1
      try clear p2
      obtain ⟨x6_2,x7_2,rfl,rfl,HA,HK2,HO_4,HO_414001,BK413,HB⟩:=hrel
      cases gk with
      | zero=>exact absurd HA.out (by simp [laws_FnLoads.l0])
      | succ k2=>
       have H:=HA.out
       clear HA
       simp only [laws_FnLoads.l0] at H
       by_cases c23:x7_2 < (t410.length:Int)
       ·rw [if_pos c23] at H
        have c23b0:decide (x7_2 < (t410.length:Int))=true:=decide_eq_true c23
        clear c23
        by_cases c24:0≤x7_2
        ·rw [if_pos c24] at H
         have c24b0:decide (0≤x7_2)=true:=decide_eq_true c24
         clear c24
         replace H:=Option.bind_eq_some_iff.mp H
         obtain ⟨t418,A250,H⟩:=H
         try dsimp only at H
         have A25:=Aside0.mk A250
         clear A250
         have H':=Aside0.mk H
         clear H
         try go_wp2
         have n0_:=Aside0.mk (Kd.R_drew HO_4.out)
         have n1_:=Aside0.mk (Kd.S_drew HO_414001.out)
         have n2_:=Aside0.mk (blk_drew BK413.out)
         have n3_:=Aside0.mk (below_drew1 HB.out)
         clear HO_4
         clear HO_414001
         clear BK413
         clear HB
         have HO_4:=n0_
         have HO_414001:=n1_
         have BK413:=n2_
         have HB:=n3_
         clear n0_ n1_ n2_ n3_
         have p417:0≤(x7_2:Int):=of_decide_eq_true (by first|(with_reducible assumption)|assumption)
         have q417:x7_2 < (t410.length:Int):=of_decide_eq_true (by first|(with_reducible assumption)|assumption)
         obtain ⟨ad417,e417,hx417_0,hx417_1,hx417_2⟩:=at_T61 (Kd.R_reads' HO_4.out).2.2 x7_2 p417 q417
         cases e417
         replace p417:=eq_true p417
         replace q417:=eq_true q417
         refine start_ (n:=10) (S:=fun w'=>w'.cell? ⟨gb413,0,none⟩=some (.int .i64 t406)∧w'.cell? ⟨gb413,1,none⟩=some (.slice Ao10 t407.length co10)∧w'.cell? (ad417.add ((x7_2).toNat * 3))=some (.int .i64 ((rd_T61 t410 x7_2).f0))∧w'.cell? ⟨(ad417.add ((x7_2).toNat * 3)).block,(ad417.add ((x7_2).toNat * 3)).off+1,none⟩=some (.int .i64 ((rd_T61 t410 x7_2).f1))∧w'.cell? ⟨(ad417.add ((x7_2).toNat * 3)).block,(ad417.add ((x7_2).toNat * 3)).off+2,none⟩=some (.int .i64 ((rd_T61 t410 x7_2).f2))) (ds:=[]) (fl 10 0) (by kernel_rfl) rfl rfl ⟨(blk_cell BK413.out 0).trans rfl,(blk_cell BK413.out 1).trans rfl,hx417_0,hx417_1,hx417_2⟩ (fun hHeld=>?_);refine with_tabW laws_FnLoads.tab11 laws_FnLoads.bits11 (fun HT_ HW_=>?_)
         generalize wr.drew=w26 at HO_4 HO_414001 BK413 HB hx417_0 hx417_1 hx417_2 hHeld ⊢
         refine pt 0 40 (fl 10 1) HT_ ?_
         refine pt 2 42 (fl 10 5) HT_ ?_
         refine pt 3 43 (fl 10 13) HT_ ?_
         refine pt 4 44 (fl 10 29) HT_ ?_
         refine pt 5 45 (fl 10 61) HT_ ?_
         refine tt 1 41 (fl 10 63) HT_ HW_ hHeld ?_
         refine tt 6 46 (fl 10 127) HT_ HW_ hHeld ?_
         refine ot 7 (some 47) (fl 10 255) HT_ (fun K hK=>?_)
         refine goes_ Try.func35 (by kernel_rfl) rfl #[.agg #[.int .i64 t406,.slice Ao10 t407.length co10],.int .i64 ((rd_T61 t410 x7_2).f0)] (by rfl) rfl rfl (by (try simp only [List.map_toArray,List.map_cons,List.map_nil]);first|done|rfl|(simp only [List.length_drop,List.length_take];rfl)) ?_
         with_reducible refine (impl_LoadOf.calls k2 t406 _ _ t407 ((rd_T61 t410 x7_2).f0) t418 _ ?side1 ?side2 A25.out).mono ?_
         (case side1=>exact sS HO_414001)
         (case side2=>exact (Kd.S_reads' HO_414001.out).2.1)
         rintro e w27 ⟨rfl,hb⟩
         have HS2_:=(hb.cell (World.block_lt_of_cell? _ _ (hHeld.2.2.1))).trans (hHeld.2.2.1)
         have HS3_:=(hb.cell (World.block_lt_of_cell? _ _ (hHeld.2.2.2.1))).trans (hHeld.2.2.2.1)
         have HS4_:=(hb.cell (World.block_lt_of_cell? _ _ (hHeld.2.2.2.2))).trans (hHeld.2.2.2.2)
         refine ⟨_,rfl,?_⟩
         have n0_:=Aside0.mk (Kd.R_below ((rR HO_4)) hb)
         have n1_:=Aside0.mk (Kd.S_below ((rS HO_414001)) hb)
         have n2_:=Aside0.mk (blk_below (g:=gb413) (o:=.cells #[.int .i64 t406,.slice Ao10 t407.length co10] 26 (0,0)) (bk BK413) hb)
         have n3_:=bs hb
         clear HO_4
         clear HO_414001
         clear BK413
         clear HB
         have HO_4:=n0_
         have HO_414001:=n1_
         have BK413:=n2_
         have HB:=n3_
         clear n0_ n1_ n2_ n3_
         (try clear hb)
         (try clear hb2)
         (try clear hk)
         (try clear hi)
         refine hK.out _ _ ⟨(blk_cell BK413.out 0).trans rfl,(blk_cell BK413.out 1).trans rfl,HS2_,HS3_,HS4_⟩ (fun hHeld=>?_)
         clear hK K
         refine no 47 ?_
         refine pt 8 48 (fl 10 511) HT_ ?_
         refine pt 9 6 (fl 10 1023) HT_ ?_
         refine done_ (done_of HT_.out (by kernel_rfl)) ?_
         try go_wp2
         go_roundg k2
         case measure=>have:=HJ5.out;have:=HK2.out;omega
         case rel=>exact ⟨(wrap64 (x6_2+t418)),(wrap64 (x7_2+1)),rd_,rd_,H',⟨by have:=HJ5.out;have:=HK2.out;omega⟩,⟨rR HO_4⟩,⟨rS HO_414001⟩,⟨bk BK413⟩,⟨be⟩⟩
        ·rw [if_neg c24] at H
         exact absurd H (by simp)
       ·rw [if_neg c23] at H
        have c23b0:decide (x7_2 < (t410.length:Int))=false:=decide_eq_false c23
        clear c23
        have H':=Aside0.mk H
        clear H
        go_wp2
        go_loopg [8] k2 (fun kq v8 w'=>∃ (x8_3:Int),v8 = .int .i64 x8_3∧Aside0 (laws_FnLoads.l1 kq t410 x6_2 x8_3 t406 t407=some r)∧Aside0 (kq≤k2)∧Aside0 (Kd.R k61 61 w' w.heap.size (fun _=>True) (.slice Ao11 t410.length co11) t410)∧Aside0 (Kd.S k35 35 w' w.heap.size (fun _=>True) (.slice Ao10 t407.length co10) t407)∧Aside0 (w'.heap[gb413]?=some (.cells #[.int .i64 t406,(.slice Ao10 t407.length co10)] 26 (0,0)))∧Aside0 (Below w.heap.size w w'))
        case atStart=>exact ⟨(0),rd_,H',⟨Nat.le_refl _⟩,⟨rR HO_4⟩,⟨rS HO_414001⟩,⟨bk BK413⟩,⟨be⟩⟩
        case round=>
         clear H'
         try clear c1
         try clear c2
         try clear p2
         try clear c3
         try clear p4
         try clear q4
         try clear hx4
         try clear p6
         try clear c7
         try clear c8
         try clear c14
         try clear c14b0
         try clear c14b1
         try clear c14b2
         try clear c15
         try clear c19
         try clear c23
         try clear c23b0
         try clear c24
         try clear c24b0
         try clear hcz15_0
         try clear hcz15_1
         try clear hcz17_0
         try clear hcz17_1
         try clear hcz21_0
         try clear hcz21_1
         try clear hcz9_0
         try clear hcz9_1
         try clear hfz15_0
         try clear hfz15_1
         try clear hfz17_0
         try clear hfz17_1
         try clear hfz21_0
         try clear hfz21_1
         try clear hfz9_0
         try clear hfz9_1
         try clear hx417_0
         try clear hx417_1
         try clear hx417_2
         try clear p2
         try clear p417
         try clear q417
         obtain ⟨x8_3,rfl,HA,HK3,HO_4,HO_414001,BK413,HB⟩:=hrel
         cases gk with
         | zero=>exact absurd HA.out (by simp [laws_FnLoads.l1])
         | succ k3=>
          have H:=HA.out
          clear HA
          simp only [laws_FnLoads.l1] at H
          by_cases c28:x8_3 < (t407.length:Int)
          ·rw [if_pos c28] at H
           have c28b0:decide (x8_3 < (t407.length:Int))=true:=decide_eq_true c28
           clear c28
           by_cases c29:0≤x8_3
           ·rw [if_pos c29] at H
            have c29b0:decide (0≤x8_3)=true:=decide_eq_true c29
            clear c29
            replace H:=Option.bind_eq_some_iff.mp H
            obtain ⟨t420,A300,H⟩:=H
            try dsimp only at H
            have A30:=Aside0.mk A300
            clear A300
            by_cases c31:t420 < 1
            ·rw [if_pos c31] at H
             have c31b0:decide (t420 < 1)=true:=decide_eq_true c31
             clear c31
             exact absurd ((Option.some.inj H).trans hr_.out) (by decide)
            ·rw [if_neg c31] at H
             have c31b0:decide (t420 < 1)=false:=decide_eq_false c31
             clear c31
             by_cases c32:t420 > t406
             ·rw [if_pos c32] at H
              have c32b0:decide (t406 < t420)=true:=decide_eq_true c32
              clear c32
              exact absurd ((Option.some.inj H).trans hr_.out) (by decide)
             ·rw [if_neg c32] at H
              have c32b0:decide (t406 < t420)=false:=decide_eq_false c32
              clear c32
              replace H:=Option.bind_eq_some_iff.mp H
              obtain ⟨t421,A330,H⟩:=H
              try dsimp only at H
              have A33:=Aside0.mk A330
              clear A330
              by_cases c34:t420 > (t421.length:Int)
              ·rw [if_pos c34] at H
               have c34b0:decide ((t421.length:Int) < t420)=true:=decide_eq_true c34
               clear c34
               exact absurd ((Option.some.inj H).trans hr_.out) (by decide)
              ·rw [if_neg c34] at H
               have c34b0:decide ((t421.length:Int) < t420)=false:=decide_eq_false c34
               clear c34
               have H':=Aside0.mk H
               clear H
               have hcz35_0:wr.cell? ⟨gb413,0,none⟩=some (.int .i64 t406):=(blk_cell BK413.out 0).trans rfl
               have hcz35_1:wr.cell? ⟨gb413,1,none⟩=some (.slice Ao10 t407.length co10):=(blk_cell BK413.out 1).trans rfl
               have hfz35_0:=blk_frozen BK413.out 0
               have hfz35_1:=blk_frozen BK413.out 1
               have p419:0≤(x8_3:Int):=of_decide_eq_true (by first|(with_reducible assumption)|assumption)
               have q419:x8_3 < (t407.length:Int):=of_decide_eq_true (by first|(with_reducible assumption)|assumption)
               obtain ⟨ad419,A419_0,c419_0,e419,hx419_0,hl419_0,hi419_0⟩:=at_T35 (Kd.S_reads' HO_414001.out).2.2 x8_3 p419 q419
               cases e419
               obtain ⟨ce419,hce419,hMe419,hcc419⟩:=Kd.S_get HO_414001.out z35 x8_3 p419 (by first|exact q419|exact of_decide_eq_true (by first|(with_reducible assumption)|assumption)|(have e_:=(Kd.S_reads' HO_414001.out).1;omega))
               obtain ⟨ve419_0,rfl,ge419_0⟩:=k35_openM hMe419
               have hv419_0:=hcc419 0 _ rfl
               rw [Nat.add_zero,show (k35).sz=1 from rfl,Nat.mul_one] at hv419_0
               replace hv419_0:=Option.some.inj (hv419_0.symm.trans hx419_0)
               rw [hv419_0] at ge419_0
               have HL419_0:=Aside0.mk (show Kd.R (Kd.int .i64) 3 _ _ _ _ ((rd_T35 t407 x8_3).f0) from ge419_0)
               clear hv419_0 ge419_0
               clear hcc419 hce419
               have HR419_0:=Aside0.mk hi419_0
               have HC419_0:=Aside0.mk hl419_0
               clear hi419_0 hl419_0
               replace p419:=eq_true p419
               replace q419:=eq_true q419
               go_wp2_with (first|((with_reducible refine gate_callee (f:=33) rfl ?_);refine goesL_ (some 62) rfl rfl Try.func33 (by kernel_rfl) rfl #[.agg #[.slice A419_0 ((rd_T35 t407 x8_3).f0).length c419_0],.slice Ao11 t410.length co11] rfl (by (try simp only [List.map_toArray,List.map_cons,List.map_nil]);first|done|rfl|(simp only [List.length_drop,List.length_take];rfl)) ?_;(with_reducible refine (impl_SpreadOf.calls k3 _ _ ((rd_T35 t407 x8_3).f0) _ _ t410 t420 _ ?side1 ?side2 ?side3 ?side4 A30.out).mono ?_);(case side1=>repeat (first|exact (by repeat (first|(with_reducible exact HR419_0.out)|(with_reducible refine Kd.C_alloc ?_ _)|(with_reducible refine Kd.C_drewN ?_ _)|(with_reducible refine Kd.C_drew ?_)|exact HR419_0.out))|(with_reducible refine Kd.C_alloc ?_ _)|(with_reducible refine Kd.C_drewN ?_ _)|(with_reducible refine Kd.C_drew ?_)));(case side2=>exact HC419_0.out);(case side3=>exact sR HO_4);(case side4=>exact (Kd.R_reads' HO_4.out).2.1);rintro e w36 ⟨rfl,hb⟩;refine ⟨_,rfl,?_⟩;have n0_:=Aside0.mk (Kd.R_below ((rR HO_4)) hb);have n1_:=Aside0.mk (Kd.S_below ((rS HO_414001)) hb);have n2_:=Aside0.mk (Kd.R_below ((by (with_reducible repeat (first|apply Kd.R_alloc|apply Kd.R_drewN|apply Kd.R_drew));exact HL419_0.out)) hb);have n3_:=Aside0.mk (blk_below (g:=gb413) (o:=.cells #[.int .i64 t406,.slice (some ad419) t407.length co10] 26 (0,0)) (bk BK413) hb);have n4_:=Aside0.mk (Kd.C_below (by repeat (first|(with_reducible exact HR419_0.out)|(with_reducible refine Kd.C_alloc ?_ _)|(with_reducible refine Kd.C_drewN ?_ _)|(with_reducible refine Kd.C_drew ?_)|exact HR419_0.out)) hb);have n5_:=bs hb;clear HO_4;clear HO_414001;clear HL419_0;clear BK413;clear HR419_0;clear HB;have HO_4:=n0_;have HO_414001:=n1_;have HL419_0:=n2_;have BK413:=n3_;have HR419_0:=n4_;have HB:=n5_;clear n0_ n1_ n2_ n3_ n4_ n5_;(try clear hb);(try clear hb2);(try clear hk);(try clear hi);have hcz37_0:w36.cell? ⟨gb413,0,none⟩=some (.int .i64 t406):=(blk_cell BK413.out 0).trans rfl;have hcz37_1:w36.cell? ⟨gb413,1,none⟩=some (.slice (some ad419) t407.length co10):=(blk_cell BK413.out 1).trans rfl;have hfz37_0:=blk_frozen BK413.out 0;have hfz37_1:=blk_frozen BK413.out 1)|(go_at_call 26;(with_reducible refine (impl_ZonesOf.calls k3 _ _ t410 t421 _ ?side1 ?side2 A33.out).mono ?_);(case side1=>exact sR HO_4);(case side2=>exact (Kd.R_reads' HO_4.out).2.1);rintro e w38 ⟨v422,rfl,ho0,hb⟩;have n0_:=Aside0.mk (Kd.R_below ((rR HO_4)) hb);have n1_:=Aside0.mk (Kd.S_elder' (rS HO_414001) (Kd.R_base ho0) hb);have n2_:=Aside0.mk (Kd.R_elder' (by (with_reducible repeat (first|apply Kd.R_alloc|apply Kd.R_drewN|apply Kd.R_drew));exact HL419_0.out) (Kd.R_base ho0) hb);have n3_:=Aside0.mk (Kd.R_lower (Kd.R_new' ho0 (Kd.R_lt (by (with_reducible repeat (first|apply Kd.R_alloc|apply Kd.R_drewN|apply Kd.R_drew));exact HL419_0.out))) (below_size be));have n4_:=Aside0.mk (blk_below (g:=gb413) (o:=.cells #[.int .i64 t406,.slice (some ad419) t407.length co10] 26 (0,0)) (bk BK413) hb);have n5_:=Aside0.mk (Kd.C_below (by repeat (first|(with_reducible exact HR419_0.out)|(with_reducible refine Kd.C_alloc ?_ _)|(with_reducible refine Kd.C_drewN ?_ _)|(with_reducible refine Kd.C_drew ?_)|exact HR419_0.out)) hb);have n6_:=bs hb;clear HO_4;clear HO_414001;clear HL419_0;clear BK413;clear HR419_0;clear HB;have HO_4:=n0_;have HO_414001:=n1_;have HL419_0:=n2_;have HO423:=n3_;have BK413:=n4_;have HR419_0:=n5_;have HB:=n6_;clear n0_ n1_ n2_ n3_ n4_ n5_ n6_;(try clear hb);(try clear hb2);(try clear hk);(try clear hi);(try clear ho0);obtain ⟨Ao39,co39,eo39⟩:=Kd.R_slice HO423.out;subst eo39))
               go_roundg k3
               case measure=>have:=HJ5.out;have:=HK2.out;have:=HK3.out;omega
               case rel=>exact ⟨(wrap64 (x8_3+1)),rd_,H',⟨by have:=HJ5.out;have:=HK2.out;have:=HK3.out;omega⟩,⟨rR HO_4⟩,⟨by (with_reducible repeat (first|apply Kd.S_alloc|apply Kd.S_drewN|apply Kd.S_drew));exact Kd.S_mono HO_414001.out (fun _ hk=>trivial)⟩,⟨bk BK413⟩,⟨be⟩⟩
           ·rw [if_neg c29] at H
            exact absurd H (by simp)
          ·rw [if_neg c28] at H
           have c28b0:decide (x8_3 < (t407.length:Int))=false:=decide_eq_false c28
           clear c28
           obtain rfl:=Option.some.inj H
           have hcz40_0:wr.cell? ⟨gb413,0,none⟩=some (.int .i64 t406):=(blk_cell BK413.out 0).trans rfl
           have hcz40_1:wr.cell? ⟨gb413,1,none⟩=some (.slice Ao10 t407.length co10):=(blk_cell BK413.out 1).trans rfl
           have hfz40_0:=blk_frozen BK413.out 0
           have hfz40_1:=blk_frozen BK413.out 1
           go_wp2
           go_ret
           exact ⟨rz,be⟩
end Go.Proofs.Ytpbjbfimnfghkaa.PFnLoads
