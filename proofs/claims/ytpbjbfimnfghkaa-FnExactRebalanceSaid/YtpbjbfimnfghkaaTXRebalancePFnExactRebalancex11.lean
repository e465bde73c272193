/- Trimmed by a program of this session (trim.py). Not trusted: Lean checks it. -/
import Derived.Test.YtpbjbfimnfghkaaTXRebalancePFnExactRebalancex0
import Derived.Test.YtpbjbfimnfghkaaTXRebalancePFnExactRebalancex8
import Derived.Test.YtpbjbfimnfghkaaTXRebalancePFnExactRebalancex9
namespace Go.Proofs.Ytpbjbfimnfghkaa.PFnExactRebalance
open Go.RowKit Go.Proofs.YtpbjbfimnfghkaaW.PrintWords Go.Proofs.YtpbjbfimnfghkaaW.PrintLast Go.Proofs.YtpbjbfimnfghkaaW.PrintMore Go.Proofs.Ytpbjbfimnfghkaa.St
attribute [local go_sem] max2_int min2_int max_two min_two max_three min_three max_four min_four
set_option linter.unusedVariables false
set_option linter.unusedSimpArgs false
mutual
def spec_l6Heavy.l0:Nat→List (S61)→Int→Bool→Int→Int→List (S35)→List Int→Int→Int→Int→Option (Int)
 | 0,_,_,_,_,_,_,_,_,_,_=>none
 | k+1,x2,x3,x10,x11,x295000,x295001,x296000,x301000,x301001,x301002=>if x11 < (x296000.length:Int) then (spec_l6Heavy.j1 k x2 x3 x10 x11 x10 x295000 x295001 x296000 x301000 x301001 x301002) else (spec_l6Heavy.j1 k x2 x3 x10 x11 false x295000 x295001 x296000 x301000 x301001 x301002)
def spec_l6Heavy.j1:Nat→List (S61)→Int→Bool→Int→Bool→Int→List (S35)→List Int→Int→Int→Int→Option (Int)
 | 0,_,_,_,_,_,_,_,_,_,_,_=>none
 | k+1,x2,x3,x10,x11,x27,x295000,x295001,x296000,x301000,x301001,x301002=>if x27=true then (if 0≤x11 then (if x11 < (x296000.length:Int) then ((spec_DevAt.f k x2 (rd x296000 x11)).bind fun bt302=>(if bt302.2.2.2=true then (if bt302.2.1=x301001 then ((spec_LoadOf.f k x295000 x295001 bt302.1).bind fun t307=>((spec_LoadOf.f k x295000 x295001 x3).bind fun t308=>(if (wrap64 (t307 - t308)) ≥ 2 then (some x11) else (spec_l6Heavy.l0 k x2 x3 x10 (wrap64 (x11+1)) x295000 x295001 x296000 x301000 x301001 x301002)))) else (spec_l6Heavy.l0 k x2 x3 x10 (wrap64 (x11+1)) x295000 x295001 x296000 x301000 x301001 x301002)) else (spec_l6Heavy.l0 k x2 x3 x10 (wrap64 (x11+1)) x295000 x295001 x296000 x301000 x301001 x301002))) else (none)) else (none)) else (some (-1))
end
def spec_l6Heavy.f (k:Nat) (a0_0:Int) (l0_1:List (S35)) (l1_0:List Int) (l2:List (S61)) (a3:Int):Option (Int):=(spec_DevAt.f k l2 a3).bind fun bt296=>(spec_l6Heavy.l0 k l2 a3 bt296.2.2.2 0 a0_0 l0_1 l1_0 bt296.1 bt296.2.1 bt296.2.2.1)
def spec_l6Heavy.T6:Bool × List (List Nat × List Nat):=(true,[([],[]),([0],[0]),([1],[1]),([2,1],[1,2]),([1],[1]),([4,1],[1,4]),([3,5,1],[1,3,5]),([1,6],[1,6]),([7,1],[7]),([8],[8]),([8],[8]),([10,8],[8,10]),([9,11,8,8],[8,9,11]),([8],[8]),([8],[8]),([13,14,12,8],[8,13,14]),([12,15,8],[8,12,15]),([16,8],[8,16]),([8,17],[8,17])])
def spec_l6Heavy.B6:List Nat:=[0,1,3,7,3,19,63,127,255,511,511,1535,4095,511,511,32767,65535,131071,262143]
theorem spec_l6Heavy.tab6:rtab .any (opsOf Try.f51 6)=spec_l6Heavy.T6:=by kernel_rfl
theorem spec_l6Heavy.bits6:waitsOk spec_l6Heavy.T6.2 spec_l6Heavy.B6=true:=by kernel_rfl
set_option maxHeartbeats 8000000 in
set_option maxRecDepth 100000 in
theorem spec_l6Heavy.calls (k:Nat) (a0_0:Int) (A0_1:Option Addr) (c0_1:Nat) (l0_1:List (S35)) (A1_0:Option Addr) (c1_0:Nat) (l1_0:List Int) (A2:Option Addr) (c2:Nat) (l2:List (S61)) (a3:Int) (r:Int) (w:World) (hr0_1:Kd.C k35 w A0_1 l0_1.length l0_1) (hc0_1:l0_1.length≤c0_1) (hr1_0:Kd.C (Kd.int .i64) w A1_0 l1_0.length l1_0) (hc1_0:l1_0.length≤c1_0) (hr2:Kd.C k61 w A2 l2.length l2) (hc2:l2.length≤c2) (h:spec_l6Heavy.f k a0_0 l0_1 l1_0 l2 a3=some r) :
  Calls Try.prog 51 #[.agg #[.int .i64 a0_0,.slice A0_1 l0_1.length c0_1],.agg #[.slice A1_0 l1_0.length c1_0],.slice A2 l2.length c2,.int .i64 a3] w fun e w'=>e = .returned (.int .i64 r)∧Below w.heap.size w w':=by
 have hu26:=Try.underlying26
 have hu35:=Try.underlying35
 have hu61:=Try.underlying61
 have HR0_1:=aM hr0_1
 have HC0_1:=aM hc0_1
 clear hr0_1 hc0_1
 have HR1_0:=aM hr1_0
 have HC1_0:=aM hc1_0
 clear hr1_0 hc1_0
 have HR2:=aM hr2
 have HC2:=aM hc2
 clear hr2 hc2
 have HB:=aM (Below.refl w.heap.size w)
 have H:((spec_DevAt.f k l2 a3).bind fun bt296=>(spec_l6Heavy.l0 k l2 a3 bt296.2.2.2 0 a0_0 l0_1 l1_0 bt296.1 bt296.2.1 bt296.2.2.1))=some r:=h
 clear h
 replace H:=Option.bind_eq_some_iff.mp H
 obtain ⟨⟨t296,t297,t298,t299⟩,A50,H⟩:=H
 try dsimp only at H
 have A5:=aM A50
 clear A50
 have H':=Aside0.mk H
 clear H
 go_enter Try.func51,Try.ntmps51
 go_wp2_with (first|((with_reducible refine gate_dst (N:=4) rfl ?_);refine box_event ?hg (N:=4) ?hd (cs:=#[.int .i64 a0_0,.slice A0_1 l0_1.length c0_1]) (t:=26) ?hr ?_;(case hd=>rfl);(case hg=>rfl);(case hr=>first|(go_simp;done)|(go_simp;rfl));intro gb294 hg w6 hbox hb;have BK294:=aM (hbox);have GW294:=gS w hg;have GE294:=gS w hg;replace HB:=bs hb;clear hb hbox hg)|((with_reducible refine gate_dst (N:=5) rfl ?_);refine box_event ?hg (N:=5) ?hd (cs:=#[.slice A1_0 l1_0.length c1_0]) (t:=35) ?hr ?_;(case hd=>rfl);(case hg=>rfl);(case hr=>first|(go_simp;done)|(go_simp;rfl));intro gb295 hg w7 hbox hb;have BK295:=aM (hbox);have GW295:=gS w hg;have GE295:=gS w hg;replace HB:=bs hb;have NB294_295:=nL hg BK294;have NB295_294:=nG hg BK294;replace BK294:=bB BK294 hb;clear hb hbox hg)|((with_reducible refine gate_callee (f:=56) rfl ?_);refine goesL_ (some 17) rfl rfl Try.func56 (by kernel_rfl) rfl #[.slice A2 l2.length c2,.int .i64 a3] rfl (by (try simp only [List.map_toArray,List.map_cons,List.map_nil]);first|done|rfl|(simp only [List.length_drop,List.length_take];rfl)) ?_;(with_reducible refine (spec_DevAt.calls k _ _ l2 a3 t296 t297 t298 t299 _ ?side1 ?side2 A5.out).mono ?_);(case side1=>exact rC HR2);(case side2=>exact HC2.out);rintro e w8 ⟨rfl,hb⟩;refine ⟨_,rfl,?_⟩;replace BK294:=bB BK294 hb;replace BK295:=bB BK295 hb;replace HB:=bs hb;(try clear hb))|((with_reducible refine gate_dst (N:=9) rfl ?_);refine box_event ?hg (N:=9) ?hd (cs:=#[.int .i64 0,.int .i64 0,.int .i64 0]) (t:=61) ?hr ?_;(case hd=>rfl);(case hg=>rfl);(case hr=>first|(go_simp;done)|(go_simp;rfl));intro gb300 hg w9 hbox hb;have BK300:=aM (hbox);have GW300:=gS w hg;have GE300:=gS w hg;replace HB:=bs hb;have NB294_300:=nL hg BK294;have NB300_294:=nG hg BK294;replace BK294:=bB BK294 hb;have NB295_300:=nL hg BK295;have NB300_295:=nG hg BK295;replace BK295:=bB BK295 hb;clear hb hbox hg;have hnb10:=NB300_294.out;have hnc10:=NB294_300.out;have hnb11:=NB300_295.out;have hnc11:=NB295_300.out;have hcz12_0:w9.cell? ⟨gb300,0,none⟩=some (.int .i64 0):=(blk_cell BK300.out 0).trans rfl;have hcz12_1:w9.cell? ⟨gb300,1,none⟩=some (.int .i64 0):=(blk_cell BK300.out 1).trans rfl;have hcz12_2:w9.cell? ⟨gb300,2,none⟩=some (.int .i64 0):=(blk_cell BK300.out 2).trans rfl;have hfz12_0:=blk_frozen BK300.out 0;have hfz12_1:=blk_frozen BK300.out 1;have hfz12_2:=blk_frozen BK300.out 2))
 go_loopg [11] k (fun kq v11 w'=>∃ (x11_1:Int),v11 = .int .i64 x11_1∧Aside0 (spec_l6Heavy.l0 kq l2 a3 t299 x11_1 a0_0 l0_1 l1_0 t296 t297 t298=some r)∧Aside0 (kq≤k)∧Aside0 (w'.heap[gb294]?=some (.cells #[.int .i64 a0_0,(.slice A0_1 l0_1.length c0_1)] 26 (0,0)))∧Aside0 (w'.heap[gb295]?=some (.cells #[(.slice A1_0 l1_0.length c1_0)] 35 (0,0)))∧Aside0 (w'.heap[gb300]?=some (.cells #[.int .i64 t296,.int .i64 t297,.int .i64 t298] 61 (0,0)))∧Aside0 (Below w.heap.size w w'))
 case atStart=>exact ⟨(0),rd_,H',⟨Nat.le_refl _⟩,⟨by (with_reducible repeat (first|refine blk_drewN ?_ _|refine blk_drew ?_|refine blk_alloc ?_ _));refine blk_far ?_ NB294_300.out _;(with_reducible repeat (first|refine blk_drewN ?_ _|refine blk_drew ?_|refine blk_alloc ?_ _));refine blk_far ?_ NB294_300.out _;(with_reducible repeat (first|refine blk_drewN ?_ _|refine blk_drew ?_|refine blk_alloc ?_ _));refine blk_far ?_ NB294_300.out _;(with_reducible repeat (first|refine blk_drewN ?_ _|refine blk_drew ?_|refine blk_alloc ?_ _));exact BK294.out⟩,⟨by (with_reducible repeat (first|refine blk_drewN ?_ _|refine blk_drew ?_|refine blk_alloc ?_ _));refine blk_far ?_ NB295_300.out _;(with_reducible repeat (first|refine blk_drewN ?_ _|refine blk_drew ?_|refine blk_alloc ?_ _));refine blk_far ?_ NB295_300.out _;(with_reducible repeat (first|refine blk_drewN ?_ _|refine blk_drew ?_|refine blk_alloc ?_ _));refine blk_far ?_ NB295_300.out _;(with_reducible repeat (first|refine blk_drewN ?_ _|refine blk_drew ?_|refine blk_alloc ?_ _));exact BK295.out⟩,⟨by (with_reducible repeat (first|refine blk_drewN ?_ _|refine blk_drew ?_|refine blk_alloc ?_ _));refine blk_put (cs:=#[.int .i64 t296,.int .i64 t297,.int .i64 0]) ?_ 2 _ rfl;(with_reducible repeat (first|refine blk_drewN ?_ _|refine blk_drew ?_|refine blk_alloc ?_ _));refine blk_put (cs:=#[.int .i64 t296,.int .i64 0,.int .i64 0]) ?_ 1 _ rfl;(with_reducible repeat (first|refine blk_drewN ?_ _|refine blk_drew ?_|refine blk_alloc ?_ _));refine blk_put (cs:=#[.int .i64 0,.int .i64 0,.int .i64 0]) ?_ 0 _ rfl;(with_reducible repeat (first|refine blk_drewN ?_ _|refine blk_drew ?_|refine blk_alloc ?_ _));exact BK300.out⟩,⟨be⟩⟩
 case round=>
  clear H'
  try clear hcz12_0
  try clear hcz12_1
  try clear hcz12_2
  try clear hfz12_0
  try clear hfz12_1
  try clear hfz12_2
  obtain ⟨x11_1,rfl,HA,HK1,BK294,BK295,BK300,HB⟩:=hrel
  cases gk with
  | zero=>exact absurd HA.out (by simp [spec_l6Heavy.l0])
  | succ k1=>
   have H:=HA.out
   clear HA
   simp only [spec_l6Heavy.l0] at H
   have HC13:=aM H
   clear H
   go_upto_region 3 with (fail)
   go_cut [27] (fun v27 wc=>∃ (kq:Nat) (x27_12:Bool),v27 = .bool x27_12∧Aside0 (spec_l6Heavy.j1 kq l2 a3 t299 x11_1 x27_12 a0_0 l0_1 l1_0 t296 t297 t298=some r)∧Aside0 (kq≤k1)∧Aside0 (wc.heap[gb294]?=some (.cells #[.int .i64 a0_0,(.slice A0_1 l0_1.length c0_1)] 26 (0,0)))∧Aside0 (wc.heap[gb295]?=some (.cells #[(.slice A1_0 l1_0.length c1_0)] 35 (0,0)))∧Aside0 (wc.heap[gb300]?=some (.cells #[.int .i64 t296,.int .i64 t297,.int .i64 t298] 61 (0,0)))∧Aside0 (Below w.heap.size w wc))
   case first=>
    have H:=HC13.out
    clear HC13
    by_cases c14:x11_1 < (l1_0.length:Int)
    ·rw [if_pos c14] at H
     have c14b0:decide (x11_1 < (l1_0.length:Int))=true:=decide_eq_true c14
     clear c14
     (skip)
     have H':=Aside0.mk H
     clear H
     have hnb15:=NB295_294.out
     have hnc15:=NB294_295.out
     have hnb16:=NB295_300.out
     have hnc16:=NB300_295.out
     have hcz17_0:wr.cell? ⟨gb295,0,none⟩=some (.slice A1_0 l1_0.length c1_0):=(blk_cell BK295.out 0).trans rfl
     have hfz17_0:=blk_frozen BK295.out 0
     go_wp2
     go_meet
     case rel=>exact ⟨_,(t299),rd_,H',⟨by have:=HK1.out;first|omega|exact Nat.le_refl _⟩,⟨bk BK294⟩,⟨bk BK295⟩,⟨bk BK300⟩,⟨be⟩⟩
    ·rw [if_neg c14] at H
     have c14b0:decide (x11_1 < (l1_0.length:Int))=false:=decide_eq_false c14
     clear c14
     (skip)
     have H':=Aside0.mk H
     clear H
     have hnb18:=NB295_294.out
     have hnc18:=NB294_295.out
     have hnb19:=NB295_300.out
     have hnc19:=NB300_295.out
     have hcz20_0:wr.cell? ⟨gb295,0,none⟩=some (.slice A1_0 l1_0.length c1_0):=(blk_cell BK295.out 0).trans rfl
     have hfz20_0:=blk_frozen BK295.out 0
     go_wp2
     go_meet
     case rel=>exact ⟨_,(false),rd_,H',⟨by have:=HK1.out;first|omega|exact Nat.le_refl _⟩,⟨bk BK294⟩,⟨bk BK295⟩,⟨bk BK300⟩,⟨be⟩⟩
   case rest=>
    clear HC13
    obtain ⟨kq,x27_12,rfl,HA,HJ12,BK294,BK295,BK300,HB⟩:=hcut
    cases kq with
    | zero=>exact absurd HA.out (by simp [spec_l6Heavy.j1])
    | succ kj12=>
     have H:=HA.out
     clear HA
     simp only [spec_l6Heavy.j1] at H
     by_cases c21:x27_12=true
     ·subst c21
      rw [if_pos rfl] at H
      by_cases c22:0≤x11_1
      ·rw [if_pos c22] at H
       have c22b0:decide (0≤x11_1)=true:=decide_eq_true c22
       clear c22
       by_cases c23:x11_1 < (l1_0.length:Int)
       ·rw [if_pos c23] at H
        have c23b0:decide (x11_1 < (l1_0.length:Int))=true:=decide_eq_true c23
        clear c23
        replace H:=Option.bind_eq_some_iff.mp H
        obtain ⟨⟨t302,t303,t304,t305⟩,A240,H⟩:=H
        try dsimp only at H
        have A24:=aM A240
        clear A240
        by_cases c25:t305=true
        ·subst c25
         rw [if_pos rfl] at H
         by_cases c26:t303=t297
         ·rw [if_pos c26] at H
          have c26b0:(t303 == t297)=true:=beq_iff_eq.mpr c26
          have c26b1:(t303 != t297)=false:=bne_eq_false_iff_eq.mpr c26
          clear c26
          replace H:=Option.bind_eq_some_iff.mp H
          obtain ⟨t307,A270,H⟩:=H
          try dsimp only at H
          have A27:=aM A270
          clear A270
          replace H:=Option.bind_eq_some_iff.mp H
          obtain ⟨t308,A280,H⟩:=H
          try dsimp only at H
          have A28:=aM A280
          clear A280
          by_cases c29:(wrap64 (t307 - t308)) ≥ 2
          ·rw [if_pos c29] at H
           have c29b0:decide (2≤(wrap64 (t307 - t308)))=true:=decide_eq_true c29
           clear c29
           obtain rfl:=Option.some.inj H
           have hnb30:=NB295_294.out
           have hnc30:=NB294_295.out
           have hnb31:=NB295_300.out
           have hnc31:=NB300_295.out
           have hcz32_0:wc.cell? ⟨gb295,0,none⟩=some (.slice A1_0 l1_0.length c1_0):=(blk_cell BK295.out 0).trans rfl
           have hfz32_0:=blk_frozen BK295.out 0
           have p301:0≤(x11_1:Int):=of_decide_eq_true (by first|(with_reducible assumption)|assumption)
           have q301:x11_1 < (l1_0.length:Int):=of_decide_eq_true (by first|(with_reducible assumption)|assumption)
           obtain ⟨ad301,e301,hx301_0⟩:=Kd.at_int HR1_0.out x11_1 p301 q301
           cases e301
           replace hx301_0:=(HB.out.cell (World.block_lt_of_cell? w _ hx301_0)).trans hx301_0
           replace p301:=eq_true p301
           replace q301:=eq_true q301
           try go_wp2_with (first|((with_reducible refine gate_callee (f:=56) rfl ?_);refine goesL_ (some 37) rfl rfl Try.func56 (by kernel_rfl) rfl #[.slice A2 l2.length c2,.int .i64 (rd l1_0 x11_1)] rfl (by (try simp only [List.map_toArray,List.map_cons,List.map_nil]);first|done|rfl|(simp only [List.length_drop,List.length_take];rfl)) ?_;(with_reducible refine (spec_DevAt.calls kj12 _ _ l2 (rd l1_0 x11_1) t302 t303 t304 true _ ?side1 ?side2 A24.out).mono ?_);(case side1=>exact rC HR2);(case side2=>exact HC2.out);rintro e w33 ⟨rfl,hb⟩;refine ⟨_,rfl,?_⟩;replace BK294:=bB BK294 hb;replace BK295:=bB BK295 hb;replace BK300:=bB BK300 hb;replace HB:=bs hb;(try clear hb))|((with_reducible refine gate_dst (N:=12) rfl ?_);refine box_event ?hg (N:=12) ?hd (cs:=#[.int .i64 0,.int .i64 0,.int .i64 0]) (t:=61) ?hr ?_;(case hd=>rfl);(case hg=>rfl);(case hr=>first|(go_simp;done)|(go_simp;rfl));intro gb306 hg w34 hbox hb;have BK306:=aM (hbox);have GW306:=gS w hg;have GE306:=gS w hg;replace HB:=bs hb;have NB294_306:=nL hg BK294;have NB306_294:=nG hg BK294;replace BK294:=bB BK294 hb;have NB295_306:=nL hg BK295;have NB306_295:=nG hg BK295;replace BK295:=bB BK295 hb;have NB300_306:=nL hg BK300;have NB306_300:=nG hg BK300;replace BK300:=bB BK300 hb;clear hb hbox hg;have hnb35:=NB306_294.out;have hnc35:=NB294_306.out;have hnb36:=NB306_295.out;have hnc36:=NB295_306.out;have hnb37:=NB306_300.out;have hnc37:=NB300_306.out;have hcz38_0:w34.cell? ⟨gb306,0,none⟩=some (.int .i64 0):=(blk_cell BK306.out 0).trans rfl;have hcz38_1:w34.cell? ⟨gb306,1,none⟩=some (.int .i64 0):=(blk_cell BK306.out 1).trans rfl;have hcz38_2:w34.cell? ⟨gb306,2,none⟩=some (.int .i64 0):=(blk_cell BK306.out 2).trans rfl;have hfz38_0:=blk_frozen BK306.out 0;have hfz38_1:=blk_frozen BK306.out 1;have hfz38_2:=blk_frozen BK306.out 2))
           have n0_:Aside0 ((((w34.setCell ⟨gb306,0,none⟩ (.int .i64 t302)).setCell ⟨gb306,1,none⟩ (.int .i64 t303)).setCell ⟨gb306,2,none⟩ (.int .i64 t304)).heap[gb294]?=some (.cells #[.int .i64 a0_0,.slice A0_1 l0_1.length c0_1] 26 (0,0))):=⟨by (with_reducible repeat (first|refine blk_drewN ?_ _|refine blk_drew ?_|refine blk_alloc ?_ _));refine blk_far ?_ NB294_306.out _;(with_reducible repeat (first|refine blk_drewN ?_ _|refine blk_drew ?_|refine blk_alloc ?_ _));refine blk_far ?_ NB294_306.out _;(with_reducible repeat (first|refine blk_drewN ?_ _|refine blk_drew ?_|refine blk_alloc ?_ _));refine blk_far ?_ NB294_306.out _;(with_reducible repeat (first|refine blk_drewN ?_ _|refine blk_drew ?_|refine blk_alloc ?_ _));exact BK294.out⟩
           have n1_:Aside0 ((((w34.setCell ⟨gb306,0,none⟩ (.int .i64 t302)).setCell ⟨gb306,1,none⟩ (.int .i64 t303)).setCell ⟨gb306,2,none⟩ (.int .i64 t304)).heap[gb295]?=some (.cells #[.slice (some ad301) l1_0.length c1_0] 35 (0,0))):=⟨by (with_reducible repeat (first|refine blk_drewN ?_ _|refine blk_drew ?_|refine blk_alloc ?_ _));refine blk_far ?_ NB295_306.out _;(with_reducible repeat (first|refine blk_drewN ?_ _|refine blk_drew ?_|refine blk_alloc ?_ _));refine blk_far ?_ NB295_306.out _;(with_reducible repeat (first|refine blk_drewN ?_ _|refine blk_drew ?_|refine blk_alloc ?_ _));refine blk_far ?_ NB295_306.out _;(with_reducible repeat (first|refine blk_drewN ?_ _|refine blk_drew ?_|refine blk_alloc ?_ _));exact BK295.out⟩
           have n2_:Aside0 ((((w34.setCell ⟨gb306,0,none⟩ (.int .i64 t302)).setCell ⟨gb306,1,none⟩ (.int .i64 t303)).setCell ⟨gb306,2,none⟩ (.int .i64 t304)).heap[gb300]?=some (.cells #[.int .i64 t296,.int .i64 t297,.int .i64 t298] 61 (0,0))):=⟨by (with_reducible repeat (first|refine blk_drewN ?_ _|refine blk_drew ?_|refine blk_alloc ?_ _));refine blk_far ?_ NB300_306.out _;(with_reducible repeat (first|refine blk_drewN ?_ _|refine blk_drew ?_|refine blk_alloc ?_ _));refine blk_far ?_ NB300_306.out _;(with_reducible repeat (first|refine blk_drewN ?_ _|refine blk_drew ?_|refine blk_alloc ?_ _));refine blk_far ?_ NB300_306.out _;(with_reducible repeat (first|refine blk_drewN ?_ _|refine blk_drew ?_|refine blk_alloc ?_ _));exact BK300.out⟩
           have n3_:Aside0 ((((w34.setCell ⟨gb306,0,none⟩ (.int .i64 t302)).setCell ⟨gb306,1,none⟩ (.int .i64 t303)).setCell ⟨gb306,2,none⟩ (.int .i64 t304)).heap[gb306]?=some (.cells #[.int .i64 t302,.int .i64 t303,.int .i64 t304] 61 (0,0))):=⟨by (with_reducible repeat (first|refine blk_drewN ?_ _|refine blk_drew ?_|refine blk_alloc ?_ _));refine blk_put (cs:=#[.int .i64 t302,.int .i64 t303,.int .i64 0]) ?_ 2 _ rfl;(with_reducible repeat (first|refine blk_drewN ?_ _|refine blk_drew ?_|refine blk_alloc ?_ _));refine blk_put (cs:=#[.int .i64 t302,.int .i64 0,.int .i64 0]) ?_ 1 _ rfl;(with_reducible repeat (first|refine blk_drewN ?_ _|refine blk_drew ?_|refine blk_alloc ?_ _));refine blk_put (cs:=#[.int .i64 0,.int .i64 0,.int .i64 0]) ?_ 0 _ rfl;(with_reducible repeat (first|refine blk_drewN ?_ _|refine blk_drew ?_|refine blk_alloc ?_ _));exact BK306.out⟩
           have n4_:Aside0 (Below w.heap.size w (((w34.setCell ⟨gb306,0,none⟩ (.int .i64 t302)).setCell ⟨gb306,1,none⟩ (.int .i64 t303)).setCell ⟨gb306,2,none⟩ (.int .i64 t304))):=⟨be⟩
           (try clear BK294);(try clear BK295);(try clear BK300);(try clear BK306);(try clear HB)
           generalize (((w34.setCell ⟨gb306,0,none⟩ (.int .i64 t302)).setCell ⟨gb306,1,none⟩ (.int .i64 t303)).setCell ⟨gb306,2,none⟩ (.int .i64 t304))=w39 at n0_ n1_ n2_ n3_ n4_ ⊢
           have BK294:=n0_;have BK295:=n1_;have BK300:=n2_;have BK306:=n3_;have HB:=n4_;clear n0_ n1_ n2_ n3_ n4_;replace BK294:=aM (blk_drew BK294.out);replace BK295:=aM (blk_drew BK295.out);replace BK300:=aM (blk_drew BK300.out);replace BK306:=aM (blk_drew BK306.out);replace HB:=aM (below_drew1 HB.out)
           refine start_ (n:=19) (S:=fun w'=>w'.cell? ⟨gb306,0,none⟩=some (.int .i64 t302)∧w'.cell? ⟨gb306,1,none⟩=some (.int .i64 t303)∧w'.cell? ⟨gb306,2,none⟩=some (.int .i64 t304)∧w'.cell? ⟨gb300,0,none⟩=some (.int .i64 t296)∧w'.cell? ⟨gb300,1,none⟩=some (.int .i64 t297)∧w'.cell? ⟨gb300,2,none⟩=some (.int .i64 t298)∧w'.cell? ⟨gb294,0,none⟩=some (.int .i64 a0_0)∧w'.cell? ⟨gb294,1,none⟩=some (.slice A0_1 l0_1.length c0_1)) (ds:=[]) (fl 19 0) (by kernel_rfl) rfl rfl ⟨(blk_cell BK306.out 0).trans rfl,(blk_cell BK306.out 1).trans rfl,(blk_cell BK306.out 2).trans rfl,(blk_cell BK300.out 0).trans rfl,(blk_cell BK300.out 1).trans rfl,(blk_cell BK300.out 2).trans rfl,(blk_cell BK294.out 0).trans rfl,(blk_cell BK294.out 1).trans rfl⟩ (fun hHeld=>?_);refine with_tabW spec_l6Heavy.tab6 spec_l6Heavy.bits6 (fun HT_ HW_=>?_)
           generalize w39.drew=w40 at BK294 BK295 BK300 BK306 HB hHeld ⊢
           refine pt 0 40 (fl 19 1) HT_ ?_
           refine pt 1 41 (fl 19 3) HT_ ?_
           refine pt 2 42 (fl 19 7) HT_ ?_
           refine pt 4 44 (fl 19 23) HT_ ?_
           refine tt 3 43 (fl 19 31) HT_ HW_ hHeld ?_
           refine tt 5 45 (fl 19 63) HT_ HW_ hHeld ?_
           refine pt 6 46 (fl 19 127) HT_ ?_
           refine pt 7 47 (fl 19 255) HT_ ?_
           refine pt 8 48 (fl 19 511) HT_ ?_
           refine pt 10 50 (fl 19 1535) HT_ ?_
           refine pt 14 54 (fl 19 17919) HT_ ?_
           refine tt 9 49 (fl 19 18431) HT_ HW_ hHeld ?_
           refine tt 11 51 (fl 19 20479) HT_ HW_ hHeld ?_
           refine tt 13 53 (fl 19 28671) HT_ HW_ hHeld ?_
           refine ot 12 (some 52) (fl 19 32767) HT_ (fun K hK=>?_)
           refine goes_ Try.func76 (by kernel_rfl) rfl #[.agg #[.int .i64 a0_0,.slice A0_1 l0_1.length c0_1],.int .i64 t302] (by rfl) rfl rfl (by (try simp only [List.map_toArray,List.map_cons,List.map_nil]);first|done|rfl|(simp only [List.length_drop,List.length_take];rfl)) ?_
           with_reducible refine (spec_LoadOf.calls kj12 a0_0 _ _ l0_1 t302 t307 _ ?side1 ?side2 A27.out).mono ?_
           (case side1=>exact rC HR0_1)
           (case side2=>exact HC0_1.out)
           rintro e w41 ⟨rfl,hb⟩
           refine ⟨_,rfl,?_⟩
           replace BK294:=bB BK294 hb;replace BK300:=bB BK300 hb;replace BK306:=bB BK306 hb;replace HB:=bs hb;clear BK295;(try clear hb);skip
           refine hK.out _ _ ⟨(blk_cell BK306.out 0).trans rfl,(blk_cell BK306.out 1).trans rfl,(blk_cell BK306.out 2).trans rfl,(blk_cell BK300.out 0).trans rfl,(blk_cell BK300.out 1).trans rfl,(blk_cell BK300.out 2).trans rfl,(blk_cell BK294.out 0).trans rfl,(blk_cell BK294.out 1).trans rfl⟩ (fun hHeld=>?_)
           clear hK K
           refine no 52 ?_
           refine ot 15 (some 55) (fl 19 65535) HT_ (fun K hK=>?_)
           refine goes_ Try.func76 (by kernel_rfl) rfl #[.agg #[.int .i64 a0_0,.slice A0_1 l0_1.length c0_1],.int .i64 a3] (by rfl) rfl rfl (by (try simp only [List.map_toArray,List.map_cons,List.map_nil]);first|done|rfl|(simp only [List.length_drop,List.length_take];rfl)) ?_
           with_reducible refine (spec_LoadOf.calls kj12 a0_0 _ _ l0_1 a3 t308 _ ?side1 ?side2 A28.out).mono ?_
           (case side1=>exact rC HR0_1)
           (case side2=>exact HC0_1.out)
           rintro e w42 ⟨rfl,hb⟩
           refine ⟨_,rfl,?_⟩
           replace BK294:=bB BK294 hb;replace BK300:=bB BK300 hb;replace BK306:=bB BK306 hb;replace HB:=bs hb;(try clear hb);skip
           refine hK.out _ _ ⟨(blk_cell BK306.out 0).trans rfl,(blk_cell BK306.out 1).trans rfl,(blk_cell BK306.out 2).trans rfl,(blk_cell BK300.out 0).trans rfl,(blk_cell BK300.out 1).trans rfl,(blk_cell BK300.out 2).trans rfl,(blk_cell BK294.out 0).trans rfl,(blk_cell BK294.out 1).trans rfl⟩ (fun hHeld=>?_)
           clear hK K
           refine no 55 ?_
           refine pt 16 56 (fl 19 131071) HT_ ?_
           refine pt 17 57 (fl 19 262143) HT_ ?_
           refine pt 18 58 (fl 19 524287) HT_ ?_
           refine done_ (done_of HT_.out (by kernel_rfl)) ?_
           try go_wp2
           go_ret
           exact ⟨rz,be⟩
          ·rw [if_neg c29] at H
           have c29b0:decide (2≤(wrap64 (t307 - t308)))=false:=decide_eq_false c29
           clear c29
           have H':=Aside0.mk H
           clear H
           have hnb43:=NB295_294.out
           have hnc43:=NB294_295.out
           have hnb44:=NB295_300.out
           have hnc44:=NB300_295.out
           have hcz45_0:wc.cell? ⟨gb295,0,none⟩=some (.slice A1_0 l1_0.length c1_0):=(blk_cell BK295.out 0).trans rfl
           have hfz45_0:=blk_frozen BK295.out 0
           have p301:0≤(x11_1:Int):=of_decide_eq_true (by first|(with_reducible assumption)|assumption)
           have q301:x11_1 < (l1_0.length:Int):=of_decide_eq_true (by first|(with_reducible assumption)|assumption)
           obtain ⟨ad301,e301,hx301_0⟩:=Kd.at_int HR1_0.out x11_1 p301 q301
           cases e301
           replace hx301_0:=(HB.out.cell (World.block_lt_of_cell? w _ hx301_0)).trans hx301_0
           replace p301:=eq_true p301
           replace q301:=eq_true q301
           try go_wp2_with (first|((with_reducible refine gate_callee (f:=56) rfl ?_);refine goesL_ (some 37) rfl rfl Try.func56 (by kernel_rfl) rfl #[.slice A2 l2.length c2,.int .i64 (rd l1_0 x11_1)] rfl (by (try simp only [List.map_toArray,List.map_cons,List.map_nil]);first|done|rfl|(simp only [List.length_drop,List.length_take];rfl)) ?_;(with_reducible refine (spec_DevAt.calls kj12 _ _ l2 (rd l1_0 x11_1) t302 t303 t304 true _ ?side1 ?side2 A24.out).mono ?_);(case side1=>exact rC HR2);(case side2=>exact HC2.out);rintro e w46 ⟨rfl,hb⟩;refine ⟨_,rfl,?_⟩;replace BK294:=bB BK294 hb;replace BK295:=bB BK295 hb;replace BK300:=bB BK300 hb;replace HB:=bs hb;(try clear hb))|((with_reducible refine gate_dst (N:=12) rfl ?_);refine box_event ?hg (N:=12) ?hd (cs:=#[.int .i64 0,.int .i64 0,.int .i64 0]) (t:=61) ?hr ?_;(case hd=>rfl);(case hg=>rfl);(case hr=>first|(go_simp;done)|(go_simp;rfl));intro gb306 hg w47 hbox hb;have BK306:=aM (hbox);have GW306:=gS w hg;have GE306:=gS w hg;replace HB:=bs hb;have NB294_306:=nL hg BK294;have NB306_294:=nG hg BK294;replace BK294:=bB BK294 hb;have NB295_306:=nL hg BK295;have NB306_295:=nG hg BK295;replace BK295:=bB BK295 hb;have NB300_306:=nL hg BK300;have NB306_300:=nG hg BK300;replace BK300:=bB BK300 hb;clear hb hbox hg;have hnb48:=NB306_294.out;have hnc48:=NB294_306.out;have hnb49:=NB306_295.out;have hnc49:=NB295_306.out;have hnb50:=NB306_300.out;have hnc50:=NB300_306.out;have hcz51_0:w47.cell? ⟨gb306,0,none⟩=some (.int .i64 0):=(blk_cell BK306.out 0).trans rfl;have hcz51_1:w47.cell? ⟨gb306,1,none⟩=some (.int .i64 0):=(blk_cell BK306.out 1).trans rfl;have hcz51_2:w47.cell? ⟨gb306,2,none⟩=some (.int .i64 0):=(blk_cell BK306.out 2).trans rfl;have hfz51_0:=blk_frozen BK306.out 0;have hfz51_1:=blk_frozen BK306.out 1;have hfz51_2:=blk_frozen BK306.out 2))
           have n0_:Aside0 ((((w47.setCell ⟨gb306,0,none⟩ (.int .i64 t302)).setCell ⟨gb306,1,none⟩ (.int .i64 t303)).setCell ⟨gb306,2,none⟩ (.int .i64 t304)).heap[gb294]?=some (.cells #[.int .i64 a0_0,.slice A0_1 l0_1.length c0_1] 26 (0,0))):=⟨by (with_reducible repeat (first|refine blk_drewN ?_ _|refine blk_drew ?_|refine blk_alloc ?_ _));refine blk_far ?_ NB294_306.out _;(with_reducible repeat (first|refine blk_drewN ?_ _|refine blk_drew ?_|refine blk_alloc ?_ _));refine blk_far ?_ NB294_306.out _;(with_reducible repeat (first|refine blk_drewN ?_ _|refine blk_drew ?_|refine blk_alloc ?_ _));refine blk_far ?_ NB294_306.out _;(with_reducible repeat (first|refine blk_drewN ?_ _|refine blk_drew ?_|refine blk_alloc ?_ _));exact BK294.out⟩
           have n1_:Aside0 ((((w47.setCell ⟨gb306,0,none⟩ (.int .i64 t302)).setCell ⟨gb306,1,none⟩ (.int .i64 t303)).setCell ⟨gb306,2,none⟩ (.int .i64 t304)).heap[gb295]?=some (.cells #[.slice (some ad301) l1_0.length c1_0] 35 (0,0))):=⟨by (with_reducible repeat (first|refine blk_drewN ?_ _|refine blk_drew ?_|refine blk_alloc ?_ _));refine blk_far ?_ NB295_306.out _;(with_reducible repeat (first|refine blk_drewN ?_ _|refine blk_drew ?_|refine blk_alloc ?_ _));refine blk_far ?_ NB295_306.out _;(with_reducible repeat (first|refine blk_drewN ?_ _|refine blk_drew ?_|refine blk_alloc ?_ _));refine blk_far ?_ NB295_306.out _;(with_reducible repeat (first|refine blk_drewN ?_ _|refine blk_drew ?_|refine blk_alloc ?_ _));exact BK295.out⟩
           have n2_:Aside0 ((((w47.setCell ⟨gb306,0,none⟩ (.int .i64 t302)).setCell ⟨gb306,1,none⟩ (.int .i64 t303)).setCell ⟨gb306,2,none⟩ (.int .i64 t304)).heap[gb300]?=some (.cells #[.int .i64 t296,.int .i64 t297,.int .i64 t298] 61 (0,0))):=⟨by (with_reducible repeat (first|refine blk_drewN ?_ _|refine blk_drew ?_|refine blk_alloc ?_ _));refine blk_far ?_ NB300_306.out _;(with_reducible repeat (first|refine blk_drewN ?_ _|refine blk_drew ?_|refine blk_alloc ?_ _));refine blk_far ?_ NB300_306.out _;(with_reducible repeat (first|refine blk_drewN ?_ _|refine blk_drew ?_|refine blk_alloc ?_ _));refine blk_far ?_ NB300_306.out _;(with_reducible repeat (first|refine blk_drewN ?_ _|refine blk_drew ?_|refine blk_alloc ?_ _));exact BK300.out⟩
           have n3_:Aside0 ((((w47.setCell ⟨gb306,0,none⟩ (.int .i64 t302)).setCell ⟨gb306,1,none⟩ (.int .i64 t303)).setCell ⟨gb306,2,none⟩ (.int .i64 t304)).heap[gb306]?=some (.cells #[.int .i64 t302,.int .i64 t303,.int .i64 t304] 61 (0,0))):=⟨by (with_reducible repeat (first|refine blk_drewN ?_ _|refine blk_drew ?_|refine blk_alloc ?_ _));refine blk_put (cs:=#[.int .i64 t302,.int .i64 t303,.int .i64 0]) ?_ 2 _ rfl;(with_reducible repeat (first|refine blk_drewN ?_ _|refine blk_drew ?_|refine blk_alloc ?_ _));refine blk_put (cs:=#[.int .i64 t302,.int .i64 0,.int .i64 0]) ?_ 1 _ rfl;(with_reducible repeat (first|refine blk_drewN ?_ _|refine blk_drew ?_|refine blk_alloc ?_ _));refine blk_put (cs:=#[.int .i64 0,.int .i64 0,.int .i64 0]) ?_ 0 _ rfl;(with_reducible repeat (first|refine blk_drewN ?_ _|refine blk_drew ?_|refine blk_alloc ?_ _));exact BK306.out⟩
           have n4_:Aside0 (Below w.heap.size w (((w47.setCell ⟨gb306,0,none⟩ (.int .i64 t302)).setCell ⟨gb306,1,none⟩ (.int .i64 t303)).setCell ⟨gb306,2,none⟩ (.int .i64 t304))):=⟨be⟩
           (try clear BK294);(try clear BK295);(try clear BK300);(try clear BK306);(try clear HB)
           generalize (((w47.setCell ⟨gb306,0,none⟩ (.int .i64 t302)).setCell ⟨gb306,1,none⟩ (.int .i64 t303)).setCell ⟨gb306,2,none⟩ (.int .i64 t304))=w52 at n0_ n1_ n2_ n3_ n4_ ⊢
           have BK294:=n0_;have BK295:=n1_;have BK300:=n2_;have BK306:=n3_;have HB:=n4_;clear n0_ n1_ n2_ n3_ n4_;replace BK294:=aM (blk_drew BK294.out);replace BK295:=aM (blk_drew BK295.out);replace BK300:=aM (blk_drew BK300.out);replace BK306:=aM (blk_drew BK306.out);replace HB:=aM (below_drew1 HB.out)
           refine start_ (n:=19) (S:=fun w'=>w'.cell? ⟨gb306,0,none⟩=some (.int .i64 t302)∧w'.cell? ⟨gb306,1,none⟩=some (.int .i64 t303)∧w'.cell? ⟨gb306,2,none⟩=some (.int .i64 t304)∧w'.cell? ⟨gb300,0,none⟩=some (.int .i64 t296)∧w'.cell? ⟨gb300,1,none⟩=some (.int .i64 t297)∧w'.cell? ⟨gb300,2,none⟩=some (.int .i64 t298)∧w'.cell? ⟨gb294,0,none⟩=some (.int .i64 a0_0)∧w'.cell? ⟨gb294,1,none⟩=some (.slice A0_1 l0_1.length c0_1)) (ds:=[]) (fl 19 0) (by kernel_rfl) rfl rfl ⟨(blk_cell BK306.out 0).trans rfl,(blk_cell BK306.out 1).trans rfl,(blk_cell BK306.out 2).trans rfl,(blk_cell BK300.out 0).trans rfl,(blk_cell BK300.out 1).trans rfl,(blk_cell BK300.out 2).trans rfl,(blk_cell BK294.out 0).trans rfl,(blk_cell BK294.out 1).trans rfl⟩ (fun hHeld=>?_);refine with_tabW spec_l6Heavy.tab6 spec_l6Heavy.bits6 (fun HT_ HW_=>?_)
           generalize w52.drew=w53 at BK294 BK295 BK300 BK306 HB hHeld ⊢
           refine pt 0 40 (fl 19 1) HT_ ?_
           refine pt 1 41 (fl 19 3) HT_ ?_
           refine pt 2 42 (fl 19 7) HT_ ?_
           refine pt 4 44 (fl 19 23) HT_ ?_
           refine tt 3 43 (fl 19 31) HT_ HW_ hHeld ?_
           refine tt 5 45 (fl 19 63) HT_ HW_ hHeld ?_
           refine pt 6 46 (fl 19 127) HT_ ?_
           refine pt 7 47 (fl 19 255) HT_ ?_
           refine pt 8 48 (fl 19 511) HT_ ?_
           refine pt 10 50 (fl 19 1535) HT_ ?_
           refine pt 14 54 (fl 19 17919) HT_ ?_
           refine tt 9 49 (fl 19 18431) HT_ HW_ hHeld ?_
           refine tt 11 51 (fl 19 20479) HT_ HW_ hHeld ?_
           refine tt 13 53 (fl 19 28671) HT_ HW_ hHeld ?_
           refine ot 12 (some 52) (fl 19 32767) HT_ (fun K hK=>?_)
           refine goes_ Try.func76 (by kernel_rfl) rfl #[.agg #[.int .i64 a0_0,.slice A0_1 l0_1.length c0_1],.int .i64 t302] (by rfl) rfl rfl (by (try simp only [List.map_toArray,List.map_cons,List.map_nil]);first|done|rfl|(simp only [List.length_drop,List.length_take];rfl)) ?_
           with_reducible refine (spec_LoadOf.calls kj12 a0_0 _ _ l0_1 t302 t307 _ ?side1 ?side2 A27.out).mono ?_
           (case side1=>exact rC HR0_1)
           (case side2=>exact HC0_1.out)
           rintro e w54 ⟨rfl,hb⟩
           refine ⟨_,rfl,?_⟩
           replace BK294:=bB BK294 hb;replace BK295:=bB BK295 hb;replace BK300:=bB BK300 hb;replace BK306:=bB BK306 hb;replace HB:=bs hb;(try clear hb);skip
           refine hK.out _ _ ⟨(blk_cell BK306.out 0).trans rfl,(blk_cell BK306.out 1).trans rfl,(blk_cell BK306.out 2).trans rfl,(blk_cell BK300.out 0).trans rfl,(blk_cell BK300.out 1).trans rfl,(blk_cell BK300.out 2).trans rfl,(blk_cell BK294.out 0).trans rfl,(blk_cell BK294.out 1).trans rfl⟩ (fun hHeld=>?_)
           clear hK K
           refine no 52 ?_
           refine ot 15 (some 55) (fl 19 65535) HT_ (fun K hK=>?_)
           refine goes_ Try.func76 (by kernel_rfl) rfl #[.agg #[.int .i64 a0_0,.slice A0_1 l0_1.length c0_1],.int .i64 a3] (by rfl) rfl rfl (by (try simp only [List.map_toArray,List.map_cons,List.map_nil]);first|done|rfl|(simp only [List.length_drop,List.length_take];rfl)) ?_
           with_reducible refine (spec_LoadOf.calls kj12 a0_0 _ _ l0_1 a3 t308 _ ?side1 ?side2 A28.out).mono ?_
           (case side1=>exact rC HR0_1)
           (case side2=>exact HC0_1.out)
           rintro e w55 ⟨rfl,hb⟩
           refine ⟨_,rfl,?_⟩
           replace BK294:=bB BK294 hb;replace BK295:=bB BK295 hb;replace BK300:=bB BK300 hb;replace BK306:=bB BK306 hb;replace HB:=bs hb;(try clear hb);skip
           refine hK.out _ _ ⟨(blk_cell BK306.out 0).trans rfl,(blk_cell BK306.out 1).trans rfl,(blk_cell BK306.out 2).trans rfl,(blk_cell BK300.out 0).trans rfl,(blk_cell BK300.out 1).trans rfl,(blk_cell BK300.out 2).trans rfl,(blk_cell BK294.out 0).trans rfl,(blk_cell BK294.out 1).trans rfl⟩ (fun hHeld=>?_)
           clear hK K
           refine no 55 ?_
           refine pt 16 56 (fl 19 131071) HT_ ?_
           refine pt 17 57 (fl 19 262143) HT_ ?_
           refine pt 18 58 (fl 19 524287) HT_ ?_
           refine done_ (done_of HT_.out (by kernel_rfl)) ?_
           try go_wp2
           go_roundg kj12
           case measure=>have:=HK1.out;have:=HJ12.out;omega
           case rel=>exact ⟨(wrap64 (x11_1+1)),rd_,H',⟨by have:=HK1.out;have:=HJ12.out;omega⟩,⟨bk BK294⟩,⟨bk BK295⟩,⟨bk BK300⟩,⟨be⟩⟩
         ·rw [if_neg c26] at H
          have c26b0:(t303 == t297)=false:=beq_eq_false_iff_ne.mpr c26
          have c26b1:(t303 != t297)=true:=bne_iff_ne.mpr c26
          have H':=Aside0.mk H
          clear H
          have hnb56:=NB295_294.out
          have hnc56:=NB294_295.out
          have hnb57:=NB295_300.out
          have hnc57:=NB300_295.out
          have hcz58_0:wc.cell? ⟨gb295,0,none⟩=some (.slice A1_0 l1_0.length c1_0):=(blk_cell BK295.out 0).trans rfl
          have hfz58_0:=blk_frozen BK295.out 0
          have p301:0≤(x11_1:Int):=of_decide_eq_true (by first|(with_reducible assumption)|assumption)
          have q301:x11_1 < (l1_0.length:Int):=of_decide_eq_true (by first|(with_reducible assumption)|assumption)
          obtain ⟨ad301,e301,hx301_0⟩:=Kd.at_int HR1_0.out x11_1 p301 q301
          cases e301
          replace hx301_0:=(HB.out.cell (World.block_lt_of_cell? w _ hx301_0)).trans hx301_0
          replace p301:=eq_true p301
          replace q301:=eq_true q301
          try go_wp2_with (first|((with_reducible refine gate_callee (f:=56) rfl ?_);refine goesL_ (some 37) rfl rfl Try.func56 (by kernel_rfl) rfl #[.slice A2 l2.length c2,.int .i64 (rd l1_0 x11_1)] rfl (by (try simp only [List.map_toArray,List.map_cons,List.map_nil]);first|done|rfl|(simp only [List.length_drop,List.length_take];rfl)) ?_;(with_reducible refine (spec_DevAt.calls kj12 _ _ l2 (rd l1_0 x11_1) t302 t303 t304 true _ ?side1 ?side2 A24.out).mono ?_);(case side1=>exact rC HR2);(case side2=>exact HC2.out);rintro e w59 ⟨rfl,hb⟩;refine ⟨_,rfl,?_⟩;replace BK294:=bB BK294 hb;replace BK295:=bB BK295 hb;replace BK300:=bB BK300 hb;replace HB:=bs hb;(try clear hb))|((with_reducible refine gate_dst (N:=12) rfl ?_);refine box_event ?hg (N:=12) ?hd (cs:=#[.int .i64 0,.int .i64 0,.int .i64 0]) (t:=61) ?hr ?_;(case hd=>rfl);(case hg=>rfl);(case hr=>first|(go_simp;done)|(go_simp;rfl));intro gb306 hg w60 hbox hb;have BK306:=aM (hbox);have GW306:=gS w hg;have GE306:=gS w hg;replace HB:=bs hb;have NB294_306:=nL hg BK294;have NB306_294:=nG hg BK294;replace BK294:=bB BK294 hb;have NB295_306:=nL hg BK295;have NB306_295:=nG hg BK295;replace BK295:=bB BK295 hb;have NB300_306:=nL hg BK300;have NB306_300:=nG hg BK300;replace BK300:=bB BK300 hb;clear hb hbox hg;have hnb61:=NB306_294.out;have hnc61:=NB294_306.out;have hnb62:=NB306_295.out;have hnc62:=NB295_306.out;have hnb63:=NB306_300.out;have hnc63:=NB300_306.out;have hcz64_0:w60.cell? ⟨gb306,0,none⟩=some (.int .i64 0):=(blk_cell BK306.out 0).trans rfl;have hcz64_1:w60.cell? ⟨gb306,1,none⟩=some (.int .i64 0):=(blk_cell BK306.out 1).trans rfl;have hcz64_2:w60.cell? ⟨gb306,2,none⟩=some (.int .i64 0):=(blk_cell BK306.out 2).trans rfl;have hfz64_0:=blk_frozen BK306.out 0;have hfz64_1:=blk_frozen BK306.out 1;have hfz64_2:=blk_frozen BK306.out 2))
          have n0_:Aside0 ((((w60.setCell ⟨gb306,0,none⟩ (.int .i64 t302)).setCell ⟨gb306,1,none⟩ (.int .i64 t303)).setCell ⟨gb306,2,none⟩ (.int .i64 t304)).heap[gb294]?=some (.cells #[.int .i64 a0_0,.slice A0_1 l0_1.length c0_1] 26 (0,0))):=⟨by (with_reducible repeat (first|refine blk_drewN ?_ _|refine blk_drew ?_|refine blk_alloc ?_ _));refine blk_far ?_ NB294_306.out _;(with_reducible repeat (first|refine blk_drewN ?_ _|refine blk_drew ?_|refine blk_alloc ?_ _));refine blk_far ?_ NB294_306.out _;(with_reducible repeat (first|refine blk_drewN ?_ _|refine blk_drew ?_|refine blk_alloc ?_ _));refine blk_far ?_ NB294_306.out _;(with_reducible repeat (first|refine blk_drewN ?_ _|refine blk_drew ?_|refine blk_alloc ?_ _));exact BK294.out⟩
          have n1_:Aside0 ((((w60.setCell ⟨gb306,0,none⟩ (.int .i64 t302)).setCell ⟨gb306,1,none⟩ (.int .i64 t303)).setCell ⟨gb306,2,none⟩ (.int .i64 t304)).heap[gb295]?=some (.cells #[.slice (some ad301) l1_0.length c1_0] 35 (0,0))):=⟨by (with_reducible repeat (first|refine blk_drewN ?_ _|refine blk_drew ?_|refine blk_alloc ?_ _));refine blk_far ?_ NB295_306.out _;(with_reducible repeat (first|refine blk_drewN ?_ _|refine blk_drew ?_|refine blk_alloc ?_ _));refine blk_far ?_ NB295_306.out _;(with_reducible repeat (first|refine blk_drewN ?_ _|refine blk_drew ?_|refine blk_alloc ?_ _));refine blk_far ?_ NB295_306.out _;(with_reducible repeat (first|refine blk_drewN ?_ _|refine blk_drew ?_|refine blk_alloc ?_ _));exact BK295.out⟩
          have n2_:Aside0 ((((w60.setCell ⟨gb306,0,none⟩ (.int .i64 t302)).setCell ⟨gb306,1,none⟩ (.int .i64 t303)).setCell ⟨gb306,2,none⟩ (.int .i64 t304)).heap[gb300]?=some (.cells #[.int .i64 t296,.int .i64 t297,.int .i64 t298] 61 (0,0))):=⟨by (with_reducible repeat (first|refine blk_drewN ?_ _|refine blk_drew ?_|refine blk_alloc ?_ _));refine blk_far ?_ NB300_306.out _;(with_reducible repeat (first|refine blk_drewN ?_ _|refine blk_drew ?_|refine blk_alloc ?_ _));refine blk_far ?_ NB300_306.out _;(with_reducible repeat (first|refine blk_drewN ?_ _|refine blk_drew ?_|refine blk_alloc ?_ _));refine blk_far ?_ NB300_306.out _;(with_reducible repeat (first|refine blk_drewN ?_ _|refine blk_drew ?_|refine blk_alloc ?_ _));exact BK300.out⟩
          have n3_:Aside0 ((((w60.setCell ⟨gb306,0,none⟩ (.int .i64 t302)).setCell ⟨gb306,1,none⟩ (.int .i64 t303)).setCell ⟨gb306,2,none⟩ (.int .i64 t304)).heap[gb306]?=some (.cells #[.int .i64 t302,.int .i64 t303,.int .i64 t304] 61 (0,0))):=⟨by (with_reducible repeat (first|refine blk_drewN ?_ _|refine blk_drew ?_|refine blk_alloc ?_ _));refine blk_put (cs:=#[.int .i64 t302,.int .i64 t303,.int .i64 0]) ?_ 2 _ rfl;(with_reducible repeat (first|refine blk_drewN ?_ _|refine blk_drew ?_|refine blk_alloc ?_ _));refine blk_put (cs:=#[.int .i64 t302,.int .i64 0,.int .i64 0]) ?_ 1 _ rfl;(with_reducible repeat (first|refine blk_drewN ?_ _|refine blk_drew ?_|refine blk_alloc ?_ _));refine blk_put (cs:=#[.int .i64 0,.int .i64 0,.int .i64 0]) ?_ 0 _ rfl;(with_reducible repeat (first|refine blk_drewN ?_ _|refine blk_drew ?_|refine blk_alloc ?_ _));exact BK306.out⟩
          have n4_:Aside0 (Below w.heap.size w (((w60.setCell ⟨gb306,0,none⟩ (.int .i64 t302)).setCell ⟨gb306,1,none⟩ (.int .i64 t303)).setCell ⟨gb306,2,none⟩ (.int .i64 t304))):=⟨be⟩
          (try clear BK294);(try clear BK295);(try clear BK300);(try clear BK306);(try clear HB)
          generalize (((w60.setCell ⟨gb306,0,none⟩ (.int .i64 t302)).setCell ⟨gb306,1,none⟩ (.int .i64 t303)).setCell ⟨gb306,2,none⟩ (.int .i64 t304))=w65 at n0_ n1_ n2_ n3_ n4_ ⊢
          have BK294:=n0_;have BK295:=n1_;have BK300:=n2_;have BK306:=n3_;have HB:=n4_;clear n0_ n1_ n2_ n3_ n4_;replace BK294:=aM (blk_drew BK294.out);replace BK295:=aM (blk_drew BK295.out);replace BK300:=aM (blk_drew BK300.out);replace BK306:=aM (blk_drew BK306.out);replace HB:=aM (below_drew1 HB.out)
          refine start_ (n:=19) (S:=fun w'=>w'.cell? ⟨gb306,0,none⟩=some (.int .i64 t302)∧w'.cell? ⟨gb306,1,none⟩=some (.int .i64 t303)∧w'.cell? ⟨gb306,2,none⟩=some (.int .i64 t304)∧w'.cell? ⟨gb300,0,none⟩=some (.int .i64 t296)∧w'.cell? ⟨gb300,1,none⟩=some (.int .i64 t297)∧w'.cell? ⟨gb300,2,none⟩=some (.int .i64 t298)) (ds:=[]) (fl 19 0) (by kernel_rfl) rfl rfl ⟨(blk_cell BK306.out 0).trans rfl,(blk_cell BK306.out 1).trans rfl,(blk_cell BK306.out 2).trans rfl,(blk_cell BK300.out 0).trans rfl,(blk_cell BK300.out 1).trans rfl,(blk_cell BK300.out 2).trans rfl⟩ (fun hHeld=>?_);refine with_tabW spec_l6Heavy.tab6 spec_l6Heavy.bits6 (fun HT_ HW_=>?_)
          generalize w65.drew=w66 at BK294 BK295 BK300 BK306 HB hHeld ⊢
          refine pt 0 40 (fl 19 1) HT_ ?_
          refine pt 1 41 (fl 19 3) HT_ ?_
          refine pt 2 42 (fl 19 7) HT_ ?_
          refine pt 4 44 (fl 19 23) HT_ ?_
          refine tt 3 43 (fl 19 31) HT_ HW_ hHeld ?_
          refine tt 5 45 (fl 19 63) HT_ HW_ hHeld ?_
          refine pt 6 46 (fl 19 127) HT_ ?_
          refine pt 7 47 (fl 19 255) HT_ ?_
          refine pt 8 48 (fl 19 511) HT_ ?_
          refine ut 9 49 (fl 19 1023) HT_ ?_
          refine ut 10 50 (fl 19 2047) HT_ ?_
          refine ut 11 51 (fl 19 4095) HT_ ?_
          refine ut 12 52 (fl 19 8191) HT_ ?_
          refine ut 13 53 (fl 19 16383) HT_ ?_
          refine ut 14 54 (fl 19 32767) HT_ ?_
          refine ut 15 55 (fl 19 65535) HT_ ?_
          refine ut 16 56 (fl 19 131071) HT_ ?_
          refine ut 17 57 (fl 19 262143) HT_ ?_
          refine pt 18 58 (fl 19 524287) HT_ ?_
          refine done_ (done_of HT_.out (by kernel_rfl)) ?_
          try go_wp2
          go_roundg kj12
          case measure=>have:=HK1.out;have:=HJ12.out;omega
          case rel=>exact ⟨(wrap64 (x11_1+1)),rd_,H',⟨by have:=HK1.out;have:=HJ12.out;omega⟩,⟨bk BK294⟩,⟨bk BK295⟩,⟨bk BK300⟩,⟨be⟩⟩
        ·replace c25:=Bool.eq_false_iff.mpr c25
         subst c25
         replace H:=(if_neg (show ¬ (false=true) by decide)).symm.trans H
         have H':=Aside0.mk H
         clear H
         have hnb67:=NB295_294.out
         have hnc67:=NB294_295.out
         have hnb68:=NB295_300.out
         have hnc68:=NB300_295.out
         have hcz69_0:wc.cell? ⟨gb295,0,none⟩=some (.slice A1_0 l1_0.length c1_0):=(blk_cell BK295.out 0).trans rfl
         have hfz69_0:=blk_frozen BK295.out 0
         have p301:0≤(x11_1:Int):=of_decide_eq_true (by first|(with_reducible assumption)|assumption)
         have q301:x11_1 < (l1_0.length:Int):=of_decide_eq_true (by first|(with_reducible assumption)|assumption)
         obtain ⟨ad301,e301,hx301_0⟩:=Kd.at_int HR1_0.out x11_1 p301 q301
         cases e301
         replace hx301_0:=(HB.out.cell (World.block_lt_of_cell? w _ hx301_0)).trans hx301_0
         replace p301:=eq_true p301
         replace q301:=eq_true q301
         try go_wp2_with (first|((with_reducible refine gate_callee (f:=56) rfl ?_);refine goesL_ (some 37) rfl rfl Try.func56 (by kernel_rfl) rfl #[.slice A2 l2.length c2,.int .i64 (rd l1_0 x11_1)] rfl (by (try simp only [List.map_toArray,List.map_cons,List.map_nil]);first|done|rfl|(simp only [List.length_drop,List.length_take];rfl)) ?_;(with_reducible refine (spec_DevAt.calls kj12 _ _ l2 (rd l1_0 x11_1) t302 t303 t304 false _ ?side1 ?side2 A24.out).mono ?_);(case side1=>exact rC HR2);(case side2=>exact HC2.out);rintro e w70 ⟨rfl,hb⟩;refine ⟨_,rfl,?_⟩;replace BK294:=bB BK294 hb;replace BK295:=bB BK295 hb;replace BK300:=bB BK300 hb;replace HB:=bs hb;(try clear hb))|((with_reducible refine gate_dst (N:=12) rfl ?_);refine box_event ?hg (N:=12) ?hd (cs:=#[.int .i64 0,.int .i64 0,.int .i64 0]) (t:=61) ?hr ?_;(case hd=>rfl);(case hg=>rfl);(case hr=>first|(go_simp;done)|(go_simp;rfl));intro gb306 hg w71 hbox hb;have BK306:=aM (hbox);have GW306:=gS w hg;have GE306:=gS w hg;replace HB:=bs hb;have NB294_306:=nL hg BK294;have NB306_294:=nG hg BK294;replace BK294:=bB BK294 hb;have NB295_306:=nL hg BK295;have NB306_295:=nG hg BK295;replace BK295:=bB BK295 hb;have NB300_306:=nL hg BK300;have NB306_300:=nG hg BK300;replace BK300:=bB BK300 hb;clear hb hbox hg;have hnb72:=NB306_294.out;have hnc72:=NB294_306.out;have hnb73:=NB306_295.out;have hnc73:=NB295_306.out;have hnb74:=NB306_300.out;have hnc74:=NB300_306.out;have hcz75_0:w71.cell? ⟨gb306,0,none⟩=some (.int .i64 0):=(blk_cell BK306.out 0).trans rfl;have hcz75_1:w71.cell? ⟨gb306,1,none⟩=some (.int .i64 0):=(blk_cell BK306.out 1).trans rfl;have hcz75_2:w71.cell? ⟨gb306,2,none⟩=some (.int .i64 0):=(blk_cell BK306.out 2).trans rfl;have hfz75_0:=blk_frozen BK306.out 0;have hfz75_1:=blk_frozen BK306.out 1;have hfz75_2:=blk_frozen BK306.out 2))
         have n0_:Aside0 ((((w71.setCell ⟨gb306,0,none⟩ (.int .i64 t302)).setCell ⟨gb306,1,none⟩ (.int .i64 t303)).setCell ⟨gb306,2,none⟩ (.int .i64 t304)).heap[gb294]?=some (.cells #[.int .i64 a0_0,.slice A0_1 l0_1.length c0_1] 26 (0,0))):=⟨by (with_reducible repeat (first|refine blk_drewN ?_ _|refine blk_drew ?_|refine blk_alloc ?_ _));refine blk_far ?_ NB294_306.out _;(with_reducible repeat (first|refine blk_drewN ?_ _|refine blk_drew ?_|refine blk_alloc ?_ _));refine blk_far ?_ NB294_306.out _;(with_reducible repeat (first|refine blk_drewN ?_ _|refine blk_drew ?_|refine blk_alloc ?_ _));refine blk_far ?_ NB294_306.out _;(with_reducible repeat (first|refine blk_drewN ?_ _|refine blk_drew ?_|refine blk_alloc ?_ _));exact BK294.out⟩
         have n1_:Aside0 ((((w71.setCell ⟨gb306,0,none⟩ (.int .i64 t302)).setCell ⟨gb306,1,none⟩ (.int .i64 t303)).setCell ⟨gb306,2,none⟩ (.int .i64 t304)).heap[gb295]?=some (.cells #[.slice (some ad301) l1_0.length c1_0] 35 (0,0))):=⟨by (with_reducible repeat (first|refine blk_drewN ?_ _|refine blk_drew ?_|refine blk_alloc ?_ _));refine blk_far ?_ NB295_306.out _;(with_reducible repeat (first|refine blk_drewN ?_ _|refine blk_drew ?_|refine blk_alloc ?_ _));refine blk_far ?_ NB295_306.out _;(with_reducible repeat (first|refine blk_drewN ?_ _|refine blk_drew ?_|refine blk_alloc ?_ _));refine blk_far ?_ NB295_306.out _;(with_reducible repeat (first|refine blk_drewN ?_ _|refine blk_drew ?_|refine blk_alloc ?_ _));exact BK295.out⟩
         have n2_:Aside0 ((((w71.setCell ⟨gb306,0,none⟩ (.int .i64 t302)).setCell ⟨gb306,1,none⟩ (.int .i64 t303)).setCell ⟨gb306,2,none⟩ (.int .i64 t304)).heap[gb300]?=some (.cells #[.int .i64 t296,.int .i64 t297,.int .i64 t298] 61 (0,0))):=⟨by (with_reducible repeat (first|refine blk_drewN ?_ _|refine blk_drew ?_|refine blk_alloc ?_ _));refine blk_far ?_ NB300_306.out _;(with_reducible repeat (first|refine blk_drewN ?_ _|refine blk_drew ?_|refine blk_alloc ?_ _));refine blk_far ?_ NB300_306.out _;(with_reducible repeat (first|refine blk_drewN ?_ _|refine blk_drew ?_|refine blk_alloc ?_ _));refine blk_far ?_ NB300_306.out _;(with_reducible repeat (first|refine blk_drewN ?_ _|refine blk_drew ?_|refine blk_alloc ?_ _));exact BK300.out⟩
         have n3_:Aside0 ((((w71.setCell ⟨gb306,0,none⟩ (.int .i64 t302)).setCell ⟨gb306,1,none⟩ (.int .i64 t303)).setCell ⟨gb306,2,none⟩ (.int .i64 t304)).heap[gb306]?=some (.cells #[.int .i64 t302,.int .i64 t303,.int .i64 t304] 61 (0,0))):=⟨by (with_reducible repeat (first|refine blk_drewN ?_ _|refine blk_drew ?_|refine blk_alloc ?_ _));refine blk_put (cs:=#[.int .i64 t302,.int .i64 t303,.int .i64 0]) ?_ 2 _ rfl;(with_reducible repeat (first|refine blk_drewN ?_ _|refine blk_drew ?_|refine blk_alloc ?_ _));refine blk_put (cs:=#[.int .i64 t302,.int .i64 0,.int .i64 0]) ?_ 1 _ rfl;(with_reducible repeat (first|refine blk_drewN ?_ _|refine blk_drew ?_|refine blk_alloc ?_ _));refine blk_put (cs:=#[.int .i64 0,.int .i64 0,.int .i64 0]) ?_ 0 _ rfl;(with_reducible repeat (first|refine blk_drewN ?_ _|refine blk_drew ?_|refine blk_alloc ?_ _));exact BK306.out⟩
         have n4_:Aside0 (Below w.heap.size w (((w71.setCell ⟨gb306,0,none⟩ (.int .i64 t302)).setCell ⟨gb306,1,none⟩ (.int .i64 t303)).setCell ⟨gb306,2,none⟩ (.int .i64 t304))):=⟨be⟩
         (try clear BK294);(try clear BK295);(try clear BK300);(try clear BK306);(try clear HB)
         generalize (((w71.setCell ⟨gb306,0,none⟩ (.int .i64 t302)).setCell ⟨gb306,1,none⟩ (.int .i64 t303)).setCell ⟨gb306,2,none⟩ (.int .i64 t304))=w76 at n0_ n1_ n2_ n3_ n4_ ⊢
         have BK294:=n0_;have BK295:=n1_;have BK300:=n2_;have BK306:=n3_;have HB:=n4_;clear n0_ n1_ n2_ n3_ n4_;replace BK294:=aM (blk_drew BK294.out);replace BK295:=aM (blk_drew BK295.out);replace BK300:=aM (blk_drew BK300.out);replace BK306:=aM (blk_drew BK306.out);replace HB:=aM (below_drew1 HB.out)
         refine start_ (n:=19) (S:=fun w'=>True) (ds:=[]) (fl 19 0) (by kernel_rfl) rfl rfl trivial (fun hHeld=>?_);refine with_tabW spec_l6Heavy.tab6 spec_l6Heavy.bits6 (fun HT_ HW_=>?_)
         generalize w76.drew=w77 at BK294 BK295 BK300 BK306 HB hHeld ⊢
         refine pt 0 40 (fl 19 1) HT_ ?_
         refine pt 1 41 (fl 19 3) HT_ ?_
         refine ut 2 42 (fl 19 7) HT_ ?_
         refine ut 3 43 (fl 19 15) HT_ ?_
         refine ut 4 44 (fl 19 31) HT_ ?_
         refine ut 5 45 (fl 19 63) HT_ ?_
         refine ut 6 46 (fl 19 127) HT_ ?_
         refine pt 7 47 (fl 19 255) HT_ ?_
         refine pt 8 48 (fl 19 511) HT_ ?_
         refine ut 9 49 (fl 19 1023) HT_ ?_
         refine ut 10 50 (fl 19 2047) HT_ ?_
         refine ut 11 51 (fl 19 4095) HT_ ?_
         refine ut 12 52 (fl 19 8191) HT_ ?_
         refine ut 13 53 (fl 19 16383) HT_ ?_
         refine ut 14 54 (fl 19 32767) HT_ ?_
         refine ut 15 55 (fl 19 65535) HT_ ?_
         refine ut 16 56 (fl 19 131071) HT_ ?_
         refine ut 17 57 (fl 19 262143) HT_ ?_
         refine pt 18 58 (fl 19 524287) HT_ ?_
         refine done_ (done_of HT_.out (by kernel_rfl)) ?_
         try go_wp2
         go_roundg kj12
         case measure=>have:=HK1.out;have:=HJ12.out;omega
         case rel=>exact ⟨(wrap64 (x11_1+1)),rd_,H',⟨by have:=HK1.out;have:=HJ12.out;omega⟩,⟨bk BK294⟩,⟨bk BK295⟩,⟨bk BK300⟩,⟨be⟩⟩
       ·rw [if_neg c23] at H
        exact absurd H (by simp)
      ·rw [if_neg c22] at H
       exact absurd H (by simp)
     ·replace c21:=Bool.eq_false_iff.mpr c21
      subst c21
      replace H:=(if_neg (show ¬ (false=true) by decide)).symm.trans H
      obtain rfl:=Option.some.inj H
      go_wp2
      go_ret
      exact ⟨rz,be⟩
end Go.Proofs.Ytpbjbfimnfghkaa.PFnExactRebalance
