/- Trimmed by a program of this session (trim.py). Not trusted: Lean checks it. -/
import Derived.Test.YtpbjbfimnfghkaaTLRebalancedPFnRebalancedx0
import Derived.Test.YtpbjbfimnfghkaaTLRebalancedPFnRebalancedx1
import Derived.Test.YtpbjbfimnfghkaaTLRebalancedPFnRebalancedx2
namespace Go.Proofs.Ytpbjbfimnfghkaa.PFnRebalanced
open Go.RowKit Go.Proofs.YtpbjbfimnfghkaaW.PrintWords Go.Proofs.YtpbjbfimnfghkaaW.PrintLast Go.Proofs.YtpbjbfimnfghkaaW.PrintMore Go.Proofs.Ytpbjbfimnfghkaa.St
attribute [local go_sem] max2_int min2_int max_two min_two max_three min_three max_four min_four
set_option linter.unusedVariables false
set_option linter.unusedSimpArgs false
mutual
def spec_Best.l0:Nat→List (S61)→List Int→Int→Bool→Int→Int→List (S35)→List Int→Option (Int)
 | 0,_,_,_,_,_,_,_,_=>none
 | k+1,x2,x7,x8,x9,x10,x133000,x133001,x134000=>if x10 < (x2.length:Int) then ((spec_DevsOk.f k x2).bind fun t137=>(spec_Best.j1 k x2 x7 x8 x9 x10 t137 x133000 x133001 x134000)) else (spec_Best.j1 k x2 x7 x8 x9 x10 false x133000 x133001 x134000)
def spec_Best.j1:Nat→List (S61)→List Int→Int→Bool→Int→Bool→Int→List (S35)→List Int→Option (Int)
 | 0,_,_,_,_,_,_,_,_,_=>none
 | k+1,x2,x7,x8,x9,x10,x24,x133000,x133001,x134000=>if x24=true then (if 0≤x10 then (if x10 < (x2.length:Int) then ((spec_l4Has.f k x134000 ((rd_T61 x2 x10).f0)).bind fun t141=>(if t141=true then (spec_Best.l0 k x2 x7 x8 x9 (wrap64 (x10+1)) x133000 x133001 x134000) else ((spec_l4Has.f k x7 ((rd_T61 x2 x10).f1)).bind fun t142=>(if x8 < 0 then (spec_Best.j2 k x2 x7 x8 x9 x10 (!t142) true x133000 x133001 x134000 ((rd_T61 x2 x10).f0) ((rd_T61 x2 x10).f1) ((rd_T61 x2 x10).f2)) else (if t142=true then (spec_Best.j2 k x2 x7 x8 x9 x10 (!t142) false x133000 x133001 x134000 ((rd_T61 x2 x10).f0) ((rd_T61 x2 x10).f1) ((rd_T61 x2 x10).f2)) else (spec_Best.j2 k x2 x7 x8 x9 x10 (!t142) (!x9) x133000 x133001 x134000 ((rd_T61 x2 x10).f0) ((rd_T61 x2 x10).f1) ((rd_T61 x2 x10).f2))))))) else (none)) else (none)) else (if x8 < 0 then (some (-1)) else (if 0≤x8 then (if x8 < (x2.length:Int) then (some ((rd_T61 x2 x8).f0)) else (none)) else (none)))
def spec_Best.j2:Nat→List (S61)→List Int→Int→Bool→Int→Bool→Bool→Int→List (S35)→List Int→Int→Int→Int→Option (Int)
 | 0,_,_,_,_,_,_,_,_,_,_,_,_,_=>none
 | k+1,x2,x7,x8,x9,x10,x12,x49,x133000,x133001,x134000,x141000,x141001,x141002=>if x49=true then (spec_Best.l0 k x2 x7 x10 x12 (wrap64 (x10+1)) x133000 x133001 x134000) else (if (x12 == x9)=true then ((spec_LoadOf.f k x133000 x133001 x141000).bind fun t143=>(if 0≤x8 then (if x8 < (x2.length:Int) then ((spec_LoadOf.f k x133000 x133001 ((rd_T61 x2 x8).f0)).bind fun t146=>(if (wrap64 ((wrap64 (t143+1)) * ((rd_T61 x2 x8).f2))) < (wrap64 ((wrap64 (t146+1)) * x141002)) then (spec_Best.l0 k x2 x7 x10 x9 (wrap64 (x10+1)) x133000 x133001 x134000) else (spec_Best.l0 k x2 x7 x8 x9 (wrap64 (x10+1)) x133000 x133001 x134000))) else (none)) else (none))) else (spec_Best.l0 k x2 x7 x8 x9 (wrap64 (x10+1)) x133000 x133001 x134000))
end
def spec_Best.f (k:Nat) (a0_0:Int) (l0_1:List (S35)) (l1_0:List Int) (l2:List (S61)):Option (Int):=(spec_l5Zones.f k l1_0 l2).bind fun t134=>(spec_Best.l0 k l2 t134 (-1) false 0 a0_0 l0_1 l1_0)
def spec_Best.T13:Bool × List (List Nat × List Nat):=(true,[([],[]),([],[]),([0,1],[0,1]),([2],[2]),([3],[3]),([3],[3]),([5,3],[3,5]),([4,6,3,3],[3,4,6]),([7,3],[3,7]),([3],[3]),([3],[3]),([9,10,3],[3,9,10]),([11,3],[3,11]),([12,3],[3,12]),([8,13,3],[3,8,13]),([3],[3]),([3],[3]),([3],[3]),([16,17,3],[3,16,17]),([18,3],[3,18]),([19,3],[3,19]),([15,20,7,3],[3,15,20]),([21,3],[3,21]),([3],[3]),([23,3],[3,23]),([22,24,3],[3,22,24]),([14,25,3],[3,14,25]),([3,26],[3,26])])
def spec_Best.B13:List Nat:=[0,0,3,7,15,15,47,127,255,15,15,1551,3599,7695,16383,15,15,15,196623,458767,983055,2064639,4161791,15,8388623,33521919,67108863,134217727]
theorem spec_Best.tab13:rtab .any (opsOf Try.f50 13)=spec_Best.T13:=by kernel_rfl
theorem spec_Best.bits13:waitsOk spec_Best.T13.2 spec_Best.B13=true:=by kernel_rfl
set_option maxHeartbeats 8000000 in
set_option maxRecDepth 100000 in
theorem spec_Best.calls (k:Nat) (a0_0:Int) (A0_1:Option Addr) (c0_1:Nat) (l0_1:List (S35)) (A1_0:Option Addr) (c1_0:Nat) (l1_0:List Int) (A2:Option Addr) (c2:Nat) (l2:List (S61)) (r:Int) (w:World) (hr0_1:Kd.C k35 w A0_1 l0_1.length l0_1) (hc0_1:l0_1.length≤c0_1) (hr1_0:Kd.C (Kd.int .i64) w A1_0 l1_0.length l1_0) (hc1_0:l1_0.length≤c1_0) (hr2:Kd.C k61 w A2 l2.length l2) (hc2:l2.length≤c2) (h:spec_Best.f k a0_0 l0_1 l1_0 l2=some r) :
  Calls Try.prog 50 #[.agg #[.int .i64 a0_0,.slice A0_1 l0_1.length c0_1],.agg #[.slice A1_0 l1_0.length c1_0],.slice A2 l2.length c2] w fun e w'=>e = .returned (.int .i64 r)∧Below w.heap.size w w':=by
 have hu26:=Try.underlying26
 have hu35:=Try.underlying35
 have hu61:=Try.underlying61
 have HR0_1:=aM hr0_1
 have HC0_1:=aM hc0_1
 clear hr0_1 hc0_1
 have HR1_0:=aM hr1_0
 have HC1_0:=aM hc1_0
 clear hr1_0 hc1_0
 have HR2:=aM hr2
 have HC2:=aM hc2
 clear hr2 hc2
 have HB:=aM (Below.refl w.heap.size w)
 have H:((spec_l5Zones.f k l1_0 l2).bind fun t134=>(spec_Best.l0 k l2 t134 (-1) false 0 a0_0 l0_1 l1_0))=some r:=h
 clear h
 replace H:=Option.bind_eq_some_iff.mp H
 obtain ⟨t134,A40,H⟩:=H
 try dsimp only at H
 have A4:=aM A40
 clear A40
 have H':=Aside0.mk H
 clear H
 go_enter Try.func50,Try.ntmps50
 go_wp2_with (first|((with_reducible refine gate_dst (N:=3) rfl ?_);refine box_event ?hg (N:=3) ?hd (cs:=#[.int .i64 a0_0,.slice A0_1 l0_1.length c0_1]) (t:=26) ?hr ?_;(case hd=>rfl);(case hg=>rfl);(case hr=>(go_simp;done));intro gb132 hg w5 hbox hb;have BK132:=aM (hbox);have GW132:=gS w hg;replace HB:=bs hb;clear hb hbox hg)|((with_reducible refine gate_dst (N:=4) rfl ?_);refine box_event ?hg (N:=4) ?hd (cs:=#[.slice A1_0 l1_0.length c1_0]) (t:=35) ?hr ?_;(case hd=>rfl);(case hg=>rfl);(case hr=>(go_simp;done));intro gb133 hg w6 hbox hb;have BK133:=aM (hbox);have GW133:=gS w hg;replace HB:=bs hb;have NB132_133:=nL hg BK132;have NB133_132:=nG hg BK132;replace BK132:=bB BK132 hb;clear hb hbox hg;have hnb7:=NB133_132.out;have hnc7:=NB132_133.out;obtain ⟨hcz8_0,hfz8_0⟩:=b1 BK133)|((with_reducible refine gate_callee (f:=75) rfl ?_);refine goesL_ (some 16) rfl rfl Try.func75 (by kernel_rfl) rfl #[.slice A1_0 l1_0.length c1_0,.slice A2 l2.length c2] rfl (by (try simp only [List.map_toArray,List.map_cons,List.map_nil]);rfl) ?_;(with_reducible refine (spec_l5Zones.calls k _ _ l1_0 _ _ l2 t134 _ ?side1 ?side2 ?side3 ?side4 A4.out).mono ?_);(case side1=>exact rC HR1_0);(case side2=>exact HC1_0.out);(case side3=>exact rC HR2);(case side4=>exact HC2.out);rintro e w9 ⟨v135,rfl,ho0,hb⟩;refine ⟨_,rfl,?_⟩;have HO136:=aM (Kd.R_lower ho0 (below_size be));replace BK132:=bB BK132 hb;replace BK133:=bB BK133 hb;replace HB:=bs hb;(try clear hb);(try clear ho0)))
 go_loopg [8,9,10] k (fun kq v8 v9 v10 w'=>∃ (x8_1:Int) (x9_1:Bool) (x10_1:Int),v8 = .int .i64 x8_1∧v9 = .bool x9_1∧v10 = .int .i64 x10_1∧Aside0 (spec_Best.l0 kq l2 t134 x8_1 x9_1 x10_1 a0_0 l0_1 l1_0=some r)∧Aside0 (kq≤k)∧Aside0 (Kd.R (Kd.int .i64) 3 w' w.heap.size (fun _=>True) v135 t134)∧Aside0 (w'.heap[gb132]?=some (.cells #[.int .i64 a0_0,(.slice A0_1 l0_1.length c0_1)] 26 (0,0)))∧Aside0 (w'.heap[gb133]?=some (.cells #[(.slice A1_0 l1_0.length c1_0)] 35 (0,0)))∧Aside0 (Below w.heap.size w w'))
 case atStart=>exact ⟨((-1)),(false),(0),rd_,rd_,rd_,H',⟨Nat.le_refl _⟩,⟨rR HO136⟩,⟨bk BK132⟩,⟨bk BK133⟩,⟨be⟩⟩
 case round=>
  clear H'
  try clear hcz8_0
  try clear hfz8_0
  obtain ⟨x8_1,x9_1,x10_1,rfl,rfl,rfl,HA,HK1,HO_7,BK132,BK133,HB⟩:=hrel
  cases gk with
  | zero=>exact absurd HA.out (by simp [spec_Best.l0])
  | succ k1=>
   have H:=HA.out
   clear HA
   simp only [spec_Best.l0] at H
   have HC10:=aM H
   clear H
   go_upto_region 5 with (fail)
   go_cut [24] (fun v24 wc=>∃ (kq:Nat) (x24_9:Bool),v24 = .bool x24_9∧Aside0 (spec_Best.j1 kq l2 t134 x8_1 x9_1 x10_1 x24_9 a0_0 l0_1 l1_0=some r)∧Aside0 (kq≤k1)∧Aside0 (Kd.R (Kd.int .i64) 3 wc w.heap.size (fun _=>True) v135 t134)∧Aside0 (wc.heap[gb132]?=some (.cells #[.int .i64 a0_0,(.slice A0_1 l0_1.length c0_1)] 26 (0,0)))∧Aside0 (wc.heap[gb133]?=some (.cells #[(.slice A1_0 l1_0.length c1_0)] 35 (0,0)))∧Aside0 (Below w.heap.size w wc))
   case first=>
    have H:=HC10.out
    clear HC10
    by_cases c11:x10_1 < (l2.length:Int)
    ·rw [if_pos c11] at H
     have c11b0:decide (x10_1 < (l2.length:Int))=true:=decide_eq_true c11
     clear c11
     (skip)
     replace H:=Option.bind_eq_some_iff.mp H
     obtain ⟨t137,A120,H⟩:=H
     try dsimp only at H
     have A12:=aM A120
     clear A120
     have H':=Aside0.mk H
     clear H
     go_wp2_with (go_at_call 53;(with_reducible refine (spec_DevsOk.calls k1 _ _ l2 t137 _ ?side1 ?side2 A12.out).mono ?_);(case side1=>exact rC HR2);(case side2=>exact HC2.out);rintro e w13 ⟨rfl,hb⟩;replace HO_7:=rB HO_7 hb;replace BK132:=bB BK132 hb;replace BK133:=bB BK133 hb;replace HB:=bs hb;(try clear hb))
     go_meet
     case rel=>exact ⟨_,(t137),rd_,H',⟨by have:=HK1.out;omega⟩,⟨rR HO_7⟩,⟨bk BK132⟩,⟨bk BK133⟩,⟨be⟩⟩
    ·rw [if_neg c11] at H
     have c11b0:decide (x10_1 < (l2.length:Int))=false:=decide_eq_false c11
     clear c11
     (skip)
     have H':=Aside0.mk H
     clear H
     go_wp2
     go_meet
     case rel=>exact ⟨_,(false),rd_,H',⟨by have:=HK1.out;omega⟩,⟨rR HO_7⟩,⟨bk BK132⟩,⟨bk BK133⟩,⟨be⟩⟩
   case rest=>
    clear HC10
    obtain ⟨kq,x24_9,rfl,HA,HJ9,HO_7,BK132,BK133,HB⟩:=hcut
    cases kq with
    | zero=>exact absurd HA.out (by simp [spec_Best.j1])
    | succ kj9=>
     have H:=HA.out
     clear HA
     simp only [spec_Best.j1] at H
     by_cases c14:x24_9=true
     ·subst c14
      rw [if_pos rfl] at H
      obtain ⟨c15,H⟩:=ifs H
      have c15b0:decide (0≤x10_1)=true:=decide_eq_true c15
      clear c15
      obtain ⟨c16,H⟩:=ifs H
      have c16b0:decide (x10_1 < (l2.length:Int))=true:=decide_eq_true c16
      clear c16
      replace H:=Option.bind_eq_some_iff.mp H
      obtain ⟨t141,A170,H⟩:=H
      try dsimp only at H
      have A17:=aM A170
      clear A170
      by_cases c18:t141=true
      ·subst c18
       rw [if_pos rfl] at H
       have H':=Aside0.mk H
       clear H
       have p139:0≤(x10_1:Int):=od
       have q139:x10_1 < (l2.length:Int):=od
       obtain ⟨ad139,e139,hx139_0,hx139_1,hx139_2⟩:=at_T61 HR2.out x10_1 p139 q139
       cases e139
       replace hx139_0:=xH HB hx139_0
       replace hx139_1:=xH HB hx139_1
       replace hx139_2:=xH HB hx139_2
       replace p139:=eq_true p139
       replace q139:=eq_true q139
       go_wp2_with (first|((with_reducible refine gate_dst (N:=11) rfl ?_);refine box_event ?hg (N:=11) ?hd (cs:=#[.int .i64 0,.int .i64 0,.int .i64 0]) (t:=61) ?hr ?_;(case hd=>rfl);(case hg=>rfl);(case hr=>(go_simp;done));intro gb140 hg w19 hbox hb;replace HO_7:=rB HO_7 hb;have BK140:=aM (hbox);have GW140:=gS w hg;have GE140:=gS w hg;replace HB:=bs hb;have NB132_140:=nL hg BK132;have NB140_132:=nG hg BK132;replace BK132:=bB BK132 hb;have NB133_140:=nL hg BK133;have NB140_133:=nG hg BK133;replace BK133:=bB BK133 hb;clear hb hbox hg;have hnb20:=NB140_132.out;have hnc20:=NB132_140.out;have hnb21:=NB140_133.out;have hnc21:=NB133_140.out;obtain ⟨hcz22_0,hcz22_1,hcz22_2,hfz22_0,hfz22_1,hfz22_2⟩:=b3 BK140;have hnb23:=NB133_132.out;have hnc23:=NB132_133.out;obtain ⟨hcz24_0,hfz24_0⟩:=b1 BK133)|((with_reducible refine gate_callee (f:=68) rfl ?_);refine goesL_ (some 35) rfl rfl Try.func68 (by kernel_rfl) rfl #[.slice A1_0 l1_0.length c1_0,.int .i64 ((rd_T61 l2 x10_1).f0)] rfl (by (try simp only [List.map_toArray,List.map_cons,List.map_nil]);rfl) ?_;(with_reducible refine (spec_l4Has.calls kj9 _ _ l1_0 ((rd_T61 l2 x10_1).f0) true _ ?side1 ?side2 A17.out).mono ?_);(case side1=>exact Kd.C_below HR1_0.out be);(case side2=>exact HC1_0.out);rintro e w' ⟨rfl,⟨nd,rfl⟩⟩;refine ⟨_,rfl,?_⟩))
       go_roundg kj9
       case measure=>have:=HK1.out;have:=HJ9.out;omega
       case rel=>exact ⟨(x8_1),(x9_1),(wrap64 (x10_1+1)),rd_,rd_,rd_,H',⟨by have:=HK1.out;have:=HJ9.out;omega⟩,⟨by (with_reducible repeat (apply Kd.R_drewN));exact Kd.R_mono (Kd.R_far (p:=⟨gb140,2,none⟩) (Kd.R_far (p:=⟨gb140,1,none⟩) (Kd.R_far (p:=⟨gb140,0,none⟩) (Kd.R_types HO_7.out BK140.out (by decide)) (fun _ hk=>hk.2) (.int .i64 ((rd_T61 l2 x10_1).f0))) (fun _ hk=>hk.2) (.int .i64 ((rd_T61 l2 x10_1).f1))) (fun _ hk=>hk.2) (.int .i64 ((rd_T61 l2 x10_1).f2))) (fun _ hk=>trivial)⟩,⟨by (with_reducible repeat (refine blk_drewN ?_ _));refine blk_far ?_ NB132_140.out _;refine blk_far ?_ NB132_140.out _;refine blk_far ?_ NB132_140.out _;exact BK132.out⟩,⟨by (with_reducible repeat (refine blk_drewN ?_ _));refine blk_far ?_ NB133_140.out _;refine blk_far ?_ NB133_140.out _;refine blk_far ?_ NB133_140.out _;exact BK133.out⟩,⟨be⟩⟩
      ·replace c18:=Bool.eq_false_iff.mpr c18
       subst c18
       replace H:=(if_neg (show ¬ (false=true) by decide)).symm.trans H
       replace H:=Option.bind_eq_some_iff.mp H
       obtain ⟨t142,A250,H⟩:=H
       try dsimp only at H
       have A25:=aM A250
       clear A250
       have HC26:=aM H
       clear H
       have p139:0≤(x10_1:Int):=od
       have q139:x10_1 < (l2.length:Int):=od
       obtain ⟨ad139,e139,hx139_0,hx139_1,hx139_2⟩:=at_T61 HR2.out x10_1 p139 q139
       cases e139
       replace hx139_0:=xH HB hx139_0
       replace hx139_1:=xH HB hx139_1
       replace hx139_2:=xH HB hx139_2
       replace p139:=eq_true p139
       replace q139:=eq_true q139
       go_upto_region 10 with (first|((with_reducible refine gate_dst (N:=11) rfl ?_);refine box_event ?hg (N:=11) ?hd (cs:=#[.int .i64 0,.int .i64 0,.int .i64 0]) (t:=61) ?hr ?_;(case hd=>rfl);(case hg=>rfl);(case hr=>(go_simp;done));intro gb140 hg w27 hbox hb;replace HO_7:=rB HO_7 hb;have BK140:=aM (hbox);have GW140:=gS w hg;have GE140:=gS w hg;replace HB:=bs hb;have NB132_140:=nL hg BK132;have NB140_132:=nG hg BK132;replace BK132:=bB BK132 hb;have NB133_140:=nL hg BK133;have NB140_133:=nG hg BK133;replace BK133:=bB BK133 hb;clear hb hbox hg;have hnb28:=NB140_132.out;have hnc28:=NB132_140.out;have hnb29:=NB140_133.out;have hnc29:=NB133_140.out;obtain ⟨hcz30_0,hcz30_1,hcz30_2,hfz30_0,hfz30_1,hfz30_2⟩:=b3 BK140;have hnb31:=NB133_132.out;have hnc31:=NB132_133.out;obtain ⟨hcz32_0,hfz32_0⟩:=b1 BK133)|((with_reducible refine gate_callee (f:=68) rfl ?_);refine goesL_ (some 35) rfl rfl Try.func68 (by kernel_rfl) rfl #[.slice A1_0 l1_0.length c1_0,.int .i64 ((rd_T61 l2 x10_1).f0)] rfl (by (try simp only [List.map_toArray,List.map_cons,List.map_nil]);rfl) ?_;(with_reducible refine (spec_l4Has.calls kj9 _ _ l1_0 ((rd_T61 l2 x10_1).f0) false _ ?side1 ?side2 A17.out).mono ?_);(case side1=>exact Kd.C_below HR1_0.out be);(case side2=>exact HC1_0.out);rintro e w' ⟨rfl,⟨nd,rfl⟩⟩;refine ⟨_,rfl,?_⟩;obtain ⟨Ao33,co33,eo33⟩:=Kd.R_slice HO_7.out;subst eo33)|((with_reducible refine gate_callee (f:=68) rfl ?_);refine goesL_ (some 39) rfl rfl Try.func68 (by kernel_rfl) rfl #[.slice Ao33 t134.length co33,.int .i64 ((rd_T61 l2 x10_1).f1)] rfl (by (try simp only [List.map_toArray,List.map_cons,List.map_nil]);rfl) ?_;(with_reducible refine (spec_l4Has.calls kj9 _ _ t134 ((rd_T61 l2 x10_1).f1) t142 _ ?side1 ?side2 A25.out).mono ?_);(case side1=>refine (Kd.R_reads' (e:=3) (base:=w.heap.size) (ok:=fun k_=>True) (n:=t134.length) (c:=co33) ?_).2.2;exact (by (with_reducible repeat (apply Kd.R_drewN));exact (Kd.R_mono (Kd.R_far (p:=⟨gb140,2,none⟩) (Kd.R_far (p:=⟨gb140,1,none⟩) (Kd.R_far (p:=⟨gb140,0,none⟩) (Kd.R_types HO_7.out BK140.out (by decide)) (fun _ hk=>hk.2) (.int .i64 ((rd_T61 l2 x10_1).f0))) (fun _ hk=>hk.2) (.int .i64 ((rd_T61 l2 x10_1).f1))) (fun _ hk=>hk.2) (.int .i64 ((rd_T61 l2 x10_1).f2))) (fun _ h_=>h_.1))));(case side2=>exact (Kd.R_reads' HO_7.out).2.1);rintro e w' ⟨rfl,⟨nd,rfl⟩⟩;refine ⟨_,rfl,?_⟩))
       skip
       go_cut [49] (fun v49 wc=>∃ (kq:Nat) (x49_25:Bool),v49 = .bool x49_25∧Aside0 (spec_Best.j2 kq l2 t134 x8_1 x9_1 x10_1 (!t142) x49_25 a0_0 l0_1 l1_0 ((rd_T61 l2 x10_1).f0) ((rd_T61 l2 x10_1).f1) ((rd_T61 l2 x10_1).f2)=some r)∧Aside0 (kq≤kj9)∧Aside0 (Kd.R (Kd.int .i64) 3 wc w.heap.size (fun _=>True) (.slice Ao33 t134.length co33) t134)∧Aside0 (wc.heap[gb132]?=some (.cells #[.int .i64 a0_0,(.slice A0_1 l0_1.length c0_1)] 26 (0,0)))∧Aside0 (wc.heap[gb133]?=some (.cells #[(.slice A1_0 l1_0.length c1_0)] 35 (0,0)))∧Aside0 (wc.heap[gb140]?=some (.cells #[.int .i64 ((rd_T61 l2 x10_1).f0),.int .i64 ((rd_T61 l2 x10_1).f1),.int .i64 ((rd_T61 l2 x10_1).f2)] 61 (0,0)))∧Aside0 (Below w.heap.size w wc))
       case first=>
        have H:=HC26.out
        clear HC26
        by_cases c34:x8_1 < 0
        ·rw [if_pos c34] at H
         have c34b0:decide (x8_1 < 0)=true:=decide_eq_true c34
         clear c34
         (skip)
         have H':=Aside0.mk H
         clear H
         go_wp2
         go_meet
         case rel=>exact ⟨_,(true),rd_,H',⟨by have:=HK1.out;have:=HJ9.out;omega⟩,⟨by (with_reducible repeat (apply Kd.R_drewN));exact Kd.R_mono (Kd.R_far (p:=⟨gb140,2,none⟩) (Kd.R_far (p:=⟨gb140,1,none⟩) (Kd.R_far (p:=⟨gb140,0,none⟩) (Kd.R_types HO_7.out BK140.out (by decide)) (fun _ hk=>hk.2) (.int .i64 ((rd_T61 l2 x10_1).f0))) (fun _ hk=>hk.2) (.int .i64 ((rd_T61 l2 x10_1).f1))) (fun _ hk=>hk.2) (.int .i64 ((rd_T61 l2 x10_1).f2))) (fun _ hk=>trivial)⟩,⟨by (with_reducible repeat (refine blk_drewN ?_ _));refine blk_far ?_ NB132_140.out _;refine blk_far ?_ NB132_140.out _;refine blk_far ?_ NB132_140.out _;exact BK132.out⟩,⟨by (with_reducible repeat (refine blk_drewN ?_ _));refine blk_far ?_ NB133_140.out _;refine blk_far ?_ NB133_140.out _;refine blk_far ?_ NB133_140.out _;exact BK133.out⟩,⟨by (with_reducible repeat (refine blk_drewN ?_ _));refine blk_put (cs:=#[.int .i64 ((rd_T61 l2 x10_1).f0),.int .i64 ((rd_T61 l2 x10_1).f1),.int .i64 0]) ?_ 2 _ rfl;refine blk_put (cs:=#[.int .i64 ((rd_T61 l2 x10_1).f0),.int .i64 0,.int .i64 0]) ?_ 1 _ rfl;refine blk_put (cs:=#[.int .i64 0,.int .i64 0,.int .i64 0]) ?_ 0 _ rfl;exact BK140.out⟩,⟨be⟩⟩
        ·rw [if_neg c34] at H
         have c34b0:decide (x8_1 < 0)=false:=decide_eq_false c34
         clear c34
         (skip)
         by_cases c35:t142=true
         ·subst c35
          rw [if_pos rfl] at H
          have H':=Aside0.mk H
          clear H
          go_wp2
          go_meet
          case rel=>exact ⟨_,(false),rd_,H',⟨by have:=HK1.out;have:=HJ9.out;omega⟩,⟨by (with_reducible repeat (apply Kd.R_drewN));exact Kd.R_mono (Kd.R_far (p:=⟨gb140,2,none⟩) (Kd.R_far (p:=⟨gb140,1,none⟩) (Kd.R_far (p:=⟨gb140,0,none⟩) (Kd.R_types HO_7.out BK140.out (by decide)) (fun _ hk=>hk.2) (.int .i64 ((rd_T61 l2 x10_1).f0))) (fun _ hk=>hk.2) (.int .i64 ((rd_T61 l2 x10_1).f1))) (fun _ hk=>hk.2) (.int .i64 ((rd_T61 l2 x10_1).f2))) (fun _ hk=>trivial)⟩,⟨by (with_reducible repeat (refine blk_drewN ?_ _));refine blk_far ?_ NB132_140.out _;refine blk_far ?_ NB132_140.out _;refine blk_far ?_ NB132_140.out _;exact BK132.out⟩,⟨by (with_reducible repeat (refine blk_drewN ?_ _));refine blk_far ?_ NB133_140.out _;refine blk_far ?_ NB133_140.out _;refine blk_far ?_ NB133_140.out _;exact BK133.out⟩,⟨by (with_reducible repeat (refine blk_drewN ?_ _));refine blk_put (cs:=#[.int .i64 ((rd_T61 l2 x10_1).f0),.int .i64 ((rd_T61 l2 x10_1).f1),.int .i64 0]) ?_ 2 _ rfl;refine blk_put (cs:=#[.int .i64 ((rd_T61 l2 x10_1).f0),.int .i64 0,.int .i64 0]) ?_ 1 _ rfl;refine blk_put (cs:=#[.int .i64 0,.int .i64 0,.int .i64 0]) ?_ 0 _ rfl;exact BK140.out⟩,⟨be⟩⟩
         ·replace c35:=Bool.eq_false_iff.mpr c35
          subst c35
          replace H:=(if_neg (show ¬ (false=true) by decide)).symm.trans H
          have H':=Aside0.mk H
          clear H
          go_wp2
          go_meet
          case rel=>exact ⟨_,(!x9_1),rd_,H',⟨by have:=HK1.out;have:=HJ9.out;omega⟩,⟨by (with_reducible repeat (apply Kd.R_drewN));exact Kd.R_mono (Kd.R_far (p:=⟨gb140,2,none⟩) (Kd.R_far (p:=⟨gb140,1,none⟩) (Kd.R_far (p:=⟨gb140,0,none⟩) (Kd.R_types HO_7.out BK140.out (by decide)) (fun _ hk=>hk.2) (.int .i64 ((rd_T61 l2 x10_1).f0))) (fun _ hk=>hk.2) (.int .i64 ((rd_T61 l2 x10_1).f1))) (fun _ hk=>hk.2) (.int .i64 ((rd_T61 l2 x10_1).f2))) (fun _ hk=>trivial)⟩,⟨by (with_reducible repeat (refine blk_drewN ?_ _));refine blk_far ?_ NB132_140.out _;refine blk_far ?_ NB132_140.out _;refine blk_far ?_ NB132_140.out _;exact BK132.out⟩,⟨by (with_reducible repeat (refine blk_drewN ?_ _));refine blk_far ?_ NB133_140.out _;refine blk_far ?_ NB133_140.out _;refine blk_far ?_ NB133_140.out _;exact BK133.out⟩,⟨by (with_reducible repeat (refine blk_drewN ?_ _));refine blk_put (cs:=#[.int .i64 ((rd_T61 l2 x10_1).f0),.int .i64 ((rd_T61 l2 x10_1).f1),.int .i64 0]) ?_ 2 _ rfl;refine blk_put (cs:=#[.int .i64 ((rd_T61 l2 x10_1).f0),.int .i64 0,.int .i64 0]) ?_ 1 _ rfl;refine blk_put (cs:=#[.int .i64 0,.int .i64 0,.int .i64 0]) ?_ 0 _ rfl;exact BK140.out⟩,⟨be⟩⟩
       case rest=>
        clear HC26
        try clear c15b0
        try clear c16b0
        try clear hcz30_0
        try clear hcz30_1
        try clear hcz30_2
        try clear hcz32_0
        try clear hfz30_0
        try clear hfz30_1
        try clear hfz30_2
        try clear hfz32_0
        try clear hx139_0
        try clear hx139_1
        try clear hx139_2
        try clear p139
        try clear q139
        obtain ⟨kq,x49_25,rfl,HA,HJ25,HO_7,BK132,BK133,BK140,HB⟩:=hcut
        cases kq with
        | zero=>exact absurd HA.out (by simp [spec_Best.j2])
        | succ kj25=>
         have H:=HA.out
         clear HA
         simp only [spec_Best.j2] at H
         by_cases c36:x49_25=true
         ·subst c36
          rw [if_pos rfl] at H
          have H':=Aside0.mk H
          clear H
          go_wp2
          go_roundg kj25
          case measure=>have:=HK1.out;have:=HJ9.out;have:=HJ25.out;omega
          case rel=>exact ⟨(x10_1),((!t142)),(wrap64 (x10_1+1)),rd_,rd_,rd_,H',⟨by have:=HK1.out;have:=HJ9.out;have:=HJ25.out;omega⟩,⟨rR HO_7⟩,⟨bk BK132⟩,⟨bk BK133⟩,⟨be⟩⟩
         ·replace c36:=Bool.eq_false_iff.mpr c36
          subst c36
          replace H:=(if_neg (show ¬ (false=true) by decide)).symm.trans H
          by_cases c37:((!t142) == x9_1)=true
          ·rw [if_pos c37] at H
           have c37b0:((!t142) == x9_1)=true:=c37
           (try (have c37b1:decide ((!t142)=x9_1)=true:=by simpa using c37))
           (try (have c37b2:((!t142) == x9_1)=true:=by simpa using c37))
           clear c37
           replace H:=Option.bind_eq_some_iff.mp H
           obtain ⟨t143,A380,H⟩:=H
           try dsimp only at H
           have A38:=aM A380
           clear A380
           obtain ⟨c39,H⟩:=ifs H
           have c39b0:decide (0≤x8_1)=true:=decide_eq_true c39
           clear c39
           obtain ⟨c40,H⟩:=ifs H
           have c40b0:decide (x8_1 < (l2.length:Int))=true:=decide_eq_true c40
           clear c40
           replace H:=Option.bind_eq_some_iff.mp H
           obtain ⟨t146,A410,H⟩:=H
           try dsimp only at H
           have A41:=aM A410
           clear A410
           by_cases c42:(wrap64 ((wrap64 (t143+1)) * ((rd_T61 l2 x8_1).f2))) < (wrap64 ((wrap64 (t146+1)) * ((rd_T61 l2 x10_1).f2)))
           ·rw [if_pos c42] at H
            have c42b0:decide ((wrap64 ((wrap64 (t143+1)) * ((rd_T61 l2 x8_1).f2))) < (wrap64 ((wrap64 (t146+1)) * ((rd_T61 l2 x10_1).f2))))=true:=decide_eq_true c42
            clear c42
            have H':=Aside0.mk H
            clear H
            try go_wp2
            replace HO_7:=aM (Kd.R_drew HO_7.out);replace BK132:=aM (blk_drew BK132.out);replace BK133:=aM (blk_drew BK133.out);replace BK140:=aM (blk_drew BK140.out);replace HB:=aM (below_drew1 HB.out)
            have p144:0≤(x8_1:Int):=od
            have q144:x8_1 < (l2.length:Int):=od
            obtain ⟨ad144,e144,hx144_0,hx144_1,hx144_2⟩:=at_T61 HR2.out x8_1 p144 q144
            have hw144_2:=hx144_2;have hw144_1:=hx144_1;have hw144_0:=hx144_0
            obtain rfl:ad139=ad144:=(by injection e144)
            replace hx144_0:=xH HB hx144_0
            replace hx144_1:=xH HB hx144_1
            replace hx144_2:=xH HB hx144_2
            replace p144:=eq_true p144
            replace q144:=eq_true q144
            have p145:0≤(x8_1:Int):=od
            have q145:x8_1 < (l2.length:Int):=od
            obtain ⟨ad145,e145,hx145_0,hx145_1,hx145_2⟩:=at_T61 HR2.out x8_1 p145 q145
            have hw145_2:=hx145_2;have hw145_1:=hx145_1;have hw145_0:=hx145_0
            obtain rfl:ad139=ad145:=(by injection e145)
            replace hx145_0:=xH HB hx145_0
            replace hx145_1:=xH HB hx145_1
            replace hx145_2:=xH HB hx145_2
            replace p145:=eq_true p145
            replace q145:=eq_true q145
            refine start_ (n:=28) (S:=fun w'=>w'.cell? ⟨gb132,0,none⟩=some (.int .i64 a0_0)∧w'.cell? ⟨gb132,1,none⟩=some (.slice A0_1 l0_1.length c0_1)∧w'.cell? ⟨gb140,0,none⟩=some (.int .i64 ((rd_T61 l2 x10_1).f0))∧w'.cell? ⟨gb140,1,none⟩=some (.int .i64 ((rd_T61 l2 x10_1).f1))∧w'.cell? ⟨gb140,2,none⟩=some (.int .i64 ((rd_T61 l2 x10_1).f2))∧w'.cell? (ad139.add ((x8_1).toNat * 3))=some (.int .i64 ((rd_T61 l2 x8_1).f0))∧w'.cell? ⟨(ad139.add ((x8_1).toNat * 3)).block,(ad139.add ((x8_1).toNat * 3)).off+1,none⟩=some (.int .i64 ((rd_T61 l2 x8_1).f1))∧w'.cell? ⟨(ad139.add ((x8_1).toNat * 3)).block,(ad139.add ((x8_1).toNat * 3)).off+2,none⟩=some (.int .i64 ((rd_T61 l2 x8_1).f2))∧w'.cell? (ad139.add ((x8_1).toNat * 3))=some (.int .i64 ((rd_T61 l2 x8_1).f0))∧w'.cell? ⟨(ad139.add ((x8_1).toNat * 3)).block,(ad139.add ((x8_1).toNat * 3)).off+1,none⟩=some (.int .i64 ((rd_T61 l2 x8_1).f1))∧w'.cell? ⟨(ad139.add ((x8_1).toNat * 3)).block,(ad139.add ((x8_1).toNat * 3)).off+2,none⟩=some (.int .i64 ((rd_T61 l2 x8_1).f2))) (ds:=[]) (fl 28 0) (by kernel_rfl) rfl rfl ⟨bq BK132 0,bq BK132 1,bq BK140 0,bq BK140 1,bq BK140 2,(xH HB hw144_0),(xH HB hw144_1),(xH HB hw144_2),(xH HB hw145_0),(xH HB hw145_1),(xH HB hw145_2)⟩ (fun hHeld=>?_);refine with_tabW spec_Best.tab13 spec_Best.bits13 (fun HT_ HW_=>?_)
            generalize wc.drew=w43 at HO_7 BK132 BK133 BK140 HB hx144_0 hx144_1 hx144_2 hx145_0 hx145_1 hx145_2 hHeld ⊢
            refine pt 0 52 (fl 28 1) HT_ ?_
            refine pt 1 53 (fl 28 3) HT_ ?_
            refine pt 2 54 (fl 28 7) HT_ ?_
            refine pt 3 55 (fl 28 15) HT_ ?_
            refine pt 5 57 (fl 28 47) HT_ ?_
            refine pt 9 61 (fl 28 559) HT_ ?_
            refine pt 10 62 (fl 28 1583) HT_ ?_
            refine pt 11 63 (fl 28 3631) HT_ ?_
            refine pt 12 64 (fl 28 7727) HT_ ?_
            refine pt 16 68 (fl 28 73263) HT_ ?_
            refine pt 17 69 (fl 28 204335) HT_ ?_
            refine pt 18 70 (fl 28 466479) HT_ ?_
            refine pt 19 71 (fl 28 990767) HT_ ?_
            refine pt 23 75 (fl 28 9379375) HT_ ?_
            refine tt 4 56 (fl 28 9379391) HT_ HW_ hHeld ?_
            refine tt 6 58 (fl 28 9379455) HT_ HW_ hHeld ?_
            refine tt 13 65 (fl 28 9387647) HT_ HW_ hHeld ?_
            refine tt 15 67 (fl 28 9420415) HT_ HW_ hHeld ?_
            refine tt 20 72 (fl 28 10468991) HT_ HW_ hHeld ?_
            refine tt 24 76 (fl 28 27246207) HT_ HW_ hHeld ?_
            refine ot 7 (some 59) (fl 28 27246335) HT_ (fun K hK=>?_)
            refine goes_ Try.func76 (by kernel_rfl) rfl #[.agg #[.int .i64 a0_0,.slice A0_1 l0_1.length c0_1],.int .i64 ((rd_T61 l2 x10_1).f0)] (by rfl) rfl rfl (by (try simp only [List.map_toArray,List.map_cons,List.map_nil]);rfl) ?_
            with_reducible refine (spec_LoadOf.calls kj25 a0_0 _ _ l0_1 ((rd_T61 l2 x10_1).f0) t143 _ ?side1 ?side2 A38.out).mono ?_
            (case side1=>exact rC HR0_1)
            (case side2=>exact HC0_1.out)
            rintro e w44 ⟨rfl,hb⟩
            refine ⟨_,rfl,?_⟩
            replace HO_7:=rB HO_7 hb;replace BK132:=bB BK132 hb;replace BK133:=bB BK133 hb;replace BK140:=bB BK140 hb;replace HB:=bs hb;(try clear hb);skip
            refine hK.out _ _ ⟨bq BK132 0,bq BK132 1,bq BK140 0,bq BK140 1,bq BK140 2,(xH HB hw144_0),(xH HB hw144_1),(xH HB hw144_2),(xH HB hw145_0),(xH HB hw145_1),(xH HB hw145_2)⟩ (fun hHeld=>?_)
            clear hK K
            refine no 59 ?_
            refine pt 8 60 (fl 28 27246591) HT_ ?_
            refine pt 14 66 (fl 28 27262975) HT_ ?_
            refine ot 21 (some 73) (fl 28 29360127) HT_ (fun K hK=>?_)
            refine goes_ Try.func76 (by kernel_rfl) rfl #[.agg #[.int .i64 a0_0,.slice A0_1 l0_1.length c0_1],.int .i64 ((rd_T61 l2 x8_1).f0)] (by rfl) rfl rfl (by (try simp only [List.map_toArray,List.map_cons,List.map_nil]);rfl) ?_
            with_reducible refine (spec_LoadOf.calls kj25 a0_0 _ _ l0_1 ((rd_T61 l2 x8_1).f0) t146 _ ?side1 ?side2 A41.out).mono ?_
            (case side1=>exact rC HR0_1)
            (case side2=>exact HC0_1.out)
            rintro e w45 ⟨rfl,hb⟩
            refine ⟨_,rfl,?_⟩
            replace HO_7:=rB HO_7 hb;replace BK132:=bB BK132 hb;replace BK133:=bB BK133 hb;replace BK140:=bB BK140 hb;replace HB:=bs hb;(try clear hb);skip
            refine hK.out _ _ ⟨bq BK132 0,bq BK132 1,bq BK140 0,bq BK140 1,bq BK140 2,(xH HB hw144_0),(xH HB hw144_1),(xH HB hw144_2),(xH HB hw145_0),(xH HB hw145_1),(xH HB hw145_2)⟩ (fun hHeld=>?_)
            clear hK K
            refine no 73 ?_
            refine pt 22 74 (fl 28 33554431) HT_ ?_
            refine pt 25 77 (fl 28 67108863) HT_ ?_
            refine pt 26 78 (fl 28 134217727) HT_ ?_
            refine pt 27 79 (fl 28 268435455) HT_ ?_
            refine done_ (done_of HT_.out (by kernel_rfl)) ?_
            try go_wp2
            go_roundg kj25
            case measure=>have:=HK1.out;have:=HJ9.out;have:=HJ25.out;omega
            case rel=>exact ⟨(x10_1),(x9_1),(wrap64 (x10_1+1)),rd_,rd_,rd_,H',⟨by have:=HK1.out;have:=HJ9.out;have:=HJ25.out;omega⟩,⟨rR HO_7⟩,⟨bk BK132⟩,⟨bk BK133⟩,⟨be⟩⟩
           ·rw [if_neg c42] at H
            have c42b0:decide ((wrap64 ((wrap64 (t143+1)) * ((rd_T61 l2 x8_1).f2))) < (wrap64 ((wrap64 (t146+1)) * ((rd_T61 l2 x10_1).f2))))=false:=decide_eq_false c42
            clear c42
            have H':=Aside0.mk H
            clear H
            try go_wp2
            replace HO_7:=aM (Kd.R_drew HO_7.out);replace BK132:=aM (blk_drew BK132.out);replace BK133:=aM (blk_drew BK133.out);replace BK140:=aM (blk_drew BK140.out);replace HB:=aM (below_drew1 HB.out)
            have p144:0≤(x8_1:Int):=od
            have q144:x8_1 < (l2.length:Int):=od
            obtain ⟨ad144,e144,hx144_0,hx144_1,hx144_2⟩:=at_T61 HR2.out x8_1 p144 q144
            have hw144_2:=hx144_2;have hw144_1:=hx144_1;have hw144_0:=hx144_0
            obtain rfl:ad139=ad144:=(by injection e144)
            replace hx144_0:=xH HB hx144_0
            replace hx144_1:=xH HB hx144_1
            replace hx144_2:=xH HB hx144_2
            replace p144:=eq_true p144
            replace q144:=eq_true q144
            have p145:0≤(x8_1:Int):=od
            have q145:x8_1 < (l2.length:Int):=od
            obtain ⟨ad145,e145,hx145_0,hx145_1,hx145_2⟩:=at_T61 HR2.out x8_1 p145 q145
            have hw145_2:=hx145_2;have hw145_1:=hx145_1;have hw145_0:=hx145_0
            obtain rfl:ad139=ad145:=(by injection e145)
            replace hx145_0:=xH HB hx145_0
            replace hx145_1:=xH HB hx145_1
            replace hx145_2:=xH HB hx145_2
            replace p145:=eq_true p145
            replace q145:=eq_true q145
            refine start_ (n:=28) (S:=fun w'=>w'.cell? ⟨gb132,0,none⟩=some (.int .i64 a0_0)∧w'.cell? ⟨gb132,1,none⟩=some (.slice A0_1 l0_1.length c0_1)∧w'.cell? ⟨gb140,0,none⟩=some (.int .i64 ((rd_T61 l2 x10_1).f0))∧w'.cell? ⟨gb140,1,none⟩=some (.int .i64 ((rd_T61 l2 x10_1).f1))∧w'.cell? ⟨gb140,2,none⟩=some (.int .i64 ((rd_T61 l2 x10_1).f2))∧w'.cell? (ad139.add ((x8_1).toNat * 3))=some (.int .i64 ((rd_T61 l2 x8_1).f0))∧w'.cell? ⟨(ad139.add ((x8_1).toNat * 3)).block,(ad139.add ((x8_1).toNat * 3)).off+1,none⟩=some (.int .i64 ((rd_T61 l2 x8_1).f1))∧w'.cell? ⟨(ad139.add ((x8_1).toNat * 3)).block,(ad139.add ((x8_1).toNat * 3)).off+2,none⟩=some (.int .i64 ((rd_T61 l2 x8_1).f2))∧w'.cell? (ad139.add ((x8_1).toNat * 3))=some (.int .i64 ((rd_T61 l2 x8_1).f0))∧w'.cell? ⟨(ad139.add ((x8_1).toNat * 3)).block,(ad139.add ((x8_1).toNat * 3)).off+1,none⟩=some (.int .i64 ((rd_T61 l2 x8_1).f1))∧w'.cell? ⟨(ad139.add ((x8_1).toNat * 3)).block,(ad139.add ((x8_1).toNat * 3)).off+2,none⟩=some (.int .i64 ((rd_T61 l2 x8_1).f2))) (ds:=[]) (fl 28 0) (by kernel_rfl) rfl rfl ⟨bq BK132 0,bq BK132 1,bq BK140 0,bq BK140 1,bq BK140 2,(xH HB hw144_0),(xH HB hw144_1),(xH HB hw144_2),(xH HB hw145_0),(xH HB hw145_1),(xH HB hw145_2)⟩ (fun hHeld=>?_);refine with_tabW spec_Best.tab13 spec_Best.bits13 (fun HT_ HW_=>?_)
            generalize wc.drew=w46 at HO_7 BK132 BK133 BK140 HB hx144_0 hx144_1 hx144_2 hx145_0 hx145_1 hx145_2 hHeld ⊢
            refine pt 0 52 (fl 28 1) HT_ ?_
            refine pt 1 53 (fl 28 3) HT_ ?_
            refine pt 2 54 (fl 28 7) HT_ ?_
            refine pt 3 55 (fl 28 15) HT_ ?_
            refine pt 5 57 (fl 28 47) HT_ ?_
            refine pt 9 61 (fl 28 559) HT_ ?_
            refine pt 10 62 (fl 28 1583) HT_ ?_
            refine pt 11 63 (fl 28 3631) HT_ ?_
            refine pt 12 64 (fl 28 7727) HT_ ?_
            refine pt 16 68 (fl 28 73263) HT_ ?_
            refine pt 17 69 (fl 28 204335) HT_ ?_
            refine pt 18 70 (fl 28 466479) HT_ ?_
            refine pt 19 71 (fl 28 990767) HT_ ?_
            refine pt 23 75 (fl 28 9379375) HT_ ?_
            refine tt 4 56 (fl 28 9379391) HT_ HW_ hHeld ?_
            refine tt 6 58 (fl 28 9379455) HT_ HW_ hHeld ?_
            refine tt 13 65 (fl 28 9387647) HT_ HW_ hHeld ?_
            refine tt 15 67 (fl 28 9420415) HT_ HW_ hHeld ?_
            refine tt 20 72 (fl 28 10468991) HT_ HW_ hHeld ?_
            refine tt 24 76 (fl 28 27246207) HT_ HW_ hHeld ?_
            refine ot 7 (some 59) (fl 28 27246335) HT_ (fun K hK=>?_)
            refine goes_ Try.func76 (by kernel_rfl) rfl #[.agg #[.int .i64 a0_0,.slice A0_1 l0_1.length c0_1],.int .i64 ((rd_T61 l2 x10_1).f0)] (by rfl) rfl rfl (by (try simp only [List.map_toArray,List.map_cons,List.map_nil]);rfl) ?_
            with_reducible refine (spec_LoadOf.calls kj25 a0_0 _ _ l0_1 ((rd_T61 l2 x10_1).f0) t143 _ ?side1 ?side2 A38.out).mono ?_
            (case side1=>exact rC HR0_1)
            (case side2=>exact HC0_1.out)
            rintro e w47 ⟨rfl,hb⟩
            refine ⟨_,rfl,?_⟩
            replace HO_7:=rB HO_7 hb;replace BK132:=bB BK132 hb;replace BK133:=bB BK133 hb;replace BK140:=bB BK140 hb;replace HB:=bs hb;(try clear hb);skip
            refine hK.out _ _ ⟨bq BK132 0,bq BK132 1,bq BK140 0,bq BK140 1,bq BK140 2,(xH HB hw144_0),(xH HB hw144_1),(xH HB hw144_2),(xH HB hw145_0),(xH HB hw145_1),(xH HB hw145_2)⟩ (fun hHeld=>?_)
            clear hK K
            refine no 59 ?_
            refine pt 8 60 (fl 28 27246591) HT_ ?_
            refine pt 14 66 (fl 28 27262975) HT_ ?_
            refine ot 21 (some 73) (fl 28 29360127) HT_ (fun K hK=>?_)
            refine goes_ Try.func76 (by kernel_rfl) rfl #[.agg #[.int .i64 a0_0,.slice A0_1 l0_1.length c0_1],.int .i64 ((rd_T61 l2 x8_1).f0)] (by rfl) rfl rfl (by (try simp only [List.map_toArray,List.map_cons,List.map_nil]);rfl) ?_
            with_reducible refine (spec_LoadOf.calls kj25 a0_0 _ _ l0_1 ((rd_T61 l2 x8_1).f0) t146 _ ?side1 ?side2 A41.out).mono ?_
            (case side1=>exact rC HR0_1)
            (case side2=>exact HC0_1.out)
            rintro e w48 ⟨rfl,hb⟩
            refine ⟨_,rfl,?_⟩
            replace HO_7:=rB HO_7 hb;replace BK132:=bB BK132 hb;replace BK133:=bB BK133 hb;replace BK140:=bB BK140 hb;replace HB:=bs hb;(try clear hb);skip
            refine hK.out _ _ ⟨bq BK132 0,bq BK132 1,bq BK140 0,bq BK140 1,bq BK140 2,(xH HB hw144_0),(xH HB hw144_1),(xH HB hw144_2),(xH HB hw145_0),(xH HB hw145_1),(xH HB hw145_2)⟩ (fun hHeld=>?_)
            clear hK K
            refine no 73 ?_
            refine pt 22 74 (fl 28 33554431) HT_ ?_
            refine pt 25 77 (fl 28 67108863) HT_ ?_
            refine pt 26 78 (fl 28 134217727) HT_ ?_
            refine pt 27 79 (fl 28 268435455) HT_ ?_
            refine done_ (done_of HT_.out (by kernel_rfl)) ?_
            try go_wp2
            go_roundg kj25
            case measure=>have:=HK1.out;have:=HJ9.out;have:=HJ25.out;omega
            case rel=>exact ⟨(x8_1),(x9_1),(wrap64 (x10_1+1)),rd_,rd_,rd_,H',⟨by have:=HK1.out;have:=HJ9.out;have:=HJ25.out;omega⟩,⟨rR HO_7⟩,⟨bk BK132⟩,⟨bk BK133⟩,⟨be⟩⟩
          ·rw [if_neg c37] at H
           have c37b0:((!t142) == x9_1)=false:=by simpa using c37
           (try (have c37b1:decide ((!t142)=x9_1)=false:=by simpa using c37))
           (try (have c37b2:((!t142) == x9_1)=false:=by simpa using c37))
           (try (have c37b3 : ¬ ((!t142)=x9_1):=by simpa using c37))
           clear c37
           have H':=Aside0.mk H
           clear H
           try go_wp2
           replace HO_7:=aM (Kd.R_drew HO_7.out);replace BK132:=aM (blk_drew BK132.out);replace BK133:=aM (blk_drew BK133.out);replace BK140:=aM (blk_drew BK140.out);replace HB:=aM (below_drew1 HB.out)
           refine start_ (n:=28) (S:=fun w'=>True) (ds:=[]) (fl 28 0) (by kernel_rfl) rfl rfl trivial (fun hHeld=>?_);refine with_tabW spec_Best.tab13 spec_Best.bits13 (fun HT_ HW_=>?_)
           generalize wc.drew=w49 at HO_7 BK132 BK133 BK140 HB hHeld ⊢
           refine pt 0 52 (fl 28 1) HT_ ?_
           refine pt 1 53 (fl 28 3) HT_ ?_
           refine pt 2 54 (fl 28 7) HT_ ?_
           refine pt 3 55 (fl 28 15) HT_ ?_
           refine ut 4 56 (fl 28 31) HT_ ?_
           refine ut 5 57 (fl 28 63) HT_ ?_
           refine ut 6 58 (fl 28 127) HT_ ?_
           refine ut 7 59 (fl 28 255) HT_ ?_
           refine ut 8 60 (fl 28 511) HT_ ?_
           refine ut 9 61 (fl 28 1023) HT_ ?_
           refine ut 10 62 (fl 28 2047) HT_ ?_
           refine ut 11 63 (fl 28 4095) HT_ ?_
           refine ut 12 64 (fl 28 8191) HT_ ?_
           refine ut 13 65 (fl 28 16383) HT_ ?_
           refine ut 14 66 (fl 28 32767) HT_ ?_
           refine ut 15 67 (fl 28 65535) HT_ ?_
           refine ut 16 68 (fl 28 131071) HT_ ?_
           refine ut 17 69 (fl 28 262143) HT_ ?_
           refine ut 18 70 (fl 28 524287) HT_ ?_
           refine ut 19 71 (fl 28 1048575) HT_ ?_
           refine ut 20 72 (fl 28 2097151) HT_ ?_
           refine ut 21 73 (fl 28 4194303) HT_ ?_
           refine ut 22 74 (fl 28 8388607) HT_ ?_
           refine ut 23 75 (fl 28 16777215) HT_ ?_
           refine ut 24 76 (fl 28 33554431) HT_ ?_
           refine ut 25 77 (fl 28 67108863) HT_ ?_
           refine ut 26 78 (fl 28 134217727) HT_ ?_
           refine pt 27 79 (fl 28 268435455) HT_ ?_
           refine done_ (done_of HT_.out (by kernel_rfl)) ?_
           try go_wp2
           go_roundg kj25
           case measure=>have:=HK1.out;have:=HJ9.out;have:=HJ25.out;omega
           case rel=>exact ⟨(x8_1),(x9_1),(wrap64 (x10_1+1)),rd_,rd_,rd_,H',⟨by have:=HK1.out;have:=HJ9.out;have:=HJ25.out;omega⟩,⟨rR HO_7⟩,⟨bk BK132⟩,⟨bk BK133⟩,⟨be⟩⟩
     ·replace c14:=Bool.eq_false_iff.mpr c14
      subst c14
      replace H:=(if_neg (show ¬ (false=true) by decide)).symm.trans H
      by_cases c50:x8_1 < 0
      ·rw [if_pos c50] at H
       have c50b0:decide (x8_1 < 0)=true:=decide_eq_true c50
       clear c50
       obtain rfl:=Option.some.inj H
       go_wp2
       go_ret
       exact ⟨rz,be⟩
      ·rw [if_neg c50] at H
       have c50b0:decide (x8_1 < 0)=false:=decide_eq_false c50
       clear c50
       obtain ⟨c51,H⟩:=ifs H
       have c51b0:decide (0≤x8_1)=true:=decide_eq_true c51
       clear c51
       obtain ⟨c52,H⟩:=ifs H
       have c52b0:decide (x8_1 < (l2.length:Int))=true:=decide_eq_true c52
       clear c52
       obtain rfl:=Option.some.inj H
       have p138:0≤(x8_1:Int):=od
       have q138:x8_1 < (l2.length:Int):=od
       obtain ⟨ad138,e138,hx138_0,hx138_1,hx138_2⟩:=at_T61 HR2.out x8_1 p138 q138
       cases e138
       replace hx138_0:=xH HB hx138_0
       replace hx138_1:=xH HB hx138_1
       replace hx138_2:=xH HB hx138_2
       replace p138:=eq_true p138
       replace q138:=eq_true q138
       go_wp2
       go_ret
       exact ⟨rz,be⟩
end Go.Proofs.Ytpbjbfimnfghkaa.PFnRebalanced
