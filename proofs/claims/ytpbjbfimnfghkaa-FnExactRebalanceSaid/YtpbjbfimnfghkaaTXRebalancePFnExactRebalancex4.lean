/- Trimmed by a program of this session (trim.py). Not trusted: Lean checks it. -/
import Derived.Test.YtpbjbfimnfghkaaTXRebalancePFnExactRebalancex0
import Derived.Test.YtpbjbfimnfghkaaTXRebalancePFnExactRebalancex1
import Derived.Test.YtpbjbfimnfghkaaTXRebalancePFnExactRebalancex2
import Derived.Test.YtpbjbfimnfghkaaTXRebalancePFnExactRebalancex3
namespace Go.Proofs.Ytpbjbfimnfghkaa.PFnExactRebalance
open Go.RowKit Go.Proofs.YtpbjbfimnfghkaaW.PrintWords Go.Proofs.YtpbjbfimnfghkaaW.PrintLast Go.Proofs.YtpbjbfimnfghkaaW.PrintMore Go.Proofs.Ytpbjbfimnfghkaa.St
attribute [local go_sem] max2_int min2_int max_two min_two max_three min_three max_four min_four
set_option linter.unusedVariables false
set_option linter.unusedSimpArgs false
def impl_Best.l0:Nat→List Int→Int→Bool→List (S61)→Int→Int→Int→List (S35)→List Int→Int→Int→Int→Option (Int)
 | 0,_,_,_,_,_,_,_,_,_,_,_,_=>none
 | k+1,x7,x9,x10,x23,x24,x25,x158000,x158001,x159000,x164000,x164001,x164002=>if x25 < x24 then (if 0≤x25 then (if x25 < (x23.length:Int) then ((impl_hasInt.f k x159000 ((rd_T61 x23 x25).f0)).bind fun t166=>(if t166=true then (impl_Best.l0 k x7 x9 x10 x23 x24 (wrap64 (x25+1)) x158000 x158001 x159000 x164000 x164001 x164002) else ((impl_LoadOf.f k x158000 x158001 ((rd_T61 x23 x25).f0)).bind fun t167=>((impl_hasInt.f k x7 ((rd_T61 x23 x25).f1)).bind fun t168=>(if x164000 < 0 then (impl_Best.l0 k x7 (wrap64 (t167+1)) (!t168) x23 x24 (wrap64 (x25+1)) x158000 x158001 x159000 ((rd_T61 x23 x25).f0) ((rd_T61 x23 x25).f1) ((rd_T61 x23 x25).f2)) else (if t168=true then (if ((!t168) == x10)=true then (if (wrap64 ((wrap64 (t167+1)) * x164002)) < (wrap64 (x9 * ((rd_T61 x23 x25).f2))) then (impl_Best.l0 k x7 (wrap64 (t167+1)) (!t168) x23 x24 (wrap64 (x25+1)) x158000 x158001 x159000 ((rd_T61 x23 x25).f0) ((rd_T61 x23 x25).f1) ((rd_T61 x23 x25).f2)) else (impl_Best.l0 k x7 x9 x10 x23 x24 (wrap64 (x25+1)) x158000 x158001 x159000 x164000 x164001 x164002)) else (impl_Best.l0 k x7 x9 x10 x23 x24 (wrap64 (x25+1)) x158000 x158001 x159000 x164000 x164001 x164002)) else (if x10=true then (if ((!t168) == x10)=true then (if (wrap64 ((wrap64 (t167+1)) * x164002)) < (wrap64 (x9 * ((rd_T61 x23 x25).f2))) then (impl_Best.l0 k x7 (wrap64 (t167+1)) (!t168) x23 x24 (wrap64 (x25+1)) x158000 x158001 x159000 ((rd_T61 x23 x25).f0) ((rd_T61 x23 x25).f1) ((rd_T61 x23 x25).f2)) else (impl_Best.l0 k x7 x9 x10 x23 x24 (wrap64 (x25+1)) x158000 x158001 x159000 x164000 x164001 x164002)) else (impl_Best.l0 k x7 x9 x10 x23 x24 (wrap64 (x25+1)) x158000 x158001 x159000 x164000 x164001 x164002)) else (impl_Best.l0 k x7 (wrap64 (t167+1)) (!t168) x23 x24 (wrap64 (x25+1)) x158000 x158001 x159000 ((rd_T61 x23 x25).f0) ((rd_T61 x23 x25).f1) ((rd_T61 x23 x25).f2))))))))) else (none)) else (none)) else (some x164000)
def impl_Best.f (k:Nat) (a0_0:Int) (l0_1:List (S35)) (l1_0:List Int) (l2:List (S61)):Option (Int):=(impl_DevsOk.f k l2).bind fun t159=>(if t159=true then ((impl_zonesIn.f k l1_0 l2).bind fun t160=>(impl_Best.l0 k t160 0 false l2 (l2.length:Int) 0 a0_0 l0_1 l1_0 (-1) 0 0)) else (some (-1)))
def impl_Best.T9:Bool × List (List Nat × List Nat):=(true,[([],[]),([],[]),([1],[1]),([0,2],[0,2]),([3],[3]),([],[]),([],[]),([6],[6]),([5,7,3],[5,7]),([8],[8]),([4,8,0,1,2,3,4],[4]),([9,10,0,1,2,3,4,5,6,7,8,9,10],[9])])
def impl_Best.B9:List Nat:=[0,0,2,7,15,0,0,64,239,495,511,2047]
theorem impl_Best.tab9:rtab .any (opsOf Try.f45 9)=impl_Best.T9:=by kernel_rfl
theorem impl_Best.bits9:waitsOk impl_Best.T9.2 impl_Best.B9=true:=by kernel_rfl
set_option maxHeartbeats 8000000 in
set_option maxRecDepth 100000 in
theorem impl_Best.calls (k:Nat) (a0_0:Int) (A0_1:Option Addr) (c0_1:Nat) (l0_1:List (S35)) (A1_0:Option Addr) (c1_0:Nat) (l1_0:List Int) (A2:Option Addr) (c2:Nat) (l2:List (S61)) (r:Int) (w:World) (hr0_1:Kd.C k35 w A0_1 l0_1.length l0_1) (hc0_1:l0_1.length≤c0_1) (hr1_0:Kd.C (Kd.int .i64) w A1_0 l1_0.length l1_0) (hc1_0:l1_0.length≤c1_0) (hr2:Kd.C k61 w A2 l2.length l2) (hc2:l2.length≤c2) (h:impl_Best.f k a0_0 l0_1 l1_0 l2=some r) :
  Calls Try.prog 45 #[.agg #[.int .i64 a0_0,.slice A0_1 l0_1.length c0_1],.agg #[.slice A1_0 l1_0.length c1_0],.slice A2 l2.length c2] w fun e w'=>e = .returned (.int .i64 r)∧Below w.heap.size w w':=by
 have hu26:=Try.underlying26
 have hu35:=Try.underlying35
 have hu61:=Try.underlying61
 have HR0_1:=aM hr0_1
 have HC0_1:=aM hc0_1
 clear hr0_1 hc0_1
 have HR1_0:=aM hr1_0
 have HC1_0:=aM hc1_0
 clear hr1_0 hc1_0
 have HR2:=aM hr2
 have HC2:=aM hc2
 clear hr2 hc2
 have HB:=aM (Below.refl w.heap.size w)
 have H:((impl_DevsOk.f k l2).bind fun t159=>(if t159=true then ((impl_zonesIn.f k l1_0 l2).bind fun t160=>(impl_Best.l0 k t160 0 false l2 (l2.length:Int) 0 a0_0 l0_1 l1_0 (-1) 0 0)) else (some (-1))))=some r:=h
 clear h
 replace H:=Option.bind_eq_some_iff.mp H
 obtain ⟨t159,A40,H⟩:=H
 try dsimp only at H
 have A4:=aM A40
 clear A40
 by_cases c5:t159=true
 ·subst c5
  rw [if_pos rfl] at H
  replace H:=Option.bind_eq_some_iff.mp H
  obtain ⟨t160,A60,H⟩:=H
  try dsimp only at H
  have A6:=aM A60
  clear A60
  have H':=Aside0.mk H
  clear H
  go_enter Try.func45,Try.ntmps45
  go_wp2_with (first|((with_reducible refine gate_dst (N:=3) rfl ?_);refine box_event ?hg (N:=3) ?hd (cs:=#[.int .i64 a0_0,.slice A0_1 l0_1.length c0_1]) (t:=26) ?hr ?_;(case hd=>rfl);(case hg=>rfl);(case hr=>first|(go_simp;done)|(go_simp;rfl));intro gb157 hg w7 hbox hb;have BK157:=aM (hbox);have GW157:=gS w hg;have GE157:=gS w hg;replace HB:=bs hb;clear hb hbox hg)|((with_reducible refine gate_dst (N:=4) rfl ?_);refine box_event ?hg (N:=4) ?hd (cs:=#[.slice A1_0 l1_0.length c1_0]) (t:=35) ?hr ?_;(case hd=>rfl);(case hg=>rfl);(case hr=>first|(go_simp;done)|(go_simp;rfl));intro gb158 hg w8 hbox hb;have BK158:=aM (hbox);have GW158:=gS w hg;have GE158:=gS w hg;replace HB:=bs hb;have NB157_158:=nL hg BK157;have NB158_157:=nG hg BK157;replace BK157:=bB BK157 hb;clear hb hbox hg)|((with_reducible refine gate_callee (f:=57) rfl ?_);refine goesL_ (some 16) rfl rfl Try.func57 (by kernel_rfl) rfl #[.slice A2 l2.length c2] rfl (by (try simp only [List.map_toArray,List.map_cons,List.map_nil]);first|done|rfl|(simp only [List.length_drop,List.length_take];rfl)) ?_;(with_reducible refine (impl_DevsOk.calls k _ _ l2 true _ ?side1 ?side2 A4.out).mono ?_);(case side1=>exact rC HR2);(case side2=>exact HC2.out);rintro e w9 ⟨rfl,hb⟩;refine ⟨_,rfl,?_⟩;replace BK157:=bB BK157 hb;replace BK158:=bB BK158 hb;replace HB:=bs hb;(try clear hb);have hnb10:=NB158_157.out;have hnc10:=NB157_158.out;have hcz11_0:w9.cell? ⟨gb158,0,none⟩=some (.slice A1_0 l1_0.length c1_0):=(blk_cell BK158.out 0).trans rfl;have hfz11_0:=blk_frozen BK158.out 0)|((with_reducible refine gate_callee (f:=72) rfl ?_);refine goesL_ (some 21) rfl rfl Try.func72 (by kernel_rfl) rfl #[.slice A1_0 l1_0.length c1_0,.slice A2 l2.length c2] rfl (by (try simp only [List.map_toArray,List.map_cons,List.map_nil]);first|done|rfl|(simp only [List.length_drop,List.length_take];rfl)) ?_;(with_reducible refine (impl_zonesIn.calls k _ _ l1_0 _ _ l2 t160 _ ?side1 ?side2 ?side3 ?side4 A6.out).mono ?_);(case side1=>exact rC HR1_0);(case side2=>exact HC1_0.out);(case side3=>exact rC HR2);(case side4=>exact HC2.out);rintro e w12 ⟨v161,rfl,ho0,hb⟩;refine ⟨_,rfl,?_⟩;have HO162:=aM (Kd.R_lower ho0 (below_size be));replace BK157:=bB BK157 hb;replace BK158:=bB BK158 hb;replace HB:=bs hb;(try clear hb);(try clear ho0))|((with_reducible refine gate_dst (N:=8) rfl ?_);refine box_event ?hg (N:=8) ?hd (cs:=#[.int .i64 0,.int .i64 0,.int .i64 0]) (t:=61) ?hr ?_;(case hd=>rfl);(case hg=>rfl);(case hr=>first|(go_simp;done)|(go_simp;rfl));intro gb163 hg w13 hbox hb;replace HO162:=rB HO162 hb;have BK163:=aM (hbox);have GW163:=gS w hg;have GE163:=gS w hg;replace HB:=bs hb;have NB157_163:=nL hg BK157;have NB163_157:=nG hg BK157;replace BK157:=bB BK157 hb;have NB158_163:=nL hg BK158;have NB163_158:=nG hg BK158;replace BK158:=bB BK158 hb;clear hb hbox hg;have hnb14:=NB163_157.out;have hnc14:=NB157_163.out;have hnb15:=NB163_158.out;have hnc15:=NB158_163.out;have hcz16_0:w13.cell? ⟨gb163,0,none⟩=some (.int .i64 0):=(blk_cell BK163.out 0).trans rfl;have hcz16_1:w13.cell? ⟨gb163,1,none⟩=some (.int .i64 0):=(blk_cell BK163.out 1).trans rfl;have hcz16_2:w13.cell? ⟨gb163,2,none⟩=some (.int .i64 0):=(blk_cell BK163.out 2).trans rfl;have hfz16_0:=blk_frozen BK163.out 0;have hfz16_1:=blk_frozen BK163.out 1;have hfz16_2:=blk_frozen BK163.out 2))
  go_loopg [9,10,25] k (fun kq v9 v10 v25 w'=>∃ (x9_1:Int) (x10_1:Bool) (x25_1:Int) (x164000_1:Int) (x164001_1:Int) (x164002_1:Int),v9 = .int .i64 x9_1∧v10 = .bool x10_1∧v25 = .int .i64 x25_1∧Aside0 (impl_Best.l0 kq t160 x9_1 x10_1 l2 (l2.length:Int) x25_1 a0_0 l0_1 l1_0 x164000_1 x164001_1 x164002_1=some r)∧Aside0 (kq≤k)∧Aside0 (Kd.R (Kd.int .i64) 3 w' w.heap.size (fun _=>True) v161 t160)∧Aside0 (w'.heap[gb157]?=some (.cells #[.int .i64 a0_0,(.slice A0_1 l0_1.length c0_1)] 26 (0,0)))∧Aside0 (w'.heap[gb158]?=some (.cells #[(.slice A1_0 l1_0.length c1_0)] 35 (0,0)))∧Aside0 (w'.heap[gb163]?=some (.cells #[.int .i64 x164000_1,.int .i64 x164001_1,.int .i64 x164002_1] 61 (0,0)))∧Aside0 (Below w.heap.size w w'))
  case atStart=>exact ⟨(0),(false),(0),((-1)),(0),(0),rd_,rd_,rd_,H',⟨Nat.le_refl _⟩,⟨by (with_reducible repeat (first|apply Kd.R_alloc|apply Kd.R_drewN|apply Kd.R_drew));exact Kd.R_mono (Kd.R_far (p:=⟨gb163,2,none⟩) (Kd.R_far (p:=⟨gb163,1,none⟩) (Kd.R_far (p:=⟨gb163,0,none⟩) (Kd.R_types HO162.out BK163.out (by decide)) (fun _ hk=>hk.2) (.int .i64 (-1))) (fun _ hk=>hk.2) (.int .i64 0)) (fun _ hk=>hk.2) (.int .i64 0)) (fun _ hk=>trivial)⟩,⟨by (with_reducible repeat (first|refine blk_drewN ?_ _|refine blk_drew ?_|refine blk_alloc ?_ _));refine blk_far ?_ NB157_163.out _;(with_reducible repeat (first|refine blk_drewN ?_ _|refine blk_drew ?_|refine blk_alloc ?_ _));refine blk_far ?_ NB157_163.out _;(with_reducible repeat (first|refine blk_drewN ?_ _|refine blk_drew ?_|refine blk_alloc ?_ _));refine blk_far ?_ NB157_163.out _;(with_reducible repeat (first|refine blk_drewN ?_ _|refine blk_drew ?_|refine blk_alloc ?_ _));exact BK157.out⟩,⟨by (with_reducible repeat (first|refine blk_drewN ?_ _|refine blk_drew ?_|refine blk_alloc ?_ _));refine blk_far ?_ NB158_163.out _;(with_reducible repeat (first|refine blk_drewN ?_ _|refine blk_drew ?_|refine blk_alloc ?_ _));refine blk_far ?_ NB158_163.out _;(with_reducible repeat (first|refine blk_drewN ?_ _|refine blk_drew ?_|refine blk_alloc ?_ _));refine blk_far ?_ NB158_163.out _;(with_reducible repeat (first|refine blk_drewN ?_ _|refine blk_drew ?_|refine blk_alloc ?_ _));exact BK158.out⟩,⟨by (with_reducible repeat (first|refine blk_drewN ?_ _|refine blk_drew ?_|refine blk_alloc ?_ _));refine blk_put (cs:=#[.int .i64 (-1),.int .i64 0,.int .i64 0]) ?_ 2 _ rfl;(with_reducible repeat (first|refine blk_drewN ?_ _|refine blk_drew ?_|refine blk_alloc ?_ _));refine blk_put (cs:=#[.int .i64 (-1),.int .i64 0,.int .i64 0]) ?_ 1 _ rfl;(with_reducible repeat (first|refine blk_drewN ?_ _|refine blk_drew ?_|refine blk_alloc ?_ _));refine blk_put (cs:=#[.int .i64 0,.int .i64 0,.int .i64 0]) ?_ 0 _ rfl;(with_reducible repeat (first|refine blk_drewN ?_ _|refine blk_drew ?_|refine blk_alloc ?_ _));exact BK163.out⟩,⟨be⟩⟩
  case round=>
   clear H'
   try clear hcz11_0
   try clear hcz16_0
   try clear hcz16_1
   try clear hcz16_2
   try clear hfz11_0
   try clear hfz16_0
   try clear hfz16_1
   try clear hfz16_2
   obtain ⟨x9_1,x10_1,x25_1,x164000_1,x164001_1,x164002_1,rfl,rfl,rfl,HA,HK1,HO_7,BK157,BK158,BK163,HB⟩:=hrel
   cases gk with
   | zero=>exact absurd HA.out (by simp [impl_Best.l0])
   | succ k1=>
    have H:=HA.out
    clear HA
    simp only [impl_Best.l0] at H
    by_cases c17:x25_1 < (l2.length:Int)
    ·rw [if_pos c17] at H
     have c17b0:decide (x25_1 < (l2.length:Int))=true:=decide_eq_true c17
     clear c17
     by_cases c18:0≤x25_1
     ·rw [if_pos c18] at H
      have c18b0:decide (0≤x25_1)=true:=decide_eq_true c18
      clear c18
      by_cases c19:x25_1 < (l2.length:Int)
      ·rw [if_pos c19] at H
       have c19b0:decide (x25_1 < (l2.length:Int))=true:=decide_eq_true c19
       clear c19
       replace H:=Option.bind_eq_some_iff.mp H
       obtain ⟨t166,A200,H⟩:=H
       try dsimp only at H
       have A20:=aM A200
       clear A200
       by_cases c21:t166=true
       ·subst c21
        rw [if_pos rfl] at H
        have H':=Aside0.mk H
        clear H
        have p164:0≤(x25_1:Int):=of_decide_eq_true (by first|(with_reducible assumption)|assumption)
        have q164:x25_1 < (l2.length:Int):=of_decide_eq_true (by first|(with_reducible assumption)|assumption)
        obtain ⟨ad164,e164,hx164_0,hx164_1,hx164_2⟩:=at_T61 HR2.out x25_1 p164 q164
        cases e164
        replace hx164_0:=(HB.out.cell (World.block_lt_of_cell? w _ hx164_0)).trans hx164_0
        replace hx164_1:=(HB.out.cell (World.block_lt_of_cell? w _ hx164_1)).trans hx164_1
        replace hx164_2:=(HB.out.cell (World.block_lt_of_cell? w _ hx164_2)).trans hx164_2
        replace p164:=eq_true p164
        replace q164:=eq_true q164
        go_wp2_with (first|((with_reducible refine gate_dst (N:=12) rfl ?_);refine box_event ?hg (N:=12) ?hd (cs:=#[.int .i64 0,.int .i64 0,.int .i64 0]) (t:=61) ?hr ?_;(case hd=>rfl);(case hg=>rfl);(case hr=>first|(go_simp;done)|(go_simp;rfl));intro gb165 hg w22 hbox hb;replace HO_7:=rB HO_7 hb;have BK165:=aM (hbox);have GW165:=gS w hg;have GE165:=gS w hg;replace HB:=bs hb;have NB157_165:=nL hg BK157;have NB165_157:=nG hg BK157;replace BK157:=bB BK157 hb;have NB158_165:=nL hg BK158;have NB165_158:=nG hg BK158;replace BK158:=bB BK158 hb;have NB163_165:=nL hg BK163;have NB165_163:=nG hg BK163;replace BK163:=bB BK163 hb;clear hb hbox hg;have hnb23:=NB165_157.out;have hnc23:=NB157_165.out;have hnb24:=NB165_158.out;have hnc24:=NB158_165.out;have hnb25:=NB165_163.out;have hnc25:=NB163_165.out;have hcz26_0:w22.cell? ⟨gb165,0,none⟩=some (.int .i64 0):=(blk_cell BK165.out 0).trans rfl;have hcz26_1:w22.cell? ⟨gb165,1,none⟩=some (.int .i64 0):=(blk_cell BK165.out 1).trans rfl;have hcz26_2:w22.cell? ⟨gb165,2,none⟩=some (.int .i64 0):=(blk_cell BK165.out 2).trans rfl;have hfz26_0:=blk_frozen BK165.out 0;have hfz26_1:=blk_frozen BK165.out 1;have hfz26_2:=blk_frozen BK165.out 2;have hnb27:=NB158_157.out;have hnc27:=NB157_158.out;have hnb28:=NB158_163.out;have hnc28:=NB163_158.out;have hcz29_0:w22.cell? ⟨gb158,0,none⟩=some (.slice A1_0 l1_0.length c1_0):=(blk_cell BK158.out 0).trans rfl;have hfz29_0:=blk_frozen BK158.out 0)|((with_reducible refine gate_callee (f:=52) rfl ?_);refine goesL_ (some 33) rfl rfl Try.func52 (by kernel_rfl) rfl #[.slice A1_0 l1_0.length c1_0,.int .i64 ((rd_T61 l2 x25_1).f0)] rfl (by (try simp only [List.map_toArray,List.map_cons,List.map_nil]);first|done|rfl|(simp only [List.length_drop,List.length_take];rfl)) ?_;(with_reducible refine (impl_hasInt.calls k1 _ _ l1_0 ((rd_T61 l2 x25_1).f0) true _ ?side1 ?side2 A20.out).mono ?_);(case side1=>exact Kd.C_below HR1_0.out be);(case side2=>exact HC1_0.out);rintro e w' ⟨rfl,⟨nd,rfl⟩⟩;refine ⟨_,rfl,?_⟩))
        go_roundg k1
        case measure=>have:=HK1.out;omega
        case rel=>exact ⟨(x9_1),(x10_1),(wrap64 (x25_1+1)),(x164000_1),(x164001_1),(x164002_1),rd_,rd_,rd_,H',⟨by have:=HK1.out;omega⟩,⟨by (with_reducible repeat (apply Kd.R_drewN));exact Kd.R_mono (Kd.R_far (p:=⟨gb165,2,none⟩) (Kd.R_far (p:=⟨gb165,1,none⟩) (Kd.R_far (p:=⟨gb165,0,none⟩) (Kd.R_types HO_7.out BK165.out (by decide)) (fun _ hk=>hk.2) (.int .i64 ((rd_T61 l2 x25_1).f0))) (fun _ hk=>hk.2) (.int .i64 ((rd_T61 l2 x25_1).f1))) (fun _ hk=>hk.2) (.int .i64 ((rd_T61 l2 x25_1).f2))) (fun _ hk=>trivial)⟩,⟨by (with_reducible repeat (refine blk_drewN ?_ _));refine blk_far ?_ NB157_165.out _;(with_reducible repeat (first|refine blk_drewN ?_ _|refine blk_drew ?_|refine blk_alloc ?_ _));refine blk_far ?_ NB157_165.out _;(with_reducible repeat (first|refine blk_drewN ?_ _|refine blk_drew ?_|refine blk_alloc ?_ _));refine blk_far ?_ NB157_165.out _;(with_reducible repeat (first|refine blk_drewN ?_ _|refine blk_drew ?_|refine blk_alloc ?_ _));exact BK157.out⟩,⟨by (with_reducible repeat (refine blk_drewN ?_ _));refine blk_far ?_ NB158_165.out _;(with_reducible repeat (first|refine blk_drewN ?_ _|refine blk_drew ?_|refine blk_alloc ?_ _));refine blk_far ?_ NB158_165.out _;(with_reducible repeat (first|refine blk_drewN ?_ _|refine blk_drew ?_|refine blk_alloc ?_ _));refine blk_far ?_ NB158_165.out _;(with_reducible repeat (first|refine blk_drewN ?_ _|refine blk_drew ?_|refine blk_alloc ?_ _));exact BK158.out⟩,⟨by (with_reducible repeat (refine blk_drewN ?_ _));refine blk_far ?_ NB163_165.out _;(with_reducible repeat (first|refine blk_drewN ?_ _|refine blk_drew ?_|refine blk_alloc ?_ _));refine blk_far ?_ NB163_165.out _;(with_reducible repeat (first|refine blk_drewN ?_ _|refine blk_drew ?_|refine blk_alloc ?_ _));refine blk_far ?_ NB163_165.out _;(with_reducible repeat (first|refine blk_drewN ?_ _|refine blk_drew ?_|refine blk_alloc ?_ _));exact BK163.out⟩,⟨be⟩⟩
       ·replace c21:=Bool.eq_false_iff.mpr c21
        subst c21
        replace H:=(if_neg (show ¬ (false=true) by decide)).symm.trans H
        replace H:=Option.bind_eq_some_iff.mp H
        obtain ⟨t167,A300,H⟩:=H
        try dsimp only at H
        have A30:=aM A300
        clear A300
        replace H:=Option.bind_eq_some_iff.mp H
        obtain ⟨t168,A310,H⟩:=H
        try dsimp only at H
        have A31:=aM A310
        clear A310
        by_cases c32:x164000_1 < 0
        ·rw [if_pos c32] at H
         have c32b0:decide (x164000_1 < 0)=true:=decide_eq_true c32
         clear c32
         have H':=Aside0.mk H
         clear H
         have p164:0≤(x25_1:Int):=of_decide_eq_true (by first|(with_reducible assumption)|assumption)
         have q164:x25_1 < (l2.length:Int):=of_decide_eq_true (by first|(with_reducible assumption)|assumption)
         obtain ⟨ad164,e164,hx164_0,hx164_1,hx164_2⟩:=at_T61 HR2.out x25_1 p164 q164
         cases e164
         replace hx164_0:=(HB.out.cell (World.block_lt_of_cell? w _ hx164_0)).trans hx164_0
         replace hx164_1:=(HB.out.cell (World.block_lt_of_cell? w _ hx164_1)).trans hx164_1
         replace hx164_2:=(HB.out.cell (World.block_lt_of_cell? w _ hx164_2)).trans hx164_2
         replace p164:=eq_true p164
         replace q164:=eq_true q164
         try go_wp2_with (first|((with_reducible refine gate_dst (N:=12) rfl ?_);refine box_event ?hg (N:=12) ?hd (cs:=#[.int .i64 0,.int .i64 0,.int .i64 0]) (t:=61) ?hr ?_;(case hd=>rfl);(case hg=>rfl);(case hr=>first|(go_simp;done)|(go_simp;rfl));intro gb165 hg w33 hbox hb;replace HO_7:=rB HO_7 hb;have BK165:=aM (hbox);have GW165:=gS w hg;have GE165:=gS w hg;replace HB:=bs hb;have NB157_165:=nL hg BK157;have NB165_157:=nG hg BK157;replace BK157:=bB BK157 hb;have NB158_165:=nL hg BK158;have NB165_158:=nG hg BK158;replace BK158:=bB BK158 hb;have NB163_165:=nL hg BK163;have NB165_163:=nG hg BK163;replace BK163:=bB BK163 hb;clear hb hbox hg;have hnb34:=NB165_157.out;have hnc34:=NB157_165.out;have hnb35:=NB165_158.out;have hnc35:=NB158_165.out;have hnb36:=NB165_163.out;have hnc36:=NB163_165.out;have hcz37_0:w33.cell? ⟨gb165,0,none⟩=some (.int .i64 0):=(blk_cell BK165.out 0).trans rfl;have hcz37_1:w33.cell? ⟨gb165,1,none⟩=some (.int .i64 0):=(blk_cell BK165.out 1).trans rfl;have hcz37_2:w33.cell? ⟨gb165,2,none⟩=some (.int .i64 0):=(blk_cell BK165.out 2).trans rfl;have hfz37_0:=blk_frozen BK165.out 0;have hfz37_1:=blk_frozen BK165.out 1;have hfz37_2:=blk_frozen BK165.out 2;have hnb38:=NB158_157.out;have hnc38:=NB157_158.out;have hnb39:=NB158_163.out;have hnc39:=NB163_158.out;have hcz40_0:w33.cell? ⟨gb158,0,none⟩=some (.slice A1_0 l1_0.length c1_0):=(blk_cell BK158.out 0).trans rfl;have hfz40_0:=blk_frozen BK158.out 0)|((with_reducible refine gate_callee (f:=52) rfl ?_);refine goesL_ (some 33) rfl rfl Try.func52 (by kernel_rfl) rfl #[.slice A1_0 l1_0.length c1_0,.int .i64 ((rd_T61 l2 x25_1).f0)] rfl (by (try simp only [List.map_toArray,List.map_cons,List.map_nil]);first|done|rfl|(simp only [List.length_drop,List.length_take];rfl)) ?_;(with_reducible refine (impl_hasInt.calls k1 _ _ l1_0 ((rd_T61 l2 x25_1).f0) false _ ?side1 ?side2 A20.out).mono ?_);(case side1=>exact Kd.C_below HR1_0.out be);(case side2=>exact HC1_0.out);rintro e w' ⟨rfl,⟨nd,rfl⟩⟩;refine ⟨_,rfl,?_⟩))
         have n0_:Aside0 (Kd.R (Kd.int .i64) 3 (((w33.setCell ⟨gb165,0,none⟩ (.int .i64 ((rd_T61 l2 x25_1).f0))).setCell ⟨gb165,1,none⟩ (.int .i64 ((rd_T61 l2 x25_1).f1))).setCell ⟨gb165,2,none⟩ (.int .i64 ((rd_T61 l2 x25_1).f2))) w.heap.size (fun _=>True) v161 t160):=⟨by (with_reducible repeat (first|apply Kd.R_alloc|apply Kd.R_drewN|apply Kd.R_drew));exact Kd.R_mono (Kd.R_far (p:=⟨gb165,2,none⟩) (Kd.R_far (p:=⟨gb165,1,none⟩) (Kd.R_far (p:=⟨gb165,0,none⟩) (Kd.R_types HO_7.out BK165.out (by decide)) (fun _ hk=>hk.2) (.int .i64 ((rd_T61 l2 x25_1).f0))) (fun _ hk=>hk.2) (.int .i64 ((rd_T61 l2 x25_1).f1))) (fun _ hk=>hk.2) (.int .i64 ((rd_T61 l2 x25_1).f2))) (fun _ hk=>trivial)⟩
         have n1_:Aside0 ((((w33.setCell ⟨gb165,0,none⟩ (.int .i64 ((rd_T61 l2 x25_1).f0))).setCell ⟨gb165,1,none⟩ (.int .i64 ((rd_T61 l2 x25_1).f1))).setCell ⟨gb165,2,none⟩ (.int .i64 ((rd_T61 l2 x25_1).f2))).heap[gb157]?=some (.cells #[.int .i64 a0_0,.slice A0_1 l0_1.length c0_1] 26 (0,0))):=⟨by (with_reducible repeat (first|refine blk_drewN ?_ _|refine blk_drew ?_|refine blk_alloc ?_ _));refine blk_far ?_ NB157_165.out _;(with_reducible repeat (first|refine blk_drewN ?_ _|refine blk_drew ?_|refine blk_alloc ?_ _));refine blk_far ?_ NB157_165.out _;(with_reducible repeat (first|refine blk_drewN ?_ _|refine blk_drew ?_|refine blk_alloc ?_ _));refine blk_far ?_ NB157_165.out _;(with_reducible repeat (first|refine blk_drewN ?_ _|refine blk_drew ?_|refine blk_alloc ?_ _));exact BK157.out⟩
         have n2_:Aside0 ((((w33.setCell ⟨gb165,0,none⟩ (.int .i64 ((rd_T61 l2 x25_1).f0))).setCell ⟨gb165,1,none⟩ (.int .i64 ((rd_T61 l2 x25_1).f1))).setCell ⟨gb165,2,none⟩ (.int .i64 ((rd_T61 l2 x25_1).f2))).heap[gb158]?=some (.cells #[.slice A1_0 l1_0.length c1_0] 35 (0,0))):=⟨by (with_reducible repeat (first|refine blk_drewN ?_ _|refine blk_drew ?_|refine blk_alloc ?_ _));refine blk_far ?_ NB158_165.out _;(with_reducible repeat (first|refine blk_drewN ?_ _|refine blk_drew ?_|refine blk_alloc ?_ _));refine blk_far ?_ NB158_165.out _;(with_reducible repeat (first|refine blk_drewN ?_ _|refine blk_drew ?_|refine blk_alloc ?_ _));refine blk_far ?_ NB158_165.out _;(with_reducible repeat (first|refine blk_drewN ?_ _|refine blk_drew ?_|refine blk_alloc ?_ _));exact BK158.out⟩
         have n3_:Aside0 ((((w33.setCell ⟨gb165,0,none⟩ (.int .i64 ((rd_T61 l2 x25_1).f0))).setCell ⟨gb165,1,none⟩ (.int .i64 ((rd_T61 l2 x25_1).f1))).setCell ⟨gb165,2,none⟩ (.int .i64 ((rd_T61 l2 x25_1).f2))).heap[gb163]?=some (.cells #[.int .i64 x164000_1,.int .i64 x164001_1,.int .i64 x164002_1] 61 (0,0))):=⟨by (with_reducible repeat (first|refine blk_drewN ?_ _|refine blk_drew ?_|refine blk_alloc ?_ _));refine blk_far ?_ NB163_165.out _;(with_reducible repeat (first|refine blk_drewN ?_ _|refine blk_drew ?_|refine blk_alloc ?_ _));refine blk_far ?_ NB163_165.out _;(with_reducible repeat (first|refine blk_drewN ?_ _|refine blk_drew ?_|refine blk_alloc ?_ _));refine blk_far ?_ NB163_165.out _;(with_reducible repeat (first|refine blk_drewN ?_ _|refine blk_drew ?_|refine blk_alloc ?_ _));exact BK163.out⟩
         have n4_:Aside0 ((((w33.setCell ⟨gb165,0,none⟩ (.int .i64 ((rd_T61 l2 x25_1).f0))).setCell ⟨gb165,1,none⟩ (.int .i64 ((rd_T61 l2 x25_1).f1))).setCell ⟨gb165,2,none⟩ (.int .i64 ((rd_T61 l2 x25_1).f2))).heap[gb165]?=some (.cells #[.int .i64 ((rd_T61 l2 x25_1).f0),.int .i64 ((rd_T61 l2 x25_1).f1),.int .i64 ((rd_T61 l2 x25_1).f2)] 61 (0,0))):=⟨by (with_reducible repeat (first|refine blk_drewN ?_ _|refine blk_drew ?_|refine blk_alloc ?_ _));refine blk_put (cs:=#[.int .i64 ((rd_T61 l2 x25_1).f0),.int .i64 ((rd_T61 l2 x25_1).f1),.int .i64 0]) ?_ 2 _ rfl;(with_reducible repeat (first|refine blk_drewN ?_ _|refine blk_drew ?_|refine blk_alloc ?_ _));refine blk_put (cs:=#[.int .i64 ((rd_T61 l2 x25_1).f0),.int .i64 0,.int .i64 0]) ?_ 1 _ rfl;(with_reducible repeat (first|refine blk_drewN ?_ _|refine blk_drew ?_|refine blk_alloc ?_ _));refine blk_put (cs:=#[.int .i64 0,.int .i64 0,.int .i64 0]) ?_ 0 _ rfl;(with_reducible repeat (first|refine blk_drewN ?_ _|refine blk_drew ?_|refine blk_alloc ?_ _));exact BK165.out⟩
         have n5_:Aside0 (Below w.heap.size w (((w33.setCell ⟨gb165,0,none⟩ (.int .i64 ((rd_T61 l2 x25_1).f0))).setCell ⟨gb165,1,none⟩ (.int .i64 ((rd_T61 l2 x25_1).f1))).setCell ⟨gb165,2,none⟩ (.int .i64 ((rd_T61 l2 x25_1).f2)))):=⟨be⟩
         (try clear HO_7);(try clear BK157);(try clear BK158);(try clear BK163);(try clear BK165);(try clear HB)
         generalize (((w33.setCell ⟨gb165,0,none⟩ (.int .i64 ((rd_T61 l2 x25_1).f0))).setCell ⟨gb165,1,none⟩ (.int .i64 ((rd_T61 l2 x25_1).f1))).setCell ⟨gb165,2,none⟩ (.int .i64 ((rd_T61 l2 x25_1).f2)))=w41 at n0_ n1_ n2_ n3_ n4_ n5_ ⊢
         have HO_7:=n0_;have BK157:=n1_;have BK158:=n2_;have BK163:=n3_;have BK165:=n4_;have HB:=n5_;clear n0_ n1_ n2_ n3_ n4_ n5_
         (try (rw [drewN_self w41];generalize hq_:World.drewN w41 _=w41;have n0_:Aside0 (Kd.R (Kd.int .i64) 3 w41 w.heap.size (fun _=>True) v161 t160):=⟨by rw [← hq_];exact (rR HO_7)⟩;have n1_:Aside0 (w41.heap[gb157]?=some (.cells #[.int .i64 a0_0,.slice A0_1 l0_1.length c0_1] 26 (0,0))):=⟨by rw [← hq_];exact (bk BK157)⟩;have n2_:Aside0 (w41.heap[gb158]?=some (.cells #[.slice A1_0 l1_0.length c1_0] 35 (0,0))):=⟨by rw [← hq_];exact (bk BK158)⟩;have n3_:Aside0 (w41.heap[gb163]?=some (.cells #[.int .i64 x164000_1,.int .i64 x164001_1,.int .i64 x164002_1] 61 (0,0))):=⟨by rw [← hq_];exact (bk BK163)⟩;have n4_:Aside0 (w41.heap[gb165]?=some (.cells #[.int .i64 ((rd_T61 l2 x25_1).f0),.int .i64 ((rd_T61 l2 x25_1).f1),.int .i64 ((rd_T61 l2 x25_1).f2)] 61 (0,0))):=⟨by rw [← hq_];exact (bk BK165)⟩;have n5_:Aside0 (Below w.heap.size w w41):=⟨by rw [← hq_];exact be⟩;clear HO_7 BK157 BK158 BK163 BK165 HB hq_;have HO_7:=n0_;have BK157:=n1_;have BK158:=n2_;have BK163:=n3_;have BK165:=n4_;have HB:=n5_;clear n0_ n1_ n2_ n3_ n4_ n5_))
         replace HO_7:=aM (Kd.R_drew HO_7.out);replace BK157:=aM (blk_drew BK157.out);replace BK158:=aM (blk_drew BK158.out);replace BK163:=aM (blk_drew BK163.out);replace BK165:=aM (blk_drew BK165.out);replace HB:=aM (below_drew1 HB.out)
         refine start_ (n:=12) (S:=fun w'=>w'.cell? ⟨gb157,0,none⟩=some (.int .i64 a0_0)∧w'.cell? ⟨gb157,1,none⟩=some (.slice A0_1 l0_1.length c0_1)∧w'.cell? ⟨gb165,0,none⟩=some (.int .i64 ((rd_T61 l2 x25_1).f0))∧w'.cell? ⟨gb165,1,none⟩=some (.int .i64 ((rd_T61 l2 x25_1).f1))∧w'.cell? ⟨gb165,2,none⟩=some (.int .i64 ((rd_T61 l2 x25_1).f2))) (ds:=[]) (fl 12 0) (by kernel_rfl) rfl rfl ⟨(blk_cell BK157.out 0).trans rfl,(blk_cell BK157.out 1).trans rfl,(blk_cell BK165.out 0).trans rfl,(blk_cell BK165.out 1).trans rfl,(blk_cell BK165.out 2).trans rfl⟩ (fun hHeld=>?_);refine with_tabW impl_Best.tab9 impl_Best.bits9 (fun HT_ HW_=>?_)
         generalize w41.drew=w42 at HO_7 BK157 BK158 BK163 BK165 HB hHeld ⊢
         refine pt 1 35 (fl 12 2) HT_ ?_
         refine pt 5 39 (fl 12 34) HT_ ?_
         refine pt 6 40 (fl 12 98) HT_ ?_
         refine tt 0 34 (fl 12 99) HT_ HW_ hHeld ?_
         refine tt 2 36 (fl 12 103) HT_ HW_ hHeld ?_
         refine tt 7 41 (fl 12 231) HT_ HW_ hHeld ?_
         refine ot 3 (some 37) (fl 12 239) HT_ (fun K hK=>?_)
         refine goes_ Try.func35 (by kernel_rfl) rfl #[.agg #[.int .i64 a0_0,.slice A0_1 l0_1.length c0_1],.int .i64 ((rd_T61 l2 x25_1).f0)] (by rfl) rfl rfl (by (try simp only [List.map_toArray,List.map_cons,List.map_nil]);first|done|rfl|(simp only [List.length_drop,List.length_take];rfl)) ?_
         with_reducible refine (impl_LoadOf.calls k1 a0_0 _ _ l0_1 ((rd_T61 l2 x25_1).f0) t167 _ ?side1 ?side2 A30.out).mono ?_
         (case side1=>exact rC HR0_1)
         (case side2=>exact HC0_1.out)
         rintro e w43 ⟨rfl,hb⟩
         refine ⟨_,rfl,?_⟩
         replace HO_7:=rB HO_7 hb;replace BK157:=bB BK157 hb;replace BK158:=bB BK158 hb;replace BK163:=bB BK163 hb;replace BK165:=bB BK165 hb;replace HB:=bs hb;(try clear hb);skip
         obtain ⟨Ao44,co44,eo44⟩:=Kd.R_slice HO_7.out
         (subst eo44)
         refine hK.out _ _ ⟨(blk_cell BK157.out 0).trans rfl,(blk_cell BK157.out 1).trans rfl,(blk_cell BK165.out 0).trans rfl,(blk_cell BK165.out 1).trans rfl,(blk_cell BK165.out 2).trans rfl⟩ (fun hHeld=>?_)
         clear hK K
         refine no 37 ?_
         refine pt 4 38 (fl 12 255) HT_ ?_
         refine ot 8 (some 42) (fl 12 511) HT_ (fun K hK=>?_)
         refine goes_ Try.func52 (by kernel_rfl) rfl #[.slice Ao44 t160.length co44,.int .i64 ((rd_T61 l2 x25_1).f1)] (by rfl) rfl rfl (by (try simp only [List.map_toArray,List.map_cons,List.map_nil]);first|done|rfl|(simp only [List.length_drop,List.length_take];rfl)) ?_
         with_reducible refine (impl_hasInt.calls k1 _ _ t160 ((rd_T61 l2 x25_1).f1) t168 _ ?side1 ?side2 A31.out).mono ?_
         (case side1=>exact sR HO_7)
         (case side2=>exact (Kd.R_reads' HO_7.out).2.1)
         rintro e w' ⟨rfl,⟨nd,rfl⟩⟩
         refine ⟨_,rfl,?_⟩
         refine hK.out _ _ ⟨(blk_cell BK157.out 0).trans rfl,(blk_cell BK157.out 1).trans rfl,(blk_cell BK165.out 0).trans rfl,(blk_cell BK165.out 1).trans rfl,(blk_cell BK165.out 2).trans rfl⟩ (fun hHeld=>?_)
         clear hK K
         refine no 42 ?_
         refine pt 9 43 (fl 12 1023) HT_ ?_
         refine pt 10 13 (fl 12 2047) HT_ ?_
         refine pt 11 14 (fl 12 4095) HT_ ?_
         refine done_ (done_of HT_.out (by kernel_rfl)) ?_
         have hnb45:=NB163_157.out
         have hnc45:=NB157_163.out
         have hcz46_0:w43.cell? ⟨gb163,0,none⟩=some (.int .i64 x164000_1):=(blk_cell BK163.out 0).trans rfl
         have hcz46_1:w43.cell? ⟨gb163,1,none⟩=some (.int .i64 x164001_1):=(blk_cell BK163.out 1).trans rfl
         have hcz46_2:w43.cell? ⟨gb163,2,none⟩=some (.int .i64 x164002_1):=(blk_cell BK163.out 2).trans rfl
         have hfz46_0:=blk_frozen BK163.out 0
         have hfz46_1:=blk_frozen BK163.out 1
         have hfz46_2:=blk_frozen BK163.out 2
         have hcz47_0:w43.cell? ⟨gb165,0,none⟩=some (.int .i64 ((rd_T61 l2 x25_1).f0)):=(blk_cell BK165.out 0).trans rfl
         have hcz47_1:w43.cell? ⟨gb165,1,none⟩=some (.int .i64 ((rd_T61 l2 x25_1).f1)):=(blk_cell BK165.out 1).trans rfl
         have hcz47_2:w43.cell? ⟨gb165,2,none⟩=some (.int .i64 ((rd_T61 l2 x25_1).f2)):=(blk_cell BK165.out 2).trans rfl
         have hfz47_0:=blk_frozen BK165.out 0
         have hfz47_1:=blk_frozen BK165.out 1
         have hfz47_2:=blk_frozen BK165.out 2
         try go_wp2
         go_roundg k1
         case measure=>have:=HK1.out;omega
         case rel=>exact ⟨(wrap64 (t167+1)),(!t168),(wrap64 (x25_1+1)),((rd_T61 l2 x25_1).f0),((rd_T61 l2 x25_1).f1),((rd_T61 l2 x25_1).f2),rd_,rd_,rd_,H',⟨by have:=HK1.out;omega⟩,⟨by (with_reducible repeat (first|apply Kd.R_alloc|apply Kd.R_drewN|apply Kd.R_drew));exact Kd.R_mono (Kd.R_far (p:=⟨gb163,2,none⟩) (Kd.R_far (p:=⟨gb163,1,none⟩) (Kd.R_far (p:=⟨gb163,0,none⟩) (Kd.R_types HO_7.out BK163.out (by decide)) (fun _ hk=>hk.2) (.int .i64 ((rd_T61 l2 x25_1).f0))) (fun _ hk=>hk.2) (.int .i64 ((rd_T61 l2 x25_1).f1))) (fun _ hk=>hk.2) (.int .i64 ((rd_T61 l2 x25_1).f2))) (fun _ hk=>trivial)⟩,⟨by (with_reducible repeat (first|refine blk_drewN ?_ _|refine blk_drew ?_|refine blk_alloc ?_ _));refine blk_far ?_ NB157_163.out _;(with_reducible repeat (first|refine blk_drewN ?_ _|refine blk_drew ?_|refine blk_alloc ?_ _));refine blk_far ?_ NB157_163.out _;(with_reducible repeat (first|refine blk_drewN ?_ _|refine blk_drew ?_|refine blk_alloc ?_ _));refine blk_far ?_ NB157_163.out _;(with_reducible repeat (refine blk_drewN ?_ _));exact BK157.out⟩,⟨by (with_reducible repeat (first|refine blk_drewN ?_ _|refine blk_drew ?_|refine blk_alloc ?_ _));refine blk_far ?_ NB158_163.out _;(with_reducible repeat (first|refine blk_drewN ?_ _|refine blk_drew ?_|refine blk_alloc ?_ _));refine blk_far ?_ NB158_163.out _;(with_reducible repeat (first|refine blk_drewN ?_ _|refine blk_drew ?_|refine blk_alloc ?_ _));refine blk_far ?_ NB158_163.out _;(with_reducible repeat (refine blk_drewN ?_ _));exact BK158.out⟩,⟨by (with_reducible repeat (first|refine blk_drewN ?_ _|refine blk_drew ?_|refine blk_alloc ?_ _));refine blk_put (cs:=#[.int .i64 ((rd_T61 l2 x25_1).f0),.int .i64 ((rd_T61 l2 x25_1).f1),.int .i64 x164002_1]) ?_ 2 _ rfl;(with_reducible repeat (first|refine blk_drewN ?_ _|refine blk_drew ?_|refine blk_alloc ?_ _));refine blk_put (cs:=#[.int .i64 ((rd_T61 l2 x25_1).f0),.int .i64 x164001_1,.int .i64 x164002_1]) ?_ 1 _ rfl;(with_reducible repeat (first|refine blk_drewN ?_ _|refine blk_drew ?_|refine blk_alloc ?_ _));refine blk_put (cs:=#[.int .i64 x164000_1,.int .i64 x164001_1,.int .i64 x164002_1]) ?_ 0 _ rfl;(with_reducible repeat (refine blk_drewN ?_ _));exact BK163.out⟩,⟨be⟩⟩
        ·rw [if_neg c32] at H
         have c32b0:decide (x164000_1 < 0)=false:=decide_eq_false c32
         clear c32
         by_cases c48:t168=true
         ·subst c48
          rw [if_pos rfl] at H
          by_cases c49:((!true) == x10_1)=true
          ·rw [if_pos c49] at H
           have qc49:x10_1=false:=by simpa using c49
           clear c49
           subst qc49
           by_cases c50:(wrap64 ((wrap64 (t167+1)) * x164002_1)) < (wrap64 (x9_1 * ((rd_T61 l2 x25_1).f2)))
           ·rw [if_pos c50] at H
            have c50b0:decide ((wrap64 ((wrap64 (t167+1)) * x164002_1)) < (wrap64 (x9_1 * ((rd_T61 l2 x25_1).f2))))=true:=decide_eq_true c50
            clear c50
            have H':=Aside0.mk H
            clear H
            have p164:0≤(x25_1:Int):=of_decide_eq_true (by first|(with_reducible assumption)|assumption)
            have q164:x25_1 < (l2.length:Int):=of_decide_eq_true (by first|(with_reducible assumption)|assumption)
            obtain ⟨ad164,e164,hx164_0,hx164_1,hx164_2⟩:=at_T61 HR2.out x25_1 p164 q164
            cases e164
            replace hx164_0:=(HB.out.cell (World.block_lt_of_cell? w _ hx164_0)).trans hx164_0
            replace hx164_1:=(HB.out.cell (World.block_lt_of_cell? w _ hx164_1)).trans hx164_1
            replace hx164_2:=(HB.out.cell (World.block_lt_of_cell? w _ hx164_2)).trans hx164_2
            replace p164:=eq_true p164
            replace q164:=eq_true q164
            try go_wp2_with (first|((with_reducible refine gate_dst (N:=12) rfl ?_);refine box_event ?hg (N:=12) ?hd (cs:=#[.int .i64 0,.int .i64 0,.int .i64 0]) (t:=61) ?hr ?_;(case hd=>rfl);(case hg=>rfl);(case hr=>first|(go_simp;done)|(go_simp;rfl));intro gb165 hg w51 hbox hb;replace HO_7:=rB HO_7 hb;have BK165:=aM (hbox);have GW165:=gS w hg;have GE165:=gS w hg;replace HB:=bs hb;have NB157_165:=nL hg BK157;have NB165_157:=nG hg BK157;replace BK157:=bB BK157 hb;have NB158_165:=nL hg BK158;have NB165_158:=nG hg BK158;replace BK158:=bB BK158 hb;have NB163_165:=nL hg BK163;have NB165_163:=nG hg BK163;replace BK163:=bB BK163 hb;clear hb hbox hg;have hnb52:=NB165_157.out;have hnc52:=NB157_165.out;have hnb53:=NB165_158.out;have hnc53:=NB158_165.out;have hnb54:=NB165_163.out;have hnc54:=NB163_165.out;have hcz55_0:w51.cell? ⟨gb165,0,none⟩=some (.int .i64 0):=(blk_cell BK165.out 0).trans rfl;have hcz55_1:w51.cell? ⟨gb165,1,none⟩=some (.int .i64 0):=(blk_cell BK165.out 1).trans rfl;have hcz55_2:w51.cell? ⟨gb165,2,none⟩=some (.int .i64 0):=(blk_cell BK165.out 2).trans rfl;have hfz55_0:=blk_frozen BK165.out 0;have hfz55_1:=blk_frozen BK165.out 1;have hfz55_2:=blk_frozen BK165.out 2;have hnb56:=NB158_157.out;have hnc56:=NB157_158.out;have hnb57:=NB158_163.out;have hnc57:=NB163_158.out;have hcz58_0:w51.cell? ⟨gb158,0,none⟩=some (.slice A1_0 l1_0.length c1_0):=(blk_cell BK158.out 0).trans rfl;have hfz58_0:=blk_frozen BK158.out 0)|((with_reducible refine gate_callee (f:=52) rfl ?_);refine goesL_ (some 33) rfl rfl Try.func52 (by kernel_rfl) rfl #[.slice A1_0 l1_0.length c1_0,.int .i64 ((rd_T61 l2 x25_1).f0)] rfl (by (try simp only [List.map_toArray,List.map_cons,List.map_nil]);first|done|rfl|(simp only [List.length_drop,List.length_take];rfl)) ?_;(with_reducible refine (impl_hasInt.calls k1 _ _ l1_0 ((rd_T61 l2 x25_1).f0) false _ ?side1 ?side2 A20.out).mono ?_);(case side1=>exact Kd.C_below HR1_0.out be);(case side2=>exact HC1_0.out);rintro e w' ⟨rfl,⟨nd,rfl⟩⟩;refine ⟨_,rfl,?_⟩))
            have n0_:Aside0 (Kd.R (Kd.int .i64) 3 (((w51.setCell ⟨gb165,0,none⟩ (.int .i64 ((rd_T61 l2 x25_1).f0))).setCell ⟨gb165,1,none⟩ (.int .i64 ((rd_T61 l2 x25_1).f1))).setCell ⟨gb165,2,none⟩ (.int .i64 ((rd_T61 l2 x25_1).f2))) w.heap.size (fun _=>True) v161 t160):=⟨by (with_reducible repeat (first|apply Kd.R_alloc|apply Kd.R_drewN|apply Kd.R_drew));exact Kd.R_mono (Kd.R_far (p:=⟨gb165,2,none⟩) (Kd.R_far (p:=⟨gb165,1,none⟩) (Kd.R_far (p:=⟨gb165,0,none⟩) (Kd.R_types HO_7.out BK165.out (by decide)) (fun _ hk=>hk.2) (.int .i64 ((rd_T61 l2 x25_1).f0))) (fun _ hk=>hk.2) (.int .i64 ((rd_T61 l2 x25_1).f1))) (fun _ hk=>hk.2) (.int .i64 ((rd_T61 l2 x25_1).f2))) (fun _ hk=>trivial)⟩
            have n1_:Aside0 ((((w51.setCell ⟨gb165,0,none⟩ (.int .i64 ((rd_T61 l2 x25_1).f0))).setCell ⟨gb165,1,none⟩ (.int .i64 ((rd_T61 l2 x25_1).f1))).setCell ⟨gb165,2,none⟩ (.int .i64 ((rd_T61 l2 x25_1).f2))).heap[gb157]?=some (.cells #[.int .i64 a0_0,.slice A0_1 l0_1.length c0_1] 26 (0,0))):=⟨by (with_reducible repeat (first|refine blk_drewN ?_ _|refine blk_drew ?_|refine blk_alloc ?_ _));refine blk_far ?_ NB157_165.out _;(with_reducible repeat (first|refine blk_drewN ?_ _|refine blk_drew ?_|refine blk_alloc ?_ _));refine blk_far ?_ NB157_165.out _;(with_reducible repeat (first|refine blk_drewN ?_ _|refine blk_drew ?_|refine blk_alloc ?_ _));refine blk_far ?_ NB157_165.out _;(with_reducible repeat (first|refine blk_drewN ?_ _|refine blk_drew ?_|refine blk_alloc ?_ _));exact BK157.out⟩
            have n2_:Aside0 ((((w51.setCell ⟨gb165,0,none⟩ (.int .i64 ((rd_T61 l2 x25_1).f0))).setCell ⟨gb165,1,none⟩ (.int .i64 ((rd_T61 l2 x25_1).f1))).setCell ⟨gb165,2,none⟩ (.int .i64 ((rd_T61 l2 x25_1).f2))).heap[gb158]?=some (.cells #[.slice A1_0 l1_0.length c1_0] 35 (0,0))):=⟨by (with_reducible repeat (first|refine blk_drewN ?_ _|refine blk_drew ?_|refine blk_alloc ?_ _));refine blk_far ?_ NB158_165.out _;(with_reducible repeat (first|refine blk_drewN ?_ _|refine blk_drew ?_|refine blk_alloc ?_ _));refine blk_far ?_ NB158_165.out _;(with_reducible repeat (first|refine blk_drewN ?_ _|refine blk_drew ?_|refine blk_alloc ?_ _));refine blk_far ?_ NB158_165.out _;(with_reducible repeat (first|refine blk_drewN ?_ _|refine blk_drew ?_|refine blk_alloc ?_ _));exact BK158.out⟩
            have n3_:Aside0 ((((w51.setCell ⟨gb165,0,none⟩ (.int .i64 ((rd_T61 l2 x25_1).f0))).setCell ⟨gb165,1,none⟩ (.int .i64 ((rd_T61 l2 x25_1).f1))).setCell ⟨gb165,2,none⟩ (.int .i64 ((rd_T61 l2 x25_1).f2))).heap[gb163]?=some (.cells #[.int .i64 x164000_1,.int .i64 x164001_1,.int .i64 x164002_1] 61 (0,0))):=⟨by (with_reducible repeat (first|refine blk_drewN ?_ _|refine blk_drew ?_|refine blk_alloc ?_ _));refine blk_far ?_ NB163_165.out _;(with_reducible repeat (first|refine blk_drewN ?_ _|refine blk_drew ?_|refine blk_alloc ?_ _));refine blk_far ?_ NB163_165.out _;(with_reducible repeat (first|refine blk_drewN ?_ _|refine blk_drew ?_|refine blk_alloc ?_ _));refine blk_far ?_ NB163_165.out _;(with_reducible repeat (first|refine blk_drewN ?_ _|refine blk_drew ?_|refine blk_alloc ?_ _));exact BK163.out⟩
            have n4_:Aside0 ((((w51.setCell ⟨gb165,0,none⟩ (.int .i64 ((rd_T61 l2 x25_1).f0))).setCell ⟨gb165,1,none⟩ (.int .i64 ((rd_T61 l2 x25_1).f1))).setCell ⟨gb165,2,none⟩ (.int .i64 ((rd_T61 l2 x25_1).f2))).heap[gb165]?=some (.cells #[.int .i64 ((rd_T61 l2 x25_1).f0),.int .i64 ((rd_T61 l2 x25_1).f1),.int .i64 ((rd_T61 l2 x25_1).f2)] 61 (0,0))):=⟨by (with_reducible repeat (first|refine blk_drewN ?_ _|refine blk_drew ?_|refine blk_alloc ?_ _));refine blk_put (cs:=#[.int .i64 ((rd_T61 l2 x25_1).f0),.int .i64 ((rd_T61 l2 x25_1).f1),.int .i64 0]) ?_ 2 _ rfl;(with_reducible repeat (first|refine blk_drewN ?_ _|refine blk_drew ?_|refine blk_alloc ?_ _));refine blk_put (cs:=#[.int .i64 ((rd_T61 l2 x25_1).f0),.int .i64 0,.int .i64 0]) ?_ 1 _ rfl;(with_reducible repeat (first|refine blk_drewN ?_ _|refine blk_drew ?_|refine blk_alloc ?_ _));refine blk_put (cs:=#[.int .i64 0,.int .i64 0,.int .i64 0]) ?_ 0 _ rfl;(with_reducible repeat (first|refine blk_drewN ?_ _|refine blk_drew ?_|refine blk_alloc ?_ _));exact BK165.out⟩
            have n5_:Aside0 (Below w.heap.size w (((w51.setCell ⟨gb165,0,none⟩ (.int .i64 ((rd_T61 l2 x25_1).f0))).setCell ⟨gb165,1,none⟩ (.int .i64 ((rd_T61 l2 x25_1).f1))).setCell ⟨gb165,2,none⟩ (.int .i64 ((rd_T61 l2 x25_1).f2)))):=⟨be⟩
            (try clear HO_7);(try clear BK157);(try clear BK158);(try clear BK163);(try clear BK165);(try clear HB)
            generalize (((w51.setCell ⟨gb165,0,none⟩ (.int .i64 ((rd_T61 l2 x25_1).f0))).setCell ⟨gb165,1,none⟩ (.int .i64 ((rd_T61 l2 x25_1).f1))).setCell ⟨gb165,2,none⟩ (.int .i64 ((rd_T61 l2 x25_1).f2)))=w59 at n0_ n1_ n2_ n3_ n4_ n5_ ⊢
            have HO_7:=n0_;have BK157:=n1_;have BK158:=n2_;have BK163:=n3_;have BK165:=n4_;have HB:=n5_;clear n0_ n1_ n2_ n3_ n4_ n5_
            (try (rw [drewN_self w59];generalize hq_:World.drewN w59 _=w59;have n0_:Aside0 (Kd.R (Kd.int .i64) 3 w59 w.heap.size (fun _=>True) v161 t160):=⟨by rw [← hq_];exact (rR HO_7)⟩;have n1_:Aside0 (w59.heap[gb157]?=some (.cells #[.int .i64 a0_0,.slice A0_1 l0_1.length c0_1] 26 (0,0))):=⟨by rw [← hq_];exact (bk BK157)⟩;have n2_:Aside0 (w59.heap[gb158]?=some (.cells #[.slice A1_0 l1_0.length c1_0] 35 (0,0))):=⟨by rw [← hq_];exact (bk BK158)⟩;have n3_:Aside0 (w59.heap[gb163]?=some (.cells #[.int .i64 x164000_1,.int .i64 x164001_1,.int .i64 x164002_1] 61 (0,0))):=⟨by rw [← hq_];exact (bk BK163)⟩;have n4_:Aside0 (w59.heap[gb165]?=some (.cells #[.int .i64 ((rd_T61 l2 x25_1).f0),.int .i64 ((rd_T61 l2 x25_1).f1),.int .i64 ((rd_T61 l2 x25_1).f2)] 61 (0,0))):=⟨by rw [← hq_];exact (bk BK165)⟩;have n5_:Aside0 (Below w.heap.size w w59):=⟨by rw [← hq_];exact be⟩;clear HO_7 BK157 BK158 BK163 BK165 HB hq_;have HO_7:=n0_;have BK157:=n1_;have BK158:=n2_;have BK163:=n3_;have BK165:=n4_;have HB:=n5_;clear n0_ n1_ n2_ n3_ n4_ n5_))
            replace HO_7:=aM (Kd.R_drew HO_7.out);replace BK157:=aM (blk_drew BK157.out);replace BK158:=aM (blk_drew BK158.out);replace BK163:=aM (blk_drew BK163.out);replace BK165:=aM (blk_drew BK165.out);replace HB:=aM (below_drew1 HB.out)
            refine start_ (n:=12) (S:=fun w'=>w'.cell? ⟨gb157,0,none⟩=some (.int .i64 a0_0)∧w'.cell? ⟨gb157,1,none⟩=some (.slice A0_1 l0_1.length c0_1)∧w'.cell? ⟨gb165,0,none⟩=some (.int .i64 ((rd_T61 l2 x25_1).f0))∧w'.cell? ⟨gb165,1,none⟩=some (.int .i64 ((rd_T61 l2 x25_1).f1))∧w'.cell? ⟨gb165,2,none⟩=some (.int .i64 ((rd_T61 l2 x25_1).f2))) (ds:=[]) (fl 12 0) (by kernel_rfl) rfl rfl ⟨(blk_cell BK157.out 0).trans rfl,(blk_cell BK157.out 1).trans rfl,(blk_cell BK165.out 0).trans rfl,(blk_cell BK165.out 1).trans rfl,(blk_cell BK165.out 2).trans rfl⟩ (fun hHeld=>?_);refine with_tabW impl_Best.tab9 impl_Best.bits9 (fun HT_ HW_=>?_)
            generalize w59.drew=w60 at HO_7 BK157 BK158 BK163 BK165 HB hHeld ⊢
            refine pt 1 35 (fl 12 2) HT_ ?_
            refine pt 5 39 (fl 12 34) HT_ ?_
            refine pt 6 40 (fl 12 98) HT_ ?_
            refine tt 0 34 (fl 12 99) HT_ HW_ hHeld ?_
            refine tt 2 36 (fl 12 103) HT_ HW_ hHeld ?_
            refine tt 7 41 (fl 12 231) HT_ HW_ hHeld ?_
            refine ot 3 (some 37) (fl 12 239) HT_ (fun K hK=>?_)
            refine goes_ Try.func35 (by kernel_rfl) rfl #[.agg #[.int .i64 a0_0,.slice A0_1 l0_1.length c0_1],.int .i64 ((rd_T61 l2 x25_1).f0)] (by rfl) rfl rfl (by (try simp only [List.map_toArray,List.map_cons,List.map_nil]);first|done|rfl|(simp only [List.length_drop,List.length_take];rfl)) ?_
            with_reducible refine (impl_LoadOf.calls k1 a0_0 _ _ l0_1 ((rd_T61 l2 x25_1).f0) t167 _ ?side1 ?side2 A30.out).mono ?_
            (case side1=>exact rC HR0_1)
            (case side2=>exact HC0_1.out)
            rintro e w61 ⟨rfl,hb⟩
            refine ⟨_,rfl,?_⟩
            replace HO_7:=rB HO_7 hb;replace BK157:=bB BK157 hb;replace BK158:=bB BK158 hb;replace BK163:=bB BK163 hb;replace BK165:=bB BK165 hb;replace HB:=bs hb;(try clear hb);skip
            obtain ⟨Ao62,co62,eo62⟩:=Kd.R_slice HO_7.out
            (subst eo62)
            refine hK.out _ _ ⟨(blk_cell BK157.out 0).trans rfl,(blk_cell BK157.out 1).trans rfl,(blk_cell BK165.out 0).trans rfl,(blk_cell BK165.out 1).trans rfl,(blk_cell BK165.out 2).trans rfl⟩ (fun hHeld=>?_)
            clear hK K
            refine no 37 ?_
            refine pt 4 38 (fl 12 255) HT_ ?_
            refine ot 8 (some 42) (fl 12 511) HT_ (fun K hK=>?_)
            refine goes_ Try.func52 (by kernel_rfl) rfl #[.slice Ao62 t160.length co62,.int .i64 ((rd_T61 l2 x25_1).f1)] (by rfl) rfl rfl (by (try simp only [List.map_toArray,List.map_cons,List.map_nil]);first|done|rfl|(simp only [List.length_drop,List.length_take];rfl)) ?_
            with_reducible refine (impl_hasInt.calls k1 _ _ t160 ((rd_T61 l2 x25_1).f1) true _ ?side1 ?side2 A31.out).mono ?_
            (case side1=>exact sR HO_7)
            (case side2=>exact (Kd.R_reads' HO_7.out).2.1)
            rintro e w' ⟨rfl,⟨nd,rfl⟩⟩
            refine ⟨_,rfl,?_⟩
            refine hK.out _ _ ⟨(blk_cell BK157.out 0).trans rfl,(blk_cell BK157.out 1).trans rfl,(blk_cell BK165.out 0).trans rfl,(blk_cell BK165.out 1).trans rfl,(blk_cell BK165.out 2).trans rfl⟩ (fun hHeld=>?_)
            clear hK K
            refine no 42 ?_
            refine pt 9 43 (fl 12 1023) HT_ ?_
            refine pt 10 13 (fl 12 2047) HT_ ?_
            refine pt 11 14 (fl 12 4095) HT_ ?_
            refine done_ (done_of HT_.out (by kernel_rfl)) ?_
            have hnb63:=NB163_157.out
            have hnc63:=NB157_163.out
            have hcz64_0:w61.cell? ⟨gb163,0,none⟩=some (.int .i64 x164000_1):=(blk_cell BK163.out 0).trans rfl
            have hcz64_1:w61.cell? ⟨gb163,1,none⟩=some (.int .i64 x164001_1):=(blk_cell BK163.out 1).trans rfl
            have hcz64_2:w61.cell? ⟨gb163,2,none⟩=some (.int .i64 x164002_1):=(blk_cell BK163.out 2).trans rfl
            have hfz64_0:=blk_frozen BK163.out 0
            have hfz64_1:=blk_frozen BK163.out 1
            have hfz64_2:=blk_frozen BK163.out 2
            have hcz65_0:w61.cell? ⟨gb165,0,none⟩=some (.int .i64 ((rd_T61 l2 x25_1).f0)):=(blk_cell BK165.out 0).trans rfl
            have hcz65_1:w61.cell? ⟨gb165,1,none⟩=some (.int .i64 ((rd_T61 l2 x25_1).f1)):=(blk_cell BK165.out 1).trans rfl
            have hcz65_2:w61.cell? ⟨gb165,2,none⟩=some (.int .i64 ((rd_T61 l2 x25_1).f2)):=(blk_cell BK165.out 2).trans rfl
            have hfz65_0:=blk_frozen BK165.out 0
            have hfz65_1:=blk_frozen BK165.out 1
            have hfz65_2:=blk_frozen BK165.out 2
            try go_wp2
            go_roundg k1
            case measure=>have:=HK1.out;omega
            case rel=>exact ⟨(wrap64 (t167+1)),(!true),(wrap64 (x25_1+1)),((rd_T61 l2 x25_1).f0),((rd_T61 l2 x25_1).f1),((rd_T61 l2 x25_1).f2),rd_,rd_,rd_,H',⟨by have:=HK1.out;omega⟩,⟨by (with_reducible repeat (first|apply Kd.R_alloc|apply Kd.R_drewN|apply Kd.R_drew));exact Kd.R_mono (Kd.R_far (p:=⟨gb163,2,none⟩) (Kd.R_far (p:=⟨gb163,1,none⟩) (Kd.R_far (p:=⟨gb163,0,none⟩) (Kd.R_types HO_7.out BK163.out (by decide)) (fun _ hk=>hk.2) (.int .i64 ((rd_T61 l2 x25_1).f0))) (fun _ hk=>hk.2) (.int .i64 ((rd_T61 l2 x25_1).f1))) (fun _ hk=>hk.2) (.int .i64 ((rd_T61 l2 x25_1).f2))) (fun _ hk=>trivial)⟩,⟨by (with_reducible repeat (first|refine blk_drewN ?_ _|refine blk_drew ?_|refine blk_alloc ?_ _));refine blk_far ?_ NB157_163.out _;(with_reducible repeat (first|refine blk_drewN ?_ _|refine blk_drew ?_|refine blk_alloc ?_ _));refine blk_far ?_ NB157_163.out _;(with_reducible repeat (first|refine blk_drewN ?_ _|refine blk_drew ?_|refine blk_alloc ?_ _));refine blk_far ?_ NB157_163.out _;(with_reducible repeat (refine blk_drewN ?_ _));exact BK157.out⟩,⟨by (with_reducible repeat (first|refine blk_drewN ?_ _|refine blk_drew ?_|refine blk_alloc ?_ _));refine blk_far ?_ NB158_163.out _;(with_reducible repeat (first|refine blk_drewN ?_ _|refine blk_drew ?_|refine blk_alloc ?_ _));refine blk_far ?_ NB158_163.out _;(with_reducible repeat (first|refine blk_drewN ?_ _|refine blk_drew ?_|refine blk_alloc ?_ _));refine blk_far ?_ NB158_163.out _;(with_reducible repeat (refine blk_drewN ?_ _));exact BK158.out⟩,⟨by (with_reducible repeat (first|refine blk_drewN ?_ _|refine blk_drew ?_|refine blk_alloc ?_ _));refine blk_put (cs:=#[.int .i64 ((rd_T61 l2 x25_1).f0),.int .i64 ((rd_T61 l2 x25_1).f1),.int .i64 x164002_1]) ?_ 2 _ rfl;(with_reducible repeat (first|refine blk_drewN ?_ _|refine blk_drew ?_|refine blk_alloc ?_ _));refine blk_put (cs:=#[.int .i64 ((rd_T61 l2 x25_1).f0),.int .i64 x164001_1,.int .i64 x164002_1]) ?_ 1 _ rfl;(with_reducible repeat (first|refine blk_drewN ?_ _|refine blk_drew ?_|refine blk_alloc ?_ _));refine blk_put (cs:=#[.int .i64 x164000_1,.int .i64 x164001_1,.int .i64 x164002_1]) ?_ 0 _ rfl;(with_reducible repeat (refine blk_drewN ?_ _));exact BK163.out⟩,⟨be⟩⟩
           ·rw [if_neg c50] at H
            have c50b0:decide ((wrap64 ((wrap64 (t167+1)) * x164002_1)) < (wrap64 (x9_1 * ((rd_T61 l2 x25_1).f2))))=false:=decide_eq_false c50
            clear c50
            have H':=Aside0.mk H
            clear H
            have p164:0≤(x25_1:Int):=of_decide_eq_true (by first|(with_reducible assumption)|assumption)
            have q164:x25_1 < (l2.length:Int):=of_decide_eq_true (by first|(with_reducible assumption)|assumption)
            obtain ⟨ad164,e164,hx164_0,hx164_1,hx164_2⟩:=at_T61 HR2.out x25_1 p164 q164
            cases e164
            replace hx164_0:=(HB.out.cell (World.block_lt_of_cell? w _ hx164_0)).trans hx164_0
            replace hx164_1:=(HB.out.cell (World.block_lt_of_cell? w _ hx164_1)).trans hx164_1
            replace hx164_2:=(HB.out.cell (World.block_lt_of_cell? w _ hx164_2)).trans hx164_2
            replace p164:=eq_true p164
            replace q164:=eq_true q164
            try go_wp2_with (first|((with_reducible refine gate_dst (N:=12) rfl ?_);refine box_event ?hg (N:=12) ?hd (cs:=#[.int .i64 0,.int .i64 0,.int .i64 0]) (t:=61) ?hr ?_;(case hd=>rfl);(case hg=>rfl);(case hr=>first|(go_simp;done)|(go_simp;rfl));intro gb165 hg w66 hbox hb;replace HO_7:=rB HO_7 hb;have BK165:=aM (hbox);have GW165:=gS w hg;have GE165:=gS w hg;replace HB:=bs hb;have NB157_165:=nL hg BK157;have NB165_157:=nG hg BK157;replace BK157:=bB BK157 hb;have NB158_165:=nL hg BK158;have NB165_158:=nG hg BK158;replace BK158:=bB BK158 hb;have NB163_165:=nL hg BK163;have NB165_163:=nG hg BK163;replace BK163:=bB BK163 hb;clear hb hbox hg;have hnb67:=NB165_157.out;have hnc67:=NB157_165.out;have hnb68:=NB165_158.out;have hnc68:=NB158_165.out;have hnb69:=NB165_163.out;have hnc69:=NB163_165.out;have hcz70_0:w66.cell? ⟨gb165,0,none⟩=some (.int .i64 0):=(blk_cell BK165.out 0).trans rfl;have hcz70_1:w66.cell? ⟨gb165,1,none⟩=some (.int .i64 0):=(blk_cell BK165.out 1).trans rfl;have hcz70_2:w66.cell? ⟨gb165,2,none⟩=some (.int .i64 0):=(blk_cell BK165.out 2).trans rfl;have hfz70_0:=blk_frozen BK165.out 0;have hfz70_1:=blk_frozen BK165.out 1;have hfz70_2:=blk_frozen BK165.out 2;have hnb71:=NB158_157.out;have hnc71:=NB157_158.out;have hnb72:=NB158_163.out;have hnc72:=NB163_158.out;have hcz73_0:w66.cell? ⟨gb158,0,none⟩=some (.slice A1_0 l1_0.length c1_0):=(blk_cell BK158.out 0).trans rfl;have hfz73_0:=blk_frozen BK158.out 0)|((with_reducible refine gate_callee (f:=52) rfl ?_);refine goesL_ (some 33) rfl rfl Try.func52 (by kernel_rfl) rfl #[.slice A1_0 l1_0.length c1_0,.int .i64 ((rd_T61 l2 x25_1).f0)] rfl (by (try simp only [List.map_toArray,List.map_cons,List.map_nil]);first|done|rfl|(simp only [List.length_drop,List.length_take];rfl)) ?_;(with_reducible refine (impl_hasInt.calls k1 _ _ l1_0 ((rd_T61 l2 x25_1).f0) false _ ?side1 ?side2 A20.out).mono ?_);(case side1=>exact Kd.C_below HR1_0.out be);(case side2=>exact HC1_0.out);rintro e w' ⟨rfl,⟨nd,rfl⟩⟩;refine ⟨_,rfl,?_⟩))
            have n0_:Aside0 (Kd.R (Kd.int .i64) 3 (((w66.setCell ⟨gb165,0,none⟩ (.int .i64 ((rd_T61 l2 x25_1).f0))).setCell ⟨gb165,1,none⟩ (.int .i64 ((rd_T61 l2 x25_1).f1))).setCell ⟨gb165,2,none⟩ (.int .i64 ((rd_T61 l2 x25_1).f2))) w.heap.size (fun _=>True) v161 t160):=⟨by (with_reducible repeat (first|apply Kd.R_alloc|apply Kd.R_drewN|apply Kd.R_drew));exact Kd.R_mono (Kd.R_far (p:=⟨gb165,2,none⟩) (Kd.R_far (p:=⟨gb165,1,none⟩) (Kd.R_far (p:=⟨gb165,0,none⟩) (Kd.R_types HO_7.out BK165.out (by decide)) (fun _ hk=>hk.2) (.int .i64 ((rd_T61 l2 x25_1).f0))) (fun _ hk=>hk.2) (.int .i64 ((rd_T61 l2 x25_1).f1))) (fun _ hk=>hk.2) (.int .i64 ((rd_T61 l2 x25_1).f2))) (fun _ hk=>trivial)⟩
            have n1_:Aside0 ((((w66.setCell ⟨gb165,0,none⟩ (.int .i64 ((rd_T61 l2 x25_1).f0))).setCell ⟨gb165,1,none⟩ (.int .i64 ((rd_T61 l2 x25_1).f1))).setCell ⟨gb165,2,none⟩ (.int .i64 ((rd_T61 l2 x25_1).f2))).heap[gb157]?=some (.cells #[.int .i64 a0_0,.slice A0_1 l0_1.length c0_1] 26 (0,0))):=⟨by (with_reducible repeat (first|refine blk_drewN ?_ _|refine blk_drew ?_|refine blk_alloc ?_ _));refine blk_far ?_ NB157_165.out _;(with_reducible repeat (first|refine blk_drewN ?_ _|refine blk_drew ?_|refine blk_alloc ?_ _));refine blk_far ?_ NB157_165.out _;(with_reducible repeat (first|refine blk_drewN ?_ _|refine blk_drew ?_|refine blk_alloc ?_ _));refine blk_far ?_ NB157_165.out _;(with_reducible repeat (first|refine blk_drewN ?_ _|refine blk_drew ?_|refine blk_alloc ?_ _));exact BK157.out⟩
            have n2_:Aside0 ((((w66.setCell ⟨gb165,0,none⟩ (.int .i64 ((rd_T61 l2 x25_1).f0))).setCell ⟨gb165,1,none⟩ (.int .i64 ((rd_T61 l2 x25_1).f1))).setCell ⟨gb165,2,none⟩ (.int .i64 ((rd_T61 l2 x25_1).f2))).heap[gb158]?=some (.cells #[.slice A1_0 l1_0.length c1_0] 35 (0,0))):=⟨by (with_reducible repeat (first|refine blk_drewN ?_ _|refine blk_drew ?_|refine blk_alloc ?_ _));refine blk_far ?_ NB158_165.out _;(with_reducible repeat (first|refine blk_drewN ?_ _|refine blk_drew ?_|refine blk_alloc ?_ _));refine blk_far ?_ NB158_165.out _;(with_reducible repeat (first|refine blk_drewN ?_ _|refine blk_drew ?_|refine blk_alloc ?_ _));refine blk_far ?_ NB158_165.out _;(with_reducible repeat (first|refine blk_drewN ?_ _|refine blk_drew ?_|refine blk_alloc ?_ _));exact BK158.out⟩
            have n3_:Aside0 ((((w66.setCell ⟨gb165,0,none⟩ (.int .i64 ((rd_T61 l2 x25_1).f0))).setCell ⟨gb165,1,none⟩ (.int .i64 ((rd_T61 l2 x25_1).f1))).setCell ⟨gb165,2,none⟩ (.int .i64 ((rd_T61 l2 x25_1).f2))).heap[gb163]?=some (.cells #[.int .i64 x164000_1,.int .i64 x164001_1,.int .i64 x164002_1] 61 (0,0))):=⟨by (with_reducible repeat (first|refine blk_drewN ?_ _|refine blk_drew ?_|refine blk_alloc ?_ _));refine blk_far ?_ NB163_165.out _;(with_reducible repeat (first|refine blk_drewN ?_ _|refine blk_drew ?_|refine blk_alloc ?_ _));refine blk_far ?_ NB163_165.out _;(with_reducible repeat (first|refine blk_drewN ?_ _|refine blk_drew ?_|refine blk_alloc ?_ _));refine blk_far ?_ NB163_165.out _;(with_reducible repeat (first|refine blk_drewN ?_ _|refine blk_drew ?_|refine blk_alloc ?_ _));exact BK163.out⟩
            have n4_:Aside0 ((((w66.setCell ⟨gb165,0,none⟩ (.int .i64 ((rd_T61 l2 x25_1).f0))).setCell ⟨gb165,1,none⟩ (.int .i64 ((rd_T61 l2 x25_1).f1))).setCell ⟨gb165,2,none⟩ (.int .i64 ((rd_T61 l2 x25_1).f2))).heap[gb165]?=some (.cells #[.int .i64 ((rd_T61 l2 x25_1).f0),.int .i64 ((rd_T61 l2 x25_1).f1),.int .i64 ((rd_T61 l2 x25_1).f2)] 61 (0,0))):=⟨by (with_reducible repeat (first|refine blk_drewN ?_ _|refine blk_drew ?_|refine blk_alloc ?_ _));refine blk_put (cs:=#[.int .i64 ((rd_T61 l2 x25_1).f0),.int .i64 ((rd_T61 l2 x25_1).f1),.int .i64 0]) ?_ 2 _ rfl;(with_reducible repeat (first|refine blk_drewN ?_ _|refine blk_drew ?_|refine blk_alloc ?_ _));refine blk_put (cs:=#[.int .i64 ((rd_T61 l2 x25_1).f0),.int .i64 0,.int .i64 0]) ?_ 1 _ rfl;(with_reducible repeat (first|refine blk_drewN ?_ _|refine blk_drew ?_|refine blk_alloc ?_ _));refine blk_put (cs:=#[.int .i64 0,.int .i64 0,.int .i64 0]) ?_ 0 _ rfl;(with_reducible repeat (first|refine blk_drewN ?_ _|refine blk_drew ?_|refine blk_alloc ?_ _));exact BK165.out⟩
            have n5_:Aside0 (Below w.heap.size w (((w66.setCell ⟨gb165,0,none⟩ (.int .i64 ((rd_T61 l2 x25_1).f0))).setCell ⟨gb165,1,none⟩ (.int .i64 ((rd_T61 l2 x25_1).f1))).setCell ⟨gb165,2,none⟩ (.int .i64 ((rd_T61 l2 x25_1).f2)))):=⟨be⟩
            (try clear HO_7);(try clear BK157);(try clear BK158);(try clear BK163);(try clear BK165);(try clear HB)
            generalize (((w66.setCell ⟨gb165,0,none⟩ (.int .i64 ((rd_T61 l2 x25_1).f0))).setCell ⟨gb165,1,none⟩ (.int .i64 ((rd_T61 l2 x25_1).f1))).setCell ⟨gb165,2,none⟩ (.int .i64 ((rd_T61 l2 x25_1).f2)))=w74 at n0_ n1_ n2_ n3_ n4_ n5_ ⊢
            have HO_7:=n0_;have BK157:=n1_;have BK158:=n2_;have BK163:=n3_;have BK165:=n4_;have HB:=n5_;clear n0_ n1_ n2_ n3_ n4_ n5_
            (try (rw [drewN_self w74];generalize hq_:World.drewN w74 _=w74;have n0_:Aside0 (Kd.R (Kd.int .i64) 3 w74 w.heap.size (fun _=>True) v161 t160):=⟨by rw [← hq_];exact (rR HO_7)⟩;have n1_:Aside0 (w74.heap[gb157]?=some (.cells #[.int .i64 a0_0,.slice A0_1 l0_1.length c0_1] 26 (0,0))):=⟨by rw [← hq_];exact (bk BK157)⟩;have n2_:Aside0 (w74.heap[gb158]?=some (.cells #[.slice A1_0 l1_0.length c1_0] 35 (0,0))):=⟨by rw [← hq_];exact (bk BK158)⟩;have n3_:Aside0 (w74.heap[gb163]?=some (.cells #[.int .i64 x164000_1,.int .i64 x164001_1,.int .i64 x164002_1] 61 (0,0))):=⟨by rw [← hq_];exact (bk BK163)⟩;have n4_:Aside0 (w74.heap[gb165]?=some (.cells #[.int .i64 ((rd_T61 l2 x25_1).f0),.int .i64 ((rd_T61 l2 x25_1).f1),.int .i64 ((rd_T61 l2 x25_1).f2)] 61 (0,0))):=⟨by rw [← hq_];exact (bk BK165)⟩;have n5_:Aside0 (Below w.heap.size w w74):=⟨by rw [← hq_];exact be⟩;clear HO_7 BK157 BK158 BK163 BK165 HB hq_;have HO_7:=n0_;have BK157:=n1_;have BK158:=n2_;have BK163:=n3_;have BK165:=n4_;have HB:=n5_;clear n0_ n1_ n2_ n3_ n4_ n5_))
            replace HO_7:=aM (Kd.R_drew HO_7.out);replace BK157:=aM (blk_drew BK157.out);replace BK158:=aM (blk_drew BK158.out);replace BK163:=aM (blk_drew BK163.out);replace BK165:=aM (blk_drew BK165.out);replace HB:=aM (below_drew1 HB.out)
            refine start_ (n:=12) (S:=fun w'=>w'.cell? ⟨gb157,0,none⟩=some (.int .i64 a0_0)∧w'.cell? ⟨gb157,1,none⟩=some (.slice A0_1 l0_1.length c0_1)∧w'.cell? ⟨gb165,0,none⟩=some (.int .i64 ((rd_T61 l2 x25_1).f0))∧w'.cell? ⟨gb165,1,none⟩=some (.int .i64 ((rd_T61 l2 x25_1).f1))∧w'.cell? ⟨gb165,2,none⟩=some (.int .i64 ((rd_T61 l2 x25_1).f2))) (ds:=[]) (fl 12 0) (by kernel_rfl) rfl rfl ⟨(blk_cell BK157.out 0).trans rfl,(blk_cell BK157.out 1).trans rfl,(blk_cell BK165.out 0).trans rfl,(blk_cell BK165.out 1).trans rfl,(blk_cell BK165.out 2).trans rfl⟩ (fun hHeld=>?_);refine with_tabW impl_Best.tab9 impl_Best.bits9 (fun HT_ HW_=>?_)
            generalize w74.drew=w75 at HO_7 BK157 BK158 BK163 BK165 HB hHeld ⊢
            refine pt 1 35 (fl 12 2) HT_ ?_
            refine pt 5 39 (fl 12 34) HT_ ?_
            refine pt 6 40 (fl 12 98) HT_ ?_
            refine tt 0 34 (fl 12 99) HT_ HW_ hHeld ?_
            refine tt 2 36 (fl 12 103) HT_ HW_ hHeld ?_
            refine tt 7 41 (fl 12 231) HT_ HW_ hHeld ?_
            refine ot 3 (some 37) (fl 12 239) HT_ (fun K hK=>?_)
            refine goes_ Try.func35 (by kernel_rfl) rfl #[.agg #[.int .i64 a0_0,.slice A0_1 l0_1.length c0_1],.int .i64 ((rd_T61 l2 x25_1).f0)] (by rfl) rfl rfl (by (try simp only [List.map_toArray,List.map_cons,List.map_nil]);first|done|rfl|(simp only [List.length_drop,List.length_take];rfl)) ?_
            with_reducible refine (impl_LoadOf.calls k1 a0_0 _ _ l0_1 ((rd_T61 l2 x25_1).f0) t167 _ ?side1 ?side2 A30.out).mono ?_
            (case side1=>exact rC HR0_1)
            (case side2=>exact HC0_1.out)
            rintro e w76 ⟨rfl,hb⟩
            refine ⟨_,rfl,?_⟩
            replace HO_7:=rB HO_7 hb;replace BK157:=bB BK157 hb;replace BK158:=bB BK158 hb;replace BK163:=bB BK163 hb;replace BK165:=bB BK165 hb;replace HB:=bs hb;(try clear hb);skip
            obtain ⟨Ao77,co77,eo77⟩:=Kd.R_slice HO_7.out
            (subst eo77)
            refine hK.out _ _ ⟨(blk_cell BK157.out 0).trans rfl,(blk_cell BK157.out 1).trans rfl,(blk_cell BK165.out 0).trans rfl,(blk_cell BK165.out 1).trans rfl,(blk_cell BK165.out 2).trans rfl⟩ (fun hHeld=>?_)
            clear hK K
            refine no 37 ?_
            refine pt 4 38 (fl 12 255) HT_ ?_
            refine ot 8 (some 42) (fl 12 511) HT_ (fun K hK=>?_)
            refine goes_ Try.func52 (by kernel_rfl) rfl #[.slice Ao77 t160.length co77,.int .i64 ((rd_T61 l2 x25_1).f1)] (by rfl) rfl rfl (by (try simp only [List.map_toArray,List.map_cons,List.map_nil]);first|done|rfl|(simp only [List.length_drop,List.length_take];rfl)) ?_
            with_reducible refine (impl_hasInt.calls k1 _ _ t160 ((rd_T61 l2 x25_1).f1) true _ ?side1 ?side2 A31.out).mono ?_
            (case side1=>exact sR HO_7)
            (case side2=>exact (Kd.R_reads' HO_7.out).2.1)
            rintro e w' ⟨rfl,⟨nd,rfl⟩⟩
            refine ⟨_,rfl,?_⟩
            refine hK.out _ _ ⟨(blk_cell BK157.out 0).trans rfl,(blk_cell BK157.out 1).trans rfl,(blk_cell BK165.out 0).trans rfl,(blk_cell BK165.out 1).trans rfl,(blk_cell BK165.out 2).trans rfl⟩ (fun hHeld=>?_)
            clear hK K
            refine no 42 ?_
            refine pt 9 43 (fl 12 1023) HT_ ?_
            refine pt 10 13 (fl 12 2047) HT_ ?_
            refine pt 11 14 (fl 12 4095) HT_ ?_
            refine done_ (done_of HT_.out (by kernel_rfl)) ?_
            have hnb78:=NB163_157.out
            have hnc78:=NB157_163.out
            have hcz79_0:w76.cell? ⟨gb163,0,none⟩=some (.int .i64 x164000_1):=(blk_cell BK163.out 0).trans rfl
            have hcz79_1:w76.cell? ⟨gb163,1,none⟩=some (.int .i64 x164001_1):=(blk_cell BK163.out 1).trans rfl
            have hcz79_2:w76.cell? ⟨gb163,2,none⟩=some (.int .i64 x164002_1):=(blk_cell BK163.out 2).trans rfl
            have hfz79_0:=blk_frozen BK163.out 0
            have hfz79_1:=blk_frozen BK163.out 1
            have hfz79_2:=blk_frozen BK163.out 2
            have hcz80_0:w76.cell? ⟨gb165,0,none⟩=some (.int .i64 ((rd_T61 l2 x25_1).f0)):=(blk_cell BK165.out 0).trans rfl
            have hcz80_1:w76.cell? ⟨gb165,1,none⟩=some (.int .i64 ((rd_T61 l2 x25_1).f1)):=(blk_cell BK165.out 1).trans rfl
            have hcz80_2:w76.cell? ⟨gb165,2,none⟩=some (.int .i64 ((rd_T61 l2 x25_1).f2)):=(blk_cell BK165.out 2).trans rfl
            have hfz80_0:=blk_frozen BK165.out 0
            have hfz80_1:=blk_frozen BK165.out 1
            have hfz80_2:=blk_frozen BK165.out 2
            try go_wp2
            go_roundg k1
            case measure=>have:=HK1.out;omega
            case rel=>exact ⟨(x9_1),(false),(wrap64 (x25_1+1)),(x164000_1),(x164001_1),(x164002_1),rd_,rd_,rd_,H',⟨by have:=HK1.out;omega⟩,⟨rR HO_7⟩,⟨bk BK157⟩,⟨bk BK158⟩,⟨bk BK163⟩,⟨be⟩⟩
          ·rw [if_neg c49] at H
           have qc49:x10_1=true:=by simpa using c49
           clear c49
           subst qc49
           have H':=Aside0.mk H
           clear H
           have p164:0≤(x25_1:Int):=of_decide_eq_true (by first|(with_reducible assumption)|assumption)
           have q164:x25_1 < (l2.length:Int):=of_decide_eq_true (by first|(with_reducible assumption)|assumption)
           obtain ⟨ad164,e164,hx164_0,hx164_1,hx164_2⟩:=at_T61 HR2.out x25_1 p164 q164
           cases e164
           replace hx164_0:=(HB.out.cell (World.block_lt_of_cell? w _ hx164_0)).trans hx164_0
           replace hx164_1:=(HB.out.cell (World.block_lt_of_cell? w _ hx164_1)).trans hx164_1
           replace hx164_2:=(HB.out.cell (World.block_lt_of_cell? w _ hx164_2)).trans hx164_2
           replace p164:=eq_true p164
           replace q164:=eq_true q164
           try go_wp2_with (first|((with_reducible refine gate_dst (N:=12) rfl ?_);refine box_event ?hg (N:=12) ?hd (cs:=#[.int .i64 0,.int .i64 0,.int .i64 0]) (t:=61) ?hr ?_;(case hd=>rfl);(case hg=>rfl);(case hr=>first|(go_simp;done)|(go_simp;rfl));intro gb165 hg w81 hbox hb;replace HO_7:=rB HO_7 hb;have BK165:=aM (hbox);have GW165:=gS w hg;have GE165:=gS w hg;replace HB:=bs hb;have NB157_165:=nL hg BK157;have NB165_157:=nG hg BK157;replace BK157:=bB BK157 hb;have NB158_165:=nL hg BK158;have NB165_158:=nG hg BK158;replace BK158:=bB BK158 hb;have NB163_165:=nL hg BK163;have NB165_163:=nG hg BK163;replace BK163:=bB BK163 hb;clear hb hbox hg;have hnb82:=NB165_157.out;have hnc82:=NB157_165.out;have hnb83:=NB165_158.out;have hnc83:=NB158_165.out;have hnb84:=NB165_163.out;have hnc84:=NB163_165.out;have hcz85_0:w81.cell? ⟨gb165,0,none⟩=some (.int .i64 0):=(blk_cell BK165.out 0).trans rfl;have hcz85_1:w81.cell? ⟨gb165,1,none⟩=some (.int .i64 0):=(blk_cell BK165.out 1).trans rfl;have hcz85_2:w81.cell? ⟨gb165,2,none⟩=some (.int .i64 0):=(blk_cell BK165.out 2).trans rfl;have hfz85_0:=blk_frozen BK165.out 0;have hfz85_1:=blk_frozen BK165.out 1;have hfz85_2:=blk_frozen BK165.out 2;have hnb86:=NB158_157.out;have hnc86:=NB157_158.out;have hnb87:=NB158_163.out;have hnc87:=NB163_158.out;have hcz88_0:w81.cell? ⟨gb158,0,none⟩=some (.slice A1_0 l1_0.length c1_0):=(blk_cell BK158.out 0).trans rfl;have hfz88_0:=blk_frozen BK158.out 0)|((with_reducible refine gate_callee (f:=52) rfl ?_);refine goesL_ (some 33) rfl rfl Try.func52 (by kernel_rfl) rfl #[.slice A1_0 l1_0.length c1_0,.int .i64 ((rd_T61 l2 x25_1).f0)] rfl (by (try simp only [List.map_toArray,List.map_cons,List.map_nil]);first|done|rfl|(simp only [List.length_drop,List.length_take];rfl)) ?_;(with_reducible refine (impl_hasInt.calls k1 _ _ l1_0 ((rd_T61 l2 x25_1).f0) false _ ?side1 ?side2 A20.out).mono ?_);(case side1=>exact Kd.C_below HR1_0.out be);(case side2=>exact HC1_0.out);rintro e w' ⟨rfl,⟨nd,rfl⟩⟩;refine ⟨_,rfl,?_⟩))
           have n0_:Aside0 (Kd.R (Kd.int .i64) 3 (((w81.setCell ⟨gb165,0,none⟩ (.int .i64 ((rd_T61 l2 x25_1).f0))).setCell ⟨gb165,1,none⟩ (.int .i64 ((rd_T61 l2 x25_1).f1))).setCell ⟨gb165,2,none⟩ (.int .i64 ((rd_T61 l2 x25_1).f2))) w.heap.size (fun _=>True) v161 t160):=⟨by (with_reducible repeat (first|apply Kd.R_alloc|apply Kd.R_drewN|apply Kd.R_drew));exact Kd.R_mono (Kd.R_far (p:=⟨gb165,2,none⟩) (Kd.R_far (p:=⟨gb165,1,none⟩) (Kd.R_far (p:=⟨gb165,0,none⟩) (Kd.R_types HO_7.out BK165.out (by decide)) (fun _ hk=>hk.2) (.int .i64 ((rd_T61 l2 x25_1).f0))) (fun _ hk=>hk.2) (.int .i64 ((rd_T61 l2 x25_1).f1))) (fun _ hk=>hk.2) (.int .i64 ((rd_T61 l2 x25_1).f2))) (fun _ hk=>trivial)⟩
           have n1_:Aside0 ((((w81.setCell ⟨gb165,0,none⟩ (.int .i64 ((rd_T61 l2 x25_1).f0))).setCell ⟨gb165,1,none⟩ (.int .i64 ((rd_T61 l2 x25_1).f1))).setCell ⟨gb165,2,none⟩ (.int .i64 ((rd_T61 l2 x25_1).f2))).heap[gb157]?=some (.cells #[.int .i64 a0_0,.slice A0_1 l0_1.length c0_1] 26 (0,0))):=⟨by (with_reducible repeat (first|refine blk_drewN ?_ _|refine blk_drew ?_|refine blk_alloc ?_ _));refine blk_far ?_ NB157_165.out _;(with_reducible repeat (first|refine blk_drewN ?_ _|refine blk_drew ?_|refine blk_alloc ?_ _));refine blk_far ?_ NB157_165.out _;(with_reducible repeat (first|refine blk_drewN ?_ _|refine blk_drew ?_|refine blk_alloc ?_ _));refine blk_far ?_ NB157_165.out _;(with_reducible repeat (first|refine blk_drewN ?_ _|refine blk_drew ?_|refine blk_alloc ?_ _));exact BK157.out⟩
           have n2_:Aside0 ((((w81.setCell ⟨gb165,0,none⟩ (.int .i64 ((rd_T61 l2 x25_1).f0))).setCell ⟨gb165,1,none⟩ (.int .i64 ((rd_T61 l2 x25_1).f1))).setCell ⟨gb165,2,none⟩ (.int .i64 ((rd_T61 l2 x25_1).f2))).heap[gb158]?=some (.cells #[.slice A1_0 l1_0.length c1_0] 35 (0,0))):=⟨by (with_reducible repeat (first|refine blk_drewN ?_ _|refine blk_drew ?_|refine blk_alloc ?_ _));refine blk_far ?_ NB158_165.out _;(with_reducible repeat (first|refine blk_drewN ?_ _|refine blk_drew ?_|refine blk_alloc ?_ _));refine blk_far ?_ NB158_165.out _;(with_reducible repeat (first|refine blk_drewN ?_ _|refine blk_drew ?_|refine blk_alloc ?_ _));refine blk_far ?_ NB158_165.out _;(with_reducible repeat (first|refine blk_drewN ?_ _|refine blk_drew ?_|refine blk_alloc ?_ _));exact BK158.out⟩
           have n3_:Aside0 ((((w81.setCell ⟨gb165,0,none⟩ (.int .i64 ((rd_T61 l2 x25_1).f0))).setCell ⟨gb165,1,none⟩ (.int .i64 ((rd_T61 l2 x25_1).f1))).setCell ⟨gb165,2,none⟩ (.int .i64 ((rd_T61 l2 x25_1).f2))).heap[gb163]?=some (.cells #[.int .i64 x164000_1,.int .i64 x164001_1,.int .i64 x164002_1] 61 (0,0))):=⟨by (with_reducible repeat (first|refine blk_drewN ?_ _|refine blk_drew ?_|refine blk_alloc ?_ _));refine blk_far ?_ NB163_165.out _;(with_reducible repeat (first|refine blk_drewN ?_ _|refine blk_drew ?_|refine blk_alloc ?_ _));refine blk_far ?_ NB163_165.out _;(with_reducible repeat (first|refine blk_drewN ?_ _|refine blk_drew ?_|refine blk_alloc ?_ _));refine blk_far ?_ NB163_165.out _;(with_reducible repeat (first|refine blk_drewN ?_ _|refine blk_drew ?_|refine blk_alloc ?_ _));exact BK163.out⟩
           have n4_:Aside0 ((((w81.setCell ⟨gb165,0,none⟩ (.int .i64 ((rd_T61 l2 x25_1).f0))).setCell ⟨gb165,1,none⟩ (.int .i64 ((rd_T61 l2 x25_1).f1))).setCell ⟨gb165,2,none⟩ (.int .i64 ((rd_T61 l2 x25_1).f2))).heap[gb165]?=some (.cells #[.int .i64 ((rd_T61 l2 x25_1).f0),.int .i64 ((rd_T61 l2 x25_1).f1),.int .i64 ((rd_T61 l2 x25_1).f2)] 61 (0,0))):=⟨by (with_reducible repeat (first|refine blk_drewN ?_ _|refine blk_drew ?_|refine blk_alloc ?_ _));refine blk_put (cs:=#[.int .i64 ((rd_T61 l2 x25_1).f0),.int .i64 ((rd_T61 l2 x25_1).f1),.int .i64 0]) ?_ 2 _ rfl;(with_reducible repeat (first|refine blk_drewN ?_ _|refine blk_drew ?_|refine blk_alloc ?_ _));refine blk_put (cs:=#[.int .i64 ((rd_T61 l2 x25_1).f0),.int .i64 0,.int .i64 0]) ?_ 1 _ rfl;(with_reducible repeat (first|refine blk_drewN ?_ _|refine blk_drew ?_|refine blk_alloc ?_ _));refine blk_put (cs:=#[.int .i64 0,.int .i64 0,.int .i64 0]) ?_ 0 _ rfl;(with_reducible repeat (first|refine blk_drewN ?_ _|refine blk_drew ?_|refine blk_alloc ?_ _));exact BK165.out⟩
           have n5_:Aside0 (Below w.heap.size w (((w81.setCell ⟨gb165,0,none⟩ (.int .i64 ((rd_T61 l2 x25_1).f0))).setCell ⟨gb165,1,none⟩ (.int .i64 ((rd_T61 l2 x25_1).f1))).setCell ⟨gb165,2,none⟩ (.int .i64 ((rd_T61 l2 x25_1).f2)))):=⟨be⟩
           (try clear HO_7);(try clear BK157);(try clear BK158);(try clear BK163);(try clear BK165);(try clear HB)
           generalize (((w81.setCell ⟨gb165,0,none⟩ (.int .i64 ((rd_T61 l2 x25_1).f0))).setCell ⟨gb165,1,none⟩ (.int .i64 ((rd_T61 l2 x25_1).f1))).setCell ⟨gb165,2,none⟩ (.int .i64 ((rd_T61 l2 x25_1).f2)))=w89 at n0_ n1_ n2_ n3_ n4_ n5_ ⊢
           have HO_7:=n0_;have BK157:=n1_;have BK158:=n2_;have BK163:=n3_;have BK165:=n4_;have HB:=n5_;clear n0_ n1_ n2_ n3_ n4_ n5_
           (try (rw [drewN_self w89];generalize hq_:World.drewN w89 _=w89;have n0_:Aside0 (Kd.R (Kd.int .i64) 3 w89 w.heap.size (fun _=>True) v161 t160):=⟨by rw [← hq_];exact (rR HO_7)⟩;have n1_:Aside0 (w89.heap[gb157]?=some (.cells #[.int .i64 a0_0,.slice A0_1 l0_1.length c0_1] 26 (0,0))):=⟨by rw [← hq_];exact (bk BK157)⟩;have n2_:Aside0 (w89.heap[gb158]?=some (.cells #[.slice A1_0 l1_0.length c1_0] 35 (0,0))):=⟨by rw [← hq_];exact (bk BK158)⟩;have n3_:Aside0 (w89.heap[gb163]?=some (.cells #[.int .i64 x164000_1,.int .i64 x164001_1,.int .i64 x164002_1] 61 (0,0))):=⟨by rw [← hq_];exact (bk BK163)⟩;have n4_:Aside0 (w89.heap[gb165]?=some (.cells #[.int .i64 ((rd_T61 l2 x25_1).f0),.int .i64 ((rd_T61 l2 x25_1).f1),.int .i64 ((rd_T61 l2 x25_1).f2)] 61 (0,0))):=⟨by rw [← hq_];exact (bk BK165)⟩;have n5_:Aside0 (Below w.heap.size w w89):=⟨by rw [← hq_];exact be⟩;clear HO_7 BK157 BK158 BK163 BK165 HB hq_;have HO_7:=n0_;have BK157:=n1_;have BK158:=n2_;have BK163:=n3_;have BK165:=n4_;have HB:=n5_;clear n0_ n1_ n2_ n3_ n4_ n5_))
           replace HO_7:=aM (Kd.R_drew HO_7.out);replace BK157:=aM (blk_drew BK157.out);replace BK158:=aM (blk_drew BK158.out);replace BK163:=aM (blk_drew BK163.out);replace BK165:=aM (blk_drew BK165.out);replace HB:=aM (below_drew1 HB.out)
           refine start_ (n:=12) (S:=fun w'=>w'.cell? ⟨gb157,0,none⟩=some (.int .i64 a0_0)∧w'.cell? ⟨gb157,1,none⟩=some (.slice A0_1 l0_1.length c0_1)∧w'.cell? ⟨gb165,0,none⟩=some (.int .i64 ((rd_T61 l2 x25_1).f0))∧w'.cell? ⟨gb165,1,none⟩=some (.int .i64 ((rd_T61 l2 x25_1).f1))∧w'.cell? ⟨gb165,2,none⟩=some (.int .i64 ((rd_T61 l2 x25_1).f2))) (ds:=[]) (fl 12 0) (by kernel_rfl) rfl rfl ⟨(blk_cell BK157.out 0).trans rfl,(blk_cell BK157.out 1).trans rfl,(blk_cell BK165.out 0).trans rfl,(blk_cell BK165.out 1).trans rfl,(blk_cell BK165.out 2).trans rfl⟩ (fun hHeld=>?_);refine with_tabW impl_Best.tab9 impl_Best.bits9 (fun HT_ HW_=>?_)
           generalize w89.drew=w90 at HO_7 BK157 BK158 BK163 BK165 HB hHeld ⊢
           refine pt 1 35 (fl 12 2) HT_ ?_
           refine pt 5 39 (fl 12 34) HT_ ?_
           refine pt 6 40 (fl 12 98) HT_ ?_
           refine tt 0 34 (fl 12 99) HT_ HW_ hHeld ?_
           refine tt 2 36 (fl 12 103) HT_ HW_ hHeld ?_
           refine tt 7 41 (fl 12 231) HT_ HW_ hHeld ?_
           refine ot 3 (some 37) (fl 12 239) HT_ (fun K hK=>?_)
           refine goes_ Try.func35 (by kernel_rfl) rfl #[.agg #[.int .i64 a0_0,.slice A0_1 l0_1.length c0_1],.int .i64 ((rd_T61 l2 x25_1).f0)] (by rfl) rfl rfl (by (try simp only [List.map_toArray,List.map_cons,List.map_nil]);first|done|rfl|(simp only [List.length_drop,List.length_take];rfl)) ?_
           with_reducible refine (impl_LoadOf.calls k1 a0_0 _ _ l0_1 ((rd_T61 l2 x25_1).f0) t167 _ ?side1 ?side2 A30.out).mono ?_
           (case side1=>exact rC HR0_1)
           (case side2=>exact HC0_1.out)
           rintro e w91 ⟨rfl,hb⟩
           refine ⟨_,rfl,?_⟩
           replace HO_7:=rB HO_7 hb;replace BK157:=bB BK157 hb;replace BK158:=bB BK158 hb;replace BK163:=bB BK163 hb;replace BK165:=bB BK165 hb;replace HB:=bs hb;(try clear hb);skip
           obtain ⟨Ao92,co92,eo92⟩:=Kd.R_slice HO_7.out
           (subst eo92)
           refine hK.out _ _ ⟨(blk_cell BK157.out 0).trans rfl,(blk_cell BK157.out 1).trans rfl,(blk_cell BK165.out 0).trans rfl,(blk_cell BK165.out 1).trans rfl,(blk_cell BK165.out 2).trans rfl⟩ (fun hHeld=>?_)
           clear hK K
           refine no 37 ?_
           refine pt 4 38 (fl 12 255) HT_ ?_
           refine ot 8 (some 42) (fl 12 511) HT_ (fun K hK=>?_)
           refine goes_ Try.func52 (by kernel_rfl) rfl #[.slice Ao92 t160.length co92,.int .i64 ((rd_T61 l2 x25_1).f1)] (by rfl) rfl rfl (by (try simp only [List.map_toArray,List.map_cons,List.map_nil]);first|done|rfl|(simp only [List.length_drop,List.length_take];rfl)) ?_
           with_reducible refine (impl_hasInt.calls k1 _ _ t160 ((rd_T61 l2 x25_1).f1) true _ ?side1 ?side2 A31.out).mono ?_
           (case side1=>exact sR HO_7)
           (case side2=>exact (Kd.R_reads' HO_7.out).2.1)
           rintro e w' ⟨rfl,⟨nd,rfl⟩⟩
           refine ⟨_,rfl,?_⟩
           refine hK.out _ _ ⟨(blk_cell BK157.out 0).trans rfl,(blk_cell BK157.out 1).trans rfl,(blk_cell BK165.out 0).trans rfl,(blk_cell BK165.out 1).trans rfl,(blk_cell BK165.out 2).trans rfl⟩ (fun hHeld=>?_)
           clear hK K
           refine no 42 ?_
           refine pt 9 43 (fl 12 1023) HT_ ?_
           refine pt 10 13 (fl 12 2047) HT_ ?_
           refine pt 11 14 (fl 12 4095) HT_ ?_
           refine done_ (done_of HT_.out (by kernel_rfl)) ?_
           have hnb93:=NB163_157.out
           have hnc93:=NB157_163.out
           have hcz94_0:w91.cell? ⟨gb163,0,none⟩=some (.int .i64 x164000_1):=(blk_cell BK163.out 0).trans rfl
           have hcz94_1:w91.cell? ⟨gb163,1,none⟩=some (.int .i64 x164001_1):=(blk_cell BK163.out 1).trans rfl
           have hcz94_2:w91.cell? ⟨gb163,2,none⟩=some (.int .i64 x164002_1):=(blk_cell BK163.out 2).trans rfl
           have hfz94_0:=blk_frozen BK163.out 0
           have hfz94_1:=blk_frozen BK163.out 1
           have hfz94_2:=blk_frozen BK163.out 2
           try go_wp2
           go_roundg k1
           case measure=>have:=HK1.out;omega
           case rel=>exact ⟨(x9_1),(true),(wrap64 (x25_1+1)),(x164000_1),(x164001_1),(x164002_1),rd_,rd_,rd_,H',⟨by have:=HK1.out;omega⟩,⟨rR HO_7⟩,⟨bk BK157⟩,⟨bk BK158⟩,⟨bk BK163⟩,⟨be⟩⟩
         ·replace c48:=Bool.eq_false_iff.mpr c48
          subst c48
          replace H:=(if_neg (show ¬ (false=true) by decide)).symm.trans H
          by_cases c95:x10_1=true
          ·subst c95
           rw [if_pos rfl] at H
           by_cases c96:((!false) == true)=true
           ·rw [if_pos c96] at H
            clear c96
            by_cases c97:(wrap64 ((wrap64 (t167+1)) * x164002_1)) < (wrap64 (x9_1 * ((rd_T61 l2 x25_1).f2)))
            ·rw [if_pos c97] at H
             have c97b0:decide ((wrap64 ((wrap64 (t167+1)) * x164002_1)) < (wrap64 (x9_1 * ((rd_T61 l2 x25_1).f2))))=true:=decide_eq_true c97
             clear c97
             have H':=Aside0.mk H
             clear H
             have p164:0≤(x25_1:Int):=of_decide_eq_true (by first|(with_reducible assumption)|assumption)
             have q164:x25_1 < (l2.length:Int):=of_decide_eq_true (by first|(with_reducible assumption)|assumption)
             obtain ⟨ad164,e164,hx164_0,hx164_1,hx164_2⟩:=at_T61 HR2.out x25_1 p164 q164
             cases e164
             replace hx164_0:=(HB.out.cell (World.block_lt_of_cell? w _ hx164_0)).trans hx164_0
             replace hx164_1:=(HB.out.cell (World.block_lt_of_cell? w _ hx164_1)).trans hx164_1
             replace hx164_2:=(HB.out.cell (World.block_lt_of_cell? w _ hx164_2)).trans hx164_2
             replace p164:=eq_true p164
             replace q164:=eq_true q164
             try go_wp2_with (first|((with_reducible refine gate_dst (N:=12) rfl ?_);refine box_event ?hg (N:=12) ?hd (cs:=#[.int .i64 0,.int .i64 0,.int .i64 0]) (t:=61) ?hr ?_;(case hd=>rfl);(case hg=>rfl);(case hr=>first|(go_simp;done)|(go_simp;rfl));intro gb165 hg w98 hbox hb;replace HO_7:=rB HO_7 hb;have BK165:=aM (hbox);have GW165:=gS w hg;have GE165:=gS w hg;replace HB:=bs hb;have NB157_165:=nL hg BK157;have NB165_157:=nG hg BK157;replace BK157:=bB BK157 hb;have NB158_165:=nL hg BK158;have NB165_158:=nG hg BK158;replace BK158:=bB BK158 hb;have NB163_165:=nL hg BK163;have NB165_163:=nG hg BK163;replace BK163:=bB BK163 hb;clear hb hbox hg;have hnb99:=NB165_157.out;have hnc99:=NB157_165.out;have hnb100:=NB165_158.out;have hnc100:=NB158_165.out;have hnb101:=NB165_163.out;have hnc101:=NB163_165.out;have hcz102_0:w98.cell? ⟨gb165,0,none⟩=some (.int .i64 0):=(blk_cell BK165.out 0).trans rfl;have hcz102_1:w98.cell? ⟨gb165,1,none⟩=some (.int .i64 0):=(blk_cell BK165.out 1).trans rfl;have hcz102_2:w98.cell? ⟨gb165,2,none⟩=some (.int .i64 0):=(blk_cell BK165.out 2).trans rfl;have hfz102_0:=blk_frozen BK165.out 0;have hfz102_1:=blk_frozen BK165.out 1;have hfz102_2:=blk_frozen BK165.out 2;have hnb103:=NB158_157.out;have hnc103:=NB157_158.out;have hnb104:=NB158_163.out;have hnc104:=NB163_158.out;have hcz105_0:w98.cell? ⟨gb158,0,none⟩=some (.slice A1_0 l1_0.length c1_0):=(blk_cell BK158.out 0).trans rfl;have hfz105_0:=blk_frozen BK158.out 0)|((with_reducible refine gate_callee (f:=52) rfl ?_);refine goesL_ (some 33) rfl rfl Try.func52 (by kernel_rfl) rfl #[.slice A1_0 l1_0.length c1_0,.int .i64 ((rd_T61 l2 x25_1).f0)] rfl (by (try simp only [List.map_toArray,List.map_cons,List.map_nil]);first|done|rfl|(simp only [List.length_drop,List.length_take];rfl)) ?_;(with_reducible refine (impl_hasInt.calls k1 _ _ l1_0 ((rd_T61 l2 x25_1).f0) false _ ?side1 ?side2 A20.out).mono ?_);(case side1=>exact Kd.C_below HR1_0.out be);(case side2=>exact HC1_0.out);rintro e w' ⟨rfl,⟨nd,rfl⟩⟩;refine ⟨_,rfl,?_⟩))
             have n0_:Aside0 (Kd.R (Kd.int .i64) 3 (((w98.setCell ⟨gb165,0,none⟩ (.int .i64 ((rd_T61 l2 x25_1).f0))).setCell ⟨gb165,1,none⟩ (.int .i64 ((rd_T61 l2 x25_1).f1))).setCell ⟨gb165,2,none⟩ (.int .i64 ((rd_T61 l2 x25_1).f2))) w.heap.size (fun _=>True) v161 t160):=⟨by (with_reducible repeat (first|apply Kd.R_alloc|apply Kd.R_drewN|apply Kd.R_drew));exact Kd.R_mono (Kd.R_far (p:=⟨gb165,2,none⟩) (Kd.R_far (p:=⟨gb165,1,none⟩) (Kd.R_far (p:=⟨gb165,0,none⟩) (Kd.R_types HO_7.out BK165.out (by decide)) (fun _ hk=>hk.2) (.int .i64 ((rd_T61 l2 x25_1).f0))) (fun _ hk=>hk.2) (.int .i64 ((rd_T61 l2 x25_1).f1))) (fun _ hk=>hk.2) (.int .i64 ((rd_T61 l2 x25_1).f2))) (fun _ hk=>trivial)⟩
             have n1_:Aside0 ((((w98.setCell ⟨gb165,0,none⟩ (.int .i64 ((rd_T61 l2 x25_1).f0))).setCell ⟨gb165,1,none⟩ (.int .i64 ((rd_T61 l2 x25_1).f1))).setCell ⟨gb165,2,none⟩ (.int .i64 ((rd_T61 l2 x25_1).f2))).heap[gb157]?=some (.cells #[.int .i64 a0_0,.slice A0_1 l0_1.length c0_1] 26 (0,0))):=⟨by (with_reducible repeat (first|refine blk_drewN ?_ _|refine blk_drew ?_|refine blk_alloc ?_ _));refine blk_far ?_ NB157_165.out _;(with_reducible repeat (first|refine blk_drewN ?_ _|refine blk_drew ?_|refine blk_alloc ?_ _));refine blk_far ?_ NB157_165.out _;(with_reducible repeat (first|refine blk_drewN ?_ _|refine blk_drew ?_|refine blk_alloc ?_ _));refine blk_far ?_ NB157_165.out _;(with_reducible repeat (first|refine blk_drewN ?_ _|refine blk_drew ?_|refine blk_alloc ?_ _));exact BK157.out⟩
             have n2_:Aside0 ((((w98.setCell ⟨gb165,0,none⟩ (.int .i64 ((rd_T61 l2 x25_1).f0))).setCell ⟨gb165,1,none⟩ (.int .i64 ((rd_T61 l2 x25_1).f1))).setCell ⟨gb165,2,none⟩ (.int .i64 ((rd_T61 l2 x25_1).f2))).heap[gb158]?=some (.cells #[.slice A1_0 l1_0.length c1_0] 35 (0,0))):=⟨by (with_reducible repeat (first|refine blk_drewN ?_ _|refine blk_drew ?_|refine blk_alloc ?_ _));refine blk_far ?_ NB158_165.out _;(with_reducible repeat (first|refine blk_drewN ?_ _|refine blk_drew ?_|refine blk_alloc ?_ _));refine blk_far ?_ NB158_165.out _;(with_reducible repeat (first|refine blk_drewN ?_ _|refine blk_drew ?_|refine blk_alloc ?_ _));refine blk_far ?_ NB158_165.out _;(with_reducible repeat (first|refine blk_drewN ?_ _|refine blk_drew ?_|refine blk_alloc ?_ _));exact BK158.out⟩
             have n3_:Aside0 ((((w98.setCell ⟨gb165,0,none⟩ (.int .i64 ((rd_T61 l2 x25_1).f0))).setCell ⟨gb165,1,none⟩ (.int .i64 ((rd_T61 l2 x25_1).f1))).setCell ⟨gb165,2,none⟩ (.int .i64 ((rd_T61 l2 x25_1).f2))).heap[gb163]?=some (.cells #[.int .i64 x164000_1,.int .i64 x164001_1,.int .i64 x164002_1] 61 (0,0))):=⟨by (with_reducible repeat (first|refine blk_drewN ?_ _|refine blk_drew ?_|refine blk_alloc ?_ _));refine blk_far ?_ NB163_165.out _;(with_reducible repeat (first|refine blk_drewN ?_ _|refine blk_drew ?_|refine blk_alloc ?_ _));refine blk_far ?_ NB163_165.out _;(with_reducible repeat (first|refine blk_drewN ?_ _|refine blk_drew ?_|refine blk_alloc ?_ _));refine blk_far ?_ NB163_165.out _;(with_reducible repeat (first|refine blk_drewN ?_ _|refine blk_drew ?_|refine blk_alloc ?_ _));exact BK163.out⟩
             have n4_:Aside0 ((((w98.setCell ⟨gb165,0,none⟩ (.int .i64 ((rd_T61 l2 x25_1).f0))).setCell ⟨gb165,1,none⟩ (.int .i64 ((rd_T61 l2 x25_1).f1))).setCell ⟨gb165,2,none⟩ (.int .i64 ((rd_T61 l2 x25_1).f2))).heap[gb165]?=some (.cells #[.int .i64 ((rd_T61 l2 x25_1).f0),.int .i64 ((rd_T61 l2 x25_1).f1),.int .i64 ((rd_T61 l2 x25_1).f2)] 61 (0,0))):=⟨by (with_reducible repeat (first|refine blk_drewN ?_ _|refine blk_drew ?_|refine blk_alloc ?_ _));refine blk_put (cs:=#[.int .i64 ((rd_T61 l2 x25_1).f0),.int .i64 ((rd_T61 l2 x25_1).f1),.int .i64 0]) ?_ 2 _ rfl;(with_reducible repeat (first|refine blk_drewN ?_ _|refine blk_drew ?_|refine blk_alloc ?_ _));refine blk_put (cs:=#[.int .i64 ((rd_T61 l2 x25_1).f0),.int .i64 0,.int .i64 0]) ?_ 1 _ rfl;(with_reducible repeat (first|refine blk_drewN ?_ _|refine blk_drew ?_|refine blk_alloc ?_ _));refine blk_put (cs:=#[.int .i64 0,.int .i64 0,.int .i64 0]) ?_ 0 _ rfl;(with_reducible repeat (first|refine blk_drewN ?_ _|refine blk_drew ?_|refine blk_alloc ?_ _));exact BK165.out⟩
             have n5_:Aside0 (Below w.heap.size w (((w98.setCell ⟨gb165,0,none⟩ (.int .i64 ((rd_T61 l2 x25_1).f0))).setCell ⟨gb165,1,none⟩ (.int .i64 ((rd_T61 l2 x25_1).f1))).setCell ⟨gb165,2,none⟩ (.int .i64 ((rd_T61 l2 x25_1).f2)))):=⟨be⟩
             (try clear HO_7);(try clear BK157);(try clear BK158);(try clear BK163);(try clear BK165);(try clear HB)
             generalize (((w98.setCell ⟨gb165,0,none⟩ (.int .i64 ((rd_T61 l2 x25_1).f0))).setCell ⟨gb165,1,none⟩ (.int .i64 ((rd_T61 l2 x25_1).f1))).setCell ⟨gb165,2,none⟩ (.int .i64 ((rd_T61 l2 x25_1).f2)))=w106 at n0_ n1_ n2_ n3_ n4_ n5_ ⊢
             have HO_7:=n0_;have BK157:=n1_;have BK158:=n2_;have BK163:=n3_;have BK165:=n4_;have HB:=n5_;clear n0_ n1_ n2_ n3_ n4_ n5_
             (try (rw [drewN_self w106];generalize hq_:World.drewN w106 _=w106;have n0_:Aside0 (Kd.R (Kd.int .i64) 3 w106 w.heap.size (fun _=>True) v161 t160):=⟨by rw [← hq_];exact (rR HO_7)⟩;have n1_:Aside0 (w106.heap[gb157]?=some (.cells #[.int .i64 a0_0,.slice A0_1 l0_1.length c0_1] 26 (0,0))):=⟨by rw [← hq_];exact (bk BK157)⟩;have n2_:Aside0 (w106.heap[gb158]?=some (.cells #[.slice A1_0 l1_0.length c1_0] 35 (0,0))):=⟨by rw [← hq_];exact (bk BK158)⟩;have n3_:Aside0 (w106.heap[gb163]?=some (.cells #[.int .i64 x164000_1,.int .i64 x164001_1,.int .i64 x164002_1] 61 (0,0))):=⟨by rw [← hq_];exact (bk BK163)⟩;have n4_:Aside0 (w106.heap[gb165]?=some (.cells #[.int .i64 ((rd_T61 l2 x25_1).f0),.int .i64 ((rd_T61 l2 x25_1).f1),.int .i64 ((rd_T61 l2 x25_1).f2)] 61 (0,0))):=⟨by rw [← hq_];exact (bk BK165)⟩;have n5_:Aside0 (Below w.heap.size w w106):=⟨by rw [← hq_];exact be⟩;clear HO_7 BK157 BK158 BK163 BK165 HB hq_;have HO_7:=n0_;have BK157:=n1_;have BK158:=n2_;have BK163:=n3_;have BK165:=n4_;have HB:=n5_;clear n0_ n1_ n2_ n3_ n4_ n5_))
             replace HO_7:=aM (Kd.R_drew HO_7.out);replace BK157:=aM (blk_drew BK157.out);replace BK158:=aM (blk_drew BK158.out);replace BK163:=aM (blk_drew BK163.out);replace BK165:=aM (blk_drew BK165.out);replace HB:=aM (below_drew1 HB.out)
             refine start_ (n:=12) (S:=fun w'=>w'.cell? ⟨gb157,0,none⟩=some (.int .i64 a0_0)∧w'.cell? ⟨gb157,1,none⟩=some (.slice A0_1 l0_1.length c0_1)∧w'.cell? ⟨gb165,0,none⟩=some (.int .i64 ((rd_T61 l2 x25_1).f0))∧w'.cell? ⟨gb165,1,none⟩=some (.int .i64 ((rd_T61 l2 x25_1).f1))∧w'.cell? ⟨gb165,2,none⟩=some (.int .i64 ((rd_T61 l2 x25_1).f2))) (ds:=[]) (fl 12 0) (by kernel_rfl) rfl rfl ⟨(blk_cell BK157.out 0).trans rfl,(blk_cell BK157.out 1).trans rfl,(blk_cell BK165.out 0).trans rfl,(blk_cell BK165.out 1).trans rfl,(blk_cell BK165.out 2).trans rfl⟩ (fun hHeld=>?_);refine with_tabW impl_Best.tab9 impl_Best.bits9 (fun HT_ HW_=>?_)
             generalize w106.drew=w107 at HO_7 BK157 BK158 BK163 BK165 HB hHeld ⊢
             refine pt 1 35 (fl 12 2) HT_ ?_
             refine pt 5 39 (fl 12 34) HT_ ?_
             refine pt 6 40 (fl 12 98) HT_ ?_
             refine tt 0 34 (fl 12 99) HT_ HW_ hHeld ?_
             refine tt 2 36 (fl 12 103) HT_ HW_ hHeld ?_
             refine tt 7 41 (fl 12 231) HT_ HW_ hHeld ?_
             refine ot 3 (some 37) (fl 12 239) HT_ (fun K hK=>?_)
             refine goes_ Try.func35 (by kernel_rfl) rfl #[.agg #[.int .i64 a0_0,.slice A0_1 l0_1.length c0_1],.int .i64 ((rd_T61 l2 x25_1).f0)] (by rfl) rfl rfl (by (try simp only [List.map_toArray,List.map_cons,List.map_nil]);first|done|rfl|(simp only [List.length_drop,List.length_take];rfl)) ?_
             with_reducible refine (impl_LoadOf.calls k1 a0_0 _ _ l0_1 ((rd_T61 l2 x25_1).f0) t167 _ ?side1 ?side2 A30.out).mono ?_
             (case side1=>exact rC HR0_1)
             (case side2=>exact HC0_1.out)
             rintro e w108 ⟨rfl,hb⟩
             refine ⟨_,rfl,?_⟩
             replace HO_7:=rB HO_7 hb;replace BK157:=bB BK157 hb;replace BK158:=bB BK158 hb;replace BK163:=bB BK163 hb;replace BK165:=bB BK165 hb;replace HB:=bs hb;(try clear hb);skip
             obtain ⟨Ao109,co109,eo109⟩:=Kd.R_slice HO_7.out
             (subst eo109)
             refine hK.out _ _ ⟨(blk_cell BK157.out 0).trans rfl,(blk_cell BK157.out 1).trans rfl,(blk_cell BK165.out 0).trans rfl,(blk_cell BK165.out 1).trans rfl,(blk_cell BK165.out 2).trans rfl⟩ (fun hHeld=>?_)
             clear hK K
             refine no 37 ?_
             refine pt 4 38 (fl 12 255) HT_ ?_
             refine ot 8 (some 42) (fl 12 511) HT_ (fun K hK=>?_)
             refine goes_ Try.func52 (by kernel_rfl) rfl #[.slice Ao109 t160.length co109,.int .i64 ((rd_T61 l2 x25_1).f1)] (by rfl) rfl rfl (by (try simp only [List.map_toArray,List.map_cons,List.map_nil]);first|done|rfl|(simp only [List.length_drop,List.length_take];rfl)) ?_
             with_reducible refine (impl_hasInt.calls k1 _ _ t160 ((rd_T61 l2 x25_1).f1) false _ ?side1 ?side2 A31.out).mono ?_
             (case side1=>exact sR HO_7)
             (case side2=>exact (Kd.R_reads' HO_7.out).2.1)
             rintro e w' ⟨rfl,⟨nd,rfl⟩⟩
             refine ⟨_,rfl,?_⟩
             refine hK.out _ _ ⟨(blk_cell BK157.out 0).trans rfl,(blk_cell BK157.out 1).trans rfl,(blk_cell BK165.out 0).trans rfl,(blk_cell BK165.out 1).trans rfl,(blk_cell BK165.out 2).trans rfl⟩ (fun hHeld=>?_)
             clear hK K
             refine no 42 ?_
             refine pt 9 43 (fl 12 1023) HT_ ?_
             refine pt 10 13 (fl 12 2047) HT_ ?_
             refine pt 11 14 (fl 12 4095) HT_ ?_
             refine done_ (done_of HT_.out (by kernel_rfl)) ?_
             have hnb110:=NB163_157.out
             have hnc110:=NB157_163.out
             have hcz111_0:w108.cell? ⟨gb163,0,none⟩=some (.int .i64 x164000_1):=(blk_cell BK163.out 0).trans rfl
             have hcz111_1:w108.cell? ⟨gb163,1,none⟩=some (.int .i64 x164001_1):=(blk_cell BK163.out 1).trans rfl
             have hcz111_2:w108.cell? ⟨gb163,2,none⟩=some (.int .i64 x164002_1):=(blk_cell BK163.out 2).trans rfl
             have hfz111_0:=blk_frozen BK163.out 0
             have hfz111_1:=blk_frozen BK163.out 1
             have hfz111_2:=blk_frozen BK163.out 2
             have hcz112_0:w108.cell? ⟨gb165,0,none⟩=some (.int .i64 ((rd_T61 l2 x25_1).f0)):=(blk_cell BK165.out 0).trans rfl
             have hcz112_1:w108.cell? ⟨gb165,1,none⟩=some (.int .i64 ((rd_T61 l2 x25_1).f1)):=(blk_cell BK165.out 1).trans rfl
             have hcz112_2:w108.cell? ⟨gb165,2,none⟩=some (.int .i64 ((rd_T61 l2 x25_1).f2)):=(blk_cell BK165.out 2).trans rfl
             have hfz112_0:=blk_frozen BK165.out 0
             have hfz112_1:=blk_frozen BK165.out 1
             have hfz112_2:=blk_frozen BK165.out 2
             try go_wp2
             go_roundg k1
             case measure=>have:=HK1.out;omega
             case rel=>exact ⟨(wrap64 (t167+1)),(!false),(wrap64 (x25_1+1)),((rd_T61 l2 x25_1).f0),((rd_T61 l2 x25_1).f1),((rd_T61 l2 x25_1).f2),rd_,rd_,rd_,H',⟨by have:=HK1.out;omega⟩,⟨by (with_reducible repeat (first|apply Kd.R_alloc|apply Kd.R_drewN|apply Kd.R_drew));exact Kd.R_mono (Kd.R_far (p:=⟨gb163,2,none⟩) (Kd.R_far (p:=⟨gb163,1,none⟩) (Kd.R_far (p:=⟨gb163,0,none⟩) (Kd.R_types HO_7.out BK163.out (by decide)) (fun _ hk=>hk.2) (.int .i64 ((rd_T61 l2 x25_1).f0))) (fun _ hk=>hk.2) (.int .i64 ((rd_T61 l2 x25_1).f1))) (fun _ hk=>hk.2) (.int .i64 ((rd_T61 l2 x25_1).f2))) (fun _ hk=>trivial)⟩,⟨by (with_reducible repeat (first|refine blk_drewN ?_ _|refine blk_drew ?_|refine blk_alloc ?_ _));refine blk_far ?_ NB157_163.out _;(with_reducible repeat (first|refine blk_drewN ?_ _|refine blk_drew ?_|refine blk_alloc ?_ _));refine blk_far ?_ NB157_163.out _;(with_reducible repeat (first|refine blk_drewN ?_ _|refine blk_drew ?_|refine blk_alloc ?_ _));refine blk_far ?_ NB157_163.out _;(with_reducible repeat (refine blk_drewN ?_ _));exact BK157.out⟩,⟨by (with_reducible repeat (first|refine blk_drewN ?_ _|refine blk_drew ?_|refine blk_alloc ?_ _));refine blk_far ?_ NB158_163.out _;(with_reducible repeat (first|refine blk_drewN ?_ _|refine blk_drew ?_|refine blk_alloc ?_ _));refine blk_far ?_ NB158_163.out _;(with_reducible repeat (first|refine blk_drewN ?_ _|refine blk_drew ?_|refine blk_alloc ?_ _));refine blk_far ?_ NB158_163.out _;(with_reducible repeat (refine blk_drewN ?_ _));exact BK158.out⟩,⟨by (with_reducible repeat (first|refine blk_drewN ?_ _|refine blk_drew ?_|refine blk_alloc ?_ _));refine blk_put (cs:=#[.int .i64 ((rd_T61 l2 x25_1).f0),.int .i64 ((rd_T61 l2 x25_1).f1),.int .i64 x164002_1]) ?_ 2 _ rfl;(with_reducible repeat (first|refine blk_drewN ?_ _|refine blk_drew ?_|refine blk_alloc ?_ _));refine blk_put (cs:=#[.int .i64 ((rd_T61 l2 x25_1).f0),.int .i64 x164001_1,.int .i64 x164002_1]) ?_ 1 _ rfl;(with_reducible repeat (first|refine blk_drewN ?_ _|refine blk_drew ?_|refine blk_alloc ?_ _));refine blk_put (cs:=#[.int .i64 x164000_1,.int .i64 x164001_1,.int .i64 x164002_1]) ?_ 0 _ rfl;(with_reducible repeat (refine blk_drewN ?_ _));exact BK163.out⟩,⟨be⟩⟩
            ·rw [if_neg c97] at H
             have c97b0:decide ((wrap64 ((wrap64 (t167+1)) * x164002_1)) < (wrap64 (x9_1 * ((rd_T61 l2 x25_1).f2))))=false:=decide_eq_false c97
             clear c97
             have H':=Aside0.mk H
             clear H
             have p164:0≤(x25_1:Int):=of_decide_eq_true (by first|(with_reducible assumption)|assumption)
             have q164:x25_1 < (l2.length:Int):=of_decide_eq_true (by first|(with_reducible assumption)|assumption)
             obtain ⟨ad164,e164,hx164_0,hx164_1,hx164_2⟩:=at_T61 HR2.out x25_1 p164 q164
             cases e164
             replace hx164_0:=(HB.out.cell (World.block_lt_of_cell? w _ hx164_0)).trans hx164_0
             replace hx164_1:=(HB.out.cell (World.block_lt_of_cell? w _ hx164_1)).trans hx164_1
             replace hx164_2:=(HB.out.cell (World.block_lt_of_cell? w _ hx164_2)).trans hx164_2
             replace p164:=eq_true p164
             replace q164:=eq_true q164
             try go_wp2_with (first|((with_reducible refine gate_dst (N:=12) rfl ?_);refine box_event ?hg (N:=12) ?hd (cs:=#[.int .i64 0,.int .i64 0,.int .i64 0]) (t:=61) ?hr ?_;(case hd=>rfl);(case hg=>rfl);(case hr=>first|(go_simp;done)|(go_simp;rfl));intro gb165 hg w113 hbox hb;replace HO_7:=rB HO_7 hb;have BK165:=aM (hbox);have GW165:=gS w hg;have GE165:=gS w hg;replace HB:=bs hb;have NB157_165:=nL hg BK157;have NB165_157:=nG hg BK157;replace BK157:=bB BK157 hb;have NB158_165:=nL hg BK158;have NB165_158:=nG hg BK158;replace BK158:=bB BK158 hb;have NB163_165:=nL hg BK163;have NB165_163:=nG hg BK163;replace BK163:=bB BK163 hb;clear hb hbox hg;have hnb114:=NB165_157.out;have hnc114:=NB157_165.out;have hnb115:=NB165_158.out;have hnc115:=NB158_165.out;have hnb116:=NB165_163.out;have hnc116:=NB163_165.out;have hcz117_0:w113.cell? ⟨gb165,0,none⟩=some (.int .i64 0):=(blk_cell BK165.out 0).trans rfl;have hcz117_1:w113.cell? ⟨gb165,1,none⟩=some (.int .i64 0):=(blk_cell BK165.out 1).trans rfl;have hcz117_2:w113.cell? ⟨gb165,2,none⟩=some (.int .i64 0):=(blk_cell BK165.out 2).trans rfl;have hfz117_0:=blk_frozen BK165.out 0;have hfz117_1:=blk_frozen BK165.out 1;have hfz117_2:=blk_frozen BK165.out 2;have hnb118:=NB158_157.out;have hnc118:=NB157_158.out;have hnb119:=NB158_163.out;have hnc119:=NB163_158.out;have hcz120_0:w113.cell? ⟨gb158,0,none⟩=some (.slice A1_0 l1_0.length c1_0):=(blk_cell BK158.out 0).trans rfl;have hfz120_0:=blk_frozen BK158.out 0)|((with_reducible refine gate_callee (f:=52) rfl ?_);refine goesL_ (some 33) rfl rfl Try.func52 (by kernel_rfl) rfl #[.slice A1_0 l1_0.length c1_0,.int .i64 ((rd_T61 l2 x25_1).f0)] rfl (by (try simp only [List.map_toArray,List.map_cons,List.map_nil]);first|done|rfl|(simp only [List.length_drop,List.length_take];rfl)) ?_;(with_reducible refine (impl_hasInt.calls k1 _ _ l1_0 ((rd_T61 l2 x25_1).f0) false _ ?side1 ?side2 A20.out).mono ?_);(case side1=>exact Kd.C_below HR1_0.out be);(case side2=>exact HC1_0.out);rintro e w' ⟨rfl,⟨nd,rfl⟩⟩;refine ⟨_,rfl,?_⟩))
             have n0_:Aside0 (Kd.R (Kd.int .i64) 3 (((w113.setCell ⟨gb165,0,none⟩ (.int .i64 ((rd_T61 l2 x25_1).f0))).setCell ⟨gb165,1,none⟩ (.int .i64 ((rd_T61 l2 x25_1).f1))).setCell ⟨gb165,2,none⟩ (.int .i64 ((rd_T61 l2 x25_1).f2))) w.heap.size (fun _=>True) v161 t160):=⟨by (with_reducible repeat (first|apply Kd.R_alloc|apply Kd.R_drewN|apply Kd.R_drew));exact Kd.R_mono (Kd.R_far (p:=⟨gb165,2,none⟩) (Kd.R_far (p:=⟨gb165,1,none⟩) (Kd.R_far (p:=⟨gb165,0,none⟩) (Kd.R_types HO_7.out BK165.out (by decide)) (fun _ hk=>hk.2) (.int .i64 ((rd_T61 l2 x25_1).f0))) (fun _ hk=>hk.2) (.int .i64 ((rd_T61 l2 x25_1).f1))) (fun _ hk=>hk.2) (.int .i64 ((rd_T61 l2 x25_1).f2))) (fun _ hk=>trivial)⟩
             have n1_:Aside0 ((((w113.setCell ⟨gb165,0,none⟩ (.int .i64 ((rd_T61 l2 x25_1).f0))).setCell ⟨gb165,1,none⟩ (.int .i64 ((rd_T61 l2 x25_1).f1))).setCell ⟨gb165,2,none⟩ (.int .i64 ((rd_T61 l2 x25_1).f2))).heap[gb157]?=some (.cells #[.int .i64 a0_0,.slice A0_1 l0_1.length c0_1] 26 (0,0))):=⟨by (with_reducible repeat (first|refine blk_drewN ?_ _|refine blk_drew ?_|refine blk_alloc ?_ _));refine blk_far ?_ NB157_165.out _;(with_reducible repeat (first|refine blk_drewN ?_ _|refine blk_drew ?_|refine blk_alloc ?_ _));refine blk_far ?_ NB157_165.out _;(with_reducible repeat (first|refine blk_drewN ?_ _|refine blk_drew ?_|refine blk_alloc ?_ _));refine blk_far ?_ NB157_165.out _;(with_reducible repeat (first|refine blk_drewN ?_ _|refine blk_drew ?_|refine blk_alloc ?_ _));exact BK157.out⟩
             have n2_:Aside0 ((((w113.setCell ⟨gb165,0,none⟩ (.int .i64 ((rd_T61 l2 x25_1).f0))).setCell ⟨gb165,1,none⟩ (.int .i64 ((rd_T61 l2 x25_1).f1))).setCell ⟨gb165,2,none⟩ (.int .i64 ((rd_T61 l2 x25_1).f2))).heap[gb158]?=some (.cells #[.slice A1_0 l1_0.length c1_0] 35 (0,0))):=⟨by (with_reducible repeat (first|refine blk_drewN ?_ _|refine blk_drew ?_|refine blk_alloc ?_ _));refine blk_far ?_ NB158_165.out _;(with_reducible repeat (first|refine blk_drewN ?_ _|refine blk_drew ?_|refine blk_alloc ?_ _));refine blk_far ?_ NB158_165.out _;(with_reducible repeat (first|refine blk_drewN ?_ _|refine blk_drew ?_|refine blk_alloc ?_ _));refine blk_far ?_ NB158_165.out _;(with_reducible repeat (first|refine blk_drewN ?_ _|refine blk_drew ?_|refine blk_alloc ?_ _));exact BK158.out⟩
             have n3_:Aside0 ((((w113.setCell ⟨gb165,0,none⟩ (.int .i64 ((rd_T61 l2 x25_1).f0))).setCell ⟨gb165,1,none⟩ (.int .i64 ((rd_T61 l2 x25_1).f1))).setCell ⟨gb165,2,none⟩ (.int .i64 ((rd_T61 l2 x25_1).f2))).heap[gb163]?=some (.cells #[.int .i64 x164000_1,.int .i64 x164001_1,.int .i64 x164002_1] 61 (0,0))):=⟨by (with_reducible repeat (first|refine blk_drewN ?_ _|refine blk_drew ?_|refine blk_alloc ?_ _));refine blk_far ?_ NB163_165.out _;(with_reducible repeat (first|refine blk_drewN ?_ _|refine blk_drew ?_|refine blk_alloc ?_ _));refine blk_far ?_ NB163_165.out _;(with_reducible repeat (first|refine blk_drewN ?_ _|refine blk_drew ?_|refine blk_alloc ?_ _));refine blk_far ?_ NB163_165.out _;(with_reducible repeat (first|refine blk_drewN ?_ _|refine blk_drew ?_|refine blk_alloc ?_ _));exact BK163.out⟩
             have n4_:Aside0 ((((w113.setCell ⟨gb165,0,none⟩ (.int .i64 ((rd_T61 l2 x25_1).f0))).setCell ⟨gb165,1,none⟩ (.int .i64 ((rd_T61 l2 x25_1).f1))).setCell ⟨gb165,2,none⟩ (.int .i64 ((rd_T61 l2 x25_1).f2))).heap[gb165]?=some (.cells #[.int .i64 ((rd_T61 l2 x25_1).f0),.int .i64 ((rd_T61 l2 x25_1).f1),.int .i64 ((rd_T61 l2 x25_1).f2)] 61 (0,0))):=⟨by (with_reducible repeat (first|refine blk_drewN ?_ _|refine blk_drew ?_|refine blk_alloc ?_ _));refine blk_put (cs:=#[.int .i64 ((rd_T61 l2 x25_1).f0),.int .i64 ((rd_T61 l2 x25_1).f1),.int .i64 0]) ?_ 2 _ rfl;(with_reducible repeat (first|refine blk_drewN ?_ _|refine blk_drew ?_|refine blk_alloc ?_ _));refine blk_put (cs:=#[.int .i64 ((rd_T61 l2 x25_1).f0),.int .i64 0,.int .i64 0]) ?_ 1 _ rfl;(with_reducible repeat (first|refine blk_drewN ?_ _|refine blk_drew ?_|refine blk_alloc ?_ _));refine blk_put (cs:=#[.int .i64 0,.int .i64 0,.int .i64 0]) ?_ 0 _ rfl;(with_reducible repeat (first|refine blk_drewN ?_ _|refine blk_drew ?_|refine blk_alloc ?_ _));exact BK165.out⟩
             have n5_:Aside0 (Below w.heap.size w (((w113.setCell ⟨gb165,0,none⟩ (.int .i64 ((rd_T61 l2 x25_1).f0))).setCell ⟨gb165,1,none⟩ (.int .i64 ((rd_T61 l2 x25_1).f1))).setCell ⟨gb165,2,none⟩ (.int .i64 ((rd_T61 l2 x25_1).f2)))):=⟨be⟩
             (try clear HO_7);(try clear BK157);(try clear BK158);(try clear BK163);(try clear BK165);(try clear HB)
             generalize (((w113.setCell ⟨gb165,0,none⟩ (.int .i64 ((rd_T61 l2 x25_1).f0))).setCell ⟨gb165,1,none⟩ (.int .i64 ((rd_T61 l2 x25_1).f1))).setCell ⟨gb165,2,none⟩ (.int .i64 ((rd_T61 l2 x25_1).f2)))=w121 at n0_ n1_ n2_ n3_ n4_ n5_ ⊢
             have HO_7:=n0_;have BK157:=n1_;have BK158:=n2_;have BK163:=n3_;have BK165:=n4_;have HB:=n5_;clear n0_ n1_ n2_ n3_ n4_ n5_
             (try (rw [drewN_self w121];generalize hq_:World.drewN w121 _=w121;have n0_:Aside0 (Kd.R (Kd.int .i64) 3 w121 w.heap.size (fun _=>True) v161 t160):=⟨by rw [← hq_];exact (rR HO_7)⟩;have n1_:Aside0 (w121.heap[gb157]?=some (.cells #[.int .i64 a0_0,.slice A0_1 l0_1.length c0_1] 26 (0,0))):=⟨by rw [← hq_];exact (bk BK157)⟩;have n2_:Aside0 (w121.heap[gb158]?=some (.cells #[.slice A1_0 l1_0.length c1_0] 35 (0,0))):=⟨by rw [← hq_];exact (bk BK158)⟩;have n3_:Aside0 (w121.heap[gb163]?=some (.cells #[.int .i64 x164000_1,.int .i64 x164001_1,.int .i64 x164002_1] 61 (0,0))):=⟨by rw [← hq_];exact (bk BK163)⟩;have n4_:Aside0 (w121.heap[gb165]?=some (.cells #[.int .i64 ((rd_T61 l2 x25_1).f0),.int .i64 ((rd_T61 l2 x25_1).f1),.int .i64 ((rd_T61 l2 x25_1).f2)] 61 (0,0))):=⟨by rw [← hq_];exact (bk BK165)⟩;have n5_:Aside0 (Below w.heap.size w w121):=⟨by rw [← hq_];exact be⟩;clear HO_7 BK157 BK158 BK163 BK165 HB hq_;have HO_7:=n0_;have BK157:=n1_;have BK158:=n2_;have BK163:=n3_;have BK165:=n4_;have HB:=n5_;clear n0_ n1_ n2_ n3_ n4_ n5_))
             replace HO_7:=aM (Kd.R_drew HO_7.out);replace BK157:=aM (blk_drew BK157.out);replace BK158:=aM (blk_drew BK158.out);replace BK163:=aM (blk_drew BK163.out);replace BK165:=aM (blk_drew BK165.out);replace HB:=aM (below_drew1 HB.out)
             refine start_ (n:=12) (S:=fun w'=>w'.cell? ⟨gb157,0,none⟩=some (.int .i64 a0_0)∧w'.cell? ⟨gb157,1,none⟩=some (.slice A0_1 l0_1.length c0_1)∧w'.cell? ⟨gb165,0,none⟩=some (.int .i64 ((rd_T61 l2 x25_1).f0))∧w'.cell? ⟨gb165,1,none⟩=some (.int .i64 ((rd_T61 l2 x25_1).f1))∧w'.cell? ⟨gb165,2,none⟩=some (.int .i64 ((rd_T61 l2 x25_1).f2))) (ds:=[]) (fl 12 0) (by kernel_rfl) rfl rfl ⟨(blk_cell BK157.out 0).trans rfl,(blk_cell BK157.out 1).trans rfl,(blk_cell BK165.out 0).trans rfl,(blk_cell BK165.out 1).trans rfl,(blk_cell BK165.out 2).trans rfl⟩ (fun hHeld=>?_);refine with_tabW impl_Best.tab9 impl_Best.bits9 (fun HT_ HW_=>?_)
             generalize w121.drew=w122 at HO_7 BK157 BK158 BK163 BK165 HB hHeld ⊢
             refine pt 1 35 (fl 12 2) HT_ ?_
             refine pt 5 39 (fl 12 34) HT_ ?_
             refine pt 6 40 (fl 12 98) HT_ ?_
             refine tt 0 34 (fl 12 99) HT_ HW_ hHeld ?_
             refine tt 2 36 (fl 12 103) HT_ HW_ hHeld ?_
             refine tt 7 41 (fl 12 231) HT_ HW_ hHeld ?_
             refine ot 3 (some 37) (fl 12 239) HT_ (fun K hK=>?_)
             refine goes_ Try.func35 (by kernel_rfl) rfl #[.agg #[.int .i64 a0_0,.slice A0_1 l0_1.length c0_1],.int .i64 ((rd_T61 l2 x25_1).f0)] (by rfl) rfl rfl (by (try simp only [List.map_toArray,List.map_cons,List.map_nil]);first|done|rfl|(simp only [List.length_drop,List.length_take];rfl)) ?_
             with_reducible refine (impl_LoadOf.calls k1 a0_0 _ _ l0_1 ((rd_T61 l2 x25_1).f0) t167 _ ?side1 ?side2 A30.out).mono ?_
             (case side1=>exact rC HR0_1)
             (case side2=>exact HC0_1.out)
             rintro e w123 ⟨rfl,hb⟩
             refine ⟨_,rfl,?_⟩
             replace HO_7:=rB HO_7 hb;replace BK157:=bB BK157 hb;replace BK158:=bB BK158 hb;replace BK163:=bB BK163 hb;replace BK165:=bB BK165 hb;replace HB:=bs hb;(try clear hb);skip
             obtain ⟨Ao124,co124,eo124⟩:=Kd.R_slice HO_7.out
             (subst eo124)
             refine hK.out _ _ ⟨(blk_cell BK157.out 0).trans rfl,(blk_cell BK157.out 1).trans rfl,(blk_cell BK165.out 0).trans rfl,(blk_cell BK165.out 1).trans rfl,(blk_cell BK165.out 2).trans rfl⟩ (fun hHeld=>?_)
             clear hK K
             refine no 37 ?_
             refine pt 4 38 (fl 12 255) HT_ ?_
             refine ot 8 (some 42) (fl 12 511) HT_ (fun K hK=>?_)
             refine goes_ Try.func52 (by kernel_rfl) rfl #[.slice Ao124 t160.length co124,.int .i64 ((rd_T61 l2 x25_1).f1)] (by rfl) rfl rfl (by (try simp only [List.map_toArray,List.map_cons,List.map_nil]);first|done|rfl|(simp only [List.length_drop,List.length_take];rfl)) ?_
             with_reducible refine (impl_hasInt.calls k1 _ _ t160 ((rd_T61 l2 x25_1).f1) false _ ?side1 ?side2 A31.out).mono ?_
             (case side1=>exact sR HO_7)
             (case side2=>exact (Kd.R_reads' HO_7.out).2.1)
             rintro e w' ⟨rfl,⟨nd,rfl⟩⟩
             refine ⟨_,rfl,?_⟩
             refine hK.out _ _ ⟨(blk_cell BK157.out 0).trans rfl,(blk_cell BK157.out 1).trans rfl,(blk_cell BK165.out 0).trans rfl,(blk_cell BK165.out 1).trans rfl,(blk_cell BK165.out 2).trans rfl⟩ (fun hHeld=>?_)
             clear hK K
             refine no 42 ?_
             refine pt 9 43 (fl 12 1023) HT_ ?_
             refine pt 10 13 (fl 12 2047) HT_ ?_
             refine pt 11 14 (fl 12 4095) HT_ ?_
             refine done_ (done_of HT_.out (by kernel_rfl)) ?_
             have hnb125:=NB163_157.out
             have hnc125:=NB157_163.out
             have hcz126_0:w123.cell? ⟨gb163,0,none⟩=some (.int .i64 x164000_1):=(blk_cell BK163.out 0).trans rfl
             have hcz126_1:w123.cell? ⟨gb163,1,none⟩=some (.int .i64 x164001_1):=(blk_cell BK163.out 1).trans rfl
             have hcz126_2:w123.cell? ⟨gb163,2,none⟩=some (.int .i64 x164002_1):=(blk_cell BK163.out 2).trans rfl
             have hfz126_0:=blk_frozen BK163.out 0
             have hfz126_1:=blk_frozen BK163.out 1
             have hfz126_2:=blk_frozen BK163.out 2
             have hcz127_0:w123.cell? ⟨gb165,0,none⟩=some (.int .i64 ((rd_T61 l2 x25_1).f0)):=(blk_cell BK165.out 0).trans rfl
             have hcz127_1:w123.cell? ⟨gb165,1,none⟩=some (.int .i64 ((rd_T61 l2 x25_1).f1)):=(blk_cell BK165.out 1).trans rfl
             have hcz127_2:w123.cell? ⟨gb165,2,none⟩=some (.int .i64 ((rd_T61 l2 x25_1).f2)):=(blk_cell BK165.out 2).trans rfl
             have hfz127_0:=blk_frozen BK165.out 0
             have hfz127_1:=blk_frozen BK165.out 1
             have hfz127_2:=blk_frozen BK165.out 2
             try go_wp2
             go_roundg k1
             case measure=>have:=HK1.out;omega
             case rel=>exact ⟨(x9_1),(true),(wrap64 (x25_1+1)),(x164000_1),(x164001_1),(x164002_1),rd_,rd_,rd_,H',⟨by have:=HK1.out;omega⟩,⟨rR HO_7⟩,⟨bk BK157⟩,⟨bk BK158⟩,⟨bk BK163⟩,⟨be⟩⟩
           ·exact absurd (by decide) c96
          ·replace c95:=Bool.eq_false_iff.mpr c95
           subst c95
           replace H:=(if_neg (show ¬ (false=true) by decide)).symm.trans H
           have H':=Aside0.mk H
           clear H
           have p164:0≤(x25_1:Int):=of_decide_eq_true (by first|(with_reducible assumption)|assumption)
           have q164:x25_1 < (l2.length:Int):=of_decide_eq_true (by first|(with_reducible assumption)|assumption)
           obtain ⟨ad164,e164,hx164_0,hx164_1,hx164_2⟩:=at_T61 HR2.out x25_1 p164 q164
           cases e164
           replace hx164_0:=(HB.out.cell (World.block_lt_of_cell? w _ hx164_0)).trans hx164_0
           replace hx164_1:=(HB.out.cell (World.block_lt_of_cell? w _ hx164_1)).trans hx164_1
           replace hx164_2:=(HB.out.cell (World.block_lt_of_cell? w _ hx164_2)).trans hx164_2
           replace p164:=eq_true p164
           replace q164:=eq_true q164
           try go_wp2_with (first|((with_reducible refine gate_dst (N:=12) rfl ?_);refine box_event ?hg (N:=12) ?hd (cs:=#[.int .i64 0,.int .i64 0,.int .i64 0]) (t:=61) ?hr ?_;(case hd=>rfl);(case hg=>rfl);(case hr=>first|(go_simp;done)|(go_simp;rfl));intro gb165 hg w142 hbox hb;replace HO_7:=rB HO_7 hb;have BK165:=aM (hbox);have GW165:=gS w hg;have GE165:=gS w hg;replace HB:=bs hb;have NB157_165:=nL hg BK157;have NB165_157:=nG hg BK157;replace BK157:=bB BK157 hb;have NB158_165:=nL hg BK158;have NB165_158:=nG hg BK158;replace BK158:=bB BK158 hb;have NB163_165:=nL hg BK163;have NB165_163:=nG hg BK163;replace BK163:=bB BK163 hb;clear hb hbox hg;have hnb143:=NB165_157.out;have hnc143:=NB157_165.out;have hnb144:=NB165_158.out;have hnc144:=NB158_165.out;have hnb145:=NB165_163.out;have hnc145:=NB163_165.out;have hcz146_0:w142.cell? ⟨gb165,0,none⟩=some (.int .i64 0):=(blk_cell BK165.out 0).trans rfl;have hcz146_1:w142.cell? ⟨gb165,1,none⟩=some (.int .i64 0):=(blk_cell BK165.out 1).trans rfl;have hcz146_2:w142.cell? ⟨gb165,2,none⟩=some (.int .i64 0):=(blk_cell BK165.out 2).trans rfl;have hfz146_0:=blk_frozen BK165.out 0;have hfz146_1:=blk_frozen BK165.out 1;have hfz146_2:=blk_frozen BK165.out 2;have hnb147:=NB158_157.out;have hnc147:=NB157_158.out;have hnb148:=NB158_163.out;have hnc148:=NB163_158.out;have hcz149_0:w142.cell? ⟨gb158,0,none⟩=some (.slice A1_0 l1_0.length c1_0):=(blk_cell BK158.out 0).trans rfl;have hfz149_0:=blk_frozen BK158.out 0)|((with_reducible refine gate_callee (f:=52) rfl ?_);refine goesL_ (some 33) rfl rfl Try.func52 (by kernel_rfl) rfl #[.slice A1_0 l1_0.length c1_0,.int .i64 ((rd_T61 l2 x25_1).f0)] rfl (by (try simp only [List.map_toArray,List.map_cons,List.map_nil]);first|done|rfl|(simp only [List.length_drop,List.length_take];rfl)) ?_;(with_reducible refine (impl_hasInt.calls k1 _ _ l1_0 ((rd_T61 l2 x25_1).f0) false _ ?side1 ?side2 A20.out).mono ?_);(case side1=>exact Kd.C_below HR1_0.out be);(case side2=>exact HC1_0.out);rintro e w' ⟨rfl,⟨nd,rfl⟩⟩;refine ⟨_,rfl,?_⟩))
           have n0_:Aside0 (Kd.R (Kd.int .i64) 3 (((w142.setCell ⟨gb165,0,none⟩ (.int .i64 ((rd_T61 l2 x25_1).f0))).setCell ⟨gb165,1,none⟩ (.int .i64 ((rd_T61 l2 x25_1).f1))).setCell ⟨gb165,2,none⟩ (.int .i64 ((rd_T61 l2 x25_1).f2))) w.heap.size (fun _=>True) v161 t160):=⟨by (with_reducible repeat (first|apply Kd.R_alloc|apply Kd.R_drewN|apply Kd.R_drew));exact Kd.R_mono (Kd.R_far (p:=⟨gb165,2,none⟩) (Kd.R_far (p:=⟨gb165,1,none⟩) (Kd.R_far (p:=⟨gb165,0,none⟩) (Kd.R_types HO_7.out BK165.out (by decide)) (fun _ hk=>hk.2) (.int .i64 ((rd_T61 l2 x25_1).f0))) (fun _ hk=>hk.2) (.int .i64 ((rd_T61 l2 x25_1).f1))) (fun _ hk=>hk.2) (.int .i64 ((rd_T61 l2 x25_1).f2))) (fun _ hk=>trivial)⟩
           have n1_:Aside0 ((((w142.setCell ⟨gb165,0,none⟩ (.int .i64 ((rd_T61 l2 x25_1).f0))).setCell ⟨gb165,1,none⟩ (.int .i64 ((rd_T61 l2 x25_1).f1))).setCell ⟨gb165,2,none⟩ (.int .i64 ((rd_T61 l2 x25_1).f2))).heap[gb157]?=some (.cells #[.int .i64 a0_0,.slice A0_1 l0_1.length c0_1] 26 (0,0))):=⟨by (with_reducible repeat (first|refine blk_drewN ?_ _|refine blk_drew ?_|refine blk_alloc ?_ _));refine blk_far ?_ NB157_165.out _;(with_reducible repeat (first|refine blk_drewN ?_ _|refine blk_drew ?_|refine blk_alloc ?_ _));refine blk_far ?_ NB157_165.out _;(with_reducible repeat (first|refine blk_drewN ?_ _|refine blk_drew ?_|refine blk_alloc ?_ _));refine blk_far ?_ NB157_165.out _;(with_reducible repeat (first|refine blk_drewN ?_ _|refine blk_drew ?_|refine blk_alloc ?_ _));exact BK157.out⟩
           have n2_:Aside0 ((((w142.setCell ⟨gb165,0,none⟩ (.int .i64 ((rd_T61 l2 x25_1).f0))).setCell ⟨gb165,1,none⟩ (.int .i64 ((rd_T61 l2 x25_1).f1))).setCell ⟨gb165,2,none⟩ (.int .i64 ((rd_T61 l2 x25_1).f2))).heap[gb158]?=some (.cells #[.slice A1_0 l1_0.length c1_0] 35 (0,0))):=⟨by (with_reducible repeat (first|refine blk_drewN ?_ _|refine blk_drew ?_|refine blk_alloc ?_ _));refine blk_far ?_ NB158_165.out _;(with_reducible repeat (first|refine blk_drewN ?_ _|refine blk_drew ?_|refine blk_alloc ?_ _));refine blk_far ?_ NB158_165.out _;(with_reducible repeat (first|refine blk_drewN ?_ _|refine blk_drew ?_|refine blk_alloc ?_ _));refine blk_far ?_ NB158_165.out _;(with_reducible repeat (first|refine blk_drewN ?_ _|refine blk_drew ?_|refine blk_alloc ?_ _));exact BK158.out⟩
           have n3_:Aside0 ((((w142.setCell ⟨gb165,0,none⟩ (.int .i64 ((rd_T61 l2 x25_1).f0))).setCell ⟨gb165,1,none⟩ (.int .i64 ((rd_T61 l2 x25_1).f1))).setCell ⟨gb165,2,none⟩ (.int .i64 ((rd_T61 l2 x25_1).f2))).heap[gb163]?=some (.cells #[.int .i64 x164000_1,.int .i64 x164001_1,.int .i64 x164002_1] 61 (0,0))):=⟨by (with_reducible repeat (first|refine blk_drewN ?_ _|refine blk_drew ?_|refine blk_alloc ?_ _));refine blk_far ?_ NB163_165.out _;(with_reducible repeat (first|refine blk_drewN ?_ _|refine blk_drew ?_|refine blk_alloc ?_ _));refine blk_far ?_ NB163_165.out _;(with_reducible repeat (first|refine blk_drewN ?_ _|refine blk_drew ?_|refine blk_alloc ?_ _));refine blk_far ?_ NB163_165.out _;(with_reducible repeat (first|refine blk_drewN ?_ _|refine blk_drew ?_|refine blk_alloc ?_ _));exact BK163.out⟩
           have n4_:Aside0 ((((w142.setCell ⟨gb165,0,none⟩ (.int .i64 ((rd_T61 l2 x25_1).f0))).setCell ⟨gb165,1,none⟩ (.int .i64 ((rd_T61 l2 x25_1).f1))).setCell ⟨gb165,2,none⟩ (.int .i64 ((rd_T61 l2 x25_1).f2))).heap[gb165]?=some (.cells #[.int .i64 ((rd_T61 l2 x25_1).f0),.int .i64 ((rd_T61 l2 x25_1).f1),.int .i64 ((rd_T61 l2 x25_1).f2)] 61 (0,0))):=⟨by (with_reducible repeat (first|refine blk_drewN ?_ _|refine blk_drew ?_|refine blk_alloc ?_ _));refine blk_put (cs:=#[.int .i64 ((rd_T61 l2 x25_1).f0),.int .i64 ((rd_T61 l2 x25_1).f1),.int .i64 0]) ?_ 2 _ rfl;(with_reducible repeat (first|refine blk_drewN ?_ _|refine blk_drew ?_|refine blk_alloc ?_ _));refine blk_put (cs:=#[.int .i64 ((rd_T61 l2 x25_1).f0),.int .i64 0,.int .i64 0]) ?_ 1 _ rfl;(with_reducible repeat (first|refine blk_drewN ?_ _|refine blk_drew ?_|refine blk_alloc ?_ _));refine blk_put (cs:=#[.int .i64 0,.int .i64 0,.int .i64 0]) ?_ 0 _ rfl;(with_reducible repeat (first|refine blk_drewN ?_ _|refine blk_drew ?_|refine blk_alloc ?_ _));exact BK165.out⟩
           have n5_:Aside0 (Below w.heap.size w (((w142.setCell ⟨gb165,0,none⟩ (.int .i64 ((rd_T61 l2 x25_1).f0))).setCell ⟨gb165,1,none⟩ (.int .i64 ((rd_T61 l2 x25_1).f1))).setCell ⟨gb165,2,none⟩ (.int .i64 ((rd_T61 l2 x25_1).f2)))):=⟨be⟩
           (try clear HO_7);(try clear BK157);(try clear BK158);(try clear BK163);(try clear BK165);(try clear HB)
           generalize (((w142.setCell ⟨gb165,0,none⟩ (.int .i64 ((rd_T61 l2 x25_1).f0))).setCell ⟨gb165,1,none⟩ (.int .i64 ((rd_T61 l2 x25_1).f1))).setCell ⟨gb165,2,none⟩ (.int .i64 ((rd_T61 l2 x25_1).f2)))=w150 at n0_ n1_ n2_ n3_ n4_ n5_ ⊢
           have HO_7:=n0_;have BK157:=n1_;have BK158:=n2_;have BK163:=n3_;have BK165:=n4_;have HB:=n5_;clear n0_ n1_ n2_ n3_ n4_ n5_
           (try (rw [drewN_self w150];generalize hq_:World.drewN w150 _=w150;have n0_:Aside0 (Kd.R (Kd.int .i64) 3 w150 w.heap.size (fun _=>True) v161 t160):=⟨by rw [← hq_];exact (rR HO_7)⟩;have n1_:Aside0 (w150.heap[gb157]?=some (.cells #[.int .i64 a0_0,.slice A0_1 l0_1.length c0_1] 26 (0,0))):=⟨by rw [← hq_];exact (bk BK157)⟩;have n2_:Aside0 (w150.heap[gb158]?=some (.cells #[.slice A1_0 l1_0.length c1_0] 35 (0,0))):=⟨by rw [← hq_];exact (bk BK158)⟩;have n3_:Aside0 (w150.heap[gb163]?=some (.cells #[.int .i64 x164000_1,.int .i64 x164001_1,.int .i64 x164002_1] 61 (0,0))):=⟨by rw [← hq_];exact (bk BK163)⟩;have n4_:Aside0 (w150.heap[gb165]?=some (.cells #[.int .i64 ((rd_T61 l2 x25_1).f0),.int .i64 ((rd_T61 l2 x25_1).f1),.int .i64 ((rd_T61 l2 x25_1).f2)] 61 (0,0))):=⟨by rw [← hq_];exact (bk BK165)⟩;have n5_:Aside0 (Below w.heap.size w w150):=⟨by rw [← hq_];exact be⟩;clear HO_7 BK157 BK158 BK163 BK165 HB hq_;have HO_7:=n0_;have BK157:=n1_;have BK158:=n2_;have BK163:=n3_;have BK165:=n4_;have HB:=n5_;clear n0_ n1_ n2_ n3_ n4_ n5_))
           replace HO_7:=aM (Kd.R_drew HO_7.out);replace BK157:=aM (blk_drew BK157.out);replace BK158:=aM (blk_drew BK158.out);replace BK163:=aM (blk_drew BK163.out);replace BK165:=aM (blk_drew BK165.out);replace HB:=aM (below_drew1 HB.out)
           refine start_ (n:=12) (S:=fun w'=>w'.cell? ⟨gb157,0,none⟩=some (.int .i64 a0_0)∧w'.cell? ⟨gb157,1,none⟩=some (.slice A0_1 l0_1.length c0_1)∧w'.cell? ⟨gb165,0,none⟩=some (.int .i64 ((rd_T61 l2 x25_1).f0))∧w'.cell? ⟨gb165,1,none⟩=some (.int .i64 ((rd_T61 l2 x25_1).f1))∧w'.cell? ⟨gb165,2,none⟩=some (.int .i64 ((rd_T61 l2 x25_1).f2))) (ds:=[]) (fl 12 0) (by kernel_rfl) rfl rfl ⟨(blk_cell BK157.out 0).trans rfl,(blk_cell BK157.out 1).trans rfl,(blk_cell BK165.out 0).trans rfl,(blk_cell BK165.out 1).trans rfl,(blk_cell BK165.out 2).trans rfl⟩ (fun hHeld=>?_);refine with_tabW impl_Best.tab9 impl_Best.bits9 (fun HT_ HW_=>?_)
           generalize w150.drew=w151 at HO_7 BK157 BK158 BK163 BK165 HB hHeld ⊢
           refine pt 1 35 (fl 12 2) HT_ ?_
           refine pt 5 39 (fl 12 34) HT_ ?_
           refine pt 6 40 (fl 12 98) HT_ ?_
           refine tt 0 34 (fl 12 99) HT_ HW_ hHeld ?_
           refine tt 2 36 (fl 12 103) HT_ HW_ hHeld ?_
           refine tt 7 41 (fl 12 231) HT_ HW_ hHeld ?_
           refine ot 3 (some 37) (fl 12 239) HT_ (fun K hK=>?_)
           refine goes_ Try.func35 (by kernel_rfl) rfl #[.agg #[.int .i64 a0_0,.slice A0_1 l0_1.length c0_1],.int .i64 ((rd_T61 l2 x25_1).f0)] (by rfl) rfl rfl (by (try simp only [List.map_toArray,List.map_cons,List.map_nil]);first|done|rfl|(simp only [List.length_drop,List.length_take];rfl)) ?_
           with_reducible refine (impl_LoadOf.calls k1 a0_0 _ _ l0_1 ((rd_T61 l2 x25_1).f0) t167 _ ?side1 ?side2 A30.out).mono ?_
           (case side1=>exact rC HR0_1)
           (case side2=>exact HC0_1.out)
           rintro e w152 ⟨rfl,hb⟩
           refine ⟨_,rfl,?_⟩
           replace HO_7:=rB HO_7 hb;replace BK157:=bB BK157 hb;replace BK158:=bB BK158 hb;replace BK163:=bB BK163 hb;replace BK165:=bB BK165 hb;replace HB:=bs hb;(try clear hb);skip
           obtain ⟨Ao153,co153,eo153⟩:=Kd.R_slice HO_7.out
           (subst eo153)
           refine hK.out _ _ ⟨(blk_cell BK157.out 0).trans rfl,(blk_cell BK157.out 1).trans rfl,(blk_cell BK165.out 0).trans rfl,(blk_cell BK165.out 1).trans rfl,(blk_cell BK165.out 2).trans rfl⟩ (fun hHeld=>?_)
           clear hK K
           refine no 37 ?_
           refine pt 4 38 (fl 12 255) HT_ ?_
           refine ot 8 (some 42) (fl 12 511) HT_ (fun K hK=>?_)
           refine goes_ Try.func52 (by kernel_rfl) rfl #[.slice Ao153 t160.length co153,.int .i64 ((rd_T61 l2 x25_1).f1)] (by rfl) rfl rfl (by (try simp only [List.map_toArray,List.map_cons,List.map_nil]);first|done|rfl|(simp only [List.length_drop,List.length_take];rfl)) ?_
           with_reducible refine (impl_hasInt.calls k1 _ _ t160 ((rd_T61 l2 x25_1).f1) false _ ?side1 ?side2 A31.out).mono ?_
           (case side1=>exact sR HO_7)
           (case side2=>exact (Kd.R_reads' HO_7.out).2.1)
           rintro e w' ⟨rfl,⟨nd,rfl⟩⟩
           refine ⟨_,rfl,?_⟩
           refine hK.out _ _ ⟨(blk_cell BK157.out 0).trans rfl,(blk_cell BK157.out 1).trans rfl,(blk_cell BK165.out 0).trans rfl,(blk_cell BK165.out 1).trans rfl,(blk_cell BK165.out 2).trans rfl⟩ (fun hHeld=>?_)
           clear hK K
           refine no 42 ?_
           refine pt 9 43 (fl 12 1023) HT_ ?_
           refine pt 10 13 (fl 12 2047) HT_ ?_
           refine pt 11 14 (fl 12 4095) HT_ ?_
           refine done_ (done_of HT_.out (by kernel_rfl)) ?_
           have hnb154:=NB163_157.out
           have hnc154:=NB157_163.out
           have hcz155_0:w152.cell? ⟨gb163,0,none⟩=some (.int .i64 x164000_1):=(blk_cell BK163.out 0).trans rfl
           have hcz155_1:w152.cell? ⟨gb163,1,none⟩=some (.int .i64 x164001_1):=(blk_cell BK163.out 1).trans rfl
           have hcz155_2:w152.cell? ⟨gb163,2,none⟩=some (.int .i64 x164002_1):=(blk_cell BK163.out 2).trans rfl
           have hfz155_0:=blk_frozen BK163.out 0
           have hfz155_1:=blk_frozen BK163.out 1
           have hfz155_2:=blk_frozen BK163.out 2
           have hcz156_0:w152.cell? ⟨gb165,0,none⟩=some (.int .i64 ((rd_T61 l2 x25_1).f0)):=(blk_cell BK165.out 0).trans rfl
           have hcz156_1:w152.cell? ⟨gb165,1,none⟩=some (.int .i64 ((rd_T61 l2 x25_1).f1)):=(blk_cell BK165.out 1).trans rfl
           have hcz156_2:w152.cell? ⟨gb165,2,none⟩=some (.int .i64 ((rd_T61 l2 x25_1).f2)):=(blk_cell BK165.out 2).trans rfl
           have hfz156_0:=blk_frozen BK165.out 0
           have hfz156_1:=blk_frozen BK165.out 1
           have hfz156_2:=blk_frozen BK165.out 2
           try go_wp2
           go_roundg k1
           case measure=>have:=HK1.out;omega
           case rel=>exact ⟨(wrap64 (t167+1)),(!false),(wrap64 (x25_1+1)),((rd_T61 l2 x25_1).f0),((rd_T61 l2 x25_1).f1),((rd_T61 l2 x25_1).f2),rd_,rd_,rd_,H',⟨by have:=HK1.out;omega⟩,⟨by (with_reducible repeat (first|apply Kd.R_alloc|apply Kd.R_drewN|apply Kd.R_drew));exact Kd.R_mono (Kd.R_far (p:=⟨gb163,2,none⟩) (Kd.R_far (p:=⟨gb163,1,none⟩) (Kd.R_far (p:=⟨gb163,0,none⟩) (Kd.R_types HO_7.out BK163.out (by decide)) (fun _ hk=>hk.2) (.int .i64 ((rd_T61 l2 x25_1).f0))) (fun _ hk=>hk.2) (.int .i64 ((rd_T61 l2 x25_1).f1))) (fun _ hk=>hk.2) (.int .i64 ((rd_T61 l2 x25_1).f2))) (fun _ hk=>trivial)⟩,⟨by (with_reducible repeat (first|refine blk_drewN ?_ _|refine blk_drew ?_|refine blk_alloc ?_ _));refine blk_far ?_ NB157_163.out _;(with_reducible repeat (first|refine blk_drewN ?_ _|refine blk_drew ?_|refine blk_alloc ?_ _));refine blk_far ?_ NB157_163.out _;(with_reducible repeat (first|refine blk_drewN ?_ _|refine blk_drew ?_|refine blk_alloc ?_ _));refine blk_far ?_ NB157_163.out _;(with_reducible repeat (refine blk_drewN ?_ _));exact BK157.out⟩,⟨by (with_reducible repeat (first|refine blk_drewN ?_ _|refine blk_drew ?_|refine blk_alloc ?_ _));refine blk_far ?_ NB158_163.out _;(with_reducible repeat (first|refine blk_drewN ?_ _|refine blk_drew ?_|refine blk_alloc ?_ _));refine blk_far ?_ NB158_163.out _;(with_reducible repeat (first|refine blk_drewN ?_ _|refine blk_drew ?_|refine blk_alloc ?_ _));refine blk_far ?_ NB158_163.out _;(with_reducible repeat (refine blk_drewN ?_ _));exact BK158.out⟩,⟨by (with_reducible repeat (first|refine blk_drewN ?_ _|refine blk_drew ?_|refine blk_alloc ?_ _));refine blk_put (cs:=#[.int .i64 ((rd_T61 l2 x25_1).f0),.int .i64 ((rd_T61 l2 x25_1).f1),.int .i64 x164002_1]) ?_ 2 _ rfl;(with_reducible repeat (first|refine blk_drewN ?_ _|refine blk_drew ?_|refine blk_alloc ?_ _));refine blk_put (cs:=#[.int .i64 ((rd_T61 l2 x25_1).f0),.int .i64 x164001_1,.int .i64 x164002_1]) ?_ 1 _ rfl;(with_reducible repeat (first|refine blk_drewN ?_ _|refine blk_drew ?_|refine blk_alloc ?_ _));refine blk_put (cs:=#[.int .i64 x164000_1,.int .i64 x164001_1,.int .i64 x164002_1]) ?_ 0 _ rfl;(with_reducible repeat (refine blk_drewN ?_ _));exact BK163.out⟩,⟨be⟩⟩
      ·rw [if_neg c19] at H
       exact absurd H (by simp)
     ·rw [if_neg c18] at H
      exact absurd H (by simp)
    ·rw [if_neg c17] at H
     have c17b0:decide (x25_1 < (l2.length:Int))=false:=decide_eq_false c17
     clear c17
     obtain rfl:=Option.some.inj H
     have hnb157:=NB163_157.out
     have hnc157:=NB157_163.out
     have hnb158:=NB163_158.out
     have hnc158:=NB158_163.out
     have hcz159_0:wr.cell? ⟨gb163,0,none⟩=some (.int .i64 x164000_1):=(blk_cell BK163.out 0).trans rfl
     have hcz159_1:wr.cell? ⟨gb163,1,none⟩=some (.int .i64 x164001_1):=(blk_cell BK163.out 1).trans rfl
     have hcz159_2:wr.cell? ⟨gb163,2,none⟩=some (.int .i64 x164002_1):=(blk_cell BK163.out 2).trans rfl
     have hfz159_0:=blk_frozen BK163.out 0
     have hfz159_1:=blk_frozen BK163.out 1
     have hfz159_2:=blk_frozen BK163.out 2
     go_wp2
     go_ret
     exact ⟨rz,be⟩
 ·replace c5:=Bool.eq_false_iff.mpr c5
  subst c5
  replace H:=(if_neg (show ¬ (false=true) by decide)).symm.trans H
  obtain rfl:=Option.some.inj H
  go_enter Try.func45,Try.ntmps45
  go_wp2_with (first|((with_reducible refine gate_dst (N:=3) rfl ?_);refine box_event ?hg (N:=3) ?hd (cs:=#[.int .i64 a0_0,.slice A0_1 l0_1.length c0_1]) (t:=26) ?hr ?_;(case hd=>rfl);(case hg=>rfl);(case hr=>first|(go_simp;done)|(go_simp;rfl));intro gb157 hg w160 hbox hb;have GW157:=gS w hg;have GE157:=gS w hg;replace HB:=bs hb;clear hb hbox hg)|((with_reducible refine gate_dst (N:=4) rfl ?_);refine box_event ?hg (N:=4) ?hd (cs:=#[.slice A1_0 l1_0.length c1_0]) (t:=35) ?hr ?_;(case hd=>rfl);(case hg=>rfl);(case hr=>first|(go_simp;done)|(go_simp;rfl));intro gb158 hg w161 hbox hb;have GW158:=gS w hg;have GE158:=gS w hg;replace HB:=bs hb;clear hb hbox hg)|((with_reducible refine gate_callee (f:=57) rfl ?_);refine goesL_ (some 16) rfl rfl Try.func57 (by kernel_rfl) rfl #[.slice A2 l2.length c2] rfl (by (try simp only [List.map_toArray,List.map_cons,List.map_nil]);first|done|rfl|(simp only [List.length_drop,List.length_take];rfl)) ?_;(with_reducible refine (impl_DevsOk.calls k _ _ l2 false _ ?side1 ?side2 A4.out).mono ?_);(case side1=>exact rC HR2);(case side2=>exact HC2.out);rintro e w162 ⟨rfl,hb⟩;refine ⟨_,rfl,?_⟩;replace HB:=bs hb;(try clear hb)))
  go_ret
  exact ⟨rz,be⟩
end Go.Proofs.Ytpbjbfimnfghkaa.PFnExactRebalance
