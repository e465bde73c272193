/- Trimmed by a program of this session (trim.py). Not trusted: Lean checks it. -/
import Derived.Test.YtpbjbfimnfghkaaTLRebalancedPFnRebalancedx0
import Derived.Test.YtpbjbfimnfghkaaTLRebalancedPFnRebalancedx8
import Derived.Test.YtpbjbfimnfghkaaTLRebalancedPFnRebalancedx9
import Derived.Test.YtpbjbfimnfghkaaTLRebalancedPFnRebalancedx10
namespace Go.Proofs.Ytpbjbfimnfghkaa.PFnRebalanced
open Go.RowKit Go.Proofs.YtpbjbfimnfghkaaW.PrintWords Go.Proofs.YtpbjbfimnfghkaaW.PrintLast Go.Proofs.YtpbjbfimnfghkaaW.PrintMore Go.Proofs.Ytpbjbfimnfghkaa.St
attribute [local go_sem] max2_int min2_int max_two min_two max_three min_three max_four min_four
set_option linter.unusedVariables false
set_option linter.unusedSimpArgs false
def impl_Best.l0:Nat→List Int→Int→Bool→List (S61)→Int→Int→Int→List (S35)→List Int→Int→Int→Int→Option (Int)
 | 0,_,_,_,_,_,_,_,_,_,_,_,_=>none
 | k+1,x7,x9,x10,x23,x24,x25,x460000,x460001,x461000,x466000,x466001,x466002=>if x25 < x24 then (if 0≤x25 then (if x25 < (x23.length:Int) then ((impl_hasInt.f k x461000 ((rd_T61 x23 x25).f0)).bind fun t468=>(if t468=true then (impl_Best.l0 k x7 x9 x10 x23 x24 (wrap64 (x25+1)) x460000 x460001 x461000 x466000 x466001 x466002) else ((impl_LoadOf.f k x460000 x460001 ((rd_T61 x23 x25).f0)).bind fun t469=>((impl_hasInt.f k x7 ((rd_T61 x23 x25).f1)).bind fun t470=>(if x466000 < 0 then (impl_Best.l0 k x7 (wrap64 (t469+1)) (!t470) x23 x24 (wrap64 (x25+1)) x460000 x460001 x461000 ((rd_T61 x23 x25).f0) ((rd_T61 x23 x25).f1) ((rd_T61 x23 x25).f2)) else (if t470=true then (if ((!t470) == x10)=true then (if (wrap64 ((wrap64 (t469+1)) * x466002)) < (wrap64 (x9 * ((rd_T61 x23 x25).f2))) then (impl_Best.l0 k x7 (wrap64 (t469+1)) (!t470) x23 x24 (wrap64 (x25+1)) x460000 x460001 x461000 ((rd_T61 x23 x25).f0) ((rd_T61 x23 x25).f1) ((rd_T61 x23 x25).f2)) else (impl_Best.l0 k x7 x9 x10 x23 x24 (wrap64 (x25+1)) x460000 x460001 x461000 x466000 x466001 x466002)) else (impl_Best.l0 k x7 x9 x10 x23 x24 (wrap64 (x25+1)) x460000 x460001 x461000 x466000 x466001 x466002)) else (if x10=true then (if ((!t470) == x10)=true then (if (wrap64 ((wrap64 (t469+1)) * x466002)) < (wrap64 (x9 * ((rd_T61 x23 x25).f2))) then (impl_Best.l0 k x7 (wrap64 (t469+1)) (!t470) x23 x24 (wrap64 (x25+1)) x460000 x460001 x461000 ((rd_T61 x23 x25).f0) ((rd_T61 x23 x25).f1) ((rd_T61 x23 x25).f2)) else (impl_Best.l0 k x7 x9 x10 x23 x24 (wrap64 (x25+1)) x460000 x460001 x461000 x466000 x466001 x466002)) else (impl_Best.l0 k x7 x9 x10 x23 x24 (wrap64 (x25+1)) x460000 x460001 x461000 x466000 x466001 x466002)) else (impl_Best.l0 k x7 (wrap64 (t469+1)) (!t470) x23 x24 (wrap64 (x25+1)) x460000 x460001 x461000 ((rd_T61 x23 x25).f0) ((rd_T61 x23 x25).f1) ((rd_T61 x23 x25).f2))))))))) else (none)) else (none)) else (some x466000)
def impl_Best.f (k:Nat) (a0_0:Int) (l0_1:List (S35)) (l1_0:List Int) (l2:List (S61)):Option (Int):=(impl_DevsOk.f k l2).bind fun t461=>(if t461=true then ((impl_zonesIn.f k l1_0 l2).bind fun t462=>(impl_Best.l0 k t462 0 false l2 (l2.length:Int) 0 a0_0 l0_1 l1_0 (-1) 0 0)) else (some (-1)))
def impl_Best.T9:Bool × List (List Nat × List Nat):=(true,[([],[]),([],[]),([1],[1]),([0,2],[0,2]),([3],[3]),([],[]),([],[]),([6],[6]),([5,7,3],[5,7]),([8],[8]),([4,8,0,1,2,3,4],[4]),([9,10,0,1,2,3,4,5,6,7,8,9,10],[9])])
def impl_Best.B9:List Nat:=[0,0,2,7,15,0,0,64,239,495,511,2047]
theorem impl_Best.tab9:rtab .any (opsOf Try.f45 9)=impl_Best.T9:=by kernel_rfl
theorem impl_Best.bits9:waitsOk impl_Best.T9.2 impl_Best.B9=true:=by kernel_rfl
set_option maxHeartbeats 8000000 in
set_option maxRecDepth 100000 in
theorem impl_Best.calls (k:Nat) (a0_0:Int) (A0_1:Option Addr) (c0_1:Nat) (l0_1:List (S35)) (A1_0:Option Addr) (c1_0:Nat) (l1_0:List Int) (A2:Option Addr) (c2:Nat) (l2:List (S61)) (r:Int) (w:World) (hr0_1:Kd.C k35 w A0_1 l0_1.length l0_1) (hc0_1:l0_1.length≤c0_1) (hr1_0:Kd.C (Kd.int .i64) w A1_0 l1_0.length l1_0) (hc1_0:l1_0.length≤c1_0) (hr2:Kd.C k61 w A2 l2.length l2) (hc2:l2.length≤c2) (h:impl_Best.f k a0_0 l0_1 l1_0 l2=some r) :
  Calls Try.prog 45 #[.agg #[.int .i64 a0_0,.slice A0_1 l0_1.length c0_1],.agg #[.slice A1_0 l1_0.length c1_0],.slice A2 l2.length c2] w fun e w'=>e = .returned (.int .i64 r)∧Below w.heap.size w w':=by
 have hu26:=Try.underlying26
 have hu35:=Try.underlying35
 have hu61:=Try.underlying61
 have HR0_1:=aM hr0_1
 have HC0_1:=aM hc0_1
 clear hr0_1 hc0_1
 have HR1_0:=aM hr1_0
 have HC1_0:=aM hc1_0
 clear hr1_0 hc1_0
 have HR2:=aM hr2
 have HC2:=aM hc2
 clear hr2 hc2
 have HB:=aM (Below.refl w.heap.size w)
 have H:((impl_DevsOk.f k l2).bind fun t461=>(if t461=true then ((impl_zonesIn.f k l1_0 l2).bind fun t462=>(impl_Best.l0 k t462 0 false l2 (l2.length:Int) 0 a0_0 l0_1 l1_0 (-1) 0 0)) else (some (-1))))=some r:=h
 clear h
 replace H:=Option.bind_eq_some_iff.mp H
 obtain ⟨t461,A40,H⟩:=H
 try dsimp only at H
 have A4:=aM A40
 clear A40
 by_cases c5:t461=true
 ·subst c5
  rw [if_pos rfl] at H
  replace H:=Option.bind_eq_some_iff.mp H
  obtain ⟨t462,A60,H⟩:=H
  try dsimp only at H
  have A6:=aM A60
  clear A60
  have H':=Aside0.mk H
  clear H
  go_enter Try.func45,Try.ntmps45
  go_wp2_with (first|((with_reducible refine gate_dst (N:=3) rfl ?_);refine box_event ?hg (N:=3) ?hd (cs:=#[.int .i64 a0_0,.slice A0_1 l0_1.length c0_1]) (t:=26) ?hr ?_;(case hd=>rfl);(case hg=>rfl);(case hr=>(go_simp;done));intro gb459 hg w7 hbox hb;have BK459:=aM (hbox);have GW459:=gS w hg;have GE459:=gS w hg;replace HB:=bs hb;clear hb hbox hg)|((with_reducible refine gate_dst (N:=4) rfl ?_);refine box_event ?hg (N:=4) ?hd (cs:=#[.slice A1_0 l1_0.length c1_0]) (t:=35) ?hr ?_;(case hd=>rfl);(case hg=>rfl);(case hr=>(go_simp;done));intro gb460 hg w8 hbox hb;have BK460:=aM (hbox);have GW460:=gS w hg;have GE460:=gS w hg;replace HB:=bs hb;have NB459_460:=nL hg BK459;have NB460_459:=nG hg BK459;replace BK459:=bB BK459 hb;clear hb hbox hg)|((with_reducible refine gate_callee (f:=57) rfl ?_);refine goesL_ (some 16) rfl rfl Try.func57 (by kernel_rfl) rfl #[.slice A2 l2.length c2] rfl (by (try simp only [List.map_toArray,List.map_cons,List.map_nil]);rfl) ?_;(with_reducible refine (impl_DevsOk.calls k _ _ l2 true _ ?side1 ?side2 A4.out).mono ?_);(case side1=>exact rC HR2);(case side2=>exact HC2.out);rintro e w9 ⟨rfl,hb⟩;refine ⟨_,rfl,?_⟩;replace BK459:=bB BK459 hb;replace BK460:=bB BK460 hb;replace HB:=bs hb;(try clear hb);have hnb10:=NB460_459.out;have hnc10:=NB459_460.out;obtain ⟨hcz11_0,hfz11_0⟩:=b1 BK460)|((with_reducible refine gate_callee (f:=72) rfl ?_);refine goesL_ (some 21) rfl rfl Try.func72 (by kernel_rfl) rfl #[.slice A1_0 l1_0.length c1_0,.slice A2 l2.length c2] rfl (by (try simp only [List.map_toArray,List.map_cons,List.map_nil]);rfl) ?_;(with_reducible refine (impl_zonesIn.calls k _ _ l1_0 _ _ l2 t462 _ ?side1 ?side2 ?side3 ?side4 A6.out).mono ?_);(case side1=>exact rC HR1_0);(case side2=>exact HC1_0.out);(case side3=>exact rC HR2);(case side4=>exact HC2.out);rintro e w12 ⟨v463,rfl,ho0,hb⟩;refine ⟨_,rfl,?_⟩;have HO464:=aM (Kd.R_lower ho0 (below_size be));replace BK459:=bB BK459 hb;replace BK460:=bB BK460 hb;replace HB:=bs hb;(try clear hb);(try clear ho0))|((with_reducible refine gate_dst (N:=8) rfl ?_);refine box_event ?hg (N:=8) ?hd (cs:=#[.int .i64 0,.int .i64 0,.int .i64 0]) (t:=61) ?hr ?_;(case hd=>rfl);(case hg=>rfl);(case hr=>(go_simp;done));intro gb465 hg w13 hbox hb;replace HO464:=rB HO464 hb;have BK465:=aM (hbox);have GW465:=gS w hg;replace HB:=bs hb;have NB459_465:=nL hg BK459;have NB465_459:=nG hg BK459;replace BK459:=bB BK459 hb;have NB460_465:=nL hg BK460;have NB465_460:=nG hg BK460;replace BK460:=bB BK460 hb;clear hb hbox hg;have hnb14:=NB465_459.out;have hnc14:=NB459_465.out;have hnb15:=NB465_460.out;have hnc15:=NB460_465.out;obtain ⟨hcz16_0,hcz16_1,hcz16_2,hfz16_0,hfz16_1,hfz16_2⟩:=b3 BK465))
  go_loopg [9,10,25] k (fun kq v9 v10 v25 w'=>∃ (x9_1:Int) (x10_1:Bool) (x25_1:Int) (x466000_1:Int) (x466001_1:Int) (x466002_1:Int),v9 = .int .i64 x9_1∧v10 = .bool x10_1∧v25 = .int .i64 x25_1∧Aside0 (impl_Best.l0 kq t462 x9_1 x10_1 l2 (l2.length:Int) x25_1 a0_0 l0_1 l1_0 x466000_1 x466001_1 x466002_1=some r)∧Aside0 (kq≤k)∧Aside0 (Kd.R (Kd.int .i64) 3 w' w.heap.size (fun _=>True) v463 t462)∧Aside0 (w'.heap[gb459]?=some (.cells #[.int .i64 a0_0,(.slice A0_1 l0_1.length c0_1)] 26 (0,0)))∧Aside0 (w'.heap[gb460]?=some (.cells #[(.slice A1_0 l1_0.length c1_0)] 35 (0,0)))∧Aside0 (w'.heap[gb465]?=some (.cells #[.int .i64 x466000_1,.int .i64 x466001_1,.int .i64 x466002_1] 61 (0,0)))∧Aside0 (Below w.heap.size w w'))
  case atStart=>exact ⟨(0),(false),(0),((-1)),(0),(0),rd_,rd_,rd_,H',⟨Nat.le_refl _⟩,⟨by exact Kd.R_mono (Kd.R_far (p:=⟨gb465,2,none⟩) (Kd.R_far (p:=⟨gb465,1,none⟩) (Kd.R_far (p:=⟨gb465,0,none⟩) (Kd.R_types HO464.out BK465.out (by decide)) (fun _ hk=>hk.2) (.int .i64 (-1))) (fun _ hk=>hk.2) (.int .i64 0)) (fun _ hk=>hk.2) (.int .i64 0)) (fun _ hk=>trivial)⟩,⟨by refine blk_far ?_ NB459_465.out _;refine blk_far ?_ NB459_465.out _;refine blk_far ?_ NB459_465.out _;exact BK459.out⟩,⟨by refine blk_far ?_ NB460_465.out _;refine blk_far ?_ NB460_465.out _;refine blk_far ?_ NB460_465.out _;exact BK460.out⟩,⟨by refine blk_put (cs:=#[.int .i64 (-1),.int .i64 0,.int .i64 0]) ?_ 2 _ rfl;refine blk_put (cs:=#[.int .i64 (-1),.int .i64 0,.int .i64 0]) ?_ 1 _ rfl;refine blk_put (cs:=#[.int .i64 0,.int .i64 0,.int .i64 0]) ?_ 0 _ rfl;exact BK465.out⟩,⟨be⟩⟩
  case round=>
   clear H'
   try clear hcz11_0
   try clear hcz16_0
   try clear hcz16_1
   try clear hcz16_2
   try clear hfz11_0
   try clear hfz16_0
   try clear hfz16_1
   try clear hfz16_2
   obtain ⟨x9_1,x10_1,x25_1,x466000_1,x466001_1,x466002_1,rfl,rfl,rfl,HA,HK1,HO_7,BK459,BK460,BK465,HB⟩:=hrel
   cases gk with
   | zero=>exact absurd HA.out (by simp [impl_Best.l0])
   | succ k1=>
    have H:=HA.out
    clear HA
    simp only [impl_Best.l0] at H
    by_cases c17:x25_1 < (l2.length:Int)
    ·rw [if_pos c17] at H
     have c17b0:decide (x25_1 < (l2.length:Int))=true:=decide_eq_true c17
     clear c17
     obtain ⟨c18,H⟩:=ifs H
     have c18b0:decide (0≤x25_1)=true:=decide_eq_true c18
     clear c18
     obtain ⟨c19,H⟩:=ifs H
     have c19b0:decide (x25_1 < (l2.length:Int))=true:=decide_eq_true c19
     clear c19
     replace H:=Option.bind_eq_some_iff.mp H
     obtain ⟨t468,A200,H⟩:=H
     try dsimp only at H
     have A20:=aM A200
     clear A200
     by_cases c21:t468=true
     ·subst c21
      rw [if_pos rfl] at H
      have H':=Aside0.mk H
      clear H
      have p466:0≤(x25_1:Int):=od
      have q466:x25_1 < (l2.length:Int):=od
      obtain ⟨ad466,e466,hx466_0,hx466_1,hx466_2⟩:=at_T61 HR2.out x25_1 p466 q466
      cases e466
      replace hx466_0:=xH HB hx466_0
      replace hx466_1:=xH HB hx466_1
      replace hx466_2:=xH HB hx466_2
      replace p466:=eq_true p466
      replace q466:=eq_true q466
      go_wp2_with (first|((with_reducible refine gate_dst (N:=12) rfl ?_);refine box_event ?hg (N:=12) ?hd (cs:=#[.int .i64 0,.int .i64 0,.int .i64 0]) (t:=61) ?hr ?_;(case hd=>rfl);(case hg=>rfl);(case hr=>(go_simp;done));intro gb467 hg w22 hbox hb;replace HO_7:=rB HO_7 hb;have BK467:=aM (hbox);have GW467:=gS w hg;have GE467:=gS w hg;replace HB:=bs hb;have NB459_467:=nL hg BK459;have NB467_459:=nG hg BK459;replace BK459:=bB BK459 hb;have NB460_467:=nL hg BK460;have NB467_460:=nG hg BK460;replace BK460:=bB BK460 hb;have NB465_467:=nL hg BK465;have NB467_465:=nG hg BK465;replace BK465:=bB BK465 hb;clear hb hbox hg;have hnb23:=NB467_459.out;have hnc23:=NB459_467.out;have hnb24:=NB467_460.out;have hnc24:=NB460_467.out;have hnb25:=NB467_465.out;have hnc25:=NB465_467.out;obtain ⟨hcz26_0,hcz26_1,hcz26_2,hfz26_0,hfz26_1,hfz26_2⟩:=b3 BK467;have hnb27:=NB460_459.out;have hnc27:=NB459_460.out;have hnb28:=NB460_465.out;have hnc28:=NB465_460.out;obtain ⟨hcz29_0,hfz29_0⟩:=b1 BK460)|((with_reducible refine gate_callee (f:=52) rfl ?_);refine goesL_ (some 33) rfl rfl Try.func52 (by kernel_rfl) rfl #[.slice A1_0 l1_0.length c1_0,.int .i64 ((rd_T61 l2 x25_1).f0)] rfl (by (try simp only [List.map_toArray,List.map_cons,List.map_nil]);rfl) ?_;(with_reducible refine (impl_hasInt.calls k1 _ _ l1_0 ((rd_T61 l2 x25_1).f0) true _ ?side1 ?side2 A20.out).mono ?_);(case side1=>exact Kd.C_below HR1_0.out be);(case side2=>exact HC1_0.out);rintro e w' ⟨rfl,⟨nd,rfl⟩⟩;refine ⟨_,rfl,?_⟩))
      go_roundg k1
      case measure=>have:=HK1.out;omega
      case rel=>exact ⟨(x9_1),(x10_1),(wrap64 (x25_1+1)),(x466000_1),(x466001_1),(x466002_1),rd_,rd_,rd_,H',⟨by have:=HK1.out;omega⟩,⟨by (with_reducible repeat (apply Kd.R_drewN));exact Kd.R_mono (Kd.R_far (p:=⟨gb467,2,none⟩) (Kd.R_far (p:=⟨gb467,1,none⟩) (Kd.R_far (p:=⟨gb467,0,none⟩) (Kd.R_types HO_7.out BK467.out (by decide)) (fun _ hk=>hk.2) (.int .i64 ((rd_T61 l2 x25_1).f0))) (fun _ hk=>hk.2) (.int .i64 ((rd_T61 l2 x25_1).f1))) (fun _ hk=>hk.2) (.int .i64 ((rd_T61 l2 x25_1).f2))) (fun _ hk=>trivial)⟩,⟨by (with_reducible repeat (refine blk_drewN ?_ _));refine blk_far ?_ NB459_467.out _;refine blk_far ?_ NB459_467.out _;refine blk_far ?_ NB459_467.out _;exact BK459.out⟩,⟨by (with_reducible repeat (refine blk_drewN ?_ _));refine blk_far ?_ NB460_467.out _;refine blk_far ?_ NB460_467.out _;refine blk_far ?_ NB460_467.out _;exact BK460.out⟩,⟨by (with_reducible repeat (refine blk_drewN ?_ _));refine blk_far ?_ NB465_467.out _;refine blk_far ?_ NB465_467.out _;refine blk_far ?_ NB465_467.out _;exact BK465.out⟩,⟨be⟩⟩
     ·replace c21:=Bool.eq_false_iff.mpr c21
      subst c21
      replace H:=(if_neg (show ¬ (false=true) by decide)).symm.trans H
      replace H:=Option.bind_eq_some_iff.mp H
      obtain ⟨t469,A300,H⟩:=H
      try dsimp only at H
      have A30:=aM A300
      clear A300
      replace H:=Option.bind_eq_some_iff.mp H
      obtain ⟨t470,A310,H⟩:=H
      try dsimp only at H
      have A31:=aM A310
      clear A310
      by_cases c32:x466000_1 < 0
      ·rw [if_pos c32] at H
       have c32b0:decide (x466000_1 < 0)=true:=decide_eq_true c32
       clear c32
       have H':=Aside0.mk H
       clear H
       have p466:0≤(x25_1:Int):=od
       have q466:x25_1 < (l2.length:Int):=od
       obtain ⟨ad466,e466,hx466_0,hx466_1,hx466_2⟩:=at_T61 HR2.out x25_1 p466 q466
       cases e466
       replace hx466_0:=xH HB hx466_0
       replace hx466_1:=xH HB hx466_1
       replace hx466_2:=xH HB hx466_2
       replace p466:=eq_true p466
       replace q466:=eq_true q466
       try go_wp2_with (first|((with_reducible refine gate_dst (N:=12) rfl ?_);refine box_event ?hg (N:=12) ?hd (cs:=#[.int .i64 0,.int .i64 0,.int .i64 0]) (t:=61) ?hr ?_;(case hd=>rfl);(case hg=>rfl);(case hr=>(go_simp;done));intro gb467 hg w33 hbox hb;replace HO_7:=rB HO_7 hb;have BK467:=aM (hbox);have GW467:=gS w hg;have GE467:=gS w hg;replace HB:=bs hb;have NB459_467:=nL hg BK459;have NB467_459:=nG hg BK459;replace BK459:=bB BK459 hb;have NB460_467:=nL hg BK460;have NB467_460:=nG hg BK460;replace BK460:=bB BK460 hb;have NB465_467:=nL hg BK465;have NB467_465:=nG hg BK465;replace BK465:=bB BK465 hb;clear hb hbox hg;have hnb34:=NB467_459.out;have hnc34:=NB459_467.out;have hnb35:=NB467_460.out;have hnc35:=NB460_467.out;have hnb36:=NB467_465.out;have hnc36:=NB465_467.out;obtain ⟨hcz37_0,hcz37_1,hcz37_2,hfz37_0,hfz37_1,hfz37_2⟩:=b3 BK467;have hnb38:=NB460_459.out;have hnc38:=NB459_460.out;have hnb39:=NB460_465.out;have hnc39:=NB465_460.out;obtain ⟨hcz40_0,hfz40_0⟩:=b1 BK460)|((with_reducible refine gate_callee (f:=52) rfl ?_);refine goesL_ (some 33) rfl rfl Try.func52 (by kernel_rfl) rfl #[.slice A1_0 l1_0.length c1_0,.int .i64 ((rd_T61 l2 x25_1).f0)] rfl (by (try simp only [List.map_toArray,List.map_cons,List.map_nil]);rfl) ?_;(with_reducible refine (impl_hasInt.calls k1 _ _ l1_0 ((rd_T61 l2 x25_1).f0) false _ ?side1 ?side2 A20.out).mono ?_);(case side1=>exact Kd.C_below HR1_0.out be);(case side2=>exact HC1_0.out);rintro e w' ⟨rfl,⟨nd,rfl⟩⟩;refine ⟨_,rfl,?_⟩))
       obtain ⟨w41,hW_⟩ : ∃ W_:World,W_=(((w33.setCell ⟨gb467,0,none⟩ (.int .i64 ((rd_T61 l2 x25_1).f0))).setCell ⟨gb467,1,none⟩ (.int .i64 ((rd_T61 l2 x25_1).f1))).setCell ⟨gb467,2,none⟩ (.int .i64 ((rd_T61 l2 x25_1).f2))):=⟨_,rfl⟩
       have n0_:Aside0 (Kd.R (Kd.int .i64) 3 w41 w.heap.size (fun _=>True) v463 t462):=⟨by rw [hW_];exact Kd.R_mono (Kd.R_far (p:=⟨gb467,2,none⟩) (Kd.R_far (p:=⟨gb467,1,none⟩) (Kd.R_far (p:=⟨gb467,0,none⟩) (Kd.R_types HO_7.out BK467.out (by decide)) (fun _ hk=>hk.2) (.int .i64 ((rd_T61 l2 x25_1).f0))) (fun _ hk=>hk.2) (.int .i64 ((rd_T61 l2 x25_1).f1))) (fun _ hk=>hk.2) (.int .i64 ((rd_T61 l2 x25_1).f2))) (fun _ hk=>trivial)⟩
       have n1_:Aside0 (w41.heap[gb459]?=some (.cells #[.int .i64 a0_0,.slice A0_1 l0_1.length c0_1] 26 (0,0))):=⟨by rw [hW_];refine blk_far ?_ NB459_467.out _;refine blk_far ?_ NB459_467.out _;refine blk_far ?_ NB459_467.out _;exact BK459.out⟩
       have n2_:Aside0 (w41.heap[gb460]?=some (.cells #[.slice A1_0 l1_0.length c1_0] 35 (0,0))):=⟨by rw [hW_];refine blk_far ?_ NB460_467.out _;refine blk_far ?_ NB460_467.out _;refine blk_far ?_ NB460_467.out _;exact BK460.out⟩
       have n3_:Aside0 (w41.heap[gb465]?=some (.cells #[.int .i64 x466000_1,.int .i64 x466001_1,.int .i64 x466002_1] 61 (0,0))):=⟨by rw [hW_];refine blk_far ?_ NB465_467.out _;refine blk_far ?_ NB465_467.out _;refine blk_far ?_ NB465_467.out _;exact BK465.out⟩
       have n4_:Aside0 (w41.heap[gb467]?=some (.cells #[.int .i64 ((rd_T61 l2 x25_1).f0),.int .i64 ((rd_T61 l2 x25_1).f1),.int .i64 ((rd_T61 l2 x25_1).f2)] 61 (0,0))):=⟨by rw [hW_];refine blk_put (cs:=#[.int .i64 ((rd_T61 l2 x25_1).f0),.int .i64 ((rd_T61 l2 x25_1).f1),.int .i64 0]) ?_ 2 _ rfl;refine blk_put (cs:=#[.int .i64 ((rd_T61 l2 x25_1).f0),.int .i64 0,.int .i64 0]) ?_ 1 _ rfl;refine blk_put (cs:=#[.int .i64 0,.int .i64 0,.int .i64 0]) ?_ 0 _ rfl;exact BK467.out⟩
       have n5_:Aside0 (Below w.heap.size w w41):=⟨by rw [hW_];exact be⟩
       (try clear HO_7)
       (try clear BK459)
       (try clear BK460)
       (try clear BK465)
       (try clear BK467)
       (try clear HB)
       rw [← hW_];clear hW_
       have HO_7:=n0_;have BK459:=n1_;have BK460:=n2_;have BK465:=n3_;have BK467:=n4_;have HB:=n5_;clear n0_ n1_ n2_ n3_ n4_ n5_
       (try (rw [drewN_self w41];generalize hq_:World.drewN w41 _=w41;have n0_:Aside0 (Kd.R (Kd.int .i64) 3 w41 w.heap.size (fun _=>True) v463 t462):=⟨by rw [← hq_];exact (rR HO_7)⟩;have n1_:Aside0 (w41.heap[gb459]?=some (.cells #[.int .i64 a0_0,.slice A0_1 l0_1.length c0_1] 26 (0,0))):=⟨by rw [← hq_];exact (bk BK459)⟩;have n2_:Aside0 (w41.heap[gb460]?=some (.cells #[.slice A1_0 l1_0.length c1_0] 35 (0,0))):=⟨by rw [← hq_];exact (bk BK460)⟩;have n3_:Aside0 (w41.heap[gb465]?=some (.cells #[.int .i64 x466000_1,.int .i64 x466001_1,.int .i64 x466002_1] 61 (0,0))):=⟨by rw [← hq_];exact (bk BK465)⟩;have n4_:Aside0 (w41.heap[gb467]?=some (.cells #[.int .i64 ((rd_T61 l2 x25_1).f0),.int .i64 ((rd_T61 l2 x25_1).f1),.int .i64 ((rd_T61 l2 x25_1).f2)] 61 (0,0))):=⟨by rw [← hq_];exact (bk BK467)⟩;have n5_:Aside0 (Below w.heap.size w w41):=⟨by rw [← hq_];exact be⟩;clear HO_7 BK459 BK460 BK465 BK467 HB hq_;have HO_7:=n0_;have BK459:=n1_;have BK460:=n2_;have BK465:=n3_;have BK467:=n4_;have HB:=n5_;clear n0_ n1_ n2_ n3_ n4_ n5_))
       replace HO_7:=aM (Kd.R_drew HO_7.out);replace BK459:=aM (blk_drew BK459.out);replace BK460:=aM (blk_drew BK460.out);replace BK465:=aM (blk_drew BK465.out);replace BK467:=aM (blk_drew BK467.out);replace HB:=aM (below_drew1 HB.out)
       refine start_ (n:=12) (S:=fun w'=>w'.cell? ⟨gb459,0,none⟩=some (.int .i64 a0_0)∧w'.cell? ⟨gb459,1,none⟩=some (.slice A0_1 l0_1.length c0_1)∧w'.cell? ⟨gb467,0,none⟩=some (.int .i64 ((rd_T61 l2 x25_1).f0))∧w'.cell? ⟨gb467,1,none⟩=some (.int .i64 ((rd_T61 l2 x25_1).f1))∧w'.cell? ⟨gb467,2,none⟩=some (.int .i64 ((rd_T61 l2 x25_1).f2))) (ds:=[]) (fl 12 0) (by kernel_rfl) rfl rfl ⟨bq BK459 0,bq BK459 1,bq BK467 0,bq BK467 1,bq BK467 2⟩ (fun hHeld=>?_);refine with_tabW impl_Best.tab9 impl_Best.bits9 (fun HT_ HW_=>?_)
       generalize w41.drew=w42 at HO_7 BK459 BK460 BK465 BK467 HB hHeld ⊢
       refine pt 1 35 (fl 12 2) HT_ ?_
       refine pt 5 39 (fl 12 34) HT_ ?_
       refine pt 6 40 (fl 12 98) HT_ ?_
       refine tt 0 34 (fl 12 99) HT_ HW_ hHeld ?_
       refine tt 2 36 (fl 12 103) HT_ HW_ hHeld ?_
       refine tt 7 41 (fl 12 231) HT_ HW_ hHeld ?_
       refine ot 3 (some 37) (fl 12 239) HT_ (fun K hK=>?_)
       refine goes_ Try.func35 (by kernel_rfl) rfl #[.agg #[.int .i64 a0_0,.slice A0_1 l0_1.length c0_1],.int .i64 ((rd_T61 l2 x25_1).f0)] (by rfl) rfl rfl (by (try simp only [List.map_toArray,List.map_cons,List.map_nil]);rfl) ?_
       with_reducible refine (impl_LoadOf.calls k1 a0_0 _ _ l0_1 ((rd_T61 l2 x25_1).f0) t469 _ ?side1 ?side2 A30.out).mono ?_
       (case side1=>exact rC HR0_1)
       (case side2=>exact HC0_1.out)
       rintro e w43 ⟨rfl,hb⟩
       refine ⟨_,rfl,?_⟩
       replace HO_7:=rB HO_7 hb;replace BK459:=bB BK459 hb;replace BK460:=bB BK460 hb;replace BK465:=bB BK465 hb;replace BK467:=bB BK467 hb;replace HB:=bs hb;(try clear hb);skip
       obtain ⟨Ao44,co44,eo44⟩:=Kd.R_slice HO_7.out
       (subst eo44)
       refine hK.out _ _ ⟨bq BK459 0,bq BK459 1,bq BK467 0,bq BK467 1,bq BK467 2⟩ (fun hHeld=>?_)
       clear hK K
       refine no 37 ?_
       refine pt 4 38 (fl 12 255) HT_ ?_
       refine ot 8 (some 42) (fl 12 511) HT_ (fun K hK=>?_)
       refine goes_ Try.func52 (by kernel_rfl) rfl #[.slice Ao44 t462.length co44,.int .i64 ((rd_T61 l2 x25_1).f1)] (by rfl) rfl rfl (by (try simp only [List.map_toArray,List.map_cons,List.map_nil]);rfl) ?_
       with_reducible refine (impl_hasInt.calls k1 _ _ t462 ((rd_T61 l2 x25_1).f1) t470 _ ?side1 ?side2 A31.out).mono ?_
       (case side1=>exact sR HO_7)
       (case side2=>exact (Kd.R_reads' HO_7.out).2.1)
       rintro e w' ⟨rfl,⟨nd,rfl⟩⟩
       refine ⟨_,rfl,?_⟩
       refine hK.out _ _ ⟨bq BK459 0,bq BK459 1,bq BK467 0,bq BK467 1,bq BK467 2⟩ (fun hHeld=>?_)
       clear hK K
       refine no 42 ?_
       refine pt 9 43 (fl 12 1023) HT_ ?_
       refine pt 10 13 (fl 12 2047) HT_ ?_
       refine pt 11 14 (fl 12 4095) HT_ ?_
       refine done_ (done_of HT_.out (by kernel_rfl)) ?_
       have hnb45:=NB465_459.out
       have hnc45:=NB459_465.out
       obtain ⟨hcz46_0,hcz46_1,hcz46_2,hfz46_0,hfz46_1,hfz46_2⟩:=b3 BK465
       obtain ⟨hcz47_0,hcz47_1,hcz47_2,hfz47_0,hfz47_1,hfz47_2⟩:=b3 BK467
       try go_wp2
       go_roundg k1
       case measure=>have:=HK1.out;omega
       case rel=>exact ⟨(wrap64 (t469+1)),(!t470),(wrap64 (x25_1+1)),((rd_T61 l2 x25_1).f0),((rd_T61 l2 x25_1).f1),((rd_T61 l2 x25_1).f2),rd_,rd_,rd_,H',⟨by have:=HK1.out;omega⟩,⟨by exact Kd.R_mono (Kd.R_far (p:=⟨gb465,2,none⟩) (Kd.R_far (p:=⟨gb465,1,none⟩) (Kd.R_far (p:=⟨gb465,0,none⟩) (Kd.R_types HO_7.out BK465.out (by decide)) (fun _ hk=>hk.2) (.int .i64 ((rd_T61 l2 x25_1).f0))) (fun _ hk=>hk.2) (.int .i64 ((rd_T61 l2 x25_1).f1))) (fun _ hk=>hk.2) (.int .i64 ((rd_T61 l2 x25_1).f2))) (fun _ hk=>trivial)⟩,⟨by refine blk_far ?_ NB459_465.out _;refine blk_far ?_ NB459_465.out _;refine blk_far ?_ NB459_465.out _;(with_reducible repeat (refine blk_drewN ?_ _));exact BK459.out⟩,⟨by refine blk_far ?_ NB460_465.out _;refine blk_far ?_ NB460_465.out _;refine blk_far ?_ NB460_465.out _;(with_reducible repeat (refine blk_drewN ?_ _));exact BK460.out⟩,⟨by refine blk_put (cs:=#[.int .i64 ((rd_T61 l2 x25_1).f0),.int .i64 ((rd_T61 l2 x25_1).f1),.int .i64 x466002_1]) ?_ 2 _ rfl;refine blk_put (cs:=#[.int .i64 ((rd_T61 l2 x25_1).f0),.int .i64 x466001_1,.int .i64 x466002_1]) ?_ 1 _ rfl;refine blk_put (cs:=#[.int .i64 x466000_1,.int .i64 x466001_1,.int .i64 x466002_1]) ?_ 0 _ rfl;(with_reducible repeat (refine blk_drewN ?_ _));exact BK465.out⟩,⟨be⟩⟩
      ·rw [if_neg c32] at H
       have c32b0:decide (x466000_1 < 0)=false:=decide_eq_false c32
       clear c32
       by_cases c48:t470=true
       ·subst c48
        rw [if_pos rfl] at H
        by_cases c49:((!true) == x10_1)=true
        ·rw [if_pos c49] at H
         have qc49:x10_1=false:=by simpa using c49
         clear c49
         subst qc49
         by_cases c50:(wrap64 ((wrap64 (t469+1)) * x466002_1)) < (wrap64 (x9_1 * ((rd_T61 l2 x25_1).f2)))
         ·rw [if_pos c50] at H
          have c50b0:decide ((wrap64 ((wrap64 (t469+1)) * x466002_1)) < (wrap64 (x9_1 * ((rd_T61 l2 x25_1).f2))))=true:=decide_eq_true c50
          clear c50
          have H':=Aside0.mk H
          clear H
          have p466:0≤(x25_1:Int):=od
          have q466:x25_1 < (l2.length:Int):=od
          obtain ⟨ad466,e466,hx466_0,hx466_1,hx466_2⟩:=at_T61 HR2.out x25_1 p466 q466
          cases e466
          replace hx466_0:=xH HB hx466_0
          replace hx466_1:=xH HB hx466_1
          replace hx466_2:=xH HB hx466_2
          replace p466:=eq_true p466
          replace q466:=eq_true q466
          try go_wp2_with (first|((with_reducible refine gate_dst (N:=12) rfl ?_);refine box_event ?hg (N:=12) ?hd (cs:=#[.int .i64 0,.int .i64 0,.int .i64 0]) (t:=61) ?hr ?_;(case hd=>rfl);(case hg=>rfl);(case hr=>(go_simp;done));intro gb467 hg w51 hbox hb;replace HO_7:=rB HO_7 hb;have BK467:=aM (hbox);have GW467:=gS w hg;have GE467:=gS w hg;replace HB:=bs hb;have NB459_467:=nL hg BK459;have NB467_459:=nG hg BK459;replace BK459:=bB BK459 hb;have NB460_467:=nL hg BK460;have NB467_460:=nG hg BK460;replace BK460:=bB BK460 hb;have NB465_467:=nL hg BK465;have NB467_465:=nG hg BK465;replace BK465:=bB BK465 hb;clear hb hbox hg;have hnb52:=NB467_459.out;have hnc52:=NB459_467.out;have hnb53:=NB467_460.out;have hnc53:=NB460_467.out;have hnb54:=NB467_465.out;have hnc54:=NB465_467.out;obtain ⟨hcz55_0,hcz55_1,hcz55_2,hfz55_0,hfz55_1,hfz55_2⟩:=b3 BK467;have hnb56:=NB460_459.out;have hnc56:=NB459_460.out;have hnb57:=NB460_465.out;have hnc57:=NB465_460.out;obtain ⟨hcz58_0,hfz58_0⟩:=b1 BK460)|((with_reducible refine gate_callee (f:=52) rfl ?_);refine goesL_ (some 33) rfl rfl Try.func52 (by kernel_rfl) rfl #[.slice A1_0 l1_0.length c1_0,.int .i64 ((rd_T61 l2 x25_1).f0)] rfl (by (try simp only [List.map_toArray,List.map_cons,List.map_nil]);rfl) ?_;(with_reducible refine (impl_hasInt.calls k1 _ _ l1_0 ((rd_T61 l2 x25_1).f0) false _ ?side1 ?side2 A20.out).mono ?_);(case side1=>exact Kd.C_below HR1_0.out be);(case side2=>exact HC1_0.out);rintro e w' ⟨rfl,⟨nd,rfl⟩⟩;refine ⟨_,rfl,?_⟩))
          obtain ⟨w59,hW_⟩ : ∃ W_:World,W_=(((w51.setCell ⟨gb467,0,none⟩ (.int .i64 ((rd_T61 l2 x25_1).f0))).setCell ⟨gb467,1,none⟩ (.int .i64 ((rd_T61 l2 x25_1).f1))).setCell ⟨gb467,2,none⟩ (.int .i64 ((rd_T61 l2 x25_1).f2))):=⟨_,rfl⟩
          have n0_:Aside0 (Kd.R (Kd.int .i64) 3 w59 w.heap.size (fun _=>True) v463 t462):=⟨by rw [hW_];exact Kd.R_mono (Kd.R_far (p:=⟨gb467,2,none⟩) (Kd.R_far (p:=⟨gb467,1,none⟩) (Kd.R_far (p:=⟨gb467,0,none⟩) (Kd.R_types HO_7.out BK467.out (by decide)) (fun _ hk=>hk.2) (.int .i64 ((rd_T61 l2 x25_1).f0))) (fun _ hk=>hk.2) (.int .i64 ((rd_T61 l2 x25_1).f1))) (fun _ hk=>hk.2) (.int .i64 ((rd_T61 l2 x25_1).f2))) (fun _ hk=>trivial)⟩
          have n1_:Aside0 (w59.heap[gb459]?=some (.cells #[.int .i64 a0_0,.slice A0_1 l0_1.length c0_1] 26 (0,0))):=⟨by rw [hW_];refine blk_far ?_ NB459_467.out _;refine blk_far ?_ NB459_467.out _;refine blk_far ?_ NB459_467.out _;exact BK459.out⟩
          have n2_:Aside0 (w59.heap[gb460]?=some (.cells #[.slice A1_0 l1_0.length c1_0] 35 (0,0))):=⟨by rw [hW_];refine blk_far ?_ NB460_467.out _;refine blk_far ?_ NB460_467.out _;refine blk_far ?_ NB460_467.out _;exact BK460.out⟩
          have n3_:Aside0 (w59.heap[gb465]?=some (.cells #[.int .i64 x466000_1,.int .i64 x466001_1,.int .i64 x466002_1] 61 (0,0))):=⟨by rw [hW_];refine blk_far ?_ NB465_467.out _;refine blk_far ?_ NB465_467.out _;refine blk_far ?_ NB465_467.out _;exact BK465.out⟩
          have n4_:Aside0 (w59.heap[gb467]?=some (.cells #[.int .i64 ((rd_T61 l2 x25_1).f0),.int .i64 ((rd_T61 l2 x25_1).f1),.int .i64 ((rd_T61 l2 x25_1).f2)] 61 (0,0))):=⟨by rw [hW_];refine blk_put (cs:=#[.int .i64 ((rd_T61 l2 x25_1).f0),.int .i64 ((rd_T61 l2 x25_1).f1),.int .i64 0]) ?_ 2 _ rfl;refine blk_put (cs:=#[.int .i64 ((rd_T61 l2 x25_1).f0),.int .i64 0,.int .i64 0]) ?_ 1 _ rfl;refine blk_put (cs:=#[.int .i64 0,.int .i64 0,.int .i64 0]) ?_ 0 _ rfl;exact BK467.out⟩
          have n5_:Aside0 (Below w.heap.size w w59):=⟨by rw [hW_];exact be⟩
          (try clear HO_7)
          (try clear BK459)
          (try clear BK460)
          (try clear BK465)
          (try clear BK467)
          (try clear HB)
          rw [← hW_];clear hW_
          have HO_7:=n0_;have BK459:=n1_;have BK460:=n2_;have BK465:=n3_;have BK467:=n4_;have HB:=n5_;clear n0_ n1_ n2_ n3_ n4_ n5_
          (try (rw [drewN_self w59];generalize hq_:World.drewN w59 _=w59;have n0_:Aside0 (Kd.R (Kd.int .i64) 3 w59 w.heap.size (fun _=>True) v463 t462):=⟨by rw [← hq_];exact (rR HO_7)⟩;have n1_:Aside0 (w59.heap[gb459]?=some (.cells #[.int .i64 a0_0,.slice A0_1 l0_1.length c0_1] 26 (0,0))):=⟨by rw [← hq_];exact (bk BK459)⟩;have n2_:Aside0 (w59.heap[gb460]?=some (.cells #[.slice A1_0 l1_0.length c1_0] 35 (0,0))):=⟨by rw [← hq_];exact (bk BK460)⟩;have n3_:Aside0 (w59.heap[gb465]?=some (.cells #[.int .i64 x466000_1,.int .i64 x466001_1,.int .i64 x466002_1] 61 (0,0))):=⟨by rw [← hq_];exact (bk BK465)⟩;have n4_:Aside0 (w59.heap[gb467]?=some (.cells #[.int .i64 ((rd_T61 l2 x25_1).f0),.int .i64 ((rd_T61 l2 x25_1).f1),.int .i64 ((rd_T61 l2 x25_1).f2)] 61 (0,0))):=⟨by rw [← hq_];exact (bk BK467)⟩;have n5_:Aside0 (Below w.heap.size w w59):=⟨by rw [← hq_];exact be⟩;clear HO_7 BK459 BK460 BK465 BK467 HB hq_;have HO_7:=n0_;have BK459:=n1_;have BK460:=n2_;have BK465:=n3_;have BK467:=n4_;have HB:=n5_;clear n0_ n1_ n2_ n3_ n4_ n5_))
          replace HO_7:=aM (Kd.R_drew HO_7.out);replace BK459:=aM (blk_drew BK459.out);replace BK460:=aM (blk_drew BK460.out);replace BK465:=aM (blk_drew BK465.out);replace BK467:=aM (blk_drew BK467.out);replace HB:=aM (below_drew1 HB.out)
          refine start_ (n:=12) (S:=fun w'=>w'.cell? ⟨gb459,0,none⟩=some (.int .i64 a0_0)∧w'.cell? ⟨gb459,1,none⟩=some (.slice A0_1 l0_1.length c0_1)∧w'.cell? ⟨gb467,0,none⟩=some (.int .i64 ((rd_T61 l2 x25_1).f0))∧w'.cell? ⟨gb467,1,none⟩=some (.int .i64 ((rd_T61 l2 x25_1).f1))∧w'.cell? ⟨gb467,2,none⟩=some (.int .i64 ((rd_T61 l2 x25_1).f2))) (ds:=[]) (fl 12 0) (by kernel_rfl) rfl rfl ⟨bq BK459 0,bq BK459 1,bq BK467 0,bq BK467 1,bq BK467 2⟩ (fun hHeld=>?_);refine with_tabW impl_Best.tab9 impl_Best.bits9 (fun HT_ HW_=>?_)
          generalize w59.drew=w60 at HO_7 BK459 BK460 BK465 BK467 HB hHeld ⊢
          refine pt 1 35 (fl 12 2) HT_ ?_
          refine pt 5 39 (fl 12 34) HT_ ?_
          refine pt 6 40 (fl 12 98) HT_ ?_
          refine tt 0 34 (fl 12 99) HT_ HW_ hHeld ?_
          refine tt 2 36 (fl 12 103) HT_ HW_ hHeld ?_
          refine tt 7 41 (fl 12 231) HT_ HW_ hHeld ?_
          refine ot 3 (some 37) (fl 12 239) HT_ (fun K hK=>?_)
          refine goes_ Try.func35 (by kernel_rfl) rfl #[.agg #[.int .i64 a0_0,.slice A0_1 l0_1.length c0_1],.int .i64 ((rd_T61 l2 x25_1).f0)] (by rfl) rfl rfl (by (try simp only [List.map_toArray,List.map_cons,List.map_nil]);rfl) ?_
          with_reducible refine (impl_LoadOf.calls k1 a0_0 _ _ l0_1 ((rd_T61 l2 x25_1).f0) t469 _ ?side1 ?side2 A30.out).mono ?_
          (case side1=>exact rC HR0_1)
          (case side2=>exact HC0_1.out)
          rintro e w61 ⟨rfl,hb⟩
          refine ⟨_,rfl,?_⟩
          replace HO_7:=rB HO_7 hb;replace BK459:=bB BK459 hb;replace BK460:=bB BK460 hb;replace BK465:=bB BK465 hb;replace BK467:=bB BK467 hb;replace HB:=bs hb;(try clear hb);skip
          obtain ⟨Ao62,co62,eo62⟩:=Kd.R_slice HO_7.out
          (subst eo62)
          refine hK.out _ _ ⟨bq BK459 0,bq BK459 1,bq BK467 0,bq BK467 1,bq BK467 2⟩ (fun hHeld=>?_)
          clear hK K
          refine no 37 ?_
          refine pt 4 38 (fl 12 255) HT_ ?_
          refine ot 8 (some 42) (fl 12 511) HT_ (fun K hK=>?_)
          refine goes_ Try.func52 (by kernel_rfl) rfl #[.slice Ao62 t462.length co62,.int .i64 ((rd_T61 l2 x25_1).f1)] (by rfl) rfl rfl (by (try simp only [List.map_toArray,List.map_cons,List.map_nil]);rfl) ?_
          with_reducible refine (impl_hasInt.calls k1 _ _ t462 ((rd_T61 l2 x25_1).f1) true _ ?side1 ?side2 A31.out).mono ?_
          (case side1=>exact sR HO_7)
          (case side2=>exact (Kd.R_reads' HO_7.out).2.1)
          rintro e w' ⟨rfl,⟨nd,rfl⟩⟩
          refine ⟨_,rfl,?_⟩
          refine hK.out _ _ ⟨bq BK459 0,bq BK459 1,bq BK467 0,bq BK467 1,bq BK467 2⟩ (fun hHeld=>?_)
          clear hK K
          refine no 42 ?_
          refine pt 9 43 (fl 12 1023) HT_ ?_
          refine pt 10 13 (fl 12 2047) HT_ ?_
          refine pt 11 14 (fl 12 4095) HT_ ?_
          refine done_ (done_of HT_.out (by kernel_rfl)) ?_
          have hnb63:=NB465_459.out
          have hnc63:=NB459_465.out
          obtain ⟨hcz64_0,hcz64_1,hcz64_2,hfz64_0,hfz64_1,hfz64_2⟩:=b3 BK465
          obtain ⟨hcz65_0,hcz65_1,hcz65_2,hfz65_0,hfz65_1,hfz65_2⟩:=b3 BK467
          try go_wp2
          go_roundg k1
          case measure=>have:=HK1.out;omega
          case rel=>exact ⟨(wrap64 (t469+1)),(!true),(wrap64 (x25_1+1)),((rd_T61 l2 x25_1).f0),((rd_T61 l2 x25_1).f1),((rd_T61 l2 x25_1).f2),rd_,rd_,rd_,H',⟨by have:=HK1.out;omega⟩,⟨by exact Kd.R_mono (Kd.R_far (p:=⟨gb465,2,none⟩) (Kd.R_far (p:=⟨gb465,1,none⟩) (Kd.R_far (p:=⟨gb465,0,none⟩) (Kd.R_types HO_7.out BK465.out (by decide)) (fun _ hk=>hk.2) (.int .i64 ((rd_T61 l2 x25_1).f0))) (fun _ hk=>hk.2) (.int .i64 ((rd_T61 l2 x25_1).f1))) (fun _ hk=>hk.2) (.int .i64 ((rd_T61 l2 x25_1).f2))) (fun _ hk=>trivial)⟩,⟨by refine blk_far ?_ NB459_465.out _;refine blk_far ?_ NB459_465.out _;refine blk_far ?_ NB459_465.out _;(with_reducible repeat (refine blk_drewN ?_ _));exact BK459.out⟩,⟨by refine blk_far ?_ NB460_465.out _;refine blk_far ?_ NB460_465.out _;refine blk_far ?_ NB460_465.out _;(with_reducible repeat (refine blk_drewN ?_ _));exact BK460.out⟩,⟨by refine blk_put (cs:=#[.int .i64 ((rd_T61 l2 x25_1).f0),.int .i64 ((rd_T61 l2 x25_1).f1),.int .i64 x466002_1]) ?_ 2 _ rfl;refine blk_put (cs:=#[.int .i64 ((rd_T61 l2 x25_1).f0),.int .i64 x466001_1,.int .i64 x466002_1]) ?_ 1 _ rfl;refine blk_put (cs:=#[.int .i64 x466000_1,.int .i64 x466001_1,.int .i64 x466002_1]) ?_ 0 _ rfl;(with_reducible repeat (refine blk_drewN ?_ _));exact BK465.out⟩,⟨be⟩⟩
         ·rw [if_neg c50] at H
          have c50b0:decide ((wrap64 ((wrap64 (t469+1)) * x466002_1)) < (wrap64 (x9_1 * ((rd_T61 l2 x25_1).f2))))=false:=decide_eq_false c50
          clear c50
          have H':=Aside0.mk H
          clear H
          have p466:0≤(x25_1:Int):=od
          have q466:x25_1 < (l2.length:Int):=od
          obtain ⟨ad466,e466,hx466_0,hx466_1,hx466_2⟩:=at_T61 HR2.out x25_1 p466 q466
          cases e466
          replace hx466_0:=xH HB hx466_0
          replace hx466_1:=xH HB hx466_1
          replace hx466_2:=xH HB hx466_2
          replace p466:=eq_true p466
          replace q466:=eq_true q466
          try go_wp2_with (first|((with_reducible refine gate_dst (N:=12) rfl ?_);refine box_event ?hg (N:=12) ?hd (cs:=#[.int .i64 0,.int .i64 0,.int .i64 0]) (t:=61) ?hr ?_;(case hd=>rfl);(case hg=>rfl);(case hr=>(go_simp;done));intro gb467 hg w66 hbox hb;replace HO_7:=rB HO_7 hb;have BK467:=aM (hbox);have GW467:=gS w hg;have GE467:=gS w hg;replace HB:=bs hb;have NB459_467:=nL hg BK459;have NB467_459:=nG hg BK459;replace BK459:=bB BK459 hb;have NB460_467:=nL hg BK460;have NB467_460:=nG hg BK460;replace BK460:=bB BK460 hb;have NB465_467:=nL hg BK465;have NB467_465:=nG hg BK465;replace BK465:=bB BK465 hb;clear hb hbox hg;have hnb67:=NB467_459.out;have hnc67:=NB459_467.out;have hnb68:=NB467_460.out;have hnc68:=NB460_467.out;have hnb69:=NB467_465.out;have hnc69:=NB465_467.out;obtain ⟨hcz70_0,hcz70_1,hcz70_2,hfz70_0,hfz70_1,hfz70_2⟩:=b3 BK467;have hnb71:=NB460_459.out;have hnc71:=NB459_460.out;have hnb72:=NB460_465.out;have hnc72:=NB465_460.out;obtain ⟨hcz73_0,hfz73_0⟩:=b1 BK460)|((with_reducible refine gate_callee (f:=52) rfl ?_);refine goesL_ (some 33) rfl rfl Try.func52 (by kernel_rfl) rfl #[.slice A1_0 l1_0.length c1_0,.int .i64 ((rd_T61 l2 x25_1).f0)] rfl (by (try simp only [List.map_toArray,List.map_cons,List.map_nil]);rfl) ?_;(with_reducible refine (impl_hasInt.calls k1 _ _ l1_0 ((rd_T61 l2 x25_1).f0) false _ ?side1 ?side2 A20.out).mono ?_);(case side1=>exact Kd.C_below HR1_0.out be);(case side2=>exact HC1_0.out);rintro e w' ⟨rfl,⟨nd,rfl⟩⟩;refine ⟨_,rfl,?_⟩))
          obtain ⟨w74,hW_⟩ : ∃ W_:World,W_=(((w66.setCell ⟨gb467,0,none⟩ (.int .i64 ((rd_T61 l2 x25_1).f0))).setCell ⟨gb467,1,none⟩ (.int .i64 ((rd_T61 l2 x25_1).f1))).setCell ⟨gb467,2,none⟩ (.int .i64 ((rd_T61 l2 x25_1).f2))):=⟨_,rfl⟩
          have n0_:Aside0 (Kd.R (Kd.int .i64) 3 w74 w.heap.size (fun _=>True) v463 t462):=⟨by rw [hW_];exact Kd.R_mono (Kd.R_far (p:=⟨gb467,2,none⟩) (Kd.R_far (p:=⟨gb467,1,none⟩) (Kd.R_far (p:=⟨gb467,0,none⟩) (Kd.R_types HO_7.out BK467.out (by decide)) (fun _ hk=>hk.2) (.int .i64 ((rd_T61 l2 x25_1).f0))) (fun _ hk=>hk.2) (.int .i64 ((rd_T61 l2 x25_1).f1))) (fun _ hk=>hk.2) (.int .i64 ((rd_T61 l2 x25_1).f2))) (fun _ hk=>trivial)⟩
          have n1_:Aside0 (w74.heap[gb459]?=some (.cells #[.int .i64 a0_0,.slice A0_1 l0_1.length c0_1] 26 (0,0))):=⟨by rw [hW_];refine blk_far ?_ NB459_467.out _;refine blk_far ?_ NB459_467.out _;refine blk_far ?_ NB459_467.out _;exact BK459.out⟩
          have n2_:Aside0 (w74.heap[gb460]?=some (.cells #[.slice A1_0 l1_0.length c1_0] 35 (0,0))):=⟨by rw [hW_];refine blk_far ?_ NB460_467.out _;refine blk_far ?_ NB460_467.out _;refine blk_far ?_ NB460_467.out _;exact BK460.out⟩
          have n3_:Aside0 (w74.heap[gb465]?=some (.cells #[.int .i64 x466000_1,.int .i64 x466001_1,.int .i64 x466002_1] 61 (0,0))):=⟨by rw [hW_];refine blk_far ?_ NB465_467.out _;refine blk_far ?_ NB465_467.out _;refine blk_far ?_ NB465_467.out _;exact BK465.out⟩
          have n4_:Aside0 (w74.heap[gb467]?=some (.cells #[.int .i64 ((rd_T61 l2 x25_1).f0),.int .i64 ((rd_T61 l2 x25_1).f1),.int .i64 ((rd_T61 l2 x25_1).f2)] 61 (0,0))):=⟨by rw [hW_];refine blk_put (cs:=#[.int .i64 ((rd_T61 l2 x25_1).f0),.int .i64 ((rd_T61 l2 x25_1).f1),.int .i64 0]) ?_ 2 _ rfl;refine blk_put (cs:=#[.int .i64 ((rd_T61 l2 x25_1).f0),.int .i64 0,.int .i64 0]) ?_ 1 _ rfl;refine blk_put (cs:=#[.int .i64 0,.int .i64 0,.int .i64 0]) ?_ 0 _ rfl;exact BK467.out⟩
          have n5_:Aside0 (Below w.heap.size w w74):=⟨by rw [hW_];exact be⟩
          (try clear HO_7)
          (try clear BK459)
          (try clear BK460)
          (try clear BK465)
          (try clear BK467)
          (try clear HB)
          rw [← hW_];clear hW_
          have HO_7:=n0_;have BK459:=n1_;have BK460:=n2_;have BK465:=n3_;have BK467:=n4_;have HB:=n5_;clear n0_ n1_ n2_ n3_ n4_ n5_
          (try (rw [drewN_self w74];generalize hq_:World.drewN w74 _=w74;have n0_:Aside0 (Kd.R (Kd.int .i64) 3 w74 w.heap.size (fun _=>True) v463 t462):=⟨by rw [← hq_];exact (rR HO_7)⟩;have n1_:Aside0 (w74.heap[gb459]?=some (.cells #[.int .i64 a0_0,.slice A0_1 l0_1.length c0_1] 26 (0,0))):=⟨by rw [← hq_];exact (bk BK459)⟩;have n2_:Aside0 (w74.heap[gb460]?=some (.cells #[.slice A1_0 l1_0.length c1_0] 35 (0,0))):=⟨by rw [← hq_];exact (bk BK460)⟩;have n3_:Aside0 (w74.heap[gb465]?=some (.cells #[.int .i64 x466000_1,.int .i64 x466001_1,.int .i64 x466002_1] 61 (0,0))):=⟨by rw [← hq_];exact (bk BK465)⟩;have n4_:Aside0 (w74.heap[gb467]?=some (.cells #[.int .i64 ((rd_T61 l2 x25_1).f0),.int .i64 ((rd_T61 l2 x25_1).f1),.int .i64 ((rd_T61 l2 x25_1).f2)] 61 (0,0))):=⟨by rw [← hq_];exact (bk BK467)⟩;have n5_:Aside0 (Below w.heap.size w w74):=⟨by rw [← hq_];exact be⟩;clear HO_7 BK459 BK460 BK465 BK467 HB hq_;have HO_7:=n0_;have BK459:=n1_;have BK460:=n2_;have BK465:=n3_;have BK467:=n4_;have HB:=n5_;clear n0_ n1_ n2_ n3_ n4_ n5_))
          replace HO_7:=aM (Kd.R_drew HO_7.out);replace BK459:=aM (blk_drew BK459.out);replace BK460:=aM (blk_drew BK460.out);replace BK465:=aM (blk_drew BK465.out);replace BK467:=aM (blk_drew BK467.out);replace HB:=aM (below_drew1 HB.out)
          refine start_ (n:=12) (S:=fun w'=>w'.cell? ⟨gb459,0,none⟩=some (.int .i64 a0_0)∧w'.cell? ⟨gb459,1,none⟩=some (.slice A0_1 l0_1.length c0_1)∧w'.cell? ⟨gb467,0,none⟩=some (.int .i64 ((rd_T61 l2 x25_1).f0))∧w'.cell? ⟨gb467,1,none⟩=some (.int .i64 ((rd_T61 l2 x25_1).f1))∧w'.cell? ⟨gb467,2,none⟩=some (.int .i64 ((rd_T61 l2 x25_1).f2))) (ds:=[]) (fl 12 0) (by kernel_rfl) rfl rfl ⟨bq BK459 0,bq BK459 1,bq BK467 0,bq BK467 1,bq BK467 2⟩ (fun hHeld=>?_);refine with_tabW impl_Best.tab9 impl_Best.bits9 (fun HT_ HW_=>?_)
          generalize w74.drew=w75 at HO_7 BK459 BK460 BK465 BK467 HB hHeld ⊢
          refine pt 1 35 (fl 12 2) HT_ ?_
          refine pt 5 39 (fl 12 34) HT_ ?_
          refine pt 6 40 (fl 12 98) HT_ ?_
          refine tt 0 34 (fl 12 99) HT_ HW_ hHeld ?_
          refine tt 2 36 (fl 12 103) HT_ HW_ hHeld ?_
          refine tt 7 41 (fl 12 231) HT_ HW_ hHeld ?_
          refine ot 3 (some 37) (fl 12 239) HT_ (fun K hK=>?_)
          refine goes_ Try.func35 (by kernel_rfl) rfl #[.agg #[.int .i64 a0_0,.slice A0_1 l0_1.length c0_1],.int .i64 ((rd_T61 l2 x25_1).f0)] (by rfl) rfl rfl (by (try simp only [List.map_toArray,List.map_cons,List.map_nil]);rfl) ?_
          with_reducible refine (impl_LoadOf.calls k1 a0_0 _ _ l0_1 ((rd_T61 l2 x25_1).f0) t469 _ ?side1 ?side2 A30.out).mono ?_
          (case side1=>exact rC HR0_1)
          (case side2=>exact HC0_1.out)
          rintro e w76 ⟨rfl,hb⟩
          refine ⟨_,rfl,?_⟩
          replace HO_7:=rB HO_7 hb;replace BK459:=bB BK459 hb;replace BK460:=bB BK460 hb;replace BK465:=bB BK465 hb;replace BK467:=bB BK467 hb;replace HB:=bs hb;(try clear hb);skip
          obtain ⟨Ao77,co77,eo77⟩:=Kd.R_slice HO_7.out
          (subst eo77)
          refine hK.out _ _ ⟨bq BK459 0,bq BK459 1,bq BK467 0,bq BK467 1,bq BK467 2⟩ (fun hHeld=>?_)
          clear hK K
          refine no 37 ?_
          refine pt 4 38 (fl 12 255) HT_ ?_
          refine ot 8 (some 42) (fl 12 511) HT_ (fun K hK=>?_)
          refine goes_ Try.func52 (by kernel_rfl) rfl #[.slice Ao77 t462.length co77,.int .i64 ((rd_T61 l2 x25_1).f1)] (by rfl) rfl rfl (by (try simp only [List.map_toArray,List.map_cons,List.map_nil]);rfl) ?_
          with_reducible refine (impl_hasInt.calls k1 _ _ t462 ((rd_T61 l2 x25_1).f1) true _ ?side1 ?side2 A31.out).mono ?_
          (case side1=>exact sR HO_7)
          (case side2=>exact (Kd.R_reads' HO_7.out).2.1)
          rintro e w' ⟨rfl,⟨nd,rfl⟩⟩
          refine ⟨_,rfl,?_⟩
          refine hK.out _ _ ⟨bq BK459 0,bq BK459 1,bq BK467 0,bq BK467 1,bq BK467 2⟩ (fun hHeld=>?_)
          clear hK K
          refine no 42 ?_
          refine pt 9 43 (fl 12 1023) HT_ ?_
          refine pt 10 13 (fl 12 2047) HT_ ?_
          refine pt 11 14 (fl 12 4095) HT_ ?_
          refine done_ (done_of HT_.out (by kernel_rfl)) ?_
          have hnb78:=NB465_459.out
          have hnc78:=NB459_465.out
          obtain ⟨hcz79_0,hcz79_1,hcz79_2,hfz79_0,hfz79_1,hfz79_2⟩:=b3 BK465
          obtain ⟨hcz80_0,hcz80_1,hcz80_2,hfz80_0,hfz80_1,hfz80_2⟩:=b3 BK467
          try go_wp2
          go_roundg k1
          case measure=>have:=HK1.out;omega
          case rel=>exact ⟨(x9_1),(false),(wrap64 (x25_1+1)),(x466000_1),(x466001_1),(x466002_1),rd_,rd_,rd_,H',⟨by have:=HK1.out;omega⟩,⟨rR HO_7⟩,⟨bk BK459⟩,⟨bk BK460⟩,⟨bk BK465⟩,⟨be⟩⟩
        ·rw [if_neg c49] at H
         have qc49:x10_1=true:=by simpa using c49
         clear c49
         subst qc49
         have H':=Aside0.mk H
         clear H
         have p466:0≤(x25_1:Int):=od
         have q466:x25_1 < (l2.length:Int):=od
         obtain ⟨ad466,e466,hx466_0,hx466_1,hx466_2⟩:=at_T61 HR2.out x25_1 p466 q466
         cases e466
         replace hx466_0:=xH HB hx466_0
         replace hx466_1:=xH HB hx466_1
         replace hx466_2:=xH HB hx466_2
         replace p466:=eq_true p466
         replace q466:=eq_true q466
         try go_wp2_with (first|((with_reducible refine gate_dst (N:=12) rfl ?_);refine box_event ?hg (N:=12) ?hd (cs:=#[.int .i64 0,.int .i64 0,.int .i64 0]) (t:=61) ?hr ?_;(case hd=>rfl);(case hg=>rfl);(case hr=>(go_simp;done));intro gb467 hg w81 hbox hb;replace HO_7:=rB HO_7 hb;have BK467:=aM (hbox);have GW467:=gS w hg;have GE467:=gS w hg;replace HB:=bs hb;have NB459_467:=nL hg BK459;have NB467_459:=nG hg BK459;replace BK459:=bB BK459 hb;have NB460_467:=nL hg BK460;have NB467_460:=nG hg BK460;replace BK460:=bB BK460 hb;have NB465_467:=nL hg BK465;have NB467_465:=nG hg BK465;replace BK465:=bB BK465 hb;clear hb hbox hg;have hnb82:=NB467_459.out;have hnc82:=NB459_467.out;have hnb83:=NB467_460.out;have hnc83:=NB460_467.out;have hnb84:=NB467_465.out;have hnc84:=NB465_467.out;obtain ⟨hcz85_0,hcz85_1,hcz85_2,hfz85_0,hfz85_1,hfz85_2⟩:=b3 BK467;have hnb86:=NB460_459.out;have hnc86:=NB459_460.out;have hnb87:=NB460_465.out;have hnc87:=NB465_460.out;obtain ⟨hcz88_0,hfz88_0⟩:=b1 BK460)|((with_reducible refine gate_callee (f:=52) rfl ?_);refine goesL_ (some 33) rfl rfl Try.func52 (by kernel_rfl) rfl #[.slice A1_0 l1_0.length c1_0,.int .i64 ((rd_T61 l2 x25_1).f0)] rfl (by (try simp only [List.map_toArray,List.map_cons,List.map_nil]);rfl) ?_;(with_reducible refine (impl_hasInt.calls k1 _ _ l1_0 ((rd_T61 l2 x25_1).f0) false _ ?side1 ?side2 A20.out).mono ?_);(case side1=>exact Kd.C_below HR1_0.out be);(case side2=>exact HC1_0.out);rintro e w' ⟨rfl,⟨nd,rfl⟩⟩;refine ⟨_,rfl,?_⟩))
         obtain ⟨w89,hW_⟩ : ∃ W_:World,W_=(((w81.setCell ⟨gb467,0,none⟩ (.int .i64 ((rd_T61 l2 x25_1).f0))).setCell ⟨gb467,1,none⟩ (.int .i64 ((rd_T61 l2 x25_1).f1))).setCell ⟨gb467,2,none⟩ (.int .i64 ((rd_T61 l2 x25_1).f2))):=⟨_,rfl⟩
         have n0_:Aside0 (Kd.R (Kd.int .i64) 3 w89 w.heap.size (fun _=>True) v463 t462):=⟨by rw [hW_];exact Kd.R_mono (Kd.R_far (p:=⟨gb467,2,none⟩) (Kd.R_far (p:=⟨gb467,1,none⟩) (Kd.R_far (p:=⟨gb467,0,none⟩) (Kd.R_types HO_7.out BK467.out (by decide)) (fun _ hk=>hk.2) (.int .i64 ((rd_T61 l2 x25_1).f0))) (fun _ hk=>hk.2) (.int .i64 ((rd_T61 l2 x25_1).f1))) (fun _ hk=>hk.2) (.int .i64 ((rd_T61 l2 x25_1).f2))) (fun _ hk=>trivial)⟩
         have n1_:Aside0 (w89.heap[gb459]?=some (.cells #[.int .i64 a0_0,.slice A0_1 l0_1.length c0_1] 26 (0,0))):=⟨by rw [hW_];refine blk_far ?_ NB459_467.out _;refine blk_far ?_ NB459_467.out _;refine blk_far ?_ NB459_467.out _;exact BK459.out⟩
         have n2_:Aside0 (w89.heap[gb460]?=some (.cells #[.slice A1_0 l1_0.length c1_0] 35 (0,0))):=⟨by rw [hW_];refine blk_far ?_ NB460_467.out _;refine blk_far ?_ NB460_467.out _;refine blk_far ?_ NB460_467.out _;exact BK460.out⟩
         have n3_:Aside0 (w89.heap[gb465]?=some (.cells #[.int .i64 x466000_1,.int .i64 x466001_1,.int .i64 x466002_1] 61 (0,0))):=⟨by rw [hW_];refine blk_far ?_ NB465_467.out _;refine blk_far ?_ NB465_467.out _;refine blk_far ?_ NB465_467.out _;exact BK465.out⟩
         have n4_:Aside0 (w89.heap[gb467]?=some (.cells #[.int .i64 ((rd_T61 l2 x25_1).f0),.int .i64 ((rd_T61 l2 x25_1).f1),.int .i64 ((rd_T61 l2 x25_1).f2)] 61 (0,0))):=⟨by rw [hW_];refine blk_put (cs:=#[.int .i64 ((rd_T61 l2 x25_1).f0),.int .i64 ((rd_T61 l2 x25_1).f1),.int .i64 0]) ?_ 2 _ rfl;refine blk_put (cs:=#[.int .i64 ((rd_T61 l2 x25_1).f0),.int .i64 0,.int .i64 0]) ?_ 1 _ rfl;refine blk_put (cs:=#[.int .i64 0,.int .i64 0,.int .i64 0]) ?_ 0 _ rfl;exact BK467.out⟩
         have n5_:Aside0 (Below w.heap.size w w89):=⟨by rw [hW_];exact be⟩
         (try clear HO_7)
         (try clear BK459)
         (try clear BK460)
         (try clear BK465)
         (try clear BK467)
         (try clear HB)
         rw [← hW_];clear hW_
         have HO_7:=n0_;have BK459:=n1_;have BK460:=n2_;have BK465:=n3_;have BK467:=n4_;have HB:=n5_;clear n0_ n1_ n2_ n3_ n4_ n5_
         (try (rw [drewN_self w89];generalize hq_:World.drewN w89 _=w89;have n0_:Aside0 (Kd.R (Kd.int .i64) 3 w89 w.heap.size (fun _=>True) v463 t462):=⟨by rw [← hq_];exact (rR HO_7)⟩;have n1_:Aside0 (w89.heap[gb459]?=some (.cells #[.int .i64 a0_0,.slice A0_1 l0_1.length c0_1] 26 (0,0))):=⟨by rw [← hq_];exact (bk BK459)⟩;have n2_:Aside0 (w89.heap[gb460]?=some (.cells #[.slice A1_0 l1_0.length c1_0] 35 (0,0))):=⟨by rw [← hq_];exact (bk BK460)⟩;have n3_:Aside0 (w89.heap[gb465]?=some (.cells #[.int .i64 x466000_1,.int .i64 x466001_1,.int .i64 x466002_1] 61 (0,0))):=⟨by rw [← hq_];exact (bk BK465)⟩;have n4_:Aside0 (w89.heap[gb467]?=some (.cells #[.int .i64 ((rd_T61 l2 x25_1).f0),.int .i64 ((rd_T61 l2 x25_1).f1),.int .i64 ((rd_T61 l2 x25_1).f2)] 61 (0,0))):=⟨by rw [← hq_];exact (bk BK467)⟩;have n5_:Aside0 (Below w.heap.size w w89):=⟨by rw [← hq_];exact be⟩;clear HO_7 BK459 BK460 BK465 BK467 HB hq_;have HO_7:=n0_;have BK459:=n1_;have BK460:=n2_;have BK465:=n3_;have BK467:=n4_;have HB:=n5_;clear n0_ n1_ n2_ n3_ n4_ n5_))
         replace HO_7:=aM (Kd.R_drew HO_7.out);replace BK459:=aM (blk_drew BK459.out);replace BK460:=aM (blk_drew BK460.out);replace BK465:=aM (blk_drew BK465.out);replace BK467:=aM (blk_drew BK467.out);replace HB:=aM (below_drew1 HB.out)
         refine start_ (n:=12) (S:=fun w'=>w'.cell? ⟨gb459,0,none⟩=some (.int .i64 a0_0)∧w'.cell? ⟨gb459,1,none⟩=some (.slice A0_1 l0_1.length c0_1)∧w'.cell? ⟨gb467,0,none⟩=some (.int .i64 ((rd_T61 l2 x25_1).f0))∧w'.cell? ⟨gb467,1,none⟩=some (.int .i64 ((rd_T61 l2 x25_1).f1))∧w'.cell? ⟨gb467,2,none⟩=some (.int .i64 ((rd_T61 l2 x25_1).f2))) (ds:=[]) (fl 12 0) (by kernel_rfl) rfl rfl ⟨bq BK459 0,bq BK459 1,bq BK467 0,bq BK467 1,bq BK467 2⟩ (fun hHeld=>?_);refine with_tabW impl_Best.tab9 impl_Best.bits9 (fun HT_ HW_=>?_)
         generalize w89.drew=w90 at HO_7 BK459 BK460 BK465 BK467 HB hHeld ⊢
         refine pt 1 35 (fl 12 2) HT_ ?_
         refine pt 5 39 (fl 12 34) HT_ ?_
         refine pt 6 40 (fl 12 98) HT_ ?_
         refine tt 0 34 (fl 12 99) HT_ HW_ hHeld ?_
         refine tt 2 36 (fl 12 103) HT_ HW_ hHeld ?_
         refine tt 7 41 (fl 12 231) HT_ HW_ hHeld ?_
         refine ot 3 (some 37) (fl 12 239) HT_ (fun K hK=>?_)
         refine goes_ Try.func35 (by kernel_rfl) rfl #[.agg #[.int .i64 a0_0,.slice A0_1 l0_1.length c0_1],.int .i64 ((rd_T61 l2 x25_1).f0)] (by rfl) rfl rfl (by (try simp only [List.map_toArray,List.map_cons,List.map_nil]);rfl) ?_
         with_reducible refine (impl_LoadOf.calls k1 a0_0 _ _ l0_1 ((rd_T61 l2 x25_1).f0) t469 _ ?side1 ?side2 A30.out).mono ?_
         (case side1=>exact rC HR0_1)
         (case side2=>exact HC0_1.out)
         rintro e w91 ⟨rfl,hb⟩
         refine ⟨_,rfl,?_⟩
         replace HO_7:=rB HO_7 hb;replace BK459:=bB BK459 hb;replace BK460:=bB BK460 hb;replace BK465:=bB BK465 hb;replace BK467:=bB BK467 hb;replace HB:=bs hb;(try clear hb);skip
         obtain ⟨Ao92,co92,eo92⟩:=Kd.R_slice HO_7.out
         (subst eo92)
         refine hK.out _ _ ⟨bq BK459 0,bq BK459 1,bq BK467 0,bq BK467 1,bq BK467 2⟩ (fun hHeld=>?_)
         clear hK K
         refine no 37 ?_
         refine pt 4 38 (fl 12 255) HT_ ?_
         refine ot 8 (some 42) (fl 12 511) HT_ (fun K hK=>?_)
         refine goes_ Try.func52 (by kernel_rfl) rfl #[.slice Ao92 t462.length co92,.int .i64 ((rd_T61 l2 x25_1).f1)] (by rfl) rfl rfl (by (try simp only [List.map_toArray,List.map_cons,List.map_nil]);rfl) ?_
         with_reducible refine (impl_hasInt.calls k1 _ _ t462 ((rd_T61 l2 x25_1).f1) true _ ?side1 ?side2 A31.out).mono ?_
         (case side1=>exact sR HO_7)
         (case side2=>exact (Kd.R_reads' HO_7.out).2.1)
         rintro e w' ⟨rfl,⟨nd,rfl⟩⟩
         refine ⟨_,rfl,?_⟩
         refine hK.out _ _ ⟨bq BK459 0,bq BK459 1,bq BK467 0,bq BK467 1,bq BK467 2⟩ (fun hHeld=>?_)
         clear hK K
         refine no 42 ?_
         refine pt 9 43 (fl 12 1023) HT_ ?_
         refine pt 10 13 (fl 12 2047) HT_ ?_
         refine pt 11 14 (fl 12 4095) HT_ ?_
         refine done_ (done_of HT_.out (by kernel_rfl)) ?_
         have hnb93:=NB465_459.out
         have hnc93:=NB459_465.out
         obtain ⟨hcz94_0,hcz94_1,hcz94_2,hfz94_0,hfz94_1,hfz94_2⟩:=b3 BK465
         try go_wp2
         go_roundg k1
         case measure=>have:=HK1.out;omega
         case rel=>exact ⟨(x9_1),(true),(wrap64 (x25_1+1)),(x466000_1),(x466001_1),(x466002_1),rd_,rd_,rd_,H',⟨by have:=HK1.out;omega⟩,⟨rR HO_7⟩,⟨bk BK459⟩,⟨bk BK460⟩,⟨bk BK465⟩,⟨be⟩⟩
       ·replace c48:=Bool.eq_false_iff.mpr c48
        subst c48
        replace H:=(if_neg (show ¬ (false=true) by decide)).symm.trans H
        by_cases c95:x10_1=true
        ·subst c95
         rw [if_pos rfl] at H
         by_cases c96:((!false) == true)=true
         ·rw [if_pos c96] at H
          clear c96
          by_cases c97:(wrap64 ((wrap64 (t469+1)) * x466002_1)) < (wrap64 (x9_1 * ((rd_T61 l2 x25_1).f2)))
          ·rw [if_pos c97] at H
           have c97b0:decide ((wrap64 ((wrap64 (t469+1)) * x466002_1)) < (wrap64 (x9_1 * ((rd_T61 l2 x25_1).f2))))=true:=decide_eq_true c97
           clear c97
           have H':=Aside0.mk H
           clear H
           have p466:0≤(x25_1:Int):=od
           have q466:x25_1 < (l2.length:Int):=od
           obtain ⟨ad466,e466,hx466_0,hx466_1,hx466_2⟩:=at_T61 HR2.out x25_1 p466 q466
           cases e466
           replace hx466_0:=xH HB hx466_0
           replace hx466_1:=xH HB hx466_1
           replace hx466_2:=xH HB hx466_2
           replace p466:=eq_true p466
           replace q466:=eq_true q466
           try go_wp2_with (first|((with_reducible refine gate_dst (N:=12) rfl ?_);refine box_event ?hg (N:=12) ?hd (cs:=#[.int .i64 0,.int .i64 0,.int .i64 0]) (t:=61) ?hr ?_;(case hd=>rfl);(case hg=>rfl);(case hr=>(go_simp;done));intro gb467 hg w98 hbox hb;replace HO_7:=rB HO_7 hb;have BK467:=aM (hbox);have GW467:=gS w hg;have GE467:=gS w hg;replace HB:=bs hb;have NB459_467:=nL hg BK459;have NB467_459:=nG hg BK459;replace BK459:=bB BK459 hb;have NB460_467:=nL hg BK460;have NB467_460:=nG hg BK460;replace BK460:=bB BK460 hb;have NB465_467:=nL hg BK465;have NB467_465:=nG hg BK465;replace BK465:=bB BK465 hb;clear hb hbox hg;have hnb99:=NB467_459.out;have hnc99:=NB459_467.out;have hnb100:=NB467_460.out;have hnc100:=NB460_467.out;have hnb101:=NB467_465.out;have hnc101:=NB465_467.out;obtain ⟨hcz102_0,hcz102_1,hcz102_2,hfz102_0,hfz102_1,hfz102_2⟩:=b3 BK467;have hnb103:=NB460_459.out;have hnc103:=NB459_460.out;have hnb104:=NB460_465.out;have hnc104:=NB465_460.out;obtain ⟨hcz105_0,hfz105_0⟩:=b1 BK460)|((with_reducible refine gate_callee (f:=52) rfl ?_);refine goesL_ (some 33) rfl rfl Try.func52 (by kernel_rfl) rfl #[.slice A1_0 l1_0.length c1_0,.int .i64 ((rd_T61 l2 x25_1).f0)] rfl (by (try simp only [List.map_toArray,List.map_cons,List.map_nil]);rfl) ?_;(with_reducible refine (impl_hasInt.calls k1 _ _ l1_0 ((rd_T61 l2 x25_1).f0) false _ ?side1 ?side2 A20.out).mono ?_);(case side1=>exact Kd.C_below HR1_0.out be);(case side2=>exact HC1_0.out);rintro e w' ⟨rfl,⟨nd,rfl⟩⟩;refine ⟨_,rfl,?_⟩))
           obtain ⟨w106,hW_⟩ : ∃ W_:World,W_=(((w98.setCell ⟨gb467,0,none⟩ (.int .i64 ((rd_T61 l2 x25_1).f0))).setCell ⟨gb467,1,none⟩ (.int .i64 ((rd_T61 l2 x25_1).f1))).setCell ⟨gb467,2,none⟩ (.int .i64 ((rd_T61 l2 x25_1).f2))):=⟨_,rfl⟩
           have n0_:Aside0 (Kd.R (Kd.int .i64) 3 w106 w.heap.size (fun _=>True) v463 t462):=⟨by rw [hW_];exact Kd.R_mono (Kd.R_far (p:=⟨gb467,2,none⟩) (Kd.R_far (p:=⟨gb467,1,none⟩) (Kd.R_far (p:=⟨gb467,0,none⟩) (Kd.R_types HO_7.out BK467.out (by decide)) (fun _ hk=>hk.2) (.int .i64 ((rd_T61 l2 x25_1).f0))) (fun _ hk=>hk.2) (.int .i64 ((rd_T61 l2 x25_1).f1))) (fun _ hk=>hk.2) (.int .i64 ((rd_T61 l2 x25_1).f2))) (fun _ hk=>trivial)⟩
           have n1_:Aside0 (w106.heap[gb459]?=some (.cells #[.int .i64 a0_0,.slice A0_1 l0_1.length c0_1] 26 (0,0))):=⟨by rw [hW_];refine blk_far ?_ NB459_467.out _;refine blk_far ?_ NB459_467.out _;refine blk_far ?_ NB459_467.out _;exact BK459.out⟩
           have n2_:Aside0 (w106.heap[gb460]?=some (.cells #[.slice A1_0 l1_0.length c1_0] 35 (0,0))):=⟨by rw [hW_];refine blk_far ?_ NB460_467.out _;refine blk_far ?_ NB460_467.out _;refine blk_far ?_ NB460_467.out _;exact BK460.out⟩
           have n3_:Aside0 (w106.heap[gb465]?=some (.cells #[.int .i64 x466000_1,.int .i64 x466001_1,.int .i64 x466002_1] 61 (0,0))):=⟨by rw [hW_];refine blk_far ?_ NB465_467.out _;refine blk_far ?_ NB465_467.out _;refine blk_far ?_ NB465_467.out _;exact BK465.out⟩
           have n4_:Aside0 (w106.heap[gb467]?=some (.cells #[.int .i64 ((rd_T61 l2 x25_1).f0),.int .i64 ((rd_T61 l2 x25_1).f1),.int .i64 ((rd_T61 l2 x25_1).f2)] 61 (0,0))):=⟨by rw [hW_];refine blk_put (cs:=#[.int .i64 ((rd_T61 l2 x25_1).f0),.int .i64 ((rd_T61 l2 x25_1).f1),.int .i64 0]) ?_ 2 _ rfl;refine blk_put (cs:=#[.int .i64 ((rd_T61 l2 x25_1).f0),.int .i64 0,.int .i64 0]) ?_ 1 _ rfl;refine blk_put (cs:=#[.int .i64 0,.int .i64 0,.int .i64 0]) ?_ 0 _ rfl;exact BK467.out⟩
           have n5_:Aside0 (Below w.heap.size w w106):=⟨by rw [hW_];exact be⟩
           (try clear HO_7)
           (try clear BK459)
           (try clear BK460)
           (try clear BK465)
           (try clear BK467)
           (try clear HB)
           rw [← hW_];clear hW_
           have HO_7:=n0_;have BK459:=n1_;have BK460:=n2_;have BK465:=n3_;have BK467:=n4_;have HB:=n5_;clear n0_ n1_ n2_ n3_ n4_ n5_
           (try (rw [drewN_self w106];generalize hq_:World.drewN w106 _=w106;have n0_:Aside0 (Kd.R (Kd.int .i64) 3 w106 w.heap.size (fun _=>True) v463 t462):=⟨by rw [← hq_];exact (rR HO_7)⟩;have n1_:Aside0 (w106.heap[gb459]?=some (.cells #[.int .i64 a0_0,.slice A0_1 l0_1.length c0_1] 26 (0,0))):=⟨by rw [← hq_];exact (bk BK459)⟩;have n2_:Aside0 (w106.heap[gb460]?=some (.cells #[.slice A1_0 l1_0.length c1_0] 35 (0,0))):=⟨by rw [← hq_];exact (bk BK460)⟩;have n3_:Aside0 (w106.heap[gb465]?=some (.cells #[.int .i64 x466000_1,.int .i64 x466001_1,.int .i64 x466002_1] 61 (0,0))):=⟨by rw [← hq_];exact (bk BK465)⟩;have n4_:Aside0 (w106.heap[gb467]?=some (.cells #[.int .i64 ((rd_T61 l2 x25_1).f0),.int .i64 ((rd_T61 l2 x25_1).f1),.int .i64 ((rd_T61 l2 x25_1).f2)] 61 (0,0))):=⟨by rw [← hq_];exact (bk BK467)⟩;have n5_:Aside0 (Below w.heap.size w w106):=⟨by rw [← hq_];exact be⟩;clear HO_7 BK459 BK460 BK465 BK467 HB hq_;have HO_7:=n0_;have BK459:=n1_;have BK460:=n2_;have BK465:=n3_;have BK467:=n4_;have HB:=n5_;clear n0_ n1_ n2_ n3_ n4_ n5_))
           replace HO_7:=aM (Kd.R_drew HO_7.out);replace BK459:=aM (blk_drew BK459.out);replace BK460:=aM (blk_drew BK460.out);replace BK465:=aM (blk_drew BK465.out);replace BK467:=aM (blk_drew BK467.out);replace HB:=aM (below_drew1 HB.out)
           refine start_ (n:=12) (S:=fun w'=>w'.cell? ⟨gb459,0,none⟩=some (.int .i64 a0_0)∧w'.cell? ⟨gb459,1,none⟩=some (.slice A0_1 l0_1.length c0_1)∧w'.cell? ⟨gb467,0,none⟩=some (.int .i64 ((rd_T61 l2 x25_1).f0))∧w'.cell? ⟨gb467,1,none⟩=some (.int .i64 ((rd_T61 l2 x25_1).f1))∧w'.cell? ⟨gb467,2,none⟩=some (.int .i64 ((rd_T61 l2 x25_1).f2))) (ds:=[]) (fl 12 0) (by kernel_rfl) rfl rfl ⟨bq BK459 0,bq BK459 1,bq BK467 0,bq BK467 1,bq BK467 2⟩ (fun hHeld=>?_);refine with_tabW impl_Best.tab9 impl_Best.bits9 (fun HT_ HW_=>?_)
           generalize w106.drew=w107 at HO_7 BK459 BK460 BK465 BK467 HB hHeld ⊢
           refine pt 1 35 (fl 12 2) HT_ ?_
           refine pt 5 39 (fl 12 34) HT_ ?_
           refine pt 6 40 (fl 12 98) HT_ ?_
           refine tt 0 34 (fl 12 99) HT_ HW_ hHeld ?_
           refine tt 2 36 (fl 12 103) HT_ HW_ hHeld ?_
           refine tt 7 41 (fl 12 231) HT_ HW_ hHeld ?_
           refine ot 3 (some 37) (fl 12 239) HT_ (fun K hK=>?_)
           refine goes_ Try.func35 (by kernel_rfl) rfl #[.agg #[.int .i64 a0_0,.slice A0_1 l0_1.length c0_1],.int .i64 ((rd_T61 l2 x25_1).f0)] (by rfl) rfl rfl (by (try simp only [List.map_toArray,List.map_cons,List.map_nil]);rfl) ?_
           with_reducible refine (impl_LoadOf.calls k1 a0_0 _ _ l0_1 ((rd_T61 l2 x25_1).f0) t469 _ ?side1 ?side2 A30.out).mono ?_
           (case side1=>exact rC HR0_1)
           (case side2=>exact HC0_1.out)
           rintro e w108 ⟨rfl,hb⟩
           refine ⟨_,rfl,?_⟩
           replace HO_7:=rB HO_7 hb;replace BK459:=bB BK459 hb;replace BK460:=bB BK460 hb;replace BK465:=bB BK465 hb;replace BK467:=bB BK467 hb;replace HB:=bs hb;(try clear hb);skip
           obtain ⟨Ao109,co109,eo109⟩:=Kd.R_slice HO_7.out
           (subst eo109)
           refine hK.out _ _ ⟨bq BK459 0,bq BK459 1,bq BK467 0,bq BK467 1,bq BK467 2⟩ (fun hHeld=>?_)
           clear hK K
           refine no 37 ?_
           refine pt 4 38 (fl 12 255) HT_ ?_
           refine ot 8 (some 42) (fl 12 511) HT_ (fun K hK=>?_)
           refine goes_ Try.func52 (by kernel_rfl) rfl #[.slice Ao109 t462.length co109,.int .i64 ((rd_T61 l2 x25_1).f1)] (by rfl) rfl rfl (by (try simp only [List.map_toArray,List.map_cons,List.map_nil]);rfl) ?_
           with_reducible refine (impl_hasInt.calls k1 _ _ t462 ((rd_T61 l2 x25_1).f1) false _ ?side1 ?side2 A31.out).mono ?_
           (case side1=>exact sR HO_7)
           (case side2=>exact (Kd.R_reads' HO_7.out).2.1)
           rintro e w' ⟨rfl,⟨nd,rfl⟩⟩
           refine ⟨_,rfl,?_⟩
           refine hK.out _ _ ⟨bq BK459 0,bq BK459 1,bq BK467 0,bq BK467 1,bq BK467 2⟩ (fun hHeld=>?_)
           clear hK K
           refine no 42 ?_
           refine pt 9 43 (fl 12 1023) HT_ ?_
           refine pt 10 13 (fl 12 2047) HT_ ?_
           refine pt 11 14 (fl 12 4095) HT_ ?_
           refine done_ (done_of HT_.out (by kernel_rfl)) ?_
           have hnb110:=NB465_459.out
           have hnc110:=NB459_465.out
           obtain ⟨hcz111_0,hcz111_1,hcz111_2,hfz111_0,hfz111_1,hfz111_2⟩:=b3 BK465
           obtain ⟨hcz112_0,hcz112_1,hcz112_2,hfz112_0,hfz112_1,hfz112_2⟩:=b3 BK467
           try go_wp2
           go_roundg k1
           case measure=>have:=HK1.out;omega
           case rel=>exact ⟨(wrap64 (t469+1)),(!false),(wrap64 (x25_1+1)),((rd_T61 l2 x25_1).f0),((rd_T61 l2 x25_1).f1),((rd_T61 l2 x25_1).f2),rd_,rd_,rd_,H',⟨by have:=HK1.out;omega⟩,⟨by exact Kd.R_mono (Kd.R_far (p:=⟨gb465,2,none⟩) (Kd.R_far (p:=⟨gb465,1,none⟩) (Kd.R_far (p:=⟨gb465,0,none⟩) (Kd.R_types HO_7.out BK465.out (by decide)) (fun _ hk=>hk.2) (.int .i64 ((rd_T61 l2 x25_1).f0))) (fun _ hk=>hk.2) (.int .i64 ((rd_T61 l2 x25_1).f1))) (fun _ hk=>hk.2) (.int .i64 ((rd_T61 l2 x25_1).f2))) (fun _ hk=>trivial)⟩,⟨by refine blk_far ?_ NB459_465.out _;refine blk_far ?_ NB459_465.out _;refine blk_far ?_ NB459_465.out _;(with_reducible repeat (refine blk_drewN ?_ _));exact BK459.out⟩,⟨by refine blk_far ?_ NB460_465.out _;refine blk_far ?_ NB460_465.out _;refine blk_far ?_ NB460_465.out _;(with_reducible repeat (refine blk_drewN ?_ _));exact BK460.out⟩,⟨by refine blk_put (cs:=#[.int .i64 ((rd_T61 l2 x25_1).f0),.int .i64 ((rd_T61 l2 x25_1).f1),.int .i64 x466002_1]) ?_ 2 _ rfl;refine blk_put (cs:=#[.int .i64 ((rd_T61 l2 x25_1).f0),.int .i64 x466001_1,.int .i64 x466002_1]) ?_ 1 _ rfl;refine blk_put (cs:=#[.int .i64 x466000_1,.int .i64 x466001_1,.int .i64 x466002_1]) ?_ 0 _ rfl;(with_reducible repeat (refine blk_drewN ?_ _));exact BK465.out⟩,⟨be⟩⟩
          ·rw [if_neg c97] at H
           have c97b0:decide ((wrap64 ((wrap64 (t469+1)) * x466002_1)) < (wrap64 (x9_1 * ((rd_T61 l2 x25_1).f2))))=false:=decide_eq_false c97
           clear c97
           have H':=Aside0.mk H
           clear H
           have p466:0≤(x25_1:Int):=od
           have q466:x25_1 < (l2.length:Int):=od
           obtain ⟨ad466,e466,hx466_0,hx466_1,hx466_2⟩:=at_T61 HR2.out x25_1 p466 q466
           cases e466
           replace hx466_0:=xH HB hx466_0
           replace hx466_1:=xH HB hx466_1
           replace hx466_2:=xH HB hx466_2
           replace p466:=eq_true p466
           replace q466:=eq_true q466
           try go_wp2_with (first|((with_reducible refine gate_dst (N:=12) rfl ?_);refine box_event ?hg (N:=12) ?hd (cs:=#[.int .i64 0,.int .i64 0,.int .i64 0]) (t:=61) ?hr ?_;(case hd=>rfl);(case hg=>rfl);(case hr=>(go_simp;done));intro gb467 hg w113 hbox hb;replace HO_7:=rB HO_7 hb;have BK467:=aM (hbox);have GW467:=gS w hg;have GE467:=gS w hg;replace HB:=bs hb;have NB459_467:=nL hg BK459;have NB467_459:=nG hg BK459;replace BK459:=bB BK459 hb;have NB460_467:=nL hg BK460;have NB467_460:=nG hg BK460;replace BK460:=bB BK460 hb;have NB465_467:=nL hg BK465;have NB467_465:=nG hg BK465;replace BK465:=bB BK465 hb;clear hb hbox hg;have hnb114:=NB467_459.out;have hnc114:=NB459_467.out;have hnb115:=NB467_460.out;have hnc115:=NB460_467.out;have hnb116:=NB467_465.out;have hnc116:=NB465_467.out;obtain ⟨hcz117_0,hcz117_1,hcz117_2,hfz117_0,hfz117_1,hfz117_2⟩:=b3 BK467;have hnb118:=NB460_459.out;have hnc118:=NB459_460.out;have hnb119:=NB460_465.out;have hnc119:=NB465_460.out;obtain ⟨hcz120_0,hfz120_0⟩:=b1 BK460)|((with_reducible refine gate_callee (f:=52) rfl ?_);refine goesL_ (some 33) rfl rfl Try.func52 (by kernel_rfl) rfl #[.slice A1_0 l1_0.length c1_0,.int .i64 ((rd_T61 l2 x25_1).f0)] rfl (by (try simp only [List.map_toArray,List.map_cons,List.map_nil]);rfl) ?_;(with_reducible refine (impl_hasInt.calls k1 _ _ l1_0 ((rd_T61 l2 x25_1).f0) false _ ?side1 ?side2 A20.out).mono ?_);(case side1=>exact Kd.C_below HR1_0.out be);(case side2=>exact HC1_0.out);rintro e w' ⟨rfl,⟨nd,rfl⟩⟩;refine ⟨_,rfl,?_⟩))
           obtain ⟨w121,hW_⟩ : ∃ W_:World,W_=(((w113.setCell ⟨gb467,0,none⟩ (.int .i64 ((rd_T61 l2 x25_1).f0))).setCell ⟨gb467,1,none⟩ (.int .i64 ((rd_T61 l2 x25_1).f1))).setCell ⟨gb467,2,none⟩ (.int .i64 ((rd_T61 l2 x25_1).f2))):=⟨_,rfl⟩
           have n0_:Aside0 (Kd.R (Kd.int .i64) 3 w121 w.heap.size (fun _=>True) v463 t462):=⟨by rw [hW_];exact Kd.R_mono (Kd.R_far (p:=⟨gb467,2,none⟩) (Kd.R_far (p:=⟨gb467,1,none⟩) (Kd.R_far (p:=⟨gb467,0,none⟩) (Kd.R_types HO_7.out BK467.out (by decide)) (fun _ hk=>hk.2) (.int .i64 ((rd_T61 l2 x25_1).f0))) (fun _ hk=>hk.2) (.int .i64 ((rd_T61 l2 x25_1).f1))) (fun _ hk=>hk.2) (.int .i64 ((rd_T61 l2 x25_1).f2))) (fun _ hk=>trivial)⟩
           have n1_:Aside0 (w121.heap[gb459]?=some (.cells #[.int .i64 a0_0,.slice A0_1 l0_1.length c0_1] 26 (0,0))):=⟨by rw [hW_];refine blk_far ?_ NB459_467.out _;refine blk_far ?_ NB459_467.out _;refine blk_far ?_ NB459_467.out _;exact BK459.out⟩
           have n2_:Aside0 (w121.heap[gb460]?=some (.cells #[.slice A1_0 l1_0.length c1_0] 35 (0,0))):=⟨by rw [hW_];refine blk_far ?_ NB460_467.out _;refine blk_far ?_ NB460_467.out _;refine blk_far ?_ NB460_467.out _;exact BK460.out⟩
           have n3_:Aside0 (w121.heap[gb465]?=some (.cells #[.int .i64 x466000_1,.int .i64 x466001_1,.int .i64 x466002_1] 61 (0,0))):=⟨by rw [hW_];refine blk_far ?_ NB465_467.out _;refine blk_far ?_ NB465_467.out _;refine blk_far ?_ NB465_467.out _;exact BK465.out⟩
           have n4_:Aside0 (w121.heap[gb467]?=some (.cells #[.int .i64 ((rd_T61 l2 x25_1).f0),.int .i64 ((rd_T61 l2 x25_1).f1),.int .i64 ((rd_T61 l2 x25_1).f2)] 61 (0,0))):=⟨by rw [hW_];refine blk_put (cs:=#[.int .i64 ((rd_T61 l2 x25_1).f0),.int .i64 ((rd_T61 l2 x25_1).f1),.int .i64 0]) ?_ 2 _ rfl;refine blk_put (cs:=#[.int .i64 ((rd_T61 l2 x25_1).f0),.int .i64 0,.int .i64 0]) ?_ 1 _ rfl;refine blk_put (cs:=#[.int .i64 0,.int .i64 0,.int .i64 0]) ?_ 0 _ rfl;exact BK467.out⟩
           have n5_:Aside0 (Below w.heap.size w w121):=⟨by rw [hW_];exact be⟩
           (try clear HO_7)
           (try clear BK459)
           (try clear BK460)
           (try clear BK465)
           (try clear BK467)
           (try clear HB)
           rw [← hW_];clear hW_
           have HO_7:=n0_;have BK459:=n1_;have BK460:=n2_;have BK465:=n3_;have BK467:=n4_;have HB:=n5_;clear n0_ n1_ n2_ n3_ n4_ n5_
           (try (rw [drewN_self w121];generalize hq_:World.drewN w121 _=w121;have n0_:Aside0 (Kd.R (Kd.int .i64) 3 w121 w.heap.size (fun _=>True) v463 t462):=⟨by rw [← hq_];exact (rR HO_7)⟩;have n1_:Aside0 (w121.heap[gb459]?=some (.cells #[.int .i64 a0_0,.slice A0_1 l0_1.length c0_1] 26 (0,0))):=⟨by rw [← hq_];exact (bk BK459)⟩;have n2_:Aside0 (w121.heap[gb460]?=some (.cells #[.slice A1_0 l1_0.length c1_0] 35 (0,0))):=⟨by rw [← hq_];exact (bk BK460)⟩;have n3_:Aside0 (w121.heap[gb465]?=some (.cells #[.int .i64 x466000_1,.int .i64 x466001_1,.int .i64 x466002_1] 61 (0,0))):=⟨by rw [← hq_];exact (bk BK465)⟩;have n4_:Aside0 (w121.heap[gb467]?=some (.cells #[.int .i64 ((rd_T61 l2 x25_1).f0),.int .i64 ((rd_T61 l2 x25_1).f1),.int .i64 ((rd_T61 l2 x25_1).f2)] 61 (0,0))):=⟨by rw [← hq_];exact (bk BK467)⟩;have n5_:Aside0 (Below w.heap.size w w121):=⟨by rw [← hq_];exact be⟩;clear HO_7 BK459 BK460 BK465 BK467 HB hq_;have HO_7:=n0_;have BK459:=n1_;have BK460:=n2_;have BK465:=n3_;have BK467:=n4_;have HB:=n5_;clear n0_ n1_ n2_ n3_ n4_ n5_))
           replace HO_7:=aM (Kd.R_drew HO_7.out);replace BK459:=aM (blk_drew BK459.out);replace BK460:=aM (blk_drew BK460.out);replace BK465:=aM (blk_drew BK465.out);replace BK467:=aM (blk_drew BK467.out);replace HB:=aM (below_drew1 HB.out)
           refine start_ (n:=12) (S:=fun w'=>w'.cell? ⟨gb459,0,none⟩=some (.int .i64 a0_0)∧w'.cell? ⟨gb459,1,none⟩=some (.slice A0_1 l0_1.length c0_1)∧w'.cell? ⟨gb467,0,none⟩=some (.int .i64 ((rd_T61 l2 x25_1).f0))∧w'.cell? ⟨gb467,1,none⟩=some (.int .i64 ((rd_T61 l2 x25_1).f1))∧w'.cell? ⟨gb467,2,none⟩=some (.int .i64 ((rd_T61 l2 x25_1).f2))) (ds:=[]) (fl 12 0) (by kernel_rfl) rfl rfl ⟨bq BK459 0,bq BK459 1,bq BK467 0,bq BK467 1,bq BK467 2⟩ (fun hHeld=>?_);refine with_tabW impl_Best.tab9 impl_Best.bits9 (fun HT_ HW_=>?_)
           generalize w121.drew=w122 at HO_7 BK459 BK460 BK465 BK467 HB hHeld ⊢
           refine pt 1 35 (fl 12 2) HT_ ?_
           refine pt 5 39 (fl 12 34) HT_ ?_
           refine pt 6 40 (fl 12 98) HT_ ?_
           refine tt 0 34 (fl 12 99) HT_ HW_ hHeld ?_
           refine tt 2 36 (fl 12 103) HT_ HW_ hHeld ?_
           refine tt 7 41 (fl 12 231) HT_ HW_ hHeld ?_
           refine ot 3 (some 37) (fl 12 239) HT_ (fun K hK=>?_)
           refine goes_ Try.func35 (by kernel_rfl) rfl #[.agg #[.int .i64 a0_0,.slice A0_1 l0_1.length c0_1],.int .i64 ((rd_T61 l2 x25_1).f0)] (by rfl) rfl rfl (by (try simp only [List.map_toArray,List.map_cons,List.map_nil]);rfl) ?_
           with_reducible refine (impl_LoadOf.calls k1 a0_0 _ _ l0_1 ((rd_T61 l2 x25_1).f0) t469 _ ?side1 ?side2 A30.out).mono ?_
           (case side1=>exact rC HR0_1)
           (case side2=>exact HC0_1.out)
           rintro e w123 ⟨rfl,hb⟩
           refine ⟨_,rfl,?_⟩
           replace HO_7:=rB HO_7 hb;replace BK459:=bB BK459 hb;replace BK460:=bB BK460 hb;replace BK465:=bB BK465 hb;replace BK467:=bB BK467 hb;replace HB:=bs hb;(try clear hb);skip
           obtain ⟨Ao124,co124,eo124⟩:=Kd.R_slice HO_7.out
           (subst eo124)
           refine hK.out _ _ ⟨bq BK459 0,bq BK459 1,bq BK467 0,bq BK467 1,bq BK467 2⟩ (fun hHeld=>?_)
           clear hK K
           refine no 37 ?_
           refine pt 4 38 (fl 12 255) HT_ ?_
           refine ot 8 (some 42) (fl 12 511) HT_ (fun K hK=>?_)
           refine goes_ Try.func52 (by kernel_rfl) rfl #[.slice Ao124 t462.length co124,.int .i64 ((rd_T61 l2 x25_1).f1)] (by rfl) rfl rfl (by (try simp only [List.map_toArray,List.map_cons,List.map_nil]);rfl) ?_
           with_reducible refine (impl_hasInt.calls k1 _ _ t462 ((rd_T61 l2 x25_1).f1) false _ ?side1 ?side2 A31.out).mono ?_
           (case side1=>exact sR HO_7)
           (case side2=>exact (Kd.R_reads' HO_7.out).2.1)
           rintro e w' ⟨rfl,⟨nd,rfl⟩⟩
           refine ⟨_,rfl,?_⟩
           refine hK.out _ _ ⟨bq BK459 0,bq BK459 1,bq BK467 0,bq BK467 1,bq BK467 2⟩ (fun hHeld=>?_)
           clear hK K
           refine no 42 ?_
           refine pt 9 43 (fl 12 1023) HT_ ?_
           refine pt 10 13 (fl 12 2047) HT_ ?_
           refine pt 11 14 (fl 12 4095) HT_ ?_
           refine done_ (done_of HT_.out (by kernel_rfl)) ?_
           have hnb125:=NB465_459.out
           have hnc125:=NB459_465.out
           obtain ⟨hcz126_0,hcz126_1,hcz126_2,hfz126_0,hfz126_1,hfz126_2⟩:=b3 BK465
           obtain ⟨hcz127_0,hcz127_1,hcz127_2,hfz127_0,hfz127_1,hfz127_2⟩:=b3 BK467
           try go_wp2
           go_roundg k1
           case measure=>have:=HK1.out;omega
           case rel=>exact ⟨(x9_1),(true),(wrap64 (x25_1+1)),(x466000_1),(x466001_1),(x466002_1),rd_,rd_,rd_,H',⟨by have:=HK1.out;omega⟩,⟨rR HO_7⟩,⟨bk BK459⟩,⟨bk BK460⟩,⟨bk BK465⟩,⟨be⟩⟩
         ·exact absurd (by decide) c96
        ·replace c95:=Bool.eq_false_iff.mpr c95
         subst c95
         replace H:=(if_neg (show ¬ (false=true) by decide)).symm.trans H
         have H':=Aside0.mk H
         clear H
         have p466:0≤(x25_1:Int):=od
         have q466:x25_1 < (l2.length:Int):=od
         obtain ⟨ad466,e466,hx466_0,hx466_1,hx466_2⟩:=at_T61 HR2.out x25_1 p466 q466
         cases e466
         replace hx466_0:=xH HB hx466_0
         replace hx466_1:=xH HB hx466_1
         replace hx466_2:=xH HB hx466_2
         replace p466:=eq_true p466
         replace q466:=eq_true q466
         try go_wp2_with (first|((with_reducible refine gate_dst (N:=12) rfl ?_);refine box_event ?hg (N:=12) ?hd (cs:=#[.int .i64 0,.int .i64 0,.int .i64 0]) (t:=61) ?hr ?_;(case hd=>rfl);(case hg=>rfl);(case hr=>(go_simp;done));intro gb467 hg w142 hbox hb;replace HO_7:=rB HO_7 hb;have BK467:=aM (hbox);have GW467:=gS w hg;have GE467:=gS w hg;replace HB:=bs hb;have NB459_467:=nL hg BK459;have NB467_459:=nG hg BK459;replace BK459:=bB BK459 hb;have NB460_467:=nL hg BK460;have NB467_460:=nG hg BK460;replace BK460:=bB BK460 hb;have NB465_467:=nL hg BK465;have NB467_465:=nG hg BK465;replace BK465:=bB BK465 hb;clear hb hbox hg;have hnb143:=NB467_459.out;have hnc143:=NB459_467.out;have hnb144:=NB467_460.out;have hnc144:=NB460_467.out;have hnb145:=NB467_465.out;have hnc145:=NB465_467.out;obtain ⟨hcz146_0,hcz146_1,hcz146_2,hfz146_0,hfz146_1,hfz146_2⟩:=b3 BK467;have hnb147:=NB460_459.out;have hnc147:=NB459_460.out;have hnb148:=NB460_465.out;have hnc148:=NB465_460.out;obtain ⟨hcz149_0,hfz149_0⟩:=b1 BK460)|((with_reducible refine gate_callee (f:=52) rfl ?_);refine goesL_ (some 33) rfl rfl Try.func52 (by kernel_rfl) rfl #[.slice A1_0 l1_0.length c1_0,.int .i64 ((rd_T61 l2 x25_1).f0)] rfl (by (try simp only [List.map_toArray,List.map_cons,List.map_nil]);rfl) ?_;(with_reducible refine (impl_hasInt.calls k1 _ _ l1_0 ((rd_T61 l2 x25_1).f0) false _ ?side1 ?side2 A20.out).mono ?_);(case side1=>exact Kd.C_below HR1_0.out be);(case side2=>exact HC1_0.out);rintro e w' ⟨rfl,⟨nd,rfl⟩⟩;refine ⟨_,rfl,?_⟩))
         obtain ⟨w150,hW_⟩ : ∃ W_:World,W_=(((w142.setCell ⟨gb467,0,none⟩ (.int .i64 ((rd_T61 l2 x25_1).f0))).setCell ⟨gb467,1,none⟩ (.int .i64 ((rd_T61 l2 x25_1).f1))).setCell ⟨gb467,2,none⟩ (.int .i64 ((rd_T61 l2 x25_1).f2))):=⟨_,rfl⟩
         have n0_:Aside0 (Kd.R (Kd.int .i64) 3 w150 w.heap.size (fun _=>True) v463 t462):=⟨by rw [hW_];exact Kd.R_mono (Kd.R_far (p:=⟨gb467,2,none⟩) (Kd.R_far (p:=⟨gb467,1,none⟩) (Kd.R_far (p:=⟨gb467,0,none⟩) (Kd.R_types HO_7.out BK467.out (by decide)) (fun _ hk=>hk.2) (.int .i64 ((rd_T61 l2 x25_1).f0))) (fun _ hk=>hk.2) (.int .i64 ((rd_T61 l2 x25_1).f1))) (fun _ hk=>hk.2) (.int .i64 ((rd_T61 l2 x25_1).f2))) (fun _ hk=>trivial)⟩
         have n1_:Aside0 (w150.heap[gb459]?=some (.cells #[.int .i64 a0_0,.slice A0_1 l0_1.length c0_1] 26 (0,0))):=⟨by rw [hW_];refine blk_far ?_ NB459_467.out _;refine blk_far ?_ NB459_467.out _;refine blk_far ?_ NB459_467.out _;exact BK459.out⟩
         have n2_:Aside0 (w150.heap[gb460]?=some (.cells #[.slice A1_0 l1_0.length c1_0] 35 (0,0))):=⟨by rw [hW_];refine blk_far ?_ NB460_467.out _;refine blk_far ?_ NB460_467.out _;refine blk_far ?_ NB460_467.out _;exact BK460.out⟩
         have n3_:Aside0 (w150.heap[gb465]?=some (.cells #[.int .i64 x466000_1,.int .i64 x466001_1,.int .i64 x466002_1] 61 (0,0))):=⟨by rw [hW_];refine blk_far ?_ NB465_467.out _;refine blk_far ?_ NB465_467.out _;refine blk_far ?_ NB465_467.out _;exact BK465.out⟩
         have n4_:Aside0 (w150.heap[gb467]?=some (.cells #[.int .i64 ((rd_T61 l2 x25_1).f0),.int .i64 ((rd_T61 l2 x25_1).f1),.int .i64 ((rd_T61 l2 x25_1).f2)] 61 (0,0))):=⟨by rw [hW_];refine blk_put (cs:=#[.int .i64 ((rd_T61 l2 x25_1).f0),.int .i64 ((rd_T61 l2 x25_1).f1),.int .i64 0]) ?_ 2 _ rfl;refine blk_put (cs:=#[.int .i64 ((rd_T61 l2 x25_1).f0),.int .i64 0,.int .i64 0]) ?_ 1 _ rfl;refine blk_put (cs:=#[.int .i64 0,.int .i64 0,.int .i64 0]) ?_ 0 _ rfl;exact BK467.out⟩
         have n5_:Aside0 (Below w.heap.size w w150):=⟨by rw [hW_];exact be⟩
         (try clear HO_7)
         (try clear BK459)
         (try clear BK460)
         (try clear BK465)
         (try clear BK467)
         (try clear HB)
         rw [← hW_];clear hW_
         have HO_7:=n0_;have BK459:=n1_;have BK460:=n2_;have BK465:=n3_;have BK467:=n4_;have HB:=n5_;clear n0_ n1_ n2_ n3_ n4_ n5_
         (try (rw [drewN_self w150];generalize hq_:World.drewN w150 _=w150;have n0_:Aside0 (Kd.R (Kd.int .i64) 3 w150 w.heap.size (fun _=>True) v463 t462):=⟨by rw [← hq_];exact (rR HO_7)⟩;have n1_:Aside0 (w150.heap[gb459]?=some (.cells #[.int .i64 a0_0,.slice A0_1 l0_1.length c0_1] 26 (0,0))):=⟨by rw [← hq_];exact (bk BK459)⟩;have n2_:Aside0 (w150.heap[gb460]?=some (.cells #[.slice A1_0 l1_0.length c1_0] 35 (0,0))):=⟨by rw [← hq_];exact (bk BK460)⟩;have n3_:Aside0 (w150.heap[gb465]?=some (.cells #[.int .i64 x466000_1,.int .i64 x466001_1,.int .i64 x466002_1] 61 (0,0))):=⟨by rw [← hq_];exact (bk BK465)⟩;have n4_:Aside0 (w150.heap[gb467]?=some (.cells #[.int .i64 ((rd_T61 l2 x25_1).f0),.int .i64 ((rd_T61 l2 x25_1).f1),.int .i64 ((rd_T61 l2 x25_1).f2)] 61 (0,0))):=⟨by rw [← hq_];exact (bk BK467)⟩;have n5_:Aside0 (Below w.heap.size w w150):=⟨by rw [← hq_];exact be⟩;clear HO_7 BK459 BK460 BK465 BK467 HB hq_;have HO_7:=n0_;have BK459:=n1_;have BK460:=n2_;have BK465:=n3_;have BK467:=n4_;have HB:=n5_;clear n0_ n1_ n2_ n3_ n4_ n5_))
         replace HO_7:=aM (Kd.R_drew HO_7.out);replace BK459:=aM (blk_drew BK459.out);replace BK460:=aM (blk_drew BK460.out);replace BK465:=aM (blk_drew BK465.out);replace BK467:=aM (blk_drew BK467.out);replace HB:=aM (below_drew1 HB.out)
         refine start_ (n:=12) (S:=fun w'=>w'.cell? ⟨gb459,0,none⟩=some (.int .i64 a0_0)∧w'.cell? ⟨gb459,1,none⟩=some (.slice A0_1 l0_1.length c0_1)∧w'.cell? ⟨gb467,0,none⟩=some (.int .i64 ((rd_T61 l2 x25_1).f0))∧w'.cell? ⟨gb467,1,none⟩=some (.int .i64 ((rd_T61 l2 x25_1).f1))∧w'.cell? ⟨gb467,2,none⟩=some (.int .i64 ((rd_T61 l2 x25_1).f2))) (ds:=[]) (fl 12 0) (by kernel_rfl) rfl rfl ⟨bq BK459 0,bq BK459 1,bq BK467 0,bq BK467 1,bq BK467 2⟩ (fun hHeld=>?_);refine with_tabW impl_Best.tab9 impl_Best.bits9 (fun HT_ HW_=>?_)
         generalize w150.drew=w151 at HO_7 BK459 BK460 BK465 BK467 HB hHeld ⊢
         refine pt 1 35 (fl 12 2) HT_ ?_
         refine pt 5 39 (fl 12 34) HT_ ?_
         refine pt 6 40 (fl 12 98) HT_ ?_
         refine tt 0 34 (fl 12 99) HT_ HW_ hHeld ?_
         refine tt 2 36 (fl 12 103) HT_ HW_ hHeld ?_
         refine tt 7 41 (fl 12 231) HT_ HW_ hHeld ?_
         refine ot 3 (some 37) (fl 12 239) HT_ (fun K hK=>?_)
         refine goes_ Try.func35 (by kernel_rfl) rfl #[.agg #[.int .i64 a0_0,.slice A0_1 l0_1.length c0_1],.int .i64 ((rd_T61 l2 x25_1).f0)] (by rfl) rfl rfl (by (try simp only [List.map_toArray,List.map_cons,List.map_nil]);rfl) ?_
         with_reducible refine (impl_LoadOf.calls k1 a0_0 _ _ l0_1 ((rd_T61 l2 x25_1).f0) t469 _ ?side1 ?side2 A30.out).mono ?_
         (case side1=>exact rC HR0_1)
         (case side2=>exact HC0_1.out)
         rintro e w152 ⟨rfl,hb⟩
         refine ⟨_,rfl,?_⟩
         replace HO_7:=rB HO_7 hb;replace BK459:=bB BK459 hb;replace BK460:=bB BK460 hb;replace BK465:=bB BK465 hb;replace BK467:=bB BK467 hb;replace HB:=bs hb;(try clear hb);skip
         obtain ⟨Ao153,co153,eo153⟩:=Kd.R_slice HO_7.out
         (subst eo153)
         refine hK.out _ _ ⟨bq BK459 0,bq BK459 1,bq BK467 0,bq BK467 1,bq BK467 2⟩ (fun hHeld=>?_)
         clear hK K
         refine no 37 ?_
         refine pt 4 38 (fl 12 255) HT_ ?_
         refine ot 8 (some 42) (fl 12 511) HT_ (fun K hK=>?_)
         refine goes_ Try.func52 (by kernel_rfl) rfl #[.slice Ao153 t462.length co153,.int .i64 ((rd_T61 l2 x25_1).f1)] (by rfl) rfl rfl (by (try simp only [List.map_toArray,List.map_cons,List.map_nil]);rfl) ?_
         with_reducible refine (impl_hasInt.calls k1 _ _ t462 ((rd_T61 l2 x25_1).f1) false _ ?side1 ?side2 A31.out).mono ?_
         (case side1=>exact sR HO_7)
         (case side2=>exact (Kd.R_reads' HO_7.out).2.1)
         rintro e w' ⟨rfl,⟨nd,rfl⟩⟩
         refine ⟨_,rfl,?_⟩
         refine hK.out _ _ ⟨bq BK459 0,bq BK459 1,bq BK467 0,bq BK467 1,bq BK467 2⟩ (fun hHeld=>?_)
         clear hK K
         refine no 42 ?_
         refine pt 9 43 (fl 12 1023) HT_ ?_
         refine pt 10 13 (fl 12 2047) HT_ ?_
         refine pt 11 14 (fl 12 4095) HT_ ?_
         refine done_ (done_of HT_.out (by kernel_rfl)) ?_
         have hnb154:=NB465_459.out
         have hnc154:=NB459_465.out
         obtain ⟨hcz155_0,hcz155_1,hcz155_2,hfz155_0,hfz155_1,hfz155_2⟩:=b3 BK465
         obtain ⟨hcz156_0,hcz156_1,hcz156_2,hfz156_0,hfz156_1,hfz156_2⟩:=b3 BK467
         try go_wp2
         go_roundg k1
         case measure=>have:=HK1.out;omega
         case rel=>exact ⟨(wrap64 (t469+1)),(!false),(wrap64 (x25_1+1)),((rd_T61 l2 x25_1).f0),((rd_T61 l2 x25_1).f1),((rd_T61 l2 x25_1).f2),rd_,rd_,rd_,H',⟨by have:=HK1.out;omega⟩,⟨by exact Kd.R_mono (Kd.R_far (p:=⟨gb465,2,none⟩) (Kd.R_far (p:=⟨gb465,1,none⟩) (Kd.R_far (p:=⟨gb465,0,none⟩) (Kd.R_types HO_7.out BK465.out (by decide)) (fun _ hk=>hk.2) (.int .i64 ((rd_T61 l2 x25_1).f0))) (fun _ hk=>hk.2) (.int .i64 ((rd_T61 l2 x25_1).f1))) (fun _ hk=>hk.2) (.int .i64 ((rd_T61 l2 x25_1).f2))) (fun _ hk=>trivial)⟩,⟨by refine blk_far ?_ NB459_465.out _;refine blk_far ?_ NB459_465.out _;refine blk_far ?_ NB459_465.out _;(with_reducible repeat (refine blk_drewN ?_ _));exact BK459.out⟩,⟨by refine blk_far ?_ NB460_465.out _;refine blk_far ?_ NB460_465.out _;refine blk_far ?_ NB460_465.out _;(with_reducible repeat (refine blk_drewN ?_ _));exact BK460.out⟩,⟨by refine blk_put (cs:=#[.int .i64 ((rd_T61 l2 x25_1).f0),.int .i64 ((rd_T61 l2 x25_1).f1),.int .i64 x466002_1]) ?_ 2 _ rfl;refine blk_put (cs:=#[.int .i64 ((rd_T61 l2 x25_1).f0),.int .i64 x466001_1,.int .i64 x466002_1]) ?_ 1 _ rfl;refine blk_put (cs:=#[.int .i64 x466000_1,.int .i64 x466001_1,.int .i64 x466002_1]) ?_ 0 _ rfl;(with_reducible repeat (refine blk_drewN ?_ _));exact BK465.out⟩,⟨be⟩⟩
    ·rw [if_neg c17] at H
     have c17b0:decide (x25_1 < (l2.length:Int))=false:=decide_eq_false c17
     clear c17
     obtain rfl:=Option.some.inj H
     have hnb157:=NB465_459.out
     have hnc157:=NB459_465.out
     have hnb158:=NB465_460.out
     have hnc158:=NB460_465.out
     obtain ⟨hcz159_0,hcz159_1,hcz159_2,hfz159_0,hfz159_1,hfz159_2⟩:=b3 BK465
     go_wp2
     go_ret
     exact ⟨rz,be⟩
 ·replace c5:=Bool.eq_false_iff.mpr c5
  subst c5
  replace H:=(if_neg (show ¬ (false=true) by decide)).symm.trans H
  obtain rfl:=Option.some.inj H
  go_enter Try.func45,Try.ntmps45
  go_wp2_with (first|((with_reducible refine gate_dst (N:=3) rfl ?_);refine box_event ?hg (N:=3) ?hd (cs:=#[.int .i64 a0_0,.slice A0_1 l0_1.length c0_1]) (t:=26) ?hr ?_;(case hd=>rfl);(case hg=>rfl);(case hr=>(go_simp;done));intro gb459 hg w160 hbox hb;have GW459:=gS w hg;have GE459:=gS w hg;replace HB:=bs hb;clear hb hbox hg)|((with_reducible refine gate_dst (N:=4) rfl ?_);refine box_event ?hg (N:=4) ?hd (cs:=#[.slice A1_0 l1_0.length c1_0]) (t:=35) ?hr ?_;(case hd=>rfl);(case hg=>rfl);(case hr=>(go_simp;done));intro gb460 hg w161 hbox hb;have GW460:=gS w hg;have GE460:=gS w hg;replace HB:=bs hb;clear hb hbox hg)|((with_reducible refine gate_callee (f:=57) rfl ?_);refine goesL_ (some 16) rfl rfl Try.func57 (by kernel_rfl) rfl #[.slice A2 l2.length c2] rfl (by (try simp only [List.map_toArray,List.map_cons,List.map_nil]);rfl) ?_;(with_reducible refine (impl_DevsOk.calls k _ _ l2 false _ ?side1 ?side2 A4.out).mono ?_);(case side1=>exact rC HR2);(case side2=>exact HC2.out);rintro e w162 ⟨rfl,hb⟩;refine ⟨_,rfl,?_⟩;replace HB:=bs hb;(try clear hb)))
  go_ret
  exact ⟨rz,be⟩
end Go.Proofs.Ytpbjbfimnfghkaa.PFnRebalanced
