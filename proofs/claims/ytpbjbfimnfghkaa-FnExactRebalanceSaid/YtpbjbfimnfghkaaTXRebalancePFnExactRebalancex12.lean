/- Trimmed by a program of this session (trim.py). Not trusted: Lean checks it. -/
import Derived.Test.YtpbjbfimnfghkaaTXRebalancePFnExactRebalancex0
import Derived.Test.YtpbjbfimnfghkaaTXRebalancePFnExactRebalancex6
import Derived.Test.YtpbjbfimnfghkaaTXRebalancePFnExactRebalancex8
import Derived.Test.YtpbjbfimnfghkaaTXRebalancePFnExactRebalancex10
import Derived.Test.YtpbjbfimnfghkaaTXRebalancePFnExactRebalancex11
namespace Go.Proofs.Ytpbjbfimnfghkaa.PFnExactRebalance
open Go.RowKit Go.Proofs.YtpbjbfimnfghkaaW.PrintWords Go.Proofs.YtpbjbfimnfghkaaW.PrintLast Go.Proofs.YtpbjbfimnfghkaaW.PrintMore Go.Proofs.Ytpbjbfimnfghkaa.St
attribute [local go_sem] max2_int min2_int max_two min_two max_three min_three max_four min_four
set_option linter.unusedVariables false
set_option linter.unusedSimpArgs false
def spec_Rebalance.l0:Nat→List (S61)→Int→Int→Int→List (S35)→Option (Int × (List (S35)) × Int)
 | 0,_,_,_,_,_=>none
 | k+1,x1,x7,x8,x316000,x316001=>if x8 < (x316001.length:Int) then (if 0≤x8 then ((spec_l6Lost.f k ((rd_T35 x316001 x8).f0) x1).bind fun t319=>(if t319 ≥ 0 then ((some (([]:List Int):List Int)).bind fun y320=>(if 0≤t319 then (if t319≤(((rd_T35 x316001 x8).f0).length:Int) then ((some (((rd_T35 x316001 x8).f0).take (t319:Int).toNat:List Int)).bind fun y323=>(if y320.length+y323.length < 17592186044416 then ((some (y320 ++ y323:List Int)).bind fun y327=>(if 0≤(wrap64 (t319+1)) then (if (wrap64 (t319+1))≤(((rd_T35 x316001 x8).f0).length:Int) then ((some (((rd_T35 x316001 x8).f0).drop ((wrap64 (t319+1)):Int).toNat:List Int)).bind fun y330=>(if y327.length+y330.length < 17592186044416 then ((spec_Best.f k x316000 x316001 (y327 ++ y330) x1).bind fun t338=>(if t338 ≥ 0 then (if t319 < (((rd_T35 x316001 x8).f0).length:Int) then (spec_Rebalance.l0 k x1 (wrap64 (x7+1)) (wrap64 (x8+1)) x316000 (x316001.set (x8:Int).toNat (⟨(((rd_T35 x316001 x8).f0).set (t319:Int).toNat t338)⟩:S35))) else (none)) else (spec_Rebalance.l0 k x1 x7 (wrap64 (x8+1)) x316000 x316001))) else (none))) else (none)) else (none))) else (none))) else (none)) else (none))) else ((spec_Best.f k x316000 x316001 ((rd_T35 x316001 x8).f0) x1).bind fun t343=>((spec_l6Heavy.f k x316000 x316001 ((rd_T35 x316001 x8).f0) x1 t343).bind fun t344=>(if t344 ≥ 0 then (if t343 ≥ 0 then (if 0≤t344 then (if t344 < (((rd_T35 x316001 x8).f0).length:Int) then (spec_Rebalance.l0 k x1 (wrap64 (x7+1)) (wrap64 (x8+1)) x316000 (x316001.set (x8:Int).toNat (⟨(((rd_T35 x316001 x8).f0).set (t344:Int).toNat t343)⟩:S35))) else (none)) else (none)) else (spec_Rebalance.l0 k x1 x7 (wrap64 (x8+1)) x316000 x316001)) else (spec_Rebalance.l0 k x1 x7 (wrap64 (x8+1)) x316000 x316001)))))) else (none)) else (some (x316000,x316001,x7))
def spec_Rebalance.f (k:Nat) (a0_0:Int) (l0_1:List (S35)) (l1:List (S61)):Option (Int × (List (S35)) × Int):=(spec_l5Copy.f k a0_0 l0_1).bind fun bt311=>((spec_l6Ok.f k a0_0 l0_1 l1).bind fun t316=>(if t316=true then (spec_Rebalance.l0 k l1 0 0 bt311.1 bt311.2) else (some (bt311.1,bt311.2,(-1)))))
def spec_Rebalance.T12:Bool × List (List Nat × List Nat):=(true,[([],[]),([],[]),([1],[1]),([],[]),([2,3],[2,3]),([0,4],[0,4]),([],[]),([6],[6]),([],[]),([8],[8]),([7,9],[7,9]),([5,10,5],[5,10]),([11],[11]),([],[]),([13,12,11,0,1,2,3,4,5,6,7,8,9,10,11,12,13],[12,13])])
def spec_Rebalance.B12:List Nat:=[0,0,2,0,14,31,0,64,0,256,960,2047,4095,0,16383]
theorem spec_Rebalance.tab12:rtab .any (opsOf Try.f11 12)=spec_Rebalance.T12:=by kernel_rfl
theorem spec_Rebalance.bits12:waitsOk spec_Rebalance.T12.2 spec_Rebalance.B12=true:=by kernel_rfl
set_option maxHeartbeats 8000000 in
set_option maxRecDepth 100000 in
theorem spec_Rebalance.calls (k:Nat) (a0_0:Int) (A0_1:Option Addr) (c0_1:Nat) (l0_1:List (S35)) (A1:Option Addr) (c1:Nat) (l1:List (S61)) (r1:Int) (r2:List (S35)) (r3:Int) (w:World) (hr0_1:Kd.C k35 w A0_1 l0_1.length l0_1) (hc0_1:l0_1.length≤c0_1) (hr1:Kd.C k61 w A1 l1.length l1) (hc1:l1.length≤c1) (h:spec_Rebalance.f k a0_0 l0_1 l1=some (r1,r2,r3)) :
  Calls Try.prog 11 #[.agg #[.int .i64 a0_0,.slice A0_1 l0_1.length c0_1],.slice A1 l1.length c1] w fun e w'=>∃ v1_:Value,e = .returned (.tuple #[.agg #[.int .i64 r1,v1_],.int .i64 r3])∧Kd.S k35 35 w' w.heap.size (fun _=>True) v1_ r2∧Below w.heap.size w w':=by
 have hu26:=Try.underlying26
 have hu35:=Try.underlying35
 have HR0_1:=aM hr0_1
 have HC0_1:=aM hc0_1
 clear hr0_1 hc0_1
 have HR1:=aM hr1
 have HC1:=aM hc1
 clear hr1 hc1
 have HB:=aM (Below.refl w.heap.size w)
 have H:((spec_l5Copy.f k a0_0 l0_1).bind fun bt311=>((spec_l6Ok.f k a0_0 l0_1 l1).bind fun t316=>(if t316=true then (spec_Rebalance.l0 k l1 0 0 bt311.1 bt311.2) else (some (bt311.1,bt311.2,(-1))))))=some (r1,r2,r3):=h
 clear h
 replace H:=Option.bind_eq_some_iff.mp H
 obtain ⟨⟨t311,t312⟩,A30,H⟩:=H
 try dsimp only at H
 have A3:=aM A30
 clear A30
 replace H:=Option.bind_eq_some_iff.mp H
 obtain ⟨t316,A40,H⟩:=H
 try dsimp only at H
 have A4:=aM A40
 clear A40
 by_cases c5:t316=true
 ·subst c5
  rw [if_pos rfl] at H
  have H':=Aside0.mk H
  clear H
  go_enter Try.func11,Try.ntmps11
  go_wp2_with (first|((with_reducible refine gate_dst (N:=2) rfl ?_);refine box_event ?hg (N:=2) ?hd (cs:=#[.int .i64 a0_0,.slice A0_1 l0_1.length c0_1]) (t:=26) ?hr ?_;(case hd=>rfl);(case hg=>rfl);(case hr=>first|(go_simp;done)|(go_simp;rfl));intro gb309 hg w6 hbox hb;have BK309:=aM (hbox);have GW309:=gS w hg;have GE309:=gS w hg;replace HB:=bs hb;clear hb hbox hg)|((with_reducible refine gate_dst (N:=4) rfl ?_);refine box_event ?hg (N:=4) ?hd (cs:=#[.int .i64 0,.slice none 0 0]) (t:=26) ?hr ?_;(case hd=>rfl);(case hg=>rfl);(case hr=>first|(go_simp;done)|(go_simp;rfl));intro gb310 hg w7 hbox hb;have BK310:=aM (hbox);have GW310:=gS w hg;have GE310:=gS w hg;replace HB:=bs hb;have NB309_310:=nL hg BK309;have NB310_309:=nG hg BK309;replace BK309:=bB BK309 hb;clear hb hbox hg;have hnb8:=NB309_310.out;have hnc8:=NB310_309.out;have hcz9_0:w7.cell? ⟨gb309,0,none⟩=some (.int .i64 a0_0):=(blk_cell BK309.out 0).trans rfl;have hcz9_1:w7.cell? ⟨gb309,1,none⟩=some (.slice A0_1 l0_1.length c0_1):=(blk_cell BK309.out 1).trans rfl;have hfz9_0:=blk_frozen BK309.out 0;have hfz9_1:=blk_frozen BK309.out 1)|((with_reducible refine gate_callee (f:=47) rfl ?_);refine goesL_ (some 14) rfl rfl Try.func47 (by kernel_rfl) rfl #[.agg #[.int .i64 a0_0,.slice A0_1 l0_1.length c0_1]] rfl (by (try simp only [List.map_toArray,List.map_cons,List.map_nil]);first|done|rfl|(simp only [List.length_drop,List.length_take];rfl)) ?_;(with_reducible refine (spec_l5Copy.calls k a0_0 _ _ l0_1 t311 t312 _ ?side1 ?side2 A3.out).mono ?_);(case side1=>exact rC HR0_1);(case side2=>exact HC0_1.out);rintro e w10 ⟨v313,rfl,ho0,hb⟩;refine ⟨_,rfl,?_⟩;have HO314:=aM (Kd.S_lower ho0 (below_size be));replace BK309:=bB BK309 hb;replace BK310:=bB BK310 hb;replace HB:=bs hb;(try clear hb);(try clear ho0))|((with_reducible refine gate_dst (N:=6) rfl ?_);refine box_event ?hg (N:=6) ?hd (cs:=#[.int .i64 0,.slice none 0 0]) (t:=26) ?hr ?_;(case hd=>rfl);(case hg=>rfl);(case hr=>first|(go_simp;done)|(go_simp;rfl));intro gb315 hg w11 hbox hb;replace HO314:=sB HO314 hb;have BK315:=aM (hbox);have GW315:=gS w hg;have GE315:=gS w hg;replace HB:=bs hb;have NB309_315:=nL hg BK309;have NB315_309:=nG hg BK309;replace BK309:=bB BK309 hb;have NB310_315:=nL hg BK310;have NB315_310:=nG hg BK310;replace BK310:=bB BK310 hb;clear hb hbox hg;have hnb12:=NB315_309.out;have hnc12:=NB309_315.out;have hnb13:=NB315_310.out;have hnc13:=NB310_315.out;have hcz14_0:w11.cell? ⟨gb315,0,none⟩=some (.int .i64 0):=(blk_cell BK315.out 0).trans rfl;have hcz14_1:w11.cell? ⟨gb315,1,none⟩=some (.slice none 0 0):=(blk_cell BK315.out 1).trans rfl;have hfz14_0:=blk_frozen BK315.out 0;have hfz14_1:=blk_frozen BK315.out 1;obtain ⟨Ao15,co15,eo15⟩:=Kd.S_slice HO314.out;subst eo15;have hcz16_0:w11.cell? ⟨gb309,0,none⟩=some (.int .i64 a0_0):=(blk_cell BK309.out 0).trans rfl;have hcz16_1:w11.cell? ⟨gb309,1,none⟩=some (.slice A0_1 l0_1.length c0_1):=(blk_cell BK309.out 1).trans rfl;have hfz16_0:=blk_frozen BK309.out 0;have hfz16_1:=blk_frozen BK309.out 1)|((with_reducible refine gate_callee (f:=48) rfl ?_);refine goesL_ (some 17) rfl rfl Try.func48 (by kernel_rfl) rfl #[.agg #[.int .i64 a0_0,.slice A0_1 l0_1.length c0_1],.slice A1 l1.length c1] rfl (by (try simp only [List.map_toArray,List.map_cons,List.map_nil]);first|done|rfl|(simp only [List.length_drop,List.length_take];rfl)) ?_;(with_reducible refine (spec_l6Ok.calls k a0_0 _ _ l0_1 _ _ l1 true _ ?side1 ?side2 ?side3 ?side4 A4.out).mono ?_);(case side1=>exact Kd.C_below HR0_1.out be);(case side2=>exact HC0_1.out);(case side3=>exact Kd.C_below HR1.out be);(case side4=>exact HC1.out);rintro e w17 ⟨rfl,hb⟩;refine ⟨_,rfl,?_⟩;replace HO314:=aM (Kd.S_below ((by (with_reducible repeat (first|apply Kd.S_alloc|apply Kd.S_drewN|apply Kd.S_drew));exact (Kd.S_mono (Kd.S_far (p:=⟨gb315,1,none⟩) (Kd.S_far (p:=⟨gb315,0,none⟩) (Kd.S_types HO314.out BK315.out (by decide)) (fun _ hk=>hk.2) (.int .i64 t311)) (fun _ hk=>hk.2) (.slice Ao15 t312.length co15)) (fun _ h_=>h_.1)))) hb);replace BK309:=aM (blk_below (g:=gb309) (o:=.cells #[.int .i64 a0_0,.slice A0_1 l0_1.length c0_1] 26 (0,0)) (by (with_reducible repeat (first|refine blk_drewN ?_ _|refine blk_drew ?_|refine blk_alloc ?_ _));refine blk_far ?_ NB309_315.out _;(with_reducible repeat (first|refine blk_drewN ?_ _|refine blk_drew ?_|refine blk_alloc ?_ _));refine blk_far ?_ NB309_315.out _;(with_reducible repeat (first|refine blk_drewN ?_ _|refine blk_drew ?_|refine blk_alloc ?_ _));exact BK309.out) hb);replace BK310:=aM (blk_below (g:=gb310) (o:=.cells #[.int .i64 0,.slice none 0 0] 26 (0,0)) (by (with_reducible repeat (first|refine blk_drewN ?_ _|refine blk_drew ?_|refine blk_alloc ?_ _));refine blk_far ?_ NB310_315.out _;(with_reducible repeat (first|refine blk_drewN ?_ _|refine blk_drew ?_|refine blk_alloc ?_ _));refine blk_far ?_ NB310_315.out _;(with_reducible repeat (first|refine blk_drewN ?_ _|refine blk_drew ?_|refine blk_alloc ?_ _));exact BK310.out) hb);replace BK315:=aM (blk_below (g:=gb315) (o:=.cells #[.int .i64 t311,.slice Ao15 t312.length co15] 26 (0,0)) (by (with_reducible repeat (first|refine blk_drewN ?_ _|refine blk_drew ?_|refine blk_alloc ?_ _));refine blk_put (cs:=#[.int .i64 t311,.slice none 0 0]) ?_ 1 _ rfl;(with_reducible repeat (first|refine blk_drewN ?_ _|refine blk_drew ?_|refine blk_alloc ?_ _));refine blk_put (cs:=#[.int .i64 0,.slice none 0 0]) ?_ 0 _ rfl;(with_reducible repeat (first|refine blk_drewN ?_ _|refine blk_drew ?_|refine blk_alloc ?_ _));exact BK315.out) hb);replace HB:=bs hb;(try clear hb)))
  go_loopg [7,8] k (fun kq v7 v8 w'=>∃ (x7_1:Int) (x8_1:Int) (x316001_1:List (S35)) (u316001:Value),v7 = .int .i64 x7_1∧v8 = .int .i64 x8_1∧Aside0 (spec_Rebalance.l0 kq l1 x7_1 x8_1 t311 x316001_1=some (r1,r2,r3))∧Aside0 (kq≤k)∧Aside0 (Kd.S k35 35 w' w.heap.size (fun _=>True) u316001 x316001_1)∧Aside0 (w'.heap[gb309]?=some (.cells #[.int .i64 a0_0,(.slice A0_1 l0_1.length c0_1)] 26 (0,0)))∧Aside0 (w'.heap[gb310]?=some (.cells #[.int .i64 0,(.slice none 0 0)] 26 (0,0)))∧Aside0 (w'.heap[gb315]?=some (.cells #[.int .i64 t311,u316001] 26 (0,0)))∧Aside0 (Below w.heap.size w w'))
  case atStart=>exact ⟨(0),(0),(t312),(.slice Ao15 t312.length co15),rd_,rd_,H',⟨Nat.le_refl _⟩,⟨rS HO314⟩,⟨bk BK309⟩,⟨bk BK310⟩,⟨bk BK315⟩,⟨be⟩⟩
  case round=>
   clear H'
   try clear hcz14_0
   try clear hcz14_1
   try clear hcz16_0
   try clear hcz16_1
   try clear hcz9_0
   try clear hcz9_1
   try clear hfz14_0
   try clear hfz14_1
   try clear hfz16_0
   try clear hfz16_1
   try clear hfz9_0
   try clear hfz9_1
   obtain ⟨x7_1,x8_1,x316001_1,u316001,rfl,rfl,HA,HK1,HO_316001,BK309,BK310,BK315,HB⟩:=hrel
   cases gk with
   | zero=>exact absurd HA.out (by simp [spec_Rebalance.l0])
   | succ k1=>
    have H:=HA.out
    clear HA
    simp only [spec_Rebalance.l0] at H
    by_cases c18:x8_1 < (x316001_1.length:Int)
    ·rw [if_pos c18] at H
     have c18b0:decide (x8_1 < (x316001_1.length:Int))=true:=decide_eq_true c18
     clear c18
     by_cases c19:0≤x8_1
     ·rw [if_pos c19] at H
      have c19b0:decide (0≤x8_1)=true:=decide_eq_true c19
      clear c19
      replace H:=Option.bind_eq_some_iff.mp H
      obtain ⟨t319,A200,H⟩:=H
      try dsimp only at H
      have A20:=aM A200
      clear A200
      by_cases c21:t319 ≥ 0
      ·rw [if_pos c21] at H
       have c21b0:decide (0≤t319)=true:=decide_eq_true c21
       clear c21
       obtain ⟨y320,hy320⟩ : ∃ y_:List Int,y_=(([]:List Int)):=⟨_,rfl⟩
       replace H:(if 0≤t319 then (if t319≤(((rd_T35 x316001_1 x8_1).f0).length:Int) then ((some (((rd_T35 x316001_1 x8_1).f0).take (t319:Int).toNat:List Int)).bind fun y323=>(if y320.length+y323.length < 17592186044416 then ((some (y320 ++ y323:List Int)).bind fun y327=>(if 0≤(wrap64 (t319+1)) then (if (wrap64 (t319+1))≤(((rd_T35 x316001_1 x8_1).f0).length:Int) then ((some (((rd_T35 x316001_1 x8_1).f0).drop ((wrap64 (t319+1)):Int).toNat:List Int)).bind fun y330=>(if y327.length+y330.length < 17592186044416 then ((spec_Best.f k1 t311 x316001_1 (y327 ++ y330) l1).bind fun t338=>(if t338 ≥ 0 then (if t319 < (((rd_T35 x316001_1 x8_1).f0).length:Int) then (spec_Rebalance.l0 k1 l1 (wrap64 (x7_1+1)) (wrap64 (x8_1+1)) t311 (x316001_1.set (x8_1:Int).toNat (⟨(((rd_T35 x316001_1 x8_1).f0).set (t319:Int).toNat t338)⟩:S35))) else (none)) else (spec_Rebalance.l0 k1 l1 x7_1 (wrap64 (x8_1+1)) t311 x316001_1))) else (none))) else (none)) else (none))) else (none))) else (none)) else (none))=some (r1,r2,r3):=by first|(rw [hy320];with_reducible exact H)|(have H2_:=(Option.bind_some _ _).symm.trans H;rw [hy320];with_reducible exact H2_)|(have H2_:=(Option.bind_some _ _).symm.trans H;with_reducible exact H2_)|with_reducible exact H|(rw [hy320];exact H)|exact H
       have Ny320:=aM hy320
       clear hy320
       by_cases c22:0≤t319
       ·rw [if_pos c22] at H
        have c22b0:=eq_true c22
        have c22b1:decide (0≤t319)=true:=decide_eq_true c22
        clear c22
        by_cases c23:t319≤(((rd_T35 x316001_1 x8_1).f0).length:Int)
        ·rw [if_pos c23] at H
         have c23b0:=eq_true c23
         have c23b1:decide (t319≤(((rd_T35 x316001_1 x8_1).f0).length:Int))=true:=decide_eq_true c23
         clear c23
         obtain ⟨y323,hy323⟩ : ∃ y_:List Int,y_=(((rd_T35 x316001_1 x8_1).f0).take (t319:Int).toNat):=⟨_,rfl⟩
         replace H:(if y320.length+y323.length < 17592186044416 then ((some (y320 ++ y323:List Int)).bind fun y327=>(if 0≤(wrap64 (t319+1)) then (if (wrap64 (t319+1))≤(((rd_T35 x316001_1 x8_1).f0).length:Int) then ((some (((rd_T35 x316001_1 x8_1).f0).drop ((wrap64 (t319+1)):Int).toNat:List Int)).bind fun y330=>(if y327.length+y330.length < 17592186044416 then ((spec_Best.f k1 t311 x316001_1 (y327 ++ y330) l1).bind fun t338=>(if t338 ≥ 0 then (if t319 < (((rd_T35 x316001_1 x8_1).f0).length:Int) then (spec_Rebalance.l0 k1 l1 (wrap64 (x7_1+1)) (wrap64 (x8_1+1)) t311 (x316001_1.set (x8_1:Int).toNat (⟨(((rd_T35 x316001_1 x8_1).f0).set (t319:Int).toNat t338)⟩:S35))) else (none)) else (spec_Rebalance.l0 k1 l1 x7_1 (wrap64 (x8_1+1)) t311 x316001_1))) else (none))) else (none)) else (none))) else (none))=some (r1,r2,r3):=by first|(rw [hy323];with_reducible exact H)|(have H2_:=(Option.bind_some _ _).symm.trans H;rw [hy323];with_reducible exact H2_)|(have H2_:=(Option.bind_some _ _).symm.trans H;with_reducible exact H2_)|with_reducible exact H|(rw [hy323];exact H)|exact H
         have Ny323:=aM hy323
         clear hy323
         by_cases c24:y320.length+y323.length < 17592186044416
         ·rw [if_pos c24] at H
          have LMc24:=aM c24
          clear c24
          obtain ⟨y327,hy327⟩ : ∃ y_:List Int,y_=(y320 ++ y323):=⟨_,rfl⟩
          replace H:(if 0≤(wrap64 (t319+1)) then (if (wrap64 (t319+1))≤(((rd_T35 x316001_1 x8_1).f0).length:Int) then ((some (((rd_T35 x316001_1 x8_1).f0).drop ((wrap64 (t319+1)):Int).toNat:List Int)).bind fun y330=>(if y327.length+y330.length < 17592186044416 then ((spec_Best.f k1 t311 x316001_1 (y327 ++ y330) l1).bind fun t338=>(if t338 ≥ 0 then (if t319 < (((rd_T35 x316001_1 x8_1).f0).length:Int) then (spec_Rebalance.l0 k1 l1 (wrap64 (x7_1+1)) (wrap64 (x8_1+1)) t311 (x316001_1.set (x8_1:Int).toNat (⟨(((rd_T35 x316001_1 x8_1).f0).set (t319:Int).toNat t338)⟩:S35))) else (none)) else (spec_Rebalance.l0 k1 l1 x7_1 (wrap64 (x8_1+1)) t311 x316001_1))) else (none))) else (none)) else (none))=some (r1,r2,r3):=by first|(rw [hy327];with_reducible exact H)|(have H2_:=(Option.bind_some _ _).symm.trans H;rw [hy327];with_reducible exact H2_)|(have H2_:=(Option.bind_some _ _).symm.trans H;with_reducible exact H2_)|with_reducible exact H|(rw [hy327];exact H)|exact H
          have Ny327:=aM hy327
          clear hy327
          obtain ⟨ji25,hji25⟩ : ∃ j_:Int,(wrap64 (t319+1))=j_:=⟨_,rfl⟩
          replace H:(if 0≤(ji25) then (if (ji25)≤(((rd_T35 x316001_1 x8_1).f0).length:Int) then ((some (((rd_T35 x316001_1 x8_1).f0).drop ((ji25):Int).toNat:List Int)).bind fun y330=>(if y327.length+y330.length < 17592186044416 then ((spec_Best.f k1 t311 x316001_1 (y327 ++ y330) l1).bind fun t338=>(if t338 ≥ 0 then (if t319 < (((rd_T35 x316001_1 x8_1).f0).length:Int) then (spec_Rebalance.l0 k1 l1 (wrap64 (x7_1+1)) (wrap64 (x8_1+1)) t311 (x316001_1.set (x8_1:Int).toNat (⟨(((rd_T35 x316001_1 x8_1).f0).set (t319:Int).toNat t338)⟩:S35))) else (none)) else (spec_Rebalance.l0 k1 l1 x7_1 (wrap64 (x8_1+1)) t311 x316001_1))) else (none))) else (none)) else (none))=some (r1,r2,r3):=by first|(rw [hji25] at H;exact H)|(simp only [hji25] at H ⊢;exact H)
          (try rw [hji25] at A20)
          have hji25w:(IntKind.i64.wrap (t319+1))=ji25:=(i64_w _).trans hji25
          by_cases c26:0≤(ji25)
          ·rw [if_pos c26] at H
           have c26b0:=eq_true c26
           have c26b1:decide (0≤(ji25))=true:=decide_eq_true c26
           clear c26
           by_cases c27:(ji25)≤(((rd_T35 x316001_1 x8_1).f0).length:Int)
           ·rw [if_pos c27] at H
            have c27b0:=eq_true c27
            have c27b1:decide ((ji25)≤(((rd_T35 x316001_1 x8_1).f0).length:Int))=true:=decide_eq_true c27
            clear c27
            obtain ⟨y330,hy330⟩ : ∃ y_:List Int,y_=(((rd_T35 x316001_1 x8_1).f0).drop ((ji25):Int).toNat):=⟨_,rfl⟩
            replace H:(if y327.length+y330.length < 17592186044416 then ((spec_Best.f k1 t311 x316001_1 (y327 ++ y330) l1).bind fun t338=>(if t338 ≥ 0 then (if t319 < (((rd_T35 x316001_1 x8_1).f0).length:Int) then (spec_Rebalance.l0 k1 l1 (wrap64 (x7_1+1)) (wrap64 (x8_1+1)) t311 (x316001_1.set (x8_1:Int).toNat (⟨(((rd_T35 x316001_1 x8_1).f0).set (t319:Int).toNat t338)⟩:S35))) else (none)) else (spec_Rebalance.l0 k1 l1 x7_1 (wrap64 (x8_1+1)) t311 x316001_1))) else (none))=some (r1,r2,r3):=by first|(rw [hy330];with_reducible exact H)|(have H2_:=(Option.bind_some _ _).symm.trans H;rw [hy330];with_reducible exact H2_)|(have H2_:=(Option.bind_some _ _).symm.trans H;with_reducible exact H2_)|with_reducible exact H|(rw [hy330];exact H)|exact H
            have Ny330:=aM hy330
            clear hy330
            by_cases c28:y327.length+y330.length < 17592186044416
            ·rw [if_pos c28] at H
             have LMc28:=aM c28
             clear c28
             obtain ⟨y334,hy334⟩ : ∃ y_:List Int,y_=(y327 ++ y330):=⟨_,rfl⟩
             replace H:((spec_Best.f k1 t311 x316001_1 y334 l1).bind fun t338=>(if t338 ≥ 0 then (if t319 < (((rd_T35 x316001_1 x8_1).f0).length:Int) then (spec_Rebalance.l0 k1 l1 (wrap64 (x7_1+1)) (wrap64 (x8_1+1)) t311 (x316001_1.set (x8_1:Int).toNat (⟨(((rd_T35 x316001_1 x8_1).f0).set (t319:Int).toNat t338)⟩:S35))) else (none)) else (spec_Rebalance.l0 k1 l1 x7_1 (wrap64 (x8_1+1)) t311 x316001_1)))=some (r1,r2,r3):=by first|(rw [hy334];with_reducible exact H)|(have H2_:=(Option.bind_some _ _).symm.trans H;rw [hy334];with_reducible exact H2_)|(have H2_:=(Option.bind_some _ _).symm.trans H;with_reducible exact H2_)|with_reducible exact H|(rw [hy334];exact H)|exact H
             have Ny334:=aM hy334
             clear hy334
             replace H:=Option.bind_eq_some_iff.mp H
             obtain ⟨t338,A290,H⟩:=H
             try dsimp only at H
             have A29:=aM A290
             clear A290
             by_cases c30:t338 ≥ 0
             ·rw [if_pos c30] at H
              have c30b0:decide (0≤t338)=true:=decide_eq_true c30
              clear c30
              by_cases c31:t319 < (((rd_T35 x316001_1 x8_1).f0).length:Int)
              ·rw [if_pos c31] at H
               have c31b0:decide (t319 < (((rd_T35 x316001_1 x8_1).f0).length:Int))=true:=decide_eq_true c31
               clear c31
               obtain ⟨y340,hy340⟩ : ∃ y_:List Int,y_=(((rd_T35 x316001_1 x8_1).f0).set (t319:Int).toNat t338):=⟨_,rfl⟩
               replace H:(spec_Rebalance.l0 k1 l1 (wrap64 (x7_1+1)) (wrap64 (x8_1+1)) t311 (x316001_1.set (x8_1:Int).toNat (⟨y340⟩:S35)))=some (r1,r2,r3):=by first|(rw [hy340];with_reducible exact H)|(have H2_:=(Option.bind_some _ _).symm.trans H;rw [hy340];with_reducible exact H2_)|(have H2_:=(Option.bind_some _ _).symm.trans H;with_reducible exact H2_)|with_reducible exact H|(rw [hy340];exact H)|exact H
               have Ny340:=aM hy340
               clear hy340
               obtain ⟨y342,hy342⟩ : ∃ y_:List (S35),y_=(x316001_1.set (x8_1:Int).toNat (⟨y340⟩:S35)):=⟨_,rfl⟩
               replace H:(spec_Rebalance.l0 k1 l1 (wrap64 (x7_1+1)) (wrap64 (x8_1+1)) t311 y342)=some (r1,r2,r3):=by first|(rw [hy342];with_reducible exact H)|(have H2_:=(Option.bind_some _ _).symm.trans H;rw [hy342];with_reducible exact H2_)|(have H2_:=(Option.bind_some _ _).symm.trans H;with_reducible exact H2_)|with_reducible exact H|(rw [hy342];exact H)|exact H
               have Ny342:=aM hy342
               clear hy342
               have H':=Aside0.mk H
               clear H
               have hnb33:=NB315_309.out
               have hnc33:=NB309_315.out
               have hnb34:=NB315_310.out
               have hnc34:=NB310_315.out
               have hcz35_0:wr.cell? ⟨gb315,0,none⟩=some (.int .i64 t311):=(blk_cell BK315.out 0).trans rfl
               have hcz35_1:wr.cell? ⟨gb315,1,none⟩=some (u316001):=(blk_cell BK315.out 1).trans rfl
               have hfz35_0:=blk_frozen BK315.out 0
               have hfz35_1:=blk_frozen BK315.out 1
               obtain ⟨Ao36,co36,eo36⟩:=Kd.S_slice HO_316001.out
               subst eo36
               have p317:0≤(x8_1:Int):=of_decide_eq_true (by first|(with_reducible assumption)|assumption)
               have q317:x8_1 < (x316001_1.length:Int):=of_decide_eq_true (by first|(with_reducible assumption)|assumption)
               obtain ⟨ad317,A317_0,c317_0,e317,hx317_0,hl317_0,hi317_0⟩:=at_T35 (Kd.S_reads' HO_316001.out).2.2 x8_1 p317 q317
               cases e317
               obtain ⟨ce317,hce317,hMe317,hcc317⟩:=Kd.S_get HO_316001.out z35 x8_1 p317 (by first|exact q317|exact of_decide_eq_true (by first|(with_reducible assumption)|assumption)|(have e_:=(Kd.S_reads' HO_316001.out).1;omega))
               obtain ⟨ve317_0,rfl,ge317_0⟩:=k35_openM hMe317
               have hv317_0:=hcc317 0 _ rfl
               rw [Nat.add_zero,show (k35).sz=1 from rfl,Nat.mul_one] at hv317_0
               replace hv317_0:=Option.some.inj (hv317_0.symm.trans hx317_0)
               rw [hv317_0] at ge317_0
               have HL317_0:=aM (show Kd.R (Kd.int .i64) 3 _ _ _ _ ((rd_T35 x316001_1 x8_1).f0) from ge317_0)
               clear hv317_0 ge317_0
               have HX317_0:=aM hx317_0
               clear hcc317 hce317
               have HR317_0:=aM hi317_0
               have HC317_0:=aM hl317_0
               clear hi317_0 hl317_0
               replace p317:=eq_true p317
               replace q317:=eq_true q317
               try go_wp2_with (first|((with_reducible refine gate_dst (N:=9) rfl ?_);refine box_event ?hg (N:=9) ?hd (cs:=#[.slice none 0 0]) (t:=35) ?hr ?_;(case hd=>rfl);(case hg=>rfl);(case hr=>first|(go_simp;done)|(go_simp;rfl));intro gb318 hg w37 hbox hb;replace HO_316001:=aM (Kd.S_below (Kd.S_elderB (rS HO_316001) gb318 (Nat.le_of_eq hg.symm)) hb);replace HL317_0:=rB HL317_0 hb;replace HR317_0:=aM (Kd.C_below (by repeat ((with_reducible exact HR317_0.out))) hb);replace HX317_0:=xB hb HX317_0;have BK318:=aM (hbox);have GW318:=gS w hg;have GE318:=gS w hg;replace HB:=bs hb;have NB309_318:=nL hg BK309;have NB318_309:=nG hg BK309;replace BK309:=bB BK309 hb;have NB310_318:=nL hg BK310;have NB318_310:=nG hg BK310;replace BK310:=bB BK310 hb;have NB315_318:=nL hg BK315;have NB318_315:=nG hg BK315;replace BK315:=bB BK315 hb;clear hb hbox hg;have hnb38:=NB318_309.out;have hnc38:=NB309_318.out;have hnb39:=NB318_310.out;have hnc39:=NB310_318.out;have hnb40:=NB318_315.out;have hnc40:=NB315_318.out;have hcz41_0:w37.cell? ⟨gb318,0,none⟩=some (.slice none 0 0):=(blk_cell BK318.out 0).trans rfl;have hfz41_0:=blk_frozen BK318.out 0)|((with_reducible refine gate_callee (f:=49) rfl ?_);refine goesL_ (some 34) rfl rfl Try.func49 (by kernel_rfl) rfl #[.agg #[.slice A317_0 ((rd_T35 x316001_1 x8_1).f0).length c317_0],.slice A1 l1.length c1] rfl (by (try simp only [List.map_toArray,List.map_cons,List.map_nil]);first|done|rfl|(simp only [List.length_drop,List.length_take];rfl)) ?_;(with_reducible refine (spec_l6Lost.calls k1 _ _ ((rd_T35 x316001_1 x8_1).f0) _ _ l1 t319 _ ?side1 ?side2 ?side3 ?side4 A20.out).mono ?_);(case side1=>repeat (exact ((Kd.R_reads' (by (with_reducible repeat (first|apply Kd.R_alloc|apply Kd.R_drewN|apply Kd.R_drew));exact (Kd.R_mono (Kd.R_far (p:=⟨gb318,0,none⟩) (Kd.R_types HL317_0.out BK318.out (by decide)) (fun _ hk=>hk.2) (.slice A317_0 ((rd_T35 x316001_1 x8_1).f0).length c317_0)) (fun _ h_=>h_.1)))).2.2)));(case side2=>exact HC317_0.out);(case side3=>exact Kd.C_below HR1.out be);(case side4=>exact HC1.out);rintro e w42 ⟨rfl,hb⟩;refine ⟨_,rfl,?_⟩;replace BK309:=aM (blk_below (g:=gb309) (o:=.cells #[.int .i64 a0_0,.slice A0_1 l0_1.length c0_1] 26 (0,0)) (by (with_reducible repeat (first|refine blk_drewN ?_ _|refine blk_drew ?_|refine blk_alloc ?_ _));refine blk_far ?_ NB309_318.out _;(with_reducible repeat (first|refine blk_drewN ?_ _|refine blk_drew ?_|refine blk_alloc ?_ _));exact BK309.out) hb);replace BK310:=aM (blk_below (g:=gb310) (o:=.cells #[.int .i64 0,.slice none 0 0] 26 (0,0)) (by (with_reducible repeat (first|refine blk_drewN ?_ _|refine blk_drew ?_|refine blk_alloc ?_ _));refine blk_far ?_ NB310_318.out _;(with_reducible repeat (first|refine blk_drewN ?_ _|refine blk_drew ?_|refine blk_alloc ?_ _));exact BK310.out) hb);replace BK315:=aM (blk_below (g:=gb315) (o:=.cells #[.int .i64 t311,.slice (some ad317) x316001_1.length co36] 26 (0,0)) (by (with_reducible repeat (first|refine blk_drewN ?_ _|refine blk_drew ?_|refine blk_alloc ?_ _));refine blk_far ?_ NB315_318.out _;(with_reducible repeat (first|refine blk_drewN ?_ _|refine blk_drew ?_|refine blk_alloc ?_ _));exact BK315.out) hb);replace HR317_0:=aM (Kd.C_below ((Kd.R_reads' (by (with_reducible repeat (first|apply Kd.R_alloc|apply Kd.R_drewN|apply Kd.R_drew));exact (Kd.R_mono (Kd.R_far (p:=⟨gb318,0,none⟩) (Kd.R_types HL317_0.out BK318.out (by decide)) (fun _ hk=>hk.2) (.slice A317_0 ((rd_T35 x316001_1 x8_1).f0).length c317_0)) (fun _ h_=>h_.1)))).2.2) hb);replace HL317_0:=aM (Kd.R_below ((by (with_reducible repeat (first|apply Kd.R_alloc|apply Kd.R_drewN|apply Kd.R_drew));exact (Kd.R_mono (Kd.R_far (p:=⟨gb318,0,none⟩) (Kd.R_types HL317_0.out BK318.out (by decide)) (fun _ hk=>hk.2) (.slice A317_0 ((rd_T35 x316001_1 x8_1).f0).length c317_0)) (fun _ h_=>h_.1)))) hb);replace HX317_0:=aM (pw_cell_below hb ((cell_far (p:=⟨gb318,0,none⟩) (by first|(rw [add_block];exact ((Kd.S_R HO_316001.out).1 _ rfl).2)|(show (Addr.add _ _).block ≠ _;rw [add_block];exact ((Kd.S_R HO_316001.out).1 _ rfl).2)|exact ((Kd.S_R HO_316001.out).1 _ rfl).2) (.slice A317_0 ((rd_T35 x316001_1 x8_1).f0).length c317_0)).trans (HX317_0.out)));replace HO_316001:=aM (Kd.S_below ((by (with_reducible repeat (first|apply Kd.S_alloc|apply Kd.S_drewN|apply Kd.S_drew));exact (Kd.S_mono (Kd.S_far (p:=⟨gb318,0,none⟩) (Kd.S_mono HO_316001.out (fun k_ hk=>(⟨hk,hk.2⟩:_∧k_ ≠ gb318))) (fun _ hk=>hk.2) (.slice A317_0 ((rd_T35 x316001_1 x8_1).f0).length c317_0)) (fun _ h_=>h_.1)))) hb);replace BK318:=aM (blk_below (g:=gb318) (o:=.cells #[.slice A317_0 ((rd_T35 x316001_1 x8_1).f0).length c317_0] 35 (0,0)) (by (with_reducible repeat (first|refine blk_drewN ?_ _|refine blk_drew ?_|refine blk_alloc ?_ _));refine blk_put (cs:=#[.slice none 0 0]) ?_ 0 _ rfl;(with_reducible repeat (first|refine blk_drewN ?_ _|refine blk_drew ?_|refine blk_alloc ?_ _));exact BK318.out) hb);replace HB:=bs hb;(try clear hb)))
               replace HO_316001:=aM (Kd.S_drew HO_316001.out);replace HL317_0:=aM (Kd.R_drew HL317_0.out);replace BK309:=aM (blk_drew BK309.out);replace BK310:=aM (blk_drew BK310.out);replace BK315:=aM (blk_drew BK315.out);replace BK318:=aM (blk_drew BK318.out);replace HR317_0:=aM (Kd.C_drew HR317_0.out);replace HX317_0:=aM (Aid.cell_drew HX317_0.out);replace HB:=aM (below_drew1 HB.out)
               have q44:(t319:Int)≤((((rd_T35 x316001_1 x8_1).f0).length:Int):Int):=of_decide_eq_true (by first|(with_reducible assumption)|assumption)
               obtain ⟨i044,hi044,_,hsz44,_⟩:=info_parts info3
               have hroom44:((rd_T35 x316001_1 x8_1).f0).length≤c317_0:=HC317_0.out
               have hC44:Kd.C (Kd.int .i64) _ A317_0 ((rd_T35 x316001_1 x8_1).f0).length ((rd_T35 x316001_1 x8_1).f0):=(by repeat ((with_reducible exact HR317_0.out)))
               have hcut44:=cut_to (P:=Try.prog) 33 3 .i64 Try.underlying33 hi044 A317_0 ((rd_T35 x316001_1 x8_1).f0).length c317_0 t319 (of_decide_eq_true (by first|(with_reducible assumption)|assumption)) q44 hroom44
               have hr44:=Kd.C_take (m:=(t319:Int).toNat) hC44 (by omega)
               have hy44:y323.length=(t319:Int).toNat:=(by rw [Ny323.out,List.length_take];omega)
               rw [← Ny323.out] at hr44
               rw [← hy44] at hcut44
               have HR326:=aM hr44
               have HC326:=aM (show y323.length≤c317_0 from by omega)
               clear hr44 hC44 hroom44 hi044 hsz44
               have KY44:=aM hy44
               clear hy44
               have KL44:=aM (show (t319:Int).toNat≤((rd_T35 x316001_1 x8_1).f0).length from by omega)
               replace q44:=eq_true q44
               have q45:((ji25):Int)≤((((rd_T35 x316001_1 x8_1).f0).length:Int):Int):=of_decide_eq_true (by first|(with_reducible assumption)|assumption)
               obtain ⟨i045,hi045,_,hsz45,_⟩:=info_parts info3
               have hroom45:((rd_T35 x316001_1 x8_1).f0).length≤c317_0:=HC317_0.out
               have hC45:Kd.C (Kd.int .i64) _ A317_0 ((rd_T35 x316001_1 x8_1).f0).length ((rd_T35 x316001_1 x8_1).f0):=(by repeat ((with_reducible exact HR317_0.out)))
               have q045:(0:Int)≤((ji25):Int):=of_decide_eq_true (by first|(with_reducible assumption)|assumption)
               have hcut45:=cut_from (P:=Try.prog) 33 3 .i64 Try.underlying33 hi045 1 hsz45 A317_0 ((rd_T35 x316001_1 x8_1).f0).length c317_0 (ji25) q045 q45
               have hr45:=Kd.C_drop (m:=((ji25):Int).toNat) (c:=c317_0) hC45 (by omega) hroom45
               obtain ⟨A45,hA45⟩ : ∃ A1,A1=(if c317_0=((ji25):Int).toNat then A317_0 else (A317_0:Option Addr).map (·.add (((ji25):Int).toNat * 1))):=⟨_,rfl⟩
               obtain ⟨c45,hc45⟩ : ∃ c1,c1=c317_0 - ((ji25):Int).toNat:=⟨_,rfl⟩
               have hy45:y330.length=((rd_T35 x316001_1 x8_1).f0).length - ((ji25):Int).toNat:=(by rw [Ny330.out,List.length_drop] <;> omega)
               rw [show ((rd_T35 x316001_1 x8_1).f0).drop ((ji25):Int).toNat=y330 from Ny330.out.symm] at hr45
               replace hr45:Kd.C (Kd.int .i64) _ A45 y330.length y330:=(by rw [hA45];exact hr45)
               rw [← hy45,← hA45,← hc45] at hcut45
               have HR333:=aM hr45
               have HC333:=aM (show y330.length≤c45 from by rw [hy45,hc45];exact Nat.sub_le_sub_right hroom45 _)
               clear hr45 hC45 hroom45 hi045 hsz45 hc45
               have KY45:=aM hy45
               have KA45:=aM hA45
               clear hy45 hA45
               have KL45:=aM (show ((ji25):Int).toNat≤((rd_T35 x316001_1 x8_1).f0).length from by omega)
               replace q45:=eq_true q45
               refine start_ (n:=15) (S:=fun w'=>w'.cell? ⟨gb318,0,none⟩=some (.slice A317_0 ((rd_T35 x316001_1 x8_1).f0).length c317_0)) (ds:=[]) (fl 15 0) (by kernel_rfl) rfl rfl ((blk_cell BK318.out 0).trans rfl) (fun hHeld=>?_);refine with_tabW spec_Rebalance.tab12 spec_Rebalance.bits12 (fun HT_ HW_=>?_)
               generalize w42.drew=w43 at HO_316001 HL317_0 BK309 BK310 BK315 BK318 HR317_0 HX317_0 HB HR326 HR333 hHeld ⊢
               refine pt 1 38 (fl 15 2) HT_ ?_
               refine pt 3 40 (fl 15 10) HT_ ?_
               refine pt 6 43 (fl 15 74) HT_ ?_
               refine pt 8 45 (fl 15 330) HT_ ?_
               refine pt 9 46 (fl 15 842) HT_ ?_
               refine tt 2 39 (fl 15 846) HT_ HW_ hHeld ?_
               refine pt 4 41 (fl 15 862) HT_ ?_
               refine tt 7 44 (fl 15 990) HT_ HW_ hHeld ?_
               refine pt 10 47 (fl 15 2014) HT_ ?_
               refine join_ (σ:=Value × Value × Value × Nat) 1 (fl 15 16383) (fun s_=>[(37,s_.1),(42,s_.2.1),(48,s_.2.2.1),(12,.pointer (some ⟨s_.2.2.2,0,none⟩)),(49,.agg #[s_.2.2.1])]) (fun s_ w'=>(w'.cell? ⟨gb318,0,none⟩=some (.slice A317_0 ((rd_T35 x316001_1 x8_1).f0).length c317_0))∧(Kd.R (Kd.int .i64) 3 w' w.heap.size (fun k_=>some k_ ≠ (s_.2.2.1:Value).ownBlock∧some k_ ≠ (.slice (some ad317) x316001_1.length co36:Value).ownBlock) (.slice A317_0 ((rd_T35 x316001_1 x8_1).f0).length c317_0) ((rd_T35 x316001_1 x8_1).f0))∧(Kd.R (Kd.int .i64) 3 w' w.heap.size (fun k_=>some k_ ≠ (.slice A317_0 ((rd_T35 x316001_1 x8_1).f0).length c317_0:Value).ownBlock) s_.2.2.1 y334)∧(Kd.S k35 35 w' w.heap.size (fun k_=>some k_ ≠ (s_.2.2.1:Value).ownBlock∧k_ ≠ gb318∧k_ ≠ s_.2.2.2) (.slice (some ad317) x316001_1.length co36) x316001_1)∧(w'.cell? (ad317.add (x8_1).toNat)=some (.slice A317_0 ((rd_T35 x316001_1 x8_1).f0).length c317_0))∧(w'.heap[gb309]?=some (.cells #[.int .i64 a0_0,.slice A0_1 l0_1.length c0_1] 26 (0,0)))∧(w'.heap[gb310]?=some (.cells #[.int .i64 0,.slice none 0 0] 26 (0,0)))∧(w'.heap[gb315]?=some (.cells #[.int .i64 t311,.slice (some ad317) x316001_1.length co36] 26 (0,0)))∧(w'.heap[gb318]?=some (.cells #[.slice A317_0 ((rd_T35 x316001_1 x8_1).f0).length c317_0] 35 (0,0)))∧(w'.heap[s_.2.2.2]?=some (.cells #[.slice none 0 0] 35 (0,0)))∧(w.heap.size≤s_.2.2.2)∧(w.heap.size≤s_.2.2.2)∧(gb309 ≠ s_.2.2.2)∧(s_.2.2.2 ≠ gb309)∧(gb310 ≠ s_.2.2.2)∧(s_.2.2.2 ≠ gb310)∧(gb315 ≠ s_.2.2.2)∧(s_.2.2.2 ≠ gb315)∧(gb318 ≠ s_.2.2.2)∧(s_.2.2.2 ≠ gb318)∧(Below w.heap.size w w')) ?_ ?_
               rotate_left
               ·intro hCont
                refine two_ (i:=0) (j:=13) (Ni:=some 37) (Nj:=some 12) (fl 15 2015) (fl 15 10206) rfl rfl rfl rfl (two_of HT_.out (by kernel_rfl)) (by decide) (by decide) (fun K hK=>?_) (fun K hK=>?_)
                ·skip
                 refine Kd.R_lit_step (Kd.int .i64) _ 3 ?hg (N:=37) ?hd (xs:=([]:List Int)) (inner:=[]) (ok:=fun _=>True) (okp:=fun _=>True) ?hr ?hp (fun _ hk=>hk) trivial (Below.refl _ _) (Nat.le_refl _) (by simp) ?_;(case hd=>rfl);(case hg=>rfl);(case hr=>first|(go_simp;done)|(go_simp;rfl));(case hp=>exact (Reps.none _ _))
                 intro v321 w46 ho47 hb hg_ hnew_
                 clear hg_ hnew_
                 (rw [← Ny320.out] at ho47)
                 replace HO_316001:=aM (Kd.S_elder' (rS HO_316001) (Kd.R_base ho47) hb);have HO322:=aM (Kd.R_lower (Kd.R_new' ho47 (Kd.R_lt (by (with_reducible repeat (first|apply Kd.R_alloc|apply Kd.R_drewN|apply Kd.R_drew));exact HL317_0.out))) (below_size be));replace HL317_0:=aM (Kd.R_elder' (by (with_reducible repeat (first|apply Kd.R_alloc|apply Kd.R_drewN|apply Kd.R_drew));exact HL317_0.out) (Kd.R_base ho47) hb);replace BK309:=bB BK309 hb;replace BK310:=bB BK310 hb;replace BK315:=bB BK315 hb;replace HX317_0:=xB hb HX317_0;replace BK318:=bB BK318 hb;replace HR326:=aM (Kd.C_below (by repeat ((with_reducible exact HR326.out))) hb);replace HB:=bs hb;clear HR317_0 HR333;clear hb ho47
                 refine hK.out _ _ ((blk_cell BK318.out 0).trans rfl) (fun hHeld=>?_)
                 clear hK K
                 refine no 37 ?_
                 refine two_ (i:=5) (j:=13) (Ni:=some 42) (Nj:=some 12) (fl 15 2047) (fl 15 10207) rfl rfl rfl rfl (two_of HT_.out (by kernel_rfl)) (by decide) (by decide) (fun K hK=>?_) (fun K hK=>?_)
                 ·skip
                  refine Kd.R_append_rows_step (Kd.int .i64) (w0:=w) w.heap.size (by rfl) (.tmp 37) (.tmp 41) 33 3 (.int .i64 0) 8 rfl Try.underlying33 info3 rfl (by decide) (by omega) v321 y320 y323 _ _ _ (fun k_=>some k_ ≠ (.slice A317_0 ((rd_T35 x316001_1 x8_1).f0).length c317_0:Value).ownBlock) (fun _=>False) rfl rfl ?aO ?aR (fun _ _ h=>h) (fun _ h=>h.elim) ?aF ?aB ?aS ?aL ?_
                  (case aR=>repeat (exact (by repeat (exact HR326.out))))
                  (case aB=>exact be)
                  (case aF=>exact (fun k_ hk=>Kd.fresh' (Kd.R_lt (by (with_reducible repeat (first|apply Kd.R_alloc|apply Kd.R_drewN|apply Kd.R_drew));exact HL317_0.out)) k_ hk))
                  (case aO=>exact (by (with_reducible repeat (first|apply Kd.R_alloc|apply Kd.R_drewN|apply Kd.R_drew));exact Kd.R_mono HO322.out (fun _ hk=>hk.2)))
                  (case aS=>exact (below_size be))
                  (case aL=>have:=LMc24.out;omega)
                  intro v328 w48 ho hb hg hat
                  rw [← Ny327.out] at ho
                  replace BK309:=bG BK309 hg (Kd.R_ne HO322.out BK309.out (by decide));replace BK310:=bG BK310 hg (Kd.R_ne HO322.out BK310.out (by decide));replace BK315:=bG BK315 hg (Kd.R_ne HO322.out BK315.out (by decide));replace HX317_0:=aM (Aid.cell_keep hg HX317_0.out (by intro e_;exact Aid.typed_ne (Kd.S_typed HO_316001.out) (Kd.R_typed HO322.out) (by decide) rfl (by rw [add_block] at e_;exact e_.symm)));replace HO_316001:=aM (Kd.S_after (ok:=(fun k_=>k_ ≠ gb318)) (by (with_reducible repeat (first|apply Kd.S_alloc|apply Kd.S_drewN|apply Kd.S_drew));exact Kd.S_mono HO_316001.out (fun _ hk=>⟨hk.1.2,hk.2⟩)) hg hat);replace BK318:=bG BK318 hg (Kd.R_ne HO322.out BK318.out (by decide));replace HB:=aM (hb);replace HR333:=aM ((show Kd.C (Kd.int .i64) w48 A45 y330.length y330 from by rw [Ny330.out,KA45.out];exact Kd.C_drop (m:=((ji25):Int).toNat) (c:=c317_0) ((Kd.R_reads' (Kd.R_after (ok:=(fun k_=>some k_ ≠ (.slice (some ad317) x316001_1.length co36:Value).ownBlock)) (by (with_reducible repeat (first|apply Kd.R_alloc|apply Kd.R_drewN|apply Kd.R_drew));exact Kd.R_mono HL317_0.out (fun _ hk=>⟨hk.1.2,hk.2⟩)) hg hat)).2.2) KL45.out ((Kd.R_reads' (Kd.R_after (ok:=(fun k_=>some k_ ≠ (.slice (some ad317) x316001_1.length co36:Value).ownBlock)) (by (with_reducible repeat (first|apply Kd.R_alloc|apply Kd.R_drewN|apply Kd.R_drew));exact Kd.R_mono HL317_0.out (fun _ hk=>⟨hk.1.2,hk.2⟩)) hg hat)).2.1)));replace HL317_0:=aM (Kd.R_after (ok:=(fun k_=>some k_ ≠ (.slice (some ad317) x316001_1.length co36:Value).ownBlock)) (by (with_reducible repeat (first|apply Kd.R_alloc|apply Kd.R_drewN|apply Kd.R_drew));exact Kd.R_mono HL317_0.out (fun _ hk=>⟨hk.1.2,hk.2⟩)) hg hat);have HO329:=aM (ho);clear HR326 HO322;clear ho hb hg hat
                  refine hK.out _ _ ((blk_cell BK318.out 0).trans rfl) (fun hHeld=>?_)
                  clear hK K
                  refine no 42 ?_
                  refine two_ (i:=11) (j:=13) (Ni:=some 48) (Nj:=some 12) (fl 15 4095) (fl 15 10239) rfl rfl rfl rfl (two_of HT_.out (by kernel_rfl)) (by decide) (by decide) (fun K hK=>?_) (fun K hK=>?_)
                  ·skip
                   refine Kd.R_append_rows_step (Kd.int .i64) (w0:=w) w.heap.size (by rfl) (.tmp 42) (.tmp 47) 33 3 (.int .i64 0) 8 rfl Try.underlying33 info3 rfl (by decide) (by omega) v328 y327 y330 _ _ _ (fun k_=>some k_ ≠ (.slice A317_0 ((rd_T35 x316001_1 x8_1).f0).length c317_0:Value).ownBlock) (fun _=>False) rfl rfl ?aO ?aR (fun _ _ h=>h) (fun _ h=>h.elim) ?aF ?aB ?aS ?aL ?_
                   (case aR=>repeat (exact (by repeat (exact HR333.out))))
                   (case aB=>exact be)
                   (case aF=>exact (fun k_ hk=>Kd.fresh' (Kd.R_lt (by (with_reducible repeat (first|apply Kd.R_alloc|apply Kd.R_drewN|apply Kd.R_drew));exact HL317_0.out)) k_ hk))
                   (case aO=>exact (rR HO329))
                   (case aS=>exact (below_size be))
                   (case aL=>have:=LMc28.out;omega)
                   intro v335 w49 ho hb hg hat
                   rw [← Ny334.out] at ho
                   replace BK309:=bG BK309 hg (Kd.R_ne HO329.out BK309.out (by decide));replace BK310:=bG BK310 hg (Kd.R_ne HO329.out BK310.out (by decide));replace BK315:=bG BK315 hg (Kd.R_ne HO329.out BK315.out (by decide));replace HL317_0:=aM (Kd.R_after (ok:=(fun k_=>some k_ ≠ (.slice (some ad317) x316001_1.length co36:Value).ownBlock)) (by (with_reducible repeat (first|apply Kd.R_alloc|apply Kd.R_drewN|apply Kd.R_drew));exact HL317_0.out) hg hat);replace HX317_0:=aM (Aid.cell_keep hg HX317_0.out (by intro e_;exact Aid.typed_ne (Kd.S_typed HO_316001.out) (Kd.R_typed HO329.out) (by decide) rfl (by rw [add_block] at e_;exact e_.symm)));replace HO_316001:=aM (Kd.S_after (ok:=(fun k_=>k_ ≠ gb318)) (rS HO_316001) hg hat);replace BK318:=bG BK318 hg (Kd.R_ne HO329.out BK318.out (by decide));replace HB:=aM (hb);have HO336:=aM (ho);clear HR333 HO329;clear ho hb hg hat
                   obtain ⟨Ao50,co50,eo50⟩:=Kd.R_slice HO336.out
                   (subst eo50)
                   refine hK.out _ _ ((blk_cell BK318.out 0).trans rfl) (fun hHeld=>?_)
                   clear hK K
                   refine no 48 ?_
                   refine pt 12 49 (fl 15 8191) HT_ ?_
                   refine ot 13 (some 12) (fl 15 16383) HT_ (fun K hK=>?_)
                   refine box_step ?hg (N:=12) ?hd (cs:=#[.slice none 0 0]) (t:=35) ?hr ?_;(case hd=>rfl);(case hg=>rfl);(case hr=>first|(go_simp;done)|(go_simp;rfl))
                   intro gb337 hg w51 hbox hb
                   replace HO_316001:=aM (Kd.S_below (Kd.S_elderB (rS HO_316001) gb337 (Nat.le_of_eq hg.symm)) hb);replace HL317_0:=rB HL317_0 hb;replace HO336:=rB HO336 hb;replace HX317_0:=xB hb HX317_0;have BK337:=aM (hbox);have GW337:=gS w hg;have GE337:=gS w hg;replace HB:=bs hb;have NB309_337:=nL hg BK309;have NB337_309:=nG hg BK309;replace BK309:=bB BK309 hb;have NB310_337:=nL hg BK310;have NB337_310:=nG hg BK310;replace BK310:=bB BK310 hb;have NB315_337:=nL hg BK315;have NB337_315:=nG hg BK315;replace BK315:=bB BK315 hb;have NB318_337:=nL hg BK318;have NB337_318:=nG hg BK318;replace BK318:=bB BK318 hb;clear hb hbox hg
                   refine hK.out _ _ ((blk_cell BK318.out 0).trans rfl) (fun hHeld=>?_)
                   clear hK K
                   refine no 12 ?_
                   exact norm_ (by simp only [putAll,Act.put,List.setIfInBounds_toArray,List.set_cons_zero,List.set_cons_succ]) (hCont (v321,v328,.slice Ao50 y334.length co50,gb337) _ ⟨hHeld,(by (with_reducible repeat (first|apply Kd.R_alloc|apply Kd.R_drewN|apply Kd.R_drew));exact Kd.R_mono HL317_0.out (fun _ hk=>⟨hk.2,hk.1⟩)),(rR HO336),(by (with_reducible repeat (first|apply Kd.S_alloc|apply Kd.S_drewN|apply Kd.S_drew));exact Kd.S_mono HO_316001.out (fun _ hk=>⟨hk.1.2,⟨hk.1.1,hk.2⟩⟩)),HX317_0.out,(bk BK309),(bk BK310),(bk BK315),(bk BK318),(bk BK337),GW337.out,GE337.out,NB309_337.out,NB337_309.out,NB310_337.out,NB337_310.out,NB315_337.out,NB337_315.out,NB318_337.out,NB337_318.out,be⟩)
                  ·skip
                   refine box_step ?hg (N:=12) ?hd (cs:=#[.slice none 0 0]) (t:=35) ?hr ?_;(case hd=>rfl);(case hg=>rfl);(case hr=>first|(go_simp;done)|(go_simp;rfl))
                   intro gb337 hg w49 hbox hb
                   replace HO_316001:=aM (Kd.S_below (Kd.S_elderB (rS HO_316001) gb337 (Nat.le_of_eq hg.symm)) hb);replace HL317_0:=rB HL317_0 hb;replace HO329:=rB HO329 hb;replace HX317_0:=xB hb HX317_0;replace HR333:=aM (Kd.C_below (by repeat ((with_reducible exact HR333.out))) hb);have BK337:=aM (hbox);have GW337:=gS w hg;have GE337:=gS w hg;replace HB:=bs hb;have NB309_337:=nL hg BK309;have NB337_309:=nG hg BK309;replace BK309:=bB BK309 hb;have NB310_337:=nL hg BK310;have NB337_310:=nG hg BK310;replace BK310:=bB BK310 hb;have NB315_337:=nL hg BK315;have NB337_315:=nG hg BK315;replace BK315:=bB BK315 hb;have NB318_337:=nL hg BK318;have NB337_318:=nG hg BK318;replace BK318:=bB BK318 hb;clear hb hbox hg
                   refine hK.out _ _ ((blk_cell BK318.out 0).trans rfl) (fun hHeld=>?_)
                   clear hK K
                   refine no 12 ?_
                   refine ot 11 (some 48) (fl 15 12287) HT_ (fun K hK=>?_)
                   refine Kd.R_append_rows_step (Kd.int .i64) (w0:=w) w.heap.size (by rfl) (.tmp 42) (.tmp 47) 33 3 (.int .i64 0) 8 rfl Try.underlying33 info3 rfl (by decide) (by omega) v328 y327 y330 _ _ _ (fun k_=>some k_ ≠ (.slice A317_0 ((rd_T35 x316001_1 x8_1).f0).length c317_0:Value).ownBlock) (fun _=>False) rfl rfl ?aO ?aR (fun _ _ h=>h) (fun _ h=>h.elim) ?aF ?aB ?aS ?aL ?_
                   (case aR=>repeat (exact (by repeat (exact HR333.out))))
                   (case aB=>exact be)
                   (case aF=>exact (fun k_ hk=>Kd.fresh' (Kd.R_lt (by (with_reducible repeat (first|apply Kd.R_alloc|apply Kd.R_drewN|apply Kd.R_drew));exact HL317_0.out)) k_ hk))
                   (case aO=>exact (rR HO329))
                   (case aS=>exact (below_size be))
                   (case aL=>have:=LMc28.out;omega)
                   intro v335 w50 ho hb hg hat
                   rw [← Ny334.out] at ho
                   replace BK309:=bG BK309 hg (Kd.R_ne HO329.out BK309.out (by decide));replace BK310:=bG BK310 hg (Kd.R_ne HO329.out BK310.out (by decide));replace BK315:=bG BK315 hg (Kd.R_ne HO329.out BK315.out (by decide));replace HL317_0:=aM (Kd.R_after (ok:=(fun k_=>some k_ ≠ (.slice (some ad317) x316001_1.length co36:Value).ownBlock)) (by (with_reducible repeat (first|apply Kd.R_alloc|apply Kd.R_drewN|apply Kd.R_drew));exact HL317_0.out) hg hat);replace HX317_0:=aM (Aid.cell_keep hg HX317_0.out (by intro e_;exact Aid.typed_ne (Kd.S_typed HO_316001.out) (Kd.R_typed HO329.out) (by decide) rfl (by rw [add_block] at e_;exact e_.symm)));replace HO_316001:=aM (Kd.S_after (ok:=(fun k_=>k_ ≠ gb318∧k_ ≠ gb337)) (by (with_reducible repeat (first|apply Kd.S_alloc|apply Kd.S_drewN|apply Kd.S_drew));exact Kd.S_mono HO_316001.out (fun _ hk=>⟨⟨hk.1.1,hk.2⟩,hk.1.2⟩)) hg hat);replace BK318:=bG BK318 hg (Kd.R_ne HO329.out BK318.out (by decide));replace BK337:=bG BK337 hg (Kd.R_ne HO329.out BK337.out (by decide));replace HB:=aM (hb);have HO336:=aM (ho);clear HR333 HO329;clear ho hb hg hat
                   obtain ⟨Ao51,co51,eo51⟩:=Kd.R_slice HO336.out
                   (subst eo51)
                   refine hK.out _ _ ((blk_cell BK318.out 0).trans rfl) (fun hHeld=>?_)
                   clear hK K
                   refine no 48 ?_
                   refine pt 12 49 (fl 15 16383) HT_ ?_
                   exact norm_ (by simp only [putAll,Act.put,List.setIfInBounds_toArray,List.set_cons_zero,List.set_cons_succ]) (hCont (v321,v328,.slice Ao51 y334.length co51,gb337) _ ⟨hHeld,(by (with_reducible repeat (first|apply Kd.R_alloc|apply Kd.R_drewN|apply Kd.R_drew));exact Kd.R_mono HL317_0.out (fun _ hk=>⟨hk.2,hk.1⟩)),(rR HO336),(by (with_reducible repeat (first|apply Kd.S_alloc|apply Kd.S_drewN|apply Kd.S_drew));exact Kd.S_mono HO_316001.out (fun _ hk=>⟨hk.2,⟨hk.1.1,hk.1.2⟩⟩)),HX317_0.out,(bk BK309),(bk BK310),(bk BK315),(bk BK318),(bk BK337),GW337.out,GE337.out,NB309_337.out,NB337_309.out,NB310_337.out,NB337_310.out,NB315_337.out,NB337_315.out,NB318_337.out,NB337_318.out,be⟩)
                 ·skip
                  refine box_step ?hg (N:=12) ?hd (cs:=#[.slice none 0 0]) (t:=35) ?hr ?_;(case hd=>rfl);(case hg=>rfl);(case hr=>first|(go_simp;done)|(go_simp;rfl))
                  intro gb337 hg w48 hbox hb
                  replace HO_316001:=aM (Kd.S_below (Kd.S_elderB (rS HO_316001) gb337 (Nat.le_of_eq hg.symm)) hb);replace HL317_0:=rB HL317_0 hb;replace HO322:=rB HO322 hb;replace HX317_0:=xB hb HX317_0;replace HR326:=aM (Kd.C_below (by repeat ((with_reducible exact HR326.out))) hb);have BK337:=aM (hbox);have GW337:=gS w hg;have GE337:=gS w hg;replace HB:=bs hb;have NB309_337:=nL hg BK309;have NB337_309:=nG hg BK309;replace BK309:=bB BK309 hb;have NB310_337:=nL hg BK310;have NB337_310:=nG hg BK310;replace BK310:=bB BK310 hb;have NB315_337:=nL hg BK315;have NB337_315:=nG hg BK315;replace BK315:=bB BK315 hb;have NB318_337:=nL hg BK318;have NB337_318:=nG hg BK318;replace BK318:=bB BK318 hb;clear hb hbox hg
                  refine hK.out _ _ ((blk_cell BK318.out 0).trans rfl) (fun hHeld=>?_)
                  clear hK K
                  refine no 12 ?_
                  refine ot 5 (some 42) (fl 15 10239) HT_ (fun K hK=>?_)
                  refine Kd.R_append_rows_step (Kd.int .i64) (w0:=w) w.heap.size (by rfl) (.tmp 37) (.tmp 41) 33 3 (.int .i64 0) 8 rfl Try.underlying33 info3 rfl (by decide) (by omega) v321 y320 y323 _ _ _ (fun k_=>some k_ ≠ (.slice A317_0 ((rd_T35 x316001_1 x8_1).f0).length c317_0:Value).ownBlock) (fun _=>False) rfl rfl ?aO ?aR (fun _ _ h=>h) (fun _ h=>h.elim) ?aF ?aB ?aS ?aL ?_
                  (case aR=>repeat (exact (by repeat (exact HR326.out))))
                  (case aB=>exact be)
                  (case aF=>exact (fun k_ hk=>Kd.fresh' (Kd.R_lt (by (with_reducible repeat (first|apply Kd.R_alloc|apply Kd.R_drewN|apply Kd.R_drew));exact HL317_0.out)) k_ hk))
                  (case aO=>exact (by (with_reducible repeat (first|apply Kd.R_alloc|apply Kd.R_drewN|apply Kd.R_drew));exact Kd.R_mono HO322.out (fun _ hk=>hk.2)))
                  (case aS=>exact (below_size be))
                  (case aL=>have:=LMc24.out;omega)
                  intro v328 w49 ho hb hg hat
                  rw [← Ny327.out] at ho
                  replace BK309:=bG BK309 hg (Kd.R_ne HO322.out BK309.out (by decide));replace BK310:=bG BK310 hg (Kd.R_ne HO322.out BK310.out (by decide));replace BK315:=bG BK315 hg (Kd.R_ne HO322.out BK315.out (by decide));replace HX317_0:=aM (Aid.cell_keep hg HX317_0.out (by intro e_;exact Aid.typed_ne (Kd.S_typed HO_316001.out) (Kd.R_typed HO322.out) (by decide) rfl (by rw [add_block] at e_;exact e_.symm)));replace HO_316001:=aM (Kd.S_after (ok:=(fun k_=>k_ ≠ gb318∧k_ ≠ gb337)) (by (with_reducible repeat (first|apply Kd.S_alloc|apply Kd.S_drewN|apply Kd.S_drew));exact Kd.S_mono HO_316001.out (fun _ hk=>⟨⟨hk.1.1.2,hk.2⟩,hk.1.2⟩)) hg hat);replace BK318:=bG BK318 hg (Kd.R_ne HO322.out BK318.out (by decide));replace BK337:=bG BK337 hg (Kd.R_ne HO322.out BK337.out (by decide));replace HB:=aM (hb);replace HR333:=aM ((show Kd.C (Kd.int .i64) w49 A45 y330.length y330 from by rw [Ny330.out,KA45.out];exact Kd.C_drop (m:=((ji25):Int).toNat) (c:=c317_0) ((Kd.R_reads' (Kd.R_after (ok:=(fun k_=>some k_ ≠ (.slice (some ad317) x316001_1.length co36:Value).ownBlock)) (by (with_reducible repeat (first|apply Kd.R_alloc|apply Kd.R_drewN|apply Kd.R_drew));exact Kd.R_mono HL317_0.out (fun _ hk=>⟨hk.1.2,hk.2⟩)) hg hat)).2.2) KL45.out ((Kd.R_reads' (Kd.R_after (ok:=(fun k_=>some k_ ≠ (.slice (some ad317) x316001_1.length co36:Value).ownBlock)) (by (with_reducible repeat (first|apply Kd.R_alloc|apply Kd.R_drewN|apply Kd.R_drew));exact Kd.R_mono HL317_0.out (fun _ hk=>⟨hk.1.2,hk.2⟩)) hg hat)).2.1)));replace HL317_0:=aM (Kd.R_after (ok:=(fun k_=>some k_ ≠ (.slice (some ad317) x316001_1.length co36:Value).ownBlock)) (by (with_reducible repeat (first|apply Kd.R_alloc|apply Kd.R_drewN|apply Kd.R_drew));exact Kd.R_mono HL317_0.out (fun _ hk=>⟨hk.1.2,hk.2⟩)) hg hat);have HO329:=aM (ho);clear HR326 HO322;clear ho hb hg hat
                  refine hK.out _ _ ((blk_cell BK318.out 0).trans rfl) (fun hHeld=>?_)
                  clear hK K
                  refine no 42 ?_
                  refine ot 11 (some 48) (fl 15 12287) HT_ (fun K hK=>?_)
                  refine Kd.R_append_rows_step (Kd.int .i64) (w0:=w) w.heap.size (by rfl) (.tmp 42) (.tmp 47) 33 3 (.int .i64 0) 8 rfl Try.underlying33 info3 rfl (by decide) (by omega) v328 y327 y330 _ _ _ (fun k_=>some k_ ≠ (.slice A317_0 ((rd_T35 x316001_1 x8_1).f0).length c317_0:Value).ownBlock) (fun _=>False) rfl rfl ?aO ?aR (fun _ _ h=>h) (fun _ h=>h.elim) ?aF ?aB ?aS ?aL ?_
                  (case aR=>repeat (exact (by repeat (exact HR333.out))))
                  (case aB=>exact be)
                  (case aF=>exact (fun k_ hk=>Kd.fresh' (Kd.R_lt (by (with_reducible repeat (first|apply Kd.R_alloc|apply Kd.R_drewN|apply Kd.R_drew));exact HL317_0.out)) k_ hk))
                  (case aO=>exact (rR HO329))
                  (case aS=>exact (below_size be))
                  (case aL=>have:=LMc28.out;omega)
                  intro v335 w50 ho hb hg hat
                  rw [← Ny334.out] at ho
                  replace BK309:=bG BK309 hg (Kd.R_ne HO329.out BK309.out (by decide));replace BK310:=bG BK310 hg (Kd.R_ne HO329.out BK310.out (by decide));replace BK315:=bG BK315 hg (Kd.R_ne HO329.out BK315.out (by decide));replace HL317_0:=aM (Kd.R_after (ok:=(fun k_=>some k_ ≠ (.slice (some ad317) x316001_1.length co36:Value).ownBlock)) (by (with_reducible repeat (first|apply Kd.R_alloc|apply Kd.R_drewN|apply Kd.R_drew));exact HL317_0.out) hg hat);replace HX317_0:=aM (Aid.cell_keep hg HX317_0.out (by intro e_;exact Aid.typed_ne (Kd.S_typed HO_316001.out) (Kd.R_typed HO329.out) (by decide) rfl (by rw [add_block] at e_;exact e_.symm)));replace HO_316001:=aM (Kd.S_after (ok:=(fun k_=>k_ ≠ gb318∧k_ ≠ gb337)) (rS HO_316001) hg hat);replace BK318:=bG BK318 hg (Kd.R_ne HO329.out BK318.out (by decide));replace BK337:=bG BK337 hg (Kd.R_ne HO329.out BK337.out (by decide));replace HB:=aM (hb);have HO336:=aM (ho);clear HR333 HO329;clear ho hb hg hat
                  obtain ⟨Ao51,co51,eo51⟩:=Kd.R_slice HO336.out
                  (subst eo51)
                  refine hK.out _ _ ((blk_cell BK318.out 0).trans rfl) (fun hHeld=>?_)
                  clear hK K
                  refine no 48 ?_
                  refine pt 12 49 (fl 15 16383) HT_ ?_
                  exact norm_ (by simp only [putAll,Act.put,List.setIfInBounds_toArray,List.set_cons_zero,List.set_cons_succ]) (hCont (v321,v328,.slice Ao51 y334.length co51,gb337) _ ⟨hHeld,(by (with_reducible repeat (first|apply Kd.R_alloc|apply Kd.R_drewN|apply Kd.R_drew));exact Kd.R_mono HL317_0.out (fun _ hk=>⟨hk.2,hk.1⟩)),(rR HO336),(by (with_reducible repeat (first|apply Kd.S_alloc|apply Kd.S_drewN|apply Kd.S_drew));exact Kd.S_mono HO_316001.out (fun _ hk=>⟨hk.2,⟨hk.1.1,hk.1.2⟩⟩)),HX317_0.out,(bk BK309),(bk BK310),(bk BK315),(bk BK318),(bk BK337),GW337.out,GE337.out,NB309_337.out,NB337_309.out,NB310_337.out,NB337_310.out,NB315_337.out,NB337_315.out,NB318_337.out,NB337_318.out,be⟩)
                ·skip
                 refine box_step ?hg (N:=12) ?hd (cs:=#[.slice none 0 0]) (t:=35) ?hr ?_;(case hd=>rfl);(case hg=>rfl);(case hr=>first|(go_simp;done)|(go_simp;rfl))
                 intro gb337 hg w46 hbox hb
                 replace HO_316001:=aM (Kd.S_below (Kd.S_elderB (rS HO_316001) gb337 (Nat.le_of_eq hg.symm)) hb);replace HL317_0:=rB HL317_0 hb;replace HX317_0:=xB hb HX317_0;replace HR326:=aM (Kd.C_below (by repeat ((with_reducible exact HR326.out))) hb);have BK337:=aM (hbox);have GW337:=gS w hg;have GE337:=gS w hg;replace HB:=bs hb;have NB309_337:=nL hg BK309;have NB337_309:=nG hg BK309;replace BK309:=bB BK309 hb;have NB310_337:=nL hg BK310;have NB337_310:=nG hg BK310;replace BK310:=bB BK310 hb;have NB315_337:=nL hg BK315;have NB337_315:=nG hg BK315;replace BK315:=bB BK315 hb;have NB318_337:=nL hg BK318;have NB337_318:=nG hg BK318;replace BK318:=bB BK318 hb;clear HR317_0 HR333;clear hb hbox hg
                 refine hK.out _ _ ((blk_cell BK318.out 0).trans rfl) (fun hHeld=>?_)
                 clear hK K
                 refine no 12 ?_
                 refine ot 0 (some 37) (fl 15 10207) HT_ (fun K hK=>?_)
                 refine Kd.R_lit_step (Kd.int .i64) _ 3 ?hg (N:=37) ?hd (xs:=([]:List Int)) (inner:=[]) (ok:=fun _=>True) (okp:=fun _=>True) ?hr ?hp (fun _ hk=>hk) trivial (Below.refl _ _) (Nat.le_refl _) (by simp) ?_;(case hd=>rfl);(case hg=>rfl);(case hr=>first|(go_simp;done)|(go_simp;rfl));(case hp=>exact (Reps.none _ _))
                 intro v321 w47 ho48 hb hg_ hnew_
                 clear hg_ hnew_
                 (rw [← Ny320.out] at ho48)
                 replace HO_316001:=aM (Kd.S_elder' (rS HO_316001) (Kd.R_base ho48) hb);have HO322:=aM (Kd.R_lower (Kd.R_new' ho48 (Kd.R_lt (by (with_reducible repeat (first|apply Kd.R_alloc|apply Kd.R_drewN|apply Kd.R_drew));exact HL317_0.out))) (below_size be));replace HL317_0:=aM (Kd.R_elder' (by (with_reducible repeat (first|apply Kd.R_alloc|apply Kd.R_drewN|apply Kd.R_drew));exact HL317_0.out) (Kd.R_base ho48) hb);replace BK309:=bB BK309 hb;replace BK310:=bB BK310 hb;replace BK315:=bB BK315 hb;replace HX317_0:=xB hb HX317_0;replace BK318:=bB BK318 hb;replace HR326:=aM (Kd.C_below (by repeat ((with_reducible exact HR326.out))) hb);replace BK337:=bB BK337 hb;replace HB:=bs hb;clear hb ho48
                 refine hK.out _ _ ((blk_cell BK318.out 0).trans rfl) (fun hHeld=>?_)
                 clear hK K
                 refine no 37 ?_
                 refine ot 5 (some 42) (fl 15 10239) HT_ (fun K hK=>?_)
                 refine Kd.R_append_rows_step (Kd.int .i64) (w0:=w) w.heap.size (by rfl) (.tmp 37) (.tmp 41) 33 3 (.int .i64 0) 8 rfl Try.underlying33 info3 rfl (by decide) (by omega) v321 y320 y323 _ _ _ (fun k_=>some k_ ≠ (.slice A317_0 ((rd_T35 x316001_1 x8_1).f0).length c317_0:Value).ownBlock) (fun _=>False) rfl rfl ?aO ?aR (fun _ _ h=>h) (fun _ h=>h.elim) ?aF ?aB ?aS ?aL ?_
                 (case aR=>repeat (exact (by repeat (exact HR326.out))))
                 (case aB=>exact be)
                 (case aF=>exact (fun k_ hk=>Kd.fresh' (Kd.R_lt (by (with_reducible repeat (first|apply Kd.R_alloc|apply Kd.R_drewN|apply Kd.R_drew));exact HL317_0.out)) k_ hk))
                 (case aO=>exact (by (with_reducible repeat (first|apply Kd.R_alloc|apply Kd.R_drewN|apply Kd.R_drew));exact Kd.R_mono HO322.out (fun _ hk=>hk.2)))
                 (case aS=>exact (below_size be))
                 (case aL=>have:=LMc24.out;omega)
                 intro v328 w49 ho hb hg hat
                 rw [← Ny327.out] at ho
                 replace BK309:=bG BK309 hg (Kd.R_ne HO322.out BK309.out (by decide));replace BK310:=bG BK310 hg (Kd.R_ne HO322.out BK310.out (by decide));replace BK315:=bG BK315 hg (Kd.R_ne HO322.out BK315.out (by decide));replace HX317_0:=aM (Aid.cell_keep hg HX317_0.out (by intro e_;exact Aid.typed_ne (Kd.S_typed HO_316001.out) (Kd.R_typed HO322.out) (by decide) rfl (by rw [add_block] at e_;exact e_.symm)));replace HO_316001:=aM (Kd.S_after (ok:=(fun k_=>k_ ≠ gb318∧k_ ≠ gb337)) (by (with_reducible repeat (first|apply Kd.S_alloc|apply Kd.S_drewN|apply Kd.S_drew));exact Kd.S_mono HO_316001.out (fun _ hk=>⟨⟨hk.1.1.2,hk.1.2⟩,hk.2⟩)) hg hat);replace BK318:=bG BK318 hg (Kd.R_ne HO322.out BK318.out (by decide));replace BK337:=bG BK337 hg (Kd.R_ne HO322.out BK337.out (by decide));replace HB:=aM (hb);replace HR333:=aM ((show Kd.C (Kd.int .i64) w49 A45 y330.length y330 from by rw [Ny330.out,KA45.out];exact Kd.C_drop (m:=((ji25):Int).toNat) (c:=c317_0) ((Kd.R_reads' (Kd.R_after (ok:=(fun k_=>some k_ ≠ (.slice (some ad317) x316001_1.length co36:Value).ownBlock)) (by (with_reducible repeat (first|apply Kd.R_alloc|apply Kd.R_drewN|apply Kd.R_drew));exact Kd.R_mono HL317_0.out (fun _ hk=>⟨hk.1.2,hk.2⟩)) hg hat)).2.2) KL45.out ((Kd.R_reads' (Kd.R_after (ok:=(fun k_=>some k_ ≠ (.slice (some ad317) x316001_1.length co36:Value).ownBlock)) (by (with_reducible repeat (first|apply Kd.R_alloc|apply Kd.R_drewN|apply Kd.R_drew));exact Kd.R_mono HL317_0.out (fun _ hk=>⟨hk.1.2,hk.2⟩)) hg hat)).2.1)));replace HL317_0:=aM (Kd.R_after (ok:=(fun k_=>some k_ ≠ (.slice (some ad317) x316001_1.length co36:Value).ownBlock)) (by (with_reducible repeat (first|apply Kd.R_alloc|apply Kd.R_drewN|apply Kd.R_drew));exact Kd.R_mono HL317_0.out (fun _ hk=>⟨hk.1.2,hk.2⟩)) hg hat);have HO329:=aM (ho);clear HR326 HO322;clear ho hb hg hat
                 refine hK.out _ _ ((blk_cell BK318.out 0).trans rfl) (fun hHeld=>?_)
                 clear hK K
                 refine no 42 ?_
                 refine ot 11 (some 48) (fl 15 12287) HT_ (fun K hK=>?_)
                 refine Kd.R_append_rows_step (Kd.int .i64) (w0:=w) w.heap.size (by rfl) (.tmp 42) (.tmp 47) 33 3 (.int .i64 0) 8 rfl Try.underlying33 info3 rfl (by decide) (by omega) v328 y327 y330 _ _ _ (fun k_=>some k_ ≠ (.slice A317_0 ((rd_T35 x316001_1 x8_1).f0).length c317_0:Value).ownBlock) (fun _=>False) rfl rfl ?aO ?aR (fun _ _ h=>h) (fun _ h=>h.elim) ?aF ?aB ?aS ?aL ?_
                 (case aR=>repeat (exact (by repeat (exact HR333.out))))
                 (case aB=>exact be)
                 (case aF=>exact (fun k_ hk=>Kd.fresh' (Kd.R_lt (by (with_reducible repeat (first|apply Kd.R_alloc|apply Kd.R_drewN|apply Kd.R_drew));exact HL317_0.out)) k_ hk))
                 (case aO=>exact (rR HO329))
                 (case aS=>exact (below_size be))
                 (case aL=>have:=LMc28.out;omega)
                 intro v335 w50 ho hb hg hat
                 rw [← Ny334.out] at ho
                 replace BK309:=bG BK309 hg (Kd.R_ne HO329.out BK309.out (by decide));replace BK310:=bG BK310 hg (Kd.R_ne HO329.out BK310.out (by decide));replace BK315:=bG BK315 hg (Kd.R_ne HO329.out BK315.out (by decide));replace HL317_0:=aM (Kd.R_after (ok:=(fun k_=>some k_ ≠ (.slice (some ad317) x316001_1.length co36:Value).ownBlock)) (by (with_reducible repeat (first|apply Kd.R_alloc|apply Kd.R_drewN|apply Kd.R_drew));exact HL317_0.out) hg hat);replace HX317_0:=aM (Aid.cell_keep hg HX317_0.out (by intro e_;exact Aid.typed_ne (Kd.S_typed HO_316001.out) (Kd.R_typed HO329.out) (by decide) rfl (by rw [add_block] at e_;exact e_.symm)));replace HO_316001:=aM (Kd.S_after (ok:=(fun k_=>k_ ≠ gb318∧k_ ≠ gb337)) (rS HO_316001) hg hat);replace BK318:=bG BK318 hg (Kd.R_ne HO329.out BK318.out (by decide));replace BK337:=bG BK337 hg (Kd.R_ne HO329.out BK337.out (by decide));replace HB:=aM (hb);have HO336:=aM (ho);clear HR333 HO329;clear ho hb hg hat
                 obtain ⟨Ao51,co51,eo51⟩:=Kd.R_slice HO336.out
                 (subst eo51)
                 refine hK.out _ _ ((blk_cell BK318.out 0).trans rfl) (fun hHeld=>?_)
                 clear hK K
                 refine no 48 ?_
                 refine pt 12 49 (fl 15 16383) HT_ ?_
                 exact norm_ (by simp only [putAll,Act.put,List.setIfInBounds_toArray,List.set_cons_zero,List.set_cons_succ]) (hCont (v321,v328,.slice Ao51 y334.length co51,gb337) _ ⟨hHeld,(by (with_reducible repeat (first|apply Kd.R_alloc|apply Kd.R_drewN|apply Kd.R_drew));exact Kd.R_mono HL317_0.out (fun _ hk=>⟨hk.2,hk.1⟩)),(rR HO336),(by (with_reducible repeat (first|apply Kd.S_alloc|apply Kd.S_drewN|apply Kd.S_drew));exact Kd.S_mono HO_316001.out (fun _ hk=>⟨hk.2,⟨hk.1.1,hk.1.2⟩⟩)),HX317_0.out,(bk BK309),(bk BK310),(bk BK315),(bk BK318),(bk BK337),GW337.out,GE337.out,NB309_337.out,NB337_309.out,NB310_337.out,NB337_310.out,NB315_337.out,NB337_315.out,NB318_337.out,NB337_318.out,be⟩)
               rintro ⟨v321,v328,v335,gb337⟩ w52 ⟨hS_,h0_,h1_,h2_,h3_,h4_,h5_,h6_,h7_,h8_,h9_,h10_,h11_,h12_,h13_,h14_,h15_,h16_,h17_,h18_,h19_⟩
               have n0_:Aside0 (Kd.R (Kd.int .i64) 3 w52 w.heap.size (fun k_=>some k_ ≠ (v335:Value).ownBlock∧some k_ ≠ (.slice (some ad317) x316001_1.length co36:Value).ownBlock) (.slice A317_0 ((rd_T35 x316001_1 x8_1).f0).length c317_0) ((rd_T35 x316001_1 x8_1).f0)):=⟨h0_⟩
               have n1_:Aside0 (Kd.R (Kd.int .i64) 3 w52 w.heap.size (fun k_=>some k_ ≠ (.slice A317_0 ((rd_T35 x316001_1 x8_1).f0).length c317_0:Value).ownBlock) v335 y334):=⟨h1_⟩
               have n2_:Aside0 (Kd.S k35 35 w52 w.heap.size (fun k_=>some k_ ≠ (v335:Value).ownBlock∧k_ ≠ gb318∧k_ ≠ gb337) (.slice (some ad317) x316001_1.length co36) x316001_1):=⟨h2_⟩
               have n3_:Aside0 (w52.cell? (ad317.add (x8_1).toNat)=some (.slice A317_0 ((rd_T35 x316001_1 x8_1).f0).length c317_0)):=⟨h3_⟩
               have n4_:Aside0 (w52.heap[gb309]?=some (.cells #[.int .i64 a0_0,.slice A0_1 l0_1.length c0_1] 26 (0,0))):=⟨h4_⟩
               have n5_:Aside0 (w52.heap[gb310]?=some (.cells #[.int .i64 0,.slice none 0 0] 26 (0,0))):=⟨h5_⟩
               have n6_:Aside0 (w52.heap[gb315]?=some (.cells #[.int .i64 t311,.slice (some ad317) x316001_1.length co36] 26 (0,0))):=⟨h6_⟩
               have n7_:Aside0 (w52.heap[gb318]?=some (.cells #[.slice A317_0 ((rd_T35 x316001_1 x8_1).f0).length c317_0] 35 (0,0))):=⟨h7_⟩
               have n8_:Aside0 (w52.heap[gb337]?=some (.cells #[.slice none 0 0] 35 (0,0))):=⟨h8_⟩
               have n9_:Aside0 (w.heap.size≤gb337):=⟨h9_⟩
               have n10_:Aside0 (w.heap.size≤gb337):=⟨h10_⟩
               have n11_:Aside0 (gb309 ≠ gb337):=⟨h11_⟩
               have n12_:Aside0 (gb337 ≠ gb309):=⟨h12_⟩
               have n13_:Aside0 (gb310 ≠ gb337):=⟨h13_⟩
               have n14_:Aside0 (gb337 ≠ gb310):=⟨h14_⟩
               have n15_:Aside0 (gb315 ≠ gb337):=⟨h15_⟩
               have n16_:Aside0 (gb337 ≠ gb315):=⟨h16_⟩
               have n17_:Aside0 (gb318 ≠ gb337):=⟨h17_⟩
               have n18_:Aside0 (gb337 ≠ gb318):=⟨h18_⟩
               have n19_:Aside0 (Below w.heap.size w w52):=⟨h19_⟩
               clear HO_316001 HL317_0 BK309 BK310 BK315 BK318 HR317_0 HX317_0 HB h0_ h1_ h2_ h3_ h4_ h5_ h6_ h7_ h8_ h9_ h10_ h11_ h12_ h13_ h14_ h15_ h16_ h17_ h18_ h19_;have HL317_0:=n0_;have HO336:=n1_;have HO_316001:=n2_;have HX317_0:=n3_;have BK309:=n4_;have BK310:=n5_;have BK315:=n6_;have BK318:=n7_;have BK337:=n8_;have GW337:=n9_;have GE337:=n10_;have NB309_337:=n11_;have NB337_309:=n12_;have NB310_337:=n13_;have NB337_310:=n14_;have NB315_337:=n15_;have NB337_315:=n16_;have NB318_337:=n17_;have NB337_318:=n18_;have HB:=n19_;clear n0_ n1_ n2_ n3_ n4_ n5_ n6_ n7_ n8_ n9_ n10_ n11_ n12_ n13_ n14_ n15_ n16_ n17_ n18_ n19_
               have hHeld:w52.cell? ⟨gb318,0,none⟩=some (.slice A317_0 ((rd_T35 x316001_1 x8_1).f0).length c317_0):=hS_
               obtain ⟨Ao53,co53,eo53⟩:=Kd.R_slice HO336.out
               (subst eo53)
               refine norm_ (a':=?_) ?_ ?_
               rotate_left
               ·simp only [putAll,Act.put,List.setIfInBounds_toArray,List.set_cons_zero,List.set_cons_succ]
                rfl
               refine ot 14 none (fl 15 32767) HT_ (fun K hK=>?_)
               have hs54:w52.cell? ⟨gb337,0,none⟩=some (.slice none 0 0):=(blk_cell BK337.out 0).trans rfl
               have hfs54:=blk_frozen BK337.out 0
               have hns54_0:=NB309_337.out
               have hns54_1:=NB310_337.out
               have hns54_2:=NB315_337.out
               have hns54_3:=NB318_337.out
               have hms54_0:=NB337_309.out
               have hms54_1:=NB337_310.out
               have hms54_2:=NB337_315.out
               have hms54_3:=NB337_318.out
               refine skip_ (w1:=?_) (by rfl) rfl ?_ ?_
               rotate_left
               ·go_simp
                rfl
               refine hK.out _ _ (((cell_far (p:=⟨gb337,_,none⟩) NB318_337.out _).trans (hHeld))) (fun hHeld=>?_)
               clear hK K
               refine done_ (done_of HT_.out (by kernel_rfl)) ?_
               have hnb55:=NB315_337.out
               have hnc55:=NB337_315.out
               have hcz56_0:w52.cell? ⟨gb315,0,none⟩=some (.int .i64 t311):=(blk_cell BK315.out 0).trans rfl
               have hcz56_1:w52.cell? ⟨gb315,1,none⟩=some (.slice (some ad317) x316001_1.length co36):=(blk_cell BK315.out 1).trans rfl
               have hfz56_0:=blk_frozen BK315.out 0
               have hfz56_1:=blk_frozen BK315.out 1
               have hnb57:=NB337_309.out
               have hnc57:=NB309_337.out
               have hnb58:=NB337_310.out
               have hnc58:=NB310_337.out
               have hnb59:=NB337_318.out
               have hnc59:=NB318_337.out
               have hcz60_0:w52.cell? ⟨gb337,0,none⟩=some (.slice none 0 0):=(blk_cell BK337.out 0).trans rfl
               have hfz60_0:=blk_frozen BK337.out 0
               try go_wp2_with (first|((with_reducible refine gate_callee (f:=50) rfl ?_);refine goesL_ (some 53) rfl rfl Try.func50 (by kernel_rfl) rfl #[.agg #[.int .i64 t311,.slice (some ad317) x316001_1.length co36],.agg #[.slice Ao53 y334.length co53],.slice A1 l1.length c1] rfl (by (try simp only [List.map_toArray,List.map_cons,List.map_nil]);first|done|rfl|(simp only [List.length_drop,List.length_take];rfl)) ?_;(with_reducible refine (spec_Best.calls k1 t311 _ _ x316001_1 _ _ y334 _ _ l1 t338 _ ?side1 ?side2 ?side3 ?side4 ?side5 ?side6 A29.out).mono ?_);(case side1=>refine (Kd.S_reads' (e:=35) (base:=w.heap.size) (ok:=fun k_=>(some k_ ≠ (.slice Ao53 y334.length co53:Value).ownBlock∧(k_ ≠ gb318∧k_ ≠ gb337))) (n:=x316001_1.length) (c:=co36) ?_).2.2;exact (by (with_reducible repeat (first|apply Kd.S_alloc|apply Kd.S_drewN|apply Kd.S_drew));exact (Kd.S_mono (Kd.S_far (p:=⟨gb337,0,none⟩) (Kd.S_mono HO_316001.out (fun k_ hk=>(⟨hk,hk.2.2⟩:_∧k_ ≠ gb337))) (fun _ hk=>hk.2) (.slice Ao53 y334.length co53)) (fun _ h_=>h_.1))));(case side2=>exact (Kd.S_reads' HO_316001.out).2.1);(case side3=>refine (Kd.R_reads' (e:=3) (base:=w.heap.size) (ok:=fun k_=>some k_ ≠ (.slice A317_0 ((rd_T35 x316001_1 x8_1).f0).length c317_0:Value).ownBlock) (n:=y334.length) (c:=co53) ?_).2.2;exact (by (with_reducible repeat (first|apply Kd.R_alloc|apply Kd.R_drewN|apply Kd.R_drew));exact (Kd.R_mono (Kd.R_far (p:=⟨gb337,0,none⟩) (Kd.R_types HO336.out BK337.out (by decide)) (fun _ hk=>hk.2) (.slice Ao53 y334.length co53)) (fun _ h_=>h_.1))));(case side4=>exact (Kd.R_reads' HO336.out).2.1);(case side5=>exact Kd.C_below HR1.out be);(case side6=>exact HC1.out);rintro e w61 ⟨rfl,hb⟩;refine ⟨_,rfl,?_⟩;replace HO_316001:=aM (Kd.S_below ((by (with_reducible repeat (first|apply Kd.S_alloc|apply Kd.S_drewN|apply Kd.S_drew));exact (Kd.S_mono (Kd.S_far (p:=⟨gb337,0,none⟩) (Kd.S_mono HO_316001.out (fun k_ hk=>(⟨hk,hk.2.2⟩:_∧k_ ≠ gb337))) (fun _ hk=>hk.2) (.slice Ao53 y334.length co53)) (fun _ h_=>h_.1)))) hb);replace BK309:=aM (blk_below (g:=gb309) (o:=.cells #[.int .i64 a0_0,.slice A0_1 l0_1.length c0_1] 26 (0,0)) (by (with_reducible repeat (first|refine blk_drewN ?_ _|refine blk_drew ?_|refine blk_alloc ?_ _));refine blk_far ?_ NB309_337.out _;(with_reducible repeat (first|refine blk_drewN ?_ _|refine blk_drew ?_|refine blk_alloc ?_ _));exact BK309.out) hb);replace BK310:=aM (blk_below (g:=gb310) (o:=.cells #[.int .i64 0,.slice none 0 0] 26 (0,0)) (by (with_reducible repeat (first|refine blk_drewN ?_ _|refine blk_drew ?_|refine blk_alloc ?_ _));refine blk_far ?_ NB310_337.out _;(with_reducible repeat (first|refine blk_drewN ?_ _|refine blk_drew ?_|refine blk_alloc ?_ _));exact BK310.out) hb);replace BK315:=aM (blk_below (g:=gb315) (o:=.cells #[.int .i64 t311,.slice (some ad317) x316001_1.length co36] 26 (0,0)) (by (with_reducible repeat (first|refine blk_drewN ?_ _|refine blk_drew ?_|refine blk_alloc ?_ _));refine blk_far ?_ NB315_337.out _;(with_reducible repeat (first|refine blk_drewN ?_ _|refine blk_drew ?_|refine blk_alloc ?_ _));exact BK315.out) hb);replace HB:=bs hb;clear HL317_0 HO336 HX317_0 BK318 BK337;(try clear hb);have hcz62_0:w61.cell? ⟨gb315,0,none⟩=some (.int .i64 t311):=(blk_cell BK315.out 0).trans rfl;have hcz62_1:w61.cell? ⟨gb315,1,none⟩=some (.slice (some ad317) x316001_1.length co36):=(blk_cell BK315.out 1).trans rfl;have hfz62_0:=blk_frozen BK315.out 0;have hfz62_1:=blk_frozen BK315.out 1;have p339:0≤(x8_1:Int):=of_decide_eq_true (by first|(with_reducible assumption)|assumption);have q339:x8_1 < (x316001_1.length:Int):=of_decide_eq_true (by first|(with_reducible assumption)|assumption);obtain ⟨ad339,A339_0,c339_0,e339,hx339_0,hl339_0,hi339_0⟩:=at_T35 (Kd.S_reads' HO_316001.out).2.2 x8_1 p339 q339;obtain rfl:ad317=ad339:=(by injection e339);obtain ⟨ce339,hce339,hMe339,hcc339⟩:=Kd.S_get HO_316001.out z35 x8_1 p339 (by first|exact q339|exact of_decide_eq_true (by first|(with_reducible assumption)|assumption)|(have e_:=(Kd.S_reads' HO_316001.out).1;omega));obtain ⟨ve339_0,rfl,ge339_0⟩:=k35_openM hMe339;have hv339_0:=hcc339 0 _ rfl;rw [Nat.add_zero,show (k35).sz=1 from rfl,Nat.mul_one] at hv339_0;replace hv339_0:=Option.some.inj (hv339_0.symm.trans hx339_0);rw [hv339_0] at ge339_0;have HL339_0:=aM (show Kd.R (Kd.int .i64) 3 _ _ _ _ ((rd_T35 x316001_1 x8_1).f0) from ge339_0);clear hv339_0 ge339_0;have HX339_0:=aM hx339_0;clear hcc339 hce339;have HR339_0:=aM hi339_0;have HC339_0:=aM hl339_0;clear hi339_0 hl339_0;replace p339:=eq_true p339;replace q339:=eq_true q339;have p32:0≤(t319:Int):=of_decide_eq_true (by first|(with_reducible assumption)|assumption);have q32:(t319:Int) < ((((rd_T35 x316001_1 x8_1).f0).length:Int):Int):=of_decide_eq_true (by first|(with_reducible assumption)|assumption);obtain ⟨go32,co32,eo32,gb32,gl32,cl32,HG32⟩:=Kd.R_form HL339_0.out (by omega);(cases eo32);have GB32:=aM gb32;have GG32:=aM HG32;clear gb32 gl32 HG32;obtain ⟨hx32_0,hf32_0⟩:=Kd.R_celln 0 HL339_0.out (t319:Int) p32 q32;replace p32:=eq_true p32;replace q32:=eq_true q32;have hq63:(x8_1:Int) < (x316001_1.length:Int):=(by have h_:(x8_1:Int) < ((x316001_1.length:Int):Int):=of_decide_eq_true (by first|(with_reducible assumption)|assumption);first|exact h_|(have e_:=(Kd.S_reads' HO_316001.out).1;omega)|simpa only [List.length_set,List.length_set] using h_);obtain ⟨oki63,ce63,hcl63,hM63,hcc63,hok63,hbk63⟩:=Kd.S_borrow HO_316001.out z35 (x8_1:Int) (of_decide_eq_true (by first|(with_reducible assumption)|assumption)) hq63;obtain ⟨ve63_0,rfl,ge63_0⟩:=k35_openM hM63;have hv63:=hcc63 0 _ rfl;rw [Nat.add_zero,show (k35).sz=1 from rfl,Nat.mul_one] at hv63;replace hv63:=Option.some.inj (hv63.symm.trans HX339_0.out);subst hv63;clear hcc63 hcl63;replace ge63_0:=(show Kd.R (Kd.int .i64) 3 _ _ _ _ ((rd_T35 x316001_1 x8_1).f0) from ge63_0);have HP63:=Kd.R_putg ge63_0 (t319:Int) t338)|((with_reducible refine gate_store (t:=3) (p:=77) rfl ?_);refine store_event (t:=3) (p:=77) (v:=?vo_w64) (w1:=(w61.setCell ⟨go32,(t319:Int).toNat,none⟩ (.int .i64 t338))) ?hg ?ho ?hn ?hr ?_;(case ho=>rfl);(case hg=>rfl);(case hn=>rfl);(case hr=>first|(go_simp;done)|(go_simp;rfl));intro w64 hw;have hg:w61.grownBy w64 (some go32):=(by rw [hw];exact HP63.2);have hz_:Kd.R (Kd.int .i64) 3 w64 w.heap.size oki63 (.slice (some ⟨go32,0,none⟩) ((rd_T35 x316001_1 x8_1).f0).length c339_0) y340:=(by rw [hw,Ny340.out];exact HP63.1);have hp_:Kd.S k35 35 w64 w.heap.size (fun k_=>some k_ ≠ (.slice Ao53 y334.length co53:Value).ownBlock∧k_ ≠ gb318∧k_ ≠ gb337) (.slice (some ad317) x316001_1.length co36) y342:=(by rw [Ny342.out];exact Kd.S_mono (hbk63 hg (fun k_ e_=>by injection e_ with e_;subst e_;exact ge63_0.1 _ rfl) (k35_mkM _ _ _ (⟨y340⟩:S35) hz_)) (fun _ hk=>by first|exact hk|exact ⟨hk.2,hk.1⟩));have hm_:=Kd.R_mono hz_ hok63;clear HP63 hbk63;replace HO_316001:=aM (hp_);replace BK309:=bG BK309 hg (Kd.R_ne HL339_0.out BK309.out (by decide));replace BK310:=bG BK310 hg (Kd.R_ne HL339_0.out BK310.out (by decide));replace BK315:=bG BK315 hg (Kd.R_ne HL339_0.out BK315.out (by decide));replace HB:=aM ((by rw [hw];exact below_set (HB.out) GB32.out:Below w.heap.size w w64));clear HL339_0;clear hg hw hp_ hz_ hm_ hok63))
               go_roundg k1
               case measure=>have:=HK1.out;omega
               case rel=>exact ⟨(wrap64 (x7_1+1)),(wrap64 (x8_1+1)),(y342),(.slice (some ad317) x316001_1.length co36),rd_,rd_,H',⟨by have:=HK1.out;omega⟩,⟨by (with_reducible repeat (first|apply Kd.S_alloc|apply Kd.S_drewN|apply Kd.S_drew));exact Kd.S_mono HO_316001.out (fun _ hk=>trivial)⟩,⟨bk BK309⟩,⟨bk BK310⟩,⟨bk BK315⟩,⟨be⟩⟩
              ·rw [if_neg c31] at H
               exact absurd H (by simp)
             ·rw [if_neg c30] at H
              have c30b0:decide (0≤t338)=false:=decide_eq_false c30
              clear c30
              have H':=Aside0.mk H
              clear H
              have hnb65:=NB315_309.out
              have hnc65:=NB309_315.out
              have hnb66:=NB315_310.out
              have hnc66:=NB310_315.out
              have hcz67_0:wr.cell? ⟨gb315,0,none⟩=some (.int .i64 t311):=(blk_cell BK315.out 0).trans rfl
              have hcz67_1:wr.cell? ⟨gb315,1,none⟩=some (u316001):=(blk_cell BK315.out 1).trans rfl
              have hfz67_0:=blk_frozen BK315.out 0
              have hfz67_1:=blk_frozen BK315.out 1
              obtain ⟨Ao68,co68,eo68⟩:=Kd.S_slice HO_316001.out
              subst eo68
              have p317:0≤(x8_1:Int):=of_decide_eq_true (by first|(with_reducible assumption)|assumption)
              have q317:x8_1 < (x316001_1.length:Int):=of_decide_eq_true (by first|(with_reducible assumption)|assumption)
              obtain ⟨ad317,A317_0,c317_0,e317,hx317_0,hl317_0,hi317_0⟩:=at_T35 (Kd.S_reads' HO_316001.out).2.2 x8_1 p317 q317
              cases e317
              obtain ⟨ce317,hce317,hMe317,hcc317⟩:=Kd.S_get HO_316001.out z35 x8_1 p317 (by first|exact q317|exact of_decide_eq_true (by first|(with_reducible assumption)|assumption)|(have e_:=(Kd.S_reads' HO_316001.out).1;omega))
              obtain ⟨ve317_0,rfl,ge317_0⟩:=k35_openM hMe317
              have hv317_0:=hcc317 0 _ rfl
              rw [Nat.add_zero,show (k35).sz=1 from rfl,Nat.mul_one] at hv317_0
              replace hv317_0:=Option.some.inj (hv317_0.symm.trans hx317_0)
              rw [hv317_0] at ge317_0
              have HL317_0:=aM (show Kd.R (Kd.int .i64) 3 _ _ _ _ ((rd_T35 x316001_1 x8_1).f0) from ge317_0)
              clear hv317_0 ge317_0
              have HX317_0:=aM hx317_0
              clear hcc317 hce317
              have HR317_0:=aM hi317_0
              have HC317_0:=aM hl317_0
              clear hi317_0 hl317_0
              replace p317:=eq_true p317
              replace q317:=eq_true q317
              try go_wp2_with (first|((with_reducible refine gate_dst (N:=9) rfl ?_);refine box_event ?hg (N:=9) ?hd (cs:=#[.slice none 0 0]) (t:=35) ?hr ?_;(case hd=>rfl);(case hg=>rfl);(case hr=>first|(go_simp;done)|(go_simp;rfl));intro gb318 hg w69 hbox hb;replace HO_316001:=aM (Kd.S_below (Kd.S_elderB (rS HO_316001) gb318 (Nat.le_of_eq hg.symm)) hb);replace HL317_0:=rB HL317_0 hb;replace HR317_0:=aM (Kd.C_below (by repeat ((with_reducible exact HR317_0.out))) hb);replace HX317_0:=xB hb HX317_0;have BK318:=aM (hbox);have GW318:=gS w hg;have GE318:=gS w hg;replace HB:=bs hb;have NB309_318:=nL hg BK309;have NB318_309:=nG hg BK309;replace BK309:=bB BK309 hb;have NB310_318:=nL hg BK310;have NB318_310:=nG hg BK310;replace BK310:=bB BK310 hb;have NB315_318:=nL hg BK315;have NB318_315:=nG hg BK315;replace BK315:=bB BK315 hb;clear hb hbox hg;have hnb70:=NB318_309.out;have hnc70:=NB309_318.out;have hnb71:=NB318_310.out;have hnc71:=NB310_318.out;have hnb72:=NB318_315.out;have hnc72:=NB315_318.out;have hcz73_0:w69.cell? ⟨gb318,0,none⟩=some (.slice none 0 0):=(blk_cell BK318.out 0).trans rfl;have hfz73_0:=blk_frozen BK318.out 0)|((with_reducible refine gate_callee (f:=49) rfl ?_);refine goesL_ (some 34) rfl rfl Try.func49 (by kernel_rfl) rfl #[.agg #[.slice A317_0 ((rd_T35 x316001_1 x8_1).f0).length c317_0],.slice A1 l1.length c1] rfl (by (try simp only [List.map_toArray,List.map_cons,List.map_nil]);first|done|rfl|(simp only [List.length_drop,List.length_take];rfl)) ?_;(with_reducible refine (spec_l6Lost.calls k1 _ _ ((rd_T35 x316001_1 x8_1).f0) _ _ l1 t319 _ ?side1 ?side2 ?side3 ?side4 A20.out).mono ?_);(case side1=>repeat (exact ((Kd.R_reads' (by (with_reducible repeat (first|apply Kd.R_alloc|apply Kd.R_drewN|apply Kd.R_drew));exact (Kd.R_mono (Kd.R_far (p:=⟨gb318,0,none⟩) (Kd.R_types HL317_0.out BK318.out (by decide)) (fun _ hk=>hk.2) (.slice A317_0 ((rd_T35 x316001_1 x8_1).f0).length c317_0)) (fun _ h_=>h_.1)))).2.2)));(case side2=>exact HC317_0.out);(case side3=>exact Kd.C_below HR1.out be);(case side4=>exact HC1.out);rintro e w74 ⟨rfl,hb⟩;refine ⟨_,rfl,?_⟩;replace BK309:=aM (blk_below (g:=gb309) (o:=.cells #[.int .i64 a0_0,.slice A0_1 l0_1.length c0_1] 26 (0,0)) (by (with_reducible repeat (first|refine blk_drewN ?_ _|refine blk_drew ?_|refine blk_alloc ?_ _));refine blk_far ?_ NB309_318.out _;(with_reducible repeat (first|refine blk_drewN ?_ _|refine blk_drew ?_|refine blk_alloc ?_ _));exact BK309.out) hb);replace BK310:=aM (blk_below (g:=gb310) (o:=.cells #[.int .i64 0,.slice none 0 0] 26 (0,0)) (by (with_reducible repeat (first|refine blk_drewN ?_ _|refine blk_drew ?_|refine blk_alloc ?_ _));refine blk_far ?_ NB310_318.out _;(with_reducible repeat (first|refine blk_drewN ?_ _|refine blk_drew ?_|refine blk_alloc ?_ _));exact BK310.out) hb);replace BK315:=aM (blk_below (g:=gb315) (o:=.cells #[.int .i64 t311,.slice (some ad317) x316001_1.length co68] 26 (0,0)) (by (with_reducible repeat (first|refine blk_drewN ?_ _|refine blk_drew ?_|refine blk_alloc ?_ _));refine blk_far ?_ NB315_318.out _;(with_reducible repeat (first|refine blk_drewN ?_ _|refine blk_drew ?_|refine blk_alloc ?_ _));exact BK315.out) hb);replace HR317_0:=aM (Kd.C_below ((Kd.R_reads' (by (with_reducible repeat (first|apply Kd.R_alloc|apply Kd.R_drewN|apply Kd.R_drew));exact (Kd.R_mono (Kd.R_far (p:=⟨gb318,0,none⟩) (Kd.R_types HL317_0.out BK318.out (by decide)) (fun _ hk=>hk.2) (.slice A317_0 ((rd_T35 x316001_1 x8_1).f0).length c317_0)) (fun _ h_=>h_.1)))).2.2) hb);replace HL317_0:=aM (Kd.R_below ((by (with_reducible repeat (first|apply Kd.R_alloc|apply Kd.R_drewN|apply Kd.R_drew));exact (Kd.R_mono (Kd.R_far (p:=⟨gb318,0,none⟩) (Kd.R_types HL317_0.out BK318.out (by decide)) (fun _ hk=>hk.2) (.slice A317_0 ((rd_T35 x316001_1 x8_1).f0).length c317_0)) (fun _ h_=>h_.1)))) hb);replace HX317_0:=aM (pw_cell_below hb ((cell_far (p:=⟨gb318,0,none⟩) (by first|(rw [add_block];exact ((Kd.S_R HO_316001.out).1 _ rfl).2)|(show (Addr.add _ _).block ≠ _;rw [add_block];exact ((Kd.S_R HO_316001.out).1 _ rfl).2)|exact ((Kd.S_R HO_316001.out).1 _ rfl).2) (.slice A317_0 ((rd_T35 x316001_1 x8_1).f0).length c317_0)).trans (HX317_0.out)));replace HO_316001:=aM (Kd.S_below ((by (with_reducible repeat (first|apply Kd.S_alloc|apply Kd.S_drewN|apply Kd.S_drew));exact (Kd.S_mono (Kd.S_far (p:=⟨gb318,0,none⟩) (Kd.S_mono HO_316001.out (fun k_ hk=>(⟨hk,hk.2⟩:_∧k_ ≠ gb318))) (fun _ hk=>hk.2) (.slice A317_0 ((rd_T35 x316001_1 x8_1).f0).length c317_0)) (fun _ h_=>h_.1)))) hb);replace BK318:=aM (blk_below (g:=gb318) (o:=.cells #[.slice A317_0 ((rd_T35 x316001_1 x8_1).f0).length c317_0] 35 (0,0)) (by (with_reducible repeat (first|refine blk_drewN ?_ _|refine blk_drew ?_|refine blk_alloc ?_ _));refine blk_put (cs:=#[.slice none 0 0]) ?_ 0 _ rfl;(with_reducible repeat (first|refine blk_drewN ?_ _|refine blk_drew ?_|refine blk_alloc ?_ _));exact BK318.out) hb);replace HB:=bs hb;(try clear hb)))
              replace HO_316001:=aM (Kd.S_drew HO_316001.out);replace HL317_0:=aM (Kd.R_drew HL317_0.out);replace BK309:=aM (blk_drew BK309.out);replace BK310:=aM (blk_drew BK310.out);replace BK315:=aM (blk_drew BK315.out);replace BK318:=aM (blk_drew BK318.out);replace HR317_0:=aM (Kd.C_drew HR317_0.out);replace HX317_0:=aM (Aid.cell_drew HX317_0.out);replace HB:=aM (below_drew1 HB.out)
              have q76:(t319:Int)≤((((rd_T35 x316001_1 x8_1).f0).length:Int):Int):=of_decide_eq_true (by first|(with_reducible assumption)|assumption)
              obtain ⟨i076,hi076,_,hsz76,_⟩:=info_parts info3
              have hroom76:((rd_T35 x316001_1 x8_1).f0).length≤c317_0:=HC317_0.out
              have hC76:Kd.C (Kd.int .i64) _ A317_0 ((rd_T35 x316001_1 x8_1).f0).length ((rd_T35 x316001_1 x8_1).f0):=(by repeat ((with_reducible exact HR317_0.out)))
              have hcut76:=cut_to (P:=Try.prog) 33 3 .i64 Try.underlying33 hi076 A317_0 ((rd_T35 x316001_1 x8_1).f0).length c317_0 t319 (of_decide_eq_true (by first|(with_reducible assumption)|assumption)) q76 hroom76
              have hr76:=Kd.C_take (m:=(t319:Int).toNat) hC76 (by omega)
              have hy76:y323.length=(t319:Int).toNat:=(by rw [Ny323.out,List.length_take];omega)
              rw [← Ny323.out] at hr76
              rw [← hy76] at hcut76
              have HR326:=aM hr76
              have HC326:=aM (show y323.length≤c317_0 from by omega)
              clear hr76 hC76 hroom76 hi076 hsz76
              have KY76:=aM hy76
              clear hy76
              have KL76:=aM (show (t319:Int).toNat≤((rd_T35 x316001_1 x8_1).f0).length from by omega)
              replace q76:=eq_true q76
              have q77:((ji25):Int)≤((((rd_T35 x316001_1 x8_1).f0).length:Int):Int):=of_decide_eq_true (by first|(with_reducible assumption)|assumption)
              obtain ⟨i077,hi077,_,hsz77,_⟩:=info_parts info3
              have hroom77:((rd_T35 x316001_1 x8_1).f0).length≤c317_0:=HC317_0.out
              have hC77:Kd.C (Kd.int .i64) _ A317_0 ((rd_T35 x316001_1 x8_1).f0).length ((rd_T35 x316001_1 x8_1).f0):=(by repeat ((with_reducible exact HR317_0.out)))
              have q077:(0:Int)≤((ji25):Int):=of_decide_eq_true (by first|(with_reducible assumption)|assumption)
              have hcut77:=cut_from (P:=Try.prog) 33 3 .i64 Try.underlying33 hi077 1 hsz77 A317_0 ((rd_T35 x316001_1 x8_1).f0).length c317_0 (ji25) q077 q77
              have hr77:=Kd.C_drop (m:=((ji25):Int).toNat) (c:=c317_0) hC77 (by omega) hroom77
              obtain ⟨A77,hA77⟩ : ∃ A1,A1=(if c317_0=((ji25):Int).toNat then A317_0 else (A317_0:Option Addr).map (·.add (((ji25):Int).toNat * 1))):=⟨_,rfl⟩
              obtain ⟨c77,hc77⟩ : ∃ c1,c1=c317_0 - ((ji25):Int).toNat:=⟨_,rfl⟩
              have hy77:y330.length=((rd_T35 x316001_1 x8_1).f0).length - ((ji25):Int).toNat:=(by rw [Ny330.out,List.length_drop] <;> omega)
              rw [show ((rd_T35 x316001_1 x8_1).f0).drop ((ji25):Int).toNat=y330 from Ny330.out.symm] at hr77
              replace hr77:Kd.C (Kd.int .i64) _ A77 y330.length y330:=(by rw [hA77];exact hr77)
              rw [← hy77,← hA77,← hc77] at hcut77
              have HR333:=aM hr77
              have HC333:=aM (show y330.length≤c77 from by rw [hy77,hc77];exact Nat.sub_le_sub_right hroom77 _)
              clear hr77 hC77 hroom77 hi077 hsz77 hc77
              have KY77:=aM hy77
              have KA77:=aM hA77
              clear hy77 hA77
              have KL77:=aM (show ((ji25):Int).toNat≤((rd_T35 x316001_1 x8_1).f0).length from by omega)
              replace q77:=eq_true q77
              refine start_ (n:=15) (S:=fun w'=>w'.cell? ⟨gb318,0,none⟩=some (.slice A317_0 ((rd_T35 x316001_1 x8_1).f0).length c317_0)) (ds:=[]) (fl 15 0) (by kernel_rfl) rfl rfl ((blk_cell BK318.out 0).trans rfl) (fun hHeld=>?_);refine with_tabW spec_Rebalance.tab12 spec_Rebalance.bits12 (fun HT_ HW_=>?_)
              generalize w74.drew=w75 at HO_316001 HL317_0 BK309 BK310 BK315 BK318 HR317_0 HX317_0 HB HR326 HR333 hHeld ⊢
              refine pt 1 38 (fl 15 2) HT_ ?_
              refine pt 3 40 (fl 15 10) HT_ ?_
              refine pt 6 43 (fl 15 74) HT_ ?_
              refine pt 8 45 (fl 15 330) HT_ ?_
              refine pt 9 46 (fl 15 842) HT_ ?_
              refine tt 2 39 (fl 15 846) HT_ HW_ hHeld ?_
              refine pt 4 41 (fl 15 862) HT_ ?_
              refine tt 7 44 (fl 15 990) HT_ HW_ hHeld ?_
              refine pt 10 47 (fl 15 2014) HT_ ?_
              refine join_ (σ:=Value × Value × Value × Nat) 1 (fl 15 16383) (fun s_=>[(37,s_.1),(42,s_.2.1),(48,s_.2.2.1),(12,.pointer (some ⟨s_.2.2.2,0,none⟩)),(49,.agg #[s_.2.2.1])]) (fun s_ w'=>(w'.cell? ⟨gb318,0,none⟩=some (.slice A317_0 ((rd_T35 x316001_1 x8_1).f0).length c317_0))∧(Kd.R (Kd.int .i64) 3 w' w.heap.size (fun k_=>some k_ ≠ (s_.2.2.1:Value).ownBlock∧some k_ ≠ (.slice (some ad317) x316001_1.length co68:Value).ownBlock) (.slice A317_0 ((rd_T35 x316001_1 x8_1).f0).length c317_0) ((rd_T35 x316001_1 x8_1).f0))∧(Kd.R (Kd.int .i64) 3 w' w.heap.size (fun k_=>some k_ ≠ (.slice A317_0 ((rd_T35 x316001_1 x8_1).f0).length c317_0:Value).ownBlock) s_.2.2.1 y334)∧(Kd.S k35 35 w' w.heap.size (fun k_=>some k_ ≠ (s_.2.2.1:Value).ownBlock∧k_ ≠ gb318∧k_ ≠ s_.2.2.2) (.slice (some ad317) x316001_1.length co68) x316001_1)∧(w'.cell? (ad317.add (x8_1).toNat)=some (.slice A317_0 ((rd_T35 x316001_1 x8_1).f0).length c317_0))∧(w'.heap[gb309]?=some (.cells #[.int .i64 a0_0,.slice A0_1 l0_1.length c0_1] 26 (0,0)))∧(w'.heap[gb310]?=some (.cells #[.int .i64 0,.slice none 0 0] 26 (0,0)))∧(w'.heap[gb315]?=some (.cells #[.int .i64 t311,.slice (some ad317) x316001_1.length co68] 26 (0,0)))∧(w'.heap[gb318]?=some (.cells #[.slice A317_0 ((rd_T35 x316001_1 x8_1).f0).length c317_0] 35 (0,0)))∧(w'.heap[s_.2.2.2]?=some (.cells #[.slice none 0 0] 35 (0,0)))∧(w.heap.size≤s_.2.2.2)∧(w.heap.size≤s_.2.2.2)∧(gb309 ≠ s_.2.2.2)∧(s_.2.2.2 ≠ gb309)∧(gb310 ≠ s_.2.2.2)∧(s_.2.2.2 ≠ gb310)∧(gb315 ≠ s_.2.2.2)∧(s_.2.2.2 ≠ gb315)∧(gb318 ≠ s_.2.2.2)∧(s_.2.2.2 ≠ gb318)∧(Below w.heap.size w w')) ?_ ?_
              rotate_left
              ·intro hCont
               refine two_ (i:=0) (j:=13) (Ni:=some 37) (Nj:=some 12) (fl 15 2015) (fl 15 10206) rfl rfl rfl rfl (two_of HT_.out (by kernel_rfl)) (by decide) (by decide) (fun K hK=>?_) (fun K hK=>?_)
               ·skip
                refine Kd.R_lit_step (Kd.int .i64) _ 3 ?hg (N:=37) ?hd (xs:=([]:List Int)) (inner:=[]) (ok:=fun _=>True) (okp:=fun _=>True) ?hr ?hp (fun _ hk=>hk) trivial (Below.refl _ _) (Nat.le_refl _) (by simp) ?_;(case hd=>rfl);(case hg=>rfl);(case hr=>first|(go_simp;done)|(go_simp;rfl));(case hp=>exact (Reps.none _ _))
                intro v321 w78 ho79 hb hg_ hnew_
                clear hg_ hnew_
                (rw [← Ny320.out] at ho79)
                replace HO_316001:=aM (Kd.S_elder' (rS HO_316001) (Kd.R_base ho79) hb);have HO322:=aM (Kd.R_lower (Kd.R_new' ho79 (Kd.R_lt (by (with_reducible repeat (first|apply Kd.R_alloc|apply Kd.R_drewN|apply Kd.R_drew));exact HL317_0.out))) (below_size be));replace HL317_0:=aM (Kd.R_elder' (by (with_reducible repeat (first|apply Kd.R_alloc|apply Kd.R_drewN|apply Kd.R_drew));exact HL317_0.out) (Kd.R_base ho79) hb);replace BK309:=bB BK309 hb;replace BK310:=bB BK310 hb;replace BK315:=bB BK315 hb;replace HX317_0:=xB hb HX317_0;replace BK318:=bB BK318 hb;replace HR326:=aM (Kd.C_below (by repeat ((with_reducible exact HR326.out))) hb);replace HB:=bs hb;clear HR317_0 HR333;clear hb ho79
                refine hK.out _ _ ((blk_cell BK318.out 0).trans rfl) (fun hHeld=>?_)
                clear hK K
                refine no 37 ?_
                refine two_ (i:=5) (j:=13) (Ni:=some 42) (Nj:=some 12) (fl 15 2047) (fl 15 10207) rfl rfl rfl rfl (two_of HT_.out (by kernel_rfl)) (by decide) (by decide) (fun K hK=>?_) (fun K hK=>?_)
                ·skip
                 refine Kd.R_append_rows_step (Kd.int .i64) (w0:=w) w.heap.size (by rfl) (.tmp 37) (.tmp 41) 33 3 (.int .i64 0) 8 rfl Try.underlying33 info3 rfl (by decide) (by omega) v321 y320 y323 _ _ _ (fun k_=>some k_ ≠ (.slice A317_0 ((rd_T35 x316001_1 x8_1).f0).length c317_0:Value).ownBlock) (fun _=>False) rfl rfl ?aO ?aR (fun _ _ h=>h) (fun _ h=>h.elim) ?aF ?aB ?aS ?aL ?_
                 (case aR=>repeat (exact (by repeat (exact HR326.out))))
                 (case aB=>exact be)
                 (case aF=>exact (fun k_ hk=>Kd.fresh' (Kd.R_lt (by (with_reducible repeat (first|apply Kd.R_alloc|apply Kd.R_drewN|apply Kd.R_drew));exact HL317_0.out)) k_ hk))
                 (case aO=>exact (by (with_reducible repeat (first|apply Kd.R_alloc|apply Kd.R_drewN|apply Kd.R_drew));exact Kd.R_mono HO322.out (fun _ hk=>hk.2)))
                 (case aS=>exact (below_size be))
                 (case aL=>have:=LMc24.out;omega)
                 intro v328 w80 ho hb hg hat
                 rw [← Ny327.out] at ho
                 replace BK309:=bG BK309 hg (Kd.R_ne HO322.out BK309.out (by decide));replace BK310:=bG BK310 hg (Kd.R_ne HO322.out BK310.out (by decide));replace BK315:=bG BK315 hg (Kd.R_ne HO322.out BK315.out (by decide));replace HX317_0:=aM (Aid.cell_keep hg HX317_0.out (by intro e_;exact Aid.typed_ne (Kd.S_typed HO_316001.out) (Kd.R_typed HO322.out) (by decide) rfl (by rw [add_block] at e_;exact e_.symm)));replace HO_316001:=aM (Kd.S_after (ok:=(fun k_=>k_ ≠ gb318)) (by (with_reducible repeat (first|apply Kd.S_alloc|apply Kd.S_drewN|apply Kd.S_drew));exact Kd.S_mono HO_316001.out (fun _ hk=>⟨hk.1.2,hk.2⟩)) hg hat);replace BK318:=bG BK318 hg (Kd.R_ne HO322.out BK318.out (by decide));replace HB:=aM (hb);replace HR333:=aM ((show Kd.C (Kd.int .i64) w80 A77 y330.length y330 from by rw [Ny330.out,KA77.out];exact Kd.C_drop (m:=((ji25):Int).toNat) (c:=c317_0) ((Kd.R_reads' (Kd.R_after (ok:=(fun k_=>some k_ ≠ (.slice (some ad317) x316001_1.length co68:Value).ownBlock)) (by (with_reducible repeat (first|apply Kd.R_alloc|apply Kd.R_drewN|apply Kd.R_drew));exact Kd.R_mono HL317_0.out (fun _ hk=>⟨hk.1.2,hk.2⟩)) hg hat)).2.2) KL77.out ((Kd.R_reads' (Kd.R_after (ok:=(fun k_=>some k_ ≠ (.slice (some ad317) x316001_1.length co68:Value).ownBlock)) (by (with_reducible repeat (first|apply Kd.R_alloc|apply Kd.R_drewN|apply Kd.R_drew));exact Kd.R_mono HL317_0.out (fun _ hk=>⟨hk.1.2,hk.2⟩)) hg hat)).2.1)));replace HL317_0:=aM (Kd.R_after (ok:=(fun k_=>some k_ ≠ (.slice (some ad317) x316001_1.length co68:Value).ownBlock)) (by (with_reducible repeat (first|apply Kd.R_alloc|apply Kd.R_drewN|apply Kd.R_drew));exact Kd.R_mono HL317_0.out (fun _ hk=>⟨hk.1.2,hk.2⟩)) hg hat);have HO329:=aM (ho);clear HR326 HO322;clear ho hb hg hat
                 refine hK.out _ _ ((blk_cell BK318.out 0).trans rfl) (fun hHeld=>?_)
                 clear hK K
                 refine no 42 ?_
                 refine two_ (i:=11) (j:=13) (Ni:=some 48) (Nj:=some 12) (fl 15 4095) (fl 15 10239) rfl rfl rfl rfl (two_of HT_.out (by kernel_rfl)) (by decide) (by decide) (fun K hK=>?_) (fun K hK=>?_)
                 ·skip
                  refine Kd.R_append_rows_step (Kd.int .i64) (w0:=w) w.heap.size (by rfl) (.tmp 42) (.tmp 47) 33 3 (.int .i64 0) 8 rfl Try.underlying33 info3 rfl (by decide) (by omega) v328 y327 y330 _ _ _ (fun k_=>some k_ ≠ (.slice A317_0 ((rd_T35 x316001_1 x8_1).f0).length c317_0:Value).ownBlock) (fun _=>False) rfl rfl ?aO ?aR (fun _ _ h=>h) (fun _ h=>h.elim) ?aF ?aB ?aS ?aL ?_
                  (case aR=>repeat (exact (by repeat (exact HR333.out))))
                  (case aB=>exact be)
                  (case aF=>exact (fun k_ hk=>Kd.fresh' (Kd.R_lt (by (with_reducible repeat (first|apply Kd.R_alloc|apply Kd.R_drewN|apply Kd.R_drew));exact HL317_0.out)) k_ hk))
                  (case aO=>exact (rR HO329))
                  (case aS=>exact (below_size be))
                  (case aL=>have:=LMc28.out;omega)
                  intro v335 w81 ho hb hg hat
                  rw [← Ny334.out] at ho
                  replace BK309:=bG BK309 hg (Kd.R_ne HO329.out BK309.out (by decide));replace BK310:=bG BK310 hg (Kd.R_ne HO329.out BK310.out (by decide));replace BK315:=bG BK315 hg (Kd.R_ne HO329.out BK315.out (by decide));replace HL317_0:=aM (Kd.R_after (ok:=(fun k_=>some k_ ≠ (.slice (some ad317) x316001_1.length co68:Value).ownBlock)) (by (with_reducible repeat (first|apply Kd.R_alloc|apply Kd.R_drewN|apply Kd.R_drew));exact HL317_0.out) hg hat);replace HX317_0:=aM (Aid.cell_keep hg HX317_0.out (by intro e_;exact Aid.typed_ne (Kd.S_typed HO_316001.out) (Kd.R_typed HO329.out) (by decide) rfl (by rw [add_block] at e_;exact e_.symm)));replace HO_316001:=aM (Kd.S_after (ok:=(fun k_=>k_ ≠ gb318)) (rS HO_316001) hg hat);replace BK318:=bG BK318 hg (Kd.R_ne HO329.out BK318.out (by decide));replace HB:=aM (hb);have HO336:=aM (ho);clear HR333 HO329;clear ho hb hg hat
                  obtain ⟨Ao82,co82,eo82⟩:=Kd.R_slice HO336.out
                  (subst eo82)
                  refine hK.out _ _ ((blk_cell BK318.out 0).trans rfl) (fun hHeld=>?_)
                  clear hK K
                  refine no 48 ?_
                  refine pt 12 49 (fl 15 8191) HT_ ?_
                  refine ot 13 (some 12) (fl 15 16383) HT_ (fun K hK=>?_)
                  refine box_step ?hg (N:=12) ?hd (cs:=#[.slice none 0 0]) (t:=35) ?hr ?_;(case hd=>rfl);(case hg=>rfl);(case hr=>first|(go_simp;done)|(go_simp;rfl))
                  intro gb337 hg w83 hbox hb
                  replace HO_316001:=aM (Kd.S_below (Kd.S_elderB (rS HO_316001) gb337 (Nat.le_of_eq hg.symm)) hb);replace HL317_0:=rB HL317_0 hb;replace HO336:=rB HO336 hb;replace HX317_0:=xB hb HX317_0;have BK337:=aM (hbox);have GW337:=gS w hg;have GE337:=gS w hg;replace HB:=bs hb;have NB309_337:=nL hg BK309;have NB337_309:=nG hg BK309;replace BK309:=bB BK309 hb;have NB310_337:=nL hg BK310;have NB337_310:=nG hg BK310;replace BK310:=bB BK310 hb;have NB315_337:=nL hg BK315;have NB337_315:=nG hg BK315;replace BK315:=bB BK315 hb;have NB318_337:=nL hg BK318;have NB337_318:=nG hg BK318;replace BK318:=bB BK318 hb;clear hb hbox hg
                  refine hK.out _ _ ((blk_cell BK318.out 0).trans rfl) (fun hHeld=>?_)
                  clear hK K
                  refine no 12 ?_
                  exact norm_ (by simp only [putAll,Act.put,List.setIfInBounds_toArray,List.set_cons_zero,List.set_cons_succ]) (hCont (v321,v328,.slice Ao82 y334.length co82,gb337) _ ⟨hHeld,(by (with_reducible repeat (first|apply Kd.R_alloc|apply Kd.R_drewN|apply Kd.R_drew));exact Kd.R_mono HL317_0.out (fun _ hk=>⟨hk.2,hk.1⟩)),(rR HO336),(by (with_reducible repeat (first|apply Kd.S_alloc|apply Kd.S_drewN|apply Kd.S_drew));exact Kd.S_mono HO_316001.out (fun _ hk=>⟨hk.1.2,⟨hk.1.1,hk.2⟩⟩)),HX317_0.out,(bk BK309),(bk BK310),(bk BK315),(bk BK318),(bk BK337),GW337.out,GE337.out,NB309_337.out,NB337_309.out,NB310_337.out,NB337_310.out,NB315_337.out,NB337_315.out,NB318_337.out,NB337_318.out,be⟩)
                 ·skip
                  refine box_step ?hg (N:=12) ?hd (cs:=#[.slice none 0 0]) (t:=35) ?hr ?_;(case hd=>rfl);(case hg=>rfl);(case hr=>first|(go_simp;done)|(go_simp;rfl))
                  intro gb337 hg w81 hbox hb
                  replace HO_316001:=aM (Kd.S_below (Kd.S_elderB (rS HO_316001) gb337 (Nat.le_of_eq hg.symm)) hb);replace HL317_0:=rB HL317_0 hb;replace HO329:=rB HO329 hb;replace HX317_0:=xB hb HX317_0;replace HR333:=aM (Kd.C_below (by repeat ((with_reducible exact HR333.out))) hb);have BK337:=aM (hbox);have GW337:=gS w hg;have GE337:=gS w hg;replace HB:=bs hb;have NB309_337:=nL hg BK309;have NB337_309:=nG hg BK309;replace BK309:=bB BK309 hb;have NB310_337:=nL hg BK310;have NB337_310:=nG hg BK310;replace BK310:=bB BK310 hb;have NB315_337:=nL hg BK315;have NB337_315:=nG hg BK315;replace BK315:=bB BK315 hb;have NB318_337:=nL hg BK318;have NB337_318:=nG hg BK318;replace BK318:=bB BK318 hb;clear hb hbox hg
                  refine hK.out _ _ ((blk_cell BK318.out 0).trans rfl) (fun hHeld=>?_)
                  clear hK K
                  refine no 12 ?_
                  refine ot 11 (some 48) (fl 15 12287) HT_ (fun K hK=>?_)
                  refine Kd.R_append_rows_step (Kd.int .i64) (w0:=w) w.heap.size (by rfl) (.tmp 42) (.tmp 47) 33 3 (.int .i64 0) 8 rfl Try.underlying33 info3 rfl (by decide) (by omega) v328 y327 y330 _ _ _ (fun k_=>some k_ ≠ (.slice A317_0 ((rd_T35 x316001_1 x8_1).f0).length c317_0:Value).ownBlock) (fun _=>False) rfl rfl ?aO ?aR (fun _ _ h=>h) (fun _ h=>h.elim) ?aF ?aB ?aS ?aL ?_
                  (case aR=>repeat (exact (by repeat (exact HR333.out))))
                  (case aB=>exact be)
                  (case aF=>exact (fun k_ hk=>Kd.fresh' (Kd.R_lt (by (with_reducible repeat (first|apply Kd.R_alloc|apply Kd.R_drewN|apply Kd.R_drew));exact HL317_0.out)) k_ hk))
                  (case aO=>exact (rR HO329))
                  (case aS=>exact (below_size be))
                  (case aL=>have:=LMc28.out;omega)
                  intro v335 w82 ho hb hg hat
                  rw [← Ny334.out] at ho
                  replace BK309:=bG BK309 hg (Kd.R_ne HO329.out BK309.out (by decide));replace BK310:=bG BK310 hg (Kd.R_ne HO329.out BK310.out (by decide));replace BK315:=bG BK315 hg (Kd.R_ne HO329.out BK315.out (by decide));replace HL317_0:=aM (Kd.R_after (ok:=(fun k_=>some k_ ≠ (.slice (some ad317) x316001_1.length co68:Value).ownBlock)) (by (with_reducible repeat (first|apply Kd.R_alloc|apply Kd.R_drewN|apply Kd.R_drew));exact HL317_0.out) hg hat);replace HX317_0:=aM (Aid.cell_keep hg HX317_0.out (by intro e_;exact Aid.typed_ne (Kd.S_typed HO_316001.out) (Kd.R_typed HO329.out) (by decide) rfl (by rw [add_block] at e_;exact e_.symm)));replace HO_316001:=aM (Kd.S_after (ok:=(fun k_=>k_ ≠ gb318∧k_ ≠ gb337)) (by (with_reducible repeat (first|apply Kd.S_alloc|apply Kd.S_drewN|apply Kd.S_drew));exact Kd.S_mono HO_316001.out (fun _ hk=>⟨⟨hk.1.1,hk.2⟩,hk.1.2⟩)) hg hat);replace BK318:=bG BK318 hg (Kd.R_ne HO329.out BK318.out (by decide));replace BK337:=bG BK337 hg (Kd.R_ne HO329.out BK337.out (by decide));replace HB:=aM (hb);have HO336:=aM (ho);clear HR333 HO329;clear ho hb hg hat
                  obtain ⟨Ao83,co83,eo83⟩:=Kd.R_slice HO336.out
                  (subst eo83)
                  refine hK.out _ _ ((blk_cell BK318.out 0).trans rfl) (fun hHeld=>?_)
                  clear hK K
                  refine no 48 ?_
                  refine pt 12 49 (fl 15 16383) HT_ ?_
                  exact norm_ (by simp only [putAll,Act.put,List.setIfInBounds_toArray,List.set_cons_zero,List.set_cons_succ]) (hCont (v321,v328,.slice Ao83 y334.length co83,gb337) _ ⟨hHeld,(by (with_reducible repeat (first|apply Kd.R_alloc|apply Kd.R_drewN|apply Kd.R_drew));exact Kd.R_mono HL317_0.out (fun _ hk=>⟨hk.2,hk.1⟩)),(rR HO336),(by (with_reducible repeat (first|apply Kd.S_alloc|apply Kd.S_drewN|apply Kd.S_drew));exact Kd.S_mono HO_316001.out (fun _ hk=>⟨hk.2,⟨hk.1.1,hk.1.2⟩⟩)),HX317_0.out,(bk BK309),(bk BK310),(bk BK315),(bk BK318),(bk BK337),GW337.out,GE337.out,NB309_337.out,NB337_309.out,NB310_337.out,NB337_310.out,NB315_337.out,NB337_315.out,NB318_337.out,NB337_318.out,be⟩)
                ·skip
                 refine box_step ?hg (N:=12) ?hd (cs:=#[.slice none 0 0]) (t:=35) ?hr ?_;(case hd=>rfl);(case hg=>rfl);(case hr=>first|(go_simp;done)|(go_simp;rfl))
                 intro gb337 hg w80 hbox hb
                 replace HO_316001:=aM (Kd.S_below (Kd.S_elderB (rS HO_316001) gb337 (Nat.le_of_eq hg.symm)) hb);replace HL317_0:=rB HL317_0 hb;replace HO322:=rB HO322 hb;replace HX317_0:=xB hb HX317_0;replace HR326:=aM (Kd.C_below (by repeat ((with_reducible exact HR326.out))) hb);have BK337:=aM (hbox);have GW337:=gS w hg;have GE337:=gS w hg;replace HB:=bs hb;have NB309_337:=nL hg BK309;have NB337_309:=nG hg BK309;replace BK309:=bB BK309 hb;have NB310_337:=nL hg BK310;have NB337_310:=nG hg BK310;replace BK310:=bB BK310 hb;have NB315_337:=nL hg BK315;have NB337_315:=nG hg BK315;replace BK315:=bB BK315 hb;have NB318_337:=nL hg BK318;have NB337_318:=nG hg BK318;replace BK318:=bB BK318 hb;clear hb hbox hg
                 refine hK.out _ _ ((blk_cell BK318.out 0).trans rfl) (fun hHeld=>?_)
                 clear hK K
                 refine no 12 ?_
                 refine ot 5 (some 42) (fl 15 10239) HT_ (fun K hK=>?_)
                 refine Kd.R_append_rows_step (Kd.int .i64) (w0:=w) w.heap.size (by rfl) (.tmp 37) (.tmp 41) 33 3 (.int .i64 0) 8 rfl Try.underlying33 info3 rfl (by decide) (by omega) v321 y320 y323 _ _ _ (fun k_=>some k_ ≠ (.slice A317_0 ((rd_T35 x316001_1 x8_1).f0).length c317_0:Value).ownBlock) (fun _=>False) rfl rfl ?aO ?aR (fun _ _ h=>h) (fun _ h=>h.elim) ?aF ?aB ?aS ?aL ?_
                 (case aR=>repeat (exact (by repeat (exact HR326.out))))
                 (case aB=>exact be)
                 (case aF=>exact (fun k_ hk=>Kd.fresh' (Kd.R_lt (by (with_reducible repeat (first|apply Kd.R_alloc|apply Kd.R_drewN|apply Kd.R_drew));exact HL317_0.out)) k_ hk))
                 (case aO=>exact (by (with_reducible repeat (first|apply Kd.R_alloc|apply Kd.R_drewN|apply Kd.R_drew));exact Kd.R_mono HO322.out (fun _ hk=>hk.2)))
                 (case aS=>exact (below_size be))
                 (case aL=>have:=LMc24.out;omega)
                 intro v328 w81 ho hb hg hat
                 rw [← Ny327.out] at ho
                 replace BK309:=bG BK309 hg (Kd.R_ne HO322.out BK309.out (by decide));replace BK310:=bG BK310 hg (Kd.R_ne HO322.out BK310.out (by decide));replace BK315:=bG BK315 hg (Kd.R_ne HO322.out BK315.out (by decide));replace HX317_0:=aM (Aid.cell_keep hg HX317_0.out (by intro e_;exact Aid.typed_ne (Kd.S_typed HO_316001.out) (Kd.R_typed HO322.out) (by decide) rfl (by rw [add_block] at e_;exact e_.symm)));replace HO_316001:=aM (Kd.S_after (ok:=(fun k_=>k_ ≠ gb318∧k_ ≠ gb337)) (by (with_reducible repeat (first|apply Kd.S_alloc|apply Kd.S_drewN|apply Kd.S_drew));exact Kd.S_mono HO_316001.out (fun _ hk=>⟨⟨hk.1.1.2,hk.2⟩,hk.1.2⟩)) hg hat);replace BK318:=bG BK318 hg (Kd.R_ne HO322.out BK318.out (by decide));replace BK337:=bG BK337 hg (Kd.R_ne HO322.out BK337.out (by decide));replace HB:=aM (hb);replace HR333:=aM ((show Kd.C (Kd.int .i64) w81 A77 y330.length y330 from by rw [Ny330.out,KA77.out];exact Kd.C_drop (m:=((ji25):Int).toNat) (c:=c317_0) ((Kd.R_reads' (Kd.R_after (ok:=(fun k_=>some k_ ≠ (.slice (some ad317) x316001_1.length co68:Value).ownBlock)) (by (with_reducible repeat (first|apply Kd.R_alloc|apply Kd.R_drewN|apply Kd.R_drew));exact Kd.R_mono HL317_0.out (fun _ hk=>⟨hk.1.2,hk.2⟩)) hg hat)).2.2) KL77.out ((Kd.R_reads' (Kd.R_after (ok:=(fun k_=>some k_ ≠ (.slice (some ad317) x316001_1.length co68:Value).ownBlock)) (by (with_reducible repeat (first|apply Kd.R_alloc|apply Kd.R_drewN|apply Kd.R_drew));exact Kd.R_mono HL317_0.out (fun _ hk=>⟨hk.1.2,hk.2⟩)) hg hat)).2.1)));replace HL317_0:=aM (Kd.R_after (ok:=(fun k_=>some k_ ≠ (.slice (some ad317) x316001_1.length co68:Value).ownBlock)) (by (with_reducible repeat (first|apply Kd.R_alloc|apply Kd.R_drewN|apply Kd.R_drew));exact Kd.R_mono HL317_0.out (fun _ hk=>⟨hk.1.2,hk.2⟩)) hg hat);have HO329:=aM (ho);clear HR326 HO322;clear ho hb hg hat
                 refine hK.out _ _ ((blk_cell BK318.out 0).trans rfl) (fun hHeld=>?_)
                 clear hK K
                 refine no 42 ?_
                 refine ot 11 (some 48) (fl 15 12287) HT_ (fun K hK=>?_)
                 refine Kd.R_append_rows_step (Kd.int .i64) (w0:=w) w.heap.size (by rfl) (.tmp 42) (.tmp 47) 33 3 (.int .i64 0) 8 rfl Try.underlying33 info3 rfl (by decide) (by omega) v328 y327 y330 _ _ _ (fun k_=>some k_ ≠ (.slice A317_0 ((rd_T35 x316001_1 x8_1).f0).length c317_0:Value).ownBlock) (fun _=>False) rfl rfl ?aO ?aR (fun _ _ h=>h) (fun _ h=>h.elim) ?aF ?aB ?aS ?aL ?_
                 (case aR=>repeat (exact (by repeat (exact HR333.out))))
                 (case aB=>exact be)
                 (case aF=>exact (fun k_ hk=>Kd.fresh' (Kd.R_lt (by (with_reducible repeat (first|apply Kd.R_alloc|apply Kd.R_drewN|apply Kd.R_drew));exact HL317_0.out)) k_ hk))
                 (case aO=>exact (rR HO329))
                 (case aS=>exact (below_size be))
                 (case aL=>have:=LMc28.out;omega)
                 intro v335 w82 ho hb hg hat
                 rw [← Ny334.out] at ho
                 replace BK309:=bG BK309 hg (Kd.R_ne HO329.out BK309.out (by decide));replace BK310:=bG BK310 hg (Kd.R_ne HO329.out BK310.out (by decide));replace BK315:=bG BK315 hg (Kd.R_ne HO329.out BK315.out (by decide));replace HL317_0:=aM (Kd.R_after (ok:=(fun k_=>some k_ ≠ (.slice (some ad317) x316001_1.length co68:Value).ownBlock)) (by (with_reducible repeat (first|apply Kd.R_alloc|apply Kd.R_drewN|apply Kd.R_drew));exact HL317_0.out) hg hat);replace HX317_0:=aM (Aid.cell_keep hg HX317_0.out (by intro e_;exact Aid.typed_ne (Kd.S_typed HO_316001.out) (Kd.R_typed HO329.out) (by decide) rfl (by rw [add_block] at e_;exact e_.symm)));replace HO_316001:=aM (Kd.S_after (ok:=(fun k_=>k_ ≠ gb318∧k_ ≠ gb337)) (rS HO_316001) hg hat);replace BK318:=bG BK318 hg (Kd.R_ne HO329.out BK318.out (by decide));replace BK337:=bG BK337 hg (Kd.R_ne HO329.out BK337.out (by decide));replace HB:=aM (hb);have HO336:=aM (ho);clear HR333 HO329;clear ho hb hg hat
                 obtain ⟨Ao83,co83,eo83⟩:=Kd.R_slice HO336.out
                 (subst eo83)
                 refine hK.out _ _ ((blk_cell BK318.out 0).trans rfl) (fun hHeld=>?_)
                 clear hK K
                 refine no 48 ?_
                 refine pt 12 49 (fl 15 16383) HT_ ?_
                 exact norm_ (by simp only [putAll,Act.put,List.setIfInBounds_toArray,List.set_cons_zero,List.set_cons_succ]) (hCont (v321,v328,.slice Ao83 y334.length co83,gb337) _ ⟨hHeld,(by (with_reducible repeat (first|apply Kd.R_alloc|apply Kd.R_drewN|apply Kd.R_drew));exact Kd.R_mono HL317_0.out (fun _ hk=>⟨hk.2,hk.1⟩)),(rR HO336),(by (with_reducible repeat (first|apply Kd.S_alloc|apply Kd.S_drewN|apply Kd.S_drew));exact Kd.S_mono HO_316001.out (fun _ hk=>⟨hk.2,⟨hk.1.1,hk.1.2⟩⟩)),HX317_0.out,(bk BK309),(bk BK310),(bk BK315),(bk BK318),(bk BK337),GW337.out,GE337.out,NB309_337.out,NB337_309.out,NB310_337.out,NB337_310.out,NB315_337.out,NB337_315.out,NB318_337.out,NB337_318.out,be⟩)
               ·skip
                refine box_step ?hg (N:=12) ?hd (cs:=#[.slice none 0 0]) (t:=35) ?hr ?_;(case hd=>rfl);(case hg=>rfl);(case hr=>first|(go_simp;done)|(go_simp;rfl))
                intro gb337 hg w78 hbox hb
                replace HO_316001:=aM (Kd.S_below (Kd.S_elderB (rS HO_316001) gb337 (Nat.le_of_eq hg.symm)) hb);replace HL317_0:=rB HL317_0 hb;replace HX317_0:=xB hb HX317_0;replace HR326:=aM (Kd.C_below (by repeat ((with_reducible exact HR326.out))) hb);have BK337:=aM (hbox);have GW337:=gS w hg;have GE337:=gS w hg;replace HB:=bs hb;have NB309_337:=nL hg BK309;have NB337_309:=nG hg BK309;replace BK309:=bB BK309 hb;have NB310_337:=nL hg BK310;have NB337_310:=nG hg BK310;replace BK310:=bB BK310 hb;have NB315_337:=nL hg BK315;have NB337_315:=nG hg BK315;replace BK315:=bB BK315 hb;have NB318_337:=nL hg BK318;have NB337_318:=nG hg BK318;replace BK318:=bB BK318 hb;clear HR317_0 HR333;clear hb hbox hg
                refine hK.out _ _ ((blk_cell BK318.out 0).trans rfl) (fun hHeld=>?_)
                clear hK K
                refine no 12 ?_
                refine ot 0 (some 37) (fl 15 10207) HT_ (fun K hK=>?_)
                refine Kd.R_lit_step (Kd.int .i64) _ 3 ?hg (N:=37) ?hd (xs:=([]:List Int)) (inner:=[]) (ok:=fun _=>True) (okp:=fun _=>True) ?hr ?hp (fun _ hk=>hk) trivial (Below.refl _ _) (Nat.le_refl _) (by simp) ?_;(case hd=>rfl);(case hg=>rfl);(case hr=>first|(go_simp;done)|(go_simp;rfl));(case hp=>exact (Reps.none _ _))
                intro v321 w79 ho80 hb hg_ hnew_
                clear hg_ hnew_
                (rw [← Ny320.out] at ho80)
                replace HO_316001:=aM (Kd.S_elder' (rS HO_316001) (Kd.R_base ho80) hb);have HO322:=aM (Kd.R_lower (Kd.R_new' ho80 (Kd.R_lt (by (with_reducible repeat (first|apply Kd.R_alloc|apply Kd.R_drewN|apply Kd.R_drew));exact HL317_0.out))) (below_size be));replace HL317_0:=aM (Kd.R_elder' (by (with_reducible repeat (first|apply Kd.R_alloc|apply Kd.R_drewN|apply Kd.R_drew));exact HL317_0.out) (Kd.R_base ho80) hb);replace BK309:=bB BK309 hb;replace BK310:=bB BK310 hb;replace BK315:=bB BK315 hb;replace HX317_0:=xB hb HX317_0;replace BK318:=bB BK318 hb;replace HR326:=aM (Kd.C_below (by repeat ((with_reducible exact HR326.out))) hb);replace BK337:=bB BK337 hb;replace HB:=bs hb;clear hb ho80
                refine hK.out _ _ ((blk_cell BK318.out 0).trans rfl) (fun hHeld=>?_)
                clear hK K
                refine no 37 ?_
                refine ot 5 (some 42) (fl 15 10239) HT_ (fun K hK=>?_)
                refine Kd.R_append_rows_step (Kd.int .i64) (w0:=w) w.heap.size (by rfl) (.tmp 37) (.tmp 41) 33 3 (.int .i64 0) 8 rfl Try.underlying33 info3 rfl (by decide) (by omega) v321 y320 y323 _ _ _ (fun k_=>some k_ ≠ (.slice A317_0 ((rd_T35 x316001_1 x8_1).f0).length c317_0:Value).ownBlock) (fun _=>False) rfl rfl ?aO ?aR (fun _ _ h=>h) (fun _ h=>h.elim) ?aF ?aB ?aS ?aL ?_
                (case aR=>repeat (exact (by repeat (exact HR326.out))))
                (case aB=>exact be)
                (case aF=>exact (fun k_ hk=>Kd.fresh' (Kd.R_lt (by (with_reducible repeat (first|apply Kd.R_alloc|apply Kd.R_drewN|apply Kd.R_drew));exact HL317_0.out)) k_ hk))
                (case aO=>exact (by (with_reducible repeat (first|apply Kd.R_alloc|apply Kd.R_drewN|apply Kd.R_drew));exact Kd.R_mono HO322.out (fun _ hk=>hk.2)))
                (case aS=>exact (below_size be))
                (case aL=>have:=LMc24.out;omega)
                intro v328 w81 ho hb hg hat
                rw [← Ny327.out] at ho
                replace BK309:=bG BK309 hg (Kd.R_ne HO322.out BK309.out (by decide));replace BK310:=bG BK310 hg (Kd.R_ne HO322.out BK310.out (by decide));replace BK315:=bG BK315 hg (Kd.R_ne HO322.out BK315.out (by decide));replace HX317_0:=aM (Aid.cell_keep hg HX317_0.out (by intro e_;exact Aid.typed_ne (Kd.S_typed HO_316001.out) (Kd.R_typed HO322.out) (by decide) rfl (by rw [add_block] at e_;exact e_.symm)));replace HO_316001:=aM (Kd.S_after (ok:=(fun k_=>k_ ≠ gb318∧k_ ≠ gb337)) (by (with_reducible repeat (first|apply Kd.S_alloc|apply Kd.S_drewN|apply Kd.S_drew));exact Kd.S_mono HO_316001.out (fun _ hk=>⟨⟨hk.1.1.2,hk.1.2⟩,hk.2⟩)) hg hat);replace BK318:=bG BK318 hg (Kd.R_ne HO322.out BK318.out (by decide));replace BK337:=bG BK337 hg (Kd.R_ne HO322.out BK337.out (by decide));replace HB:=aM (hb);replace HR333:=aM ((show Kd.C (Kd.int .i64) w81 A77 y330.length y330 from by rw [Ny330.out,KA77.out];exact Kd.C_drop (m:=((ji25):Int).toNat) (c:=c317_0) ((Kd.R_reads' (Kd.R_after (ok:=(fun k_=>some k_ ≠ (.slice (some ad317) x316001_1.length co68:Value).ownBlock)) (by (with_reducible repeat (first|apply Kd.R_alloc|apply Kd.R_drewN|apply Kd.R_drew));exact Kd.R_mono HL317_0.out (fun _ hk=>⟨hk.1.2,hk.2⟩)) hg hat)).2.2) KL77.out ((Kd.R_reads' (Kd.R_after (ok:=(fun k_=>some k_ ≠ (.slice (some ad317) x316001_1.length co68:Value).ownBlock)) (by (with_reducible repeat (first|apply Kd.R_alloc|apply Kd.R_drewN|apply Kd.R_drew));exact Kd.R_mono HL317_0.out (fun _ hk=>⟨hk.1.2,hk.2⟩)) hg hat)).2.1)));replace HL317_0:=aM (Kd.R_after (ok:=(fun k_=>some k_ ≠ (.slice (some ad317) x316001_1.length co68:Value).ownBlock)) (by (with_reducible repeat (first|apply Kd.R_alloc|apply Kd.R_drewN|apply Kd.R_drew));exact Kd.R_mono HL317_0.out (fun _ hk=>⟨hk.1.2,hk.2⟩)) hg hat);have HO329:=aM (ho);clear HR326 HO322;clear ho hb hg hat
                refine hK.out _ _ ((blk_cell BK318.out 0).trans rfl) (fun hHeld=>?_)
                clear hK K
                refine no 42 ?_
                refine ot 11 (some 48) (fl 15 12287) HT_ (fun K hK=>?_)
                refine Kd.R_append_rows_step (Kd.int .i64) (w0:=w) w.heap.size (by rfl) (.tmp 42) (.tmp 47) 33 3 (.int .i64 0) 8 rfl Try.underlying33 info3 rfl (by decide) (by omega) v328 y327 y330 _ _ _ (fun k_=>some k_ ≠ (.slice A317_0 ((rd_T35 x316001_1 x8_1).f0).length c317_0:Value).ownBlock) (fun _=>False) rfl rfl ?aO ?aR (fun _ _ h=>h) (fun _ h=>h.elim) ?aF ?aB ?aS ?aL ?_
                (case aR=>repeat (exact (by repeat (exact HR333.out))))
                (case aB=>exact be)
                (case aF=>exact (fun k_ hk=>Kd.fresh' (Kd.R_lt (by (with_reducible repeat (first|apply Kd.R_alloc|apply Kd.R_drewN|apply Kd.R_drew));exact HL317_0.out)) k_ hk))
                (case aO=>exact (rR HO329))
                (case aS=>exact (below_size be))
                (case aL=>have:=LMc28.out;omega)
                intro v335 w82 ho hb hg hat
                rw [← Ny334.out] at ho
                replace BK309:=bG BK309 hg (Kd.R_ne HO329.out BK309.out (by decide));replace BK310:=bG BK310 hg (Kd.R_ne HO329.out BK310.out (by decide));replace BK315:=bG BK315 hg (Kd.R_ne HO329.out BK315.out (by decide));replace HL317_0:=aM (Kd.R_after (ok:=(fun k_=>some k_ ≠ (.slice (some ad317) x316001_1.length co68:Value).ownBlock)) (by (with_reducible repeat (first|apply Kd.R_alloc|apply Kd.R_drewN|apply Kd.R_drew));exact HL317_0.out) hg hat);replace HX317_0:=aM (Aid.cell_keep hg HX317_0.out (by intro e_;exact Aid.typed_ne (Kd.S_typed HO_316001.out) (Kd.R_typed HO329.out) (by decide) rfl (by rw [add_block] at e_;exact e_.symm)));replace HO_316001:=aM (Kd.S_after (ok:=(fun k_=>k_ ≠ gb318∧k_ ≠ gb337)) (rS HO_316001) hg hat);replace BK318:=bG BK318 hg (Kd.R_ne HO329.out BK318.out (by decide));replace BK337:=bG BK337 hg (Kd.R_ne HO329.out BK337.out (by decide));replace HB:=aM (hb);have HO336:=aM (ho);clear HR333 HO329;clear ho hb hg hat
                obtain ⟨Ao83,co83,eo83⟩:=Kd.R_slice HO336.out
                (subst eo83)
                refine hK.out _ _ ((blk_cell BK318.out 0).trans rfl) (fun hHeld=>?_)
                clear hK K
                refine no 48 ?_
                refine pt 12 49 (fl 15 16383) HT_ ?_
                exact norm_ (by simp only [putAll,Act.put,List.setIfInBounds_toArray,List.set_cons_zero,List.set_cons_succ]) (hCont (v321,v328,.slice Ao83 y334.length co83,gb337) _ ⟨hHeld,(by (with_reducible repeat (first|apply Kd.R_alloc|apply Kd.R_drewN|apply Kd.R_drew));exact Kd.R_mono HL317_0.out (fun _ hk=>⟨hk.2,hk.1⟩)),(rR HO336),(by (with_reducible repeat (first|apply Kd.S_alloc|apply Kd.S_drewN|apply Kd.S_drew));exact Kd.S_mono HO_316001.out (fun _ hk=>⟨hk.2,⟨hk.1.1,hk.1.2⟩⟩)),HX317_0.out,(bk BK309),(bk BK310),(bk BK315),(bk BK318),(bk BK337),GW337.out,GE337.out,NB309_337.out,NB337_309.out,NB310_337.out,NB337_310.out,NB315_337.out,NB337_315.out,NB318_337.out,NB337_318.out,be⟩)
              rintro ⟨v321,v328,v335,gb337⟩ w84 ⟨hS_,h0_,h1_,h2_,h3_,h4_,h5_,h6_,h7_,h8_,h9_,h10_,h11_,h12_,h13_,h14_,h15_,h16_,h17_,h18_,h19_⟩
              have n0_:Aside0 (Kd.R (Kd.int .i64) 3 w84 w.heap.size (fun k_=>some k_ ≠ (v335:Value).ownBlock∧some k_ ≠ (.slice (some ad317) x316001_1.length co68:Value).ownBlock) (.slice A317_0 ((rd_T35 x316001_1 x8_1).f0).length c317_0) ((rd_T35 x316001_1 x8_1).f0)):=⟨h0_⟩
              have n1_:Aside0 (Kd.R (Kd.int .i64) 3 w84 w.heap.size (fun k_=>some k_ ≠ (.slice A317_0 ((rd_T35 x316001_1 x8_1).f0).length c317_0:Value).ownBlock) v335 y334):=⟨h1_⟩
              have n2_:Aside0 (Kd.S k35 35 w84 w.heap.size (fun k_=>some k_ ≠ (v335:Value).ownBlock∧k_ ≠ gb318∧k_ ≠ gb337) (.slice (some ad317) x316001_1.length co68) x316001_1):=⟨h2_⟩
              have n3_:Aside0 (w84.cell? (ad317.add (x8_1).toNat)=some (.slice A317_0 ((rd_T35 x316001_1 x8_1).f0).length c317_0)):=⟨h3_⟩
              have n4_:Aside0 (w84.heap[gb309]?=some (.cells #[.int .i64 a0_0,.slice A0_1 l0_1.length c0_1] 26 (0,0))):=⟨h4_⟩
              have n5_:Aside0 (w84.heap[gb310]?=some (.cells #[.int .i64 0,.slice none 0 0] 26 (0,0))):=⟨h5_⟩
              have n6_:Aside0 (w84.heap[gb315]?=some (.cells #[.int .i64 t311,.slice (some ad317) x316001_1.length co68] 26 (0,0))):=⟨h6_⟩
              have n7_:Aside0 (w84.heap[gb318]?=some (.cells #[.slice A317_0 ((rd_T35 x316001_1 x8_1).f0).length c317_0] 35 (0,0))):=⟨h7_⟩
              have n8_:Aside0 (w84.heap[gb337]?=some (.cells #[.slice none 0 0] 35 (0,0))):=⟨h8_⟩
              have n9_:Aside0 (w.heap.size≤gb337):=⟨h9_⟩
              have n10_:Aside0 (w.heap.size≤gb337):=⟨h10_⟩
              have n11_:Aside0 (gb309 ≠ gb337):=⟨h11_⟩
              have n12_:Aside0 (gb337 ≠ gb309):=⟨h12_⟩
              have n13_:Aside0 (gb310 ≠ gb337):=⟨h13_⟩
              have n14_:Aside0 (gb337 ≠ gb310):=⟨h14_⟩
              have n15_:Aside0 (gb315 ≠ gb337):=⟨h15_⟩
              have n16_:Aside0 (gb337 ≠ gb315):=⟨h16_⟩
              have n17_:Aside0 (gb318 ≠ gb337):=⟨h17_⟩
              have n18_:Aside0 (gb337 ≠ gb318):=⟨h18_⟩
              have n19_:Aside0 (Below w.heap.size w w84):=⟨h19_⟩
              clear HO_316001 HL317_0 BK309 BK310 BK315 BK318 HR317_0 HX317_0 HB h0_ h1_ h2_ h3_ h4_ h5_ h6_ h7_ h8_ h9_ h10_ h11_ h12_ h13_ h14_ h15_ h16_ h17_ h18_ h19_;have HL317_0:=n0_;have HO336:=n1_;have HO_316001:=n2_;have HX317_0:=n3_;have BK309:=n4_;have BK310:=n5_;have BK315:=n6_;have BK318:=n7_;have BK337:=n8_;have GW337:=n9_;have GE337:=n10_;have NB309_337:=n11_;have NB337_309:=n12_;have NB310_337:=n13_;have NB337_310:=n14_;have NB315_337:=n15_;have NB337_315:=n16_;have NB318_337:=n17_;have NB337_318:=n18_;have HB:=n19_;clear n0_ n1_ n2_ n3_ n4_ n5_ n6_ n7_ n8_ n9_ n10_ n11_ n12_ n13_ n14_ n15_ n16_ n17_ n18_ n19_
              have hHeld:w84.cell? ⟨gb318,0,none⟩=some (.slice A317_0 ((rd_T35 x316001_1 x8_1).f0).length c317_0):=hS_
              obtain ⟨Ao85,co85,eo85⟩:=Kd.R_slice HO336.out
              (subst eo85)
              refine norm_ (a':=?_) ?_ ?_
              rotate_left
              ·simp only [putAll,Act.put,List.setIfInBounds_toArray,List.set_cons_zero,List.set_cons_succ]
               rfl
              refine ot 14 none (fl 15 32767) HT_ (fun K hK=>?_)
              have hs86:w84.cell? ⟨gb337,0,none⟩=some (.slice none 0 0):=(blk_cell BK337.out 0).trans rfl
              have hfs86:=blk_frozen BK337.out 0
              have hns86_0:=NB309_337.out
              have hns86_1:=NB310_337.out
              have hns86_2:=NB315_337.out
              have hns86_3:=NB318_337.out
              have hms86_0:=NB337_309.out
              have hms86_1:=NB337_310.out
              have hms86_2:=NB337_315.out
              have hms86_3:=NB337_318.out
              refine skip_ (w1:=?_) (by rfl) rfl ?_ ?_
              rotate_left
              ·go_simp
               rfl
              refine hK.out _ _ (((cell_far (p:=⟨gb337,_,none⟩) NB318_337.out _).trans (hHeld))) (fun hHeld=>?_)
              clear hK K
              refine done_ (done_of HT_.out (by kernel_rfl)) ?_
              have hnb87:=NB315_337.out
              have hnc87:=NB337_315.out
              have hcz88_0:w84.cell? ⟨gb315,0,none⟩=some (.int .i64 t311):=(blk_cell BK315.out 0).trans rfl
              have hcz88_1:w84.cell? ⟨gb315,1,none⟩=some (.slice (some ad317) x316001_1.length co68):=(blk_cell BK315.out 1).trans rfl
              have hfz88_0:=blk_frozen BK315.out 0
              have hfz88_1:=blk_frozen BK315.out 1
              have hnb89:=NB337_309.out
              have hnc89:=NB309_337.out
              have hnb90:=NB337_310.out
              have hnc90:=NB310_337.out
              have hnb91:=NB337_318.out
              have hnc91:=NB318_337.out
              have hcz92_0:w84.cell? ⟨gb337,0,none⟩=some (.slice none 0 0):=(blk_cell BK337.out 0).trans rfl
              have hfz92_0:=blk_frozen BK337.out 0
              try go_wp2_with ((with_reducible refine gate_callee (f:=50) rfl ?_);refine goesL_ (some 53) rfl rfl Try.func50 (by kernel_rfl) rfl #[.agg #[.int .i64 t311,.slice (some ad317) x316001_1.length co68],.agg #[.slice Ao85 y334.length co85],.slice A1 l1.length c1] rfl (by (try simp only [List.map_toArray,List.map_cons,List.map_nil]);first|done|rfl|(simp only [List.length_drop,List.length_take];rfl)) ?_;(with_reducible refine (spec_Best.calls k1 t311 _ _ x316001_1 _ _ y334 _ _ l1 t338 _ ?side1 ?side2 ?side3 ?side4 ?side5 ?side6 A29.out).mono ?_);(case side1=>refine (Kd.S_reads' (e:=35) (base:=w.heap.size) (ok:=fun k_=>(some k_ ≠ (.slice Ao85 y334.length co85:Value).ownBlock∧(k_ ≠ gb318∧k_ ≠ gb337))) (n:=x316001_1.length) (c:=co68) ?_).2.2;exact (by (with_reducible repeat (first|apply Kd.S_alloc|apply Kd.S_drewN|apply Kd.S_drew));exact (Kd.S_mono (Kd.S_far (p:=⟨gb337,0,none⟩) (Kd.S_mono HO_316001.out (fun k_ hk=>(⟨hk,hk.2.2⟩:_∧k_ ≠ gb337))) (fun _ hk=>hk.2) (.slice Ao85 y334.length co85)) (fun _ h_=>h_.1))));(case side2=>exact (Kd.S_reads' HO_316001.out).2.1);(case side3=>refine (Kd.R_reads' (e:=3) (base:=w.heap.size) (ok:=fun k_=>some k_ ≠ (.slice A317_0 ((rd_T35 x316001_1 x8_1).f0).length c317_0:Value).ownBlock) (n:=y334.length) (c:=co85) ?_).2.2;exact (by (with_reducible repeat (first|apply Kd.R_alloc|apply Kd.R_drewN|apply Kd.R_drew));exact (Kd.R_mono (Kd.R_far (p:=⟨gb337,0,none⟩) (Kd.R_types HO336.out BK337.out (by decide)) (fun _ hk=>hk.2) (.slice Ao85 y334.length co85)) (fun _ h_=>h_.1))));(case side4=>exact (Kd.R_reads' HO336.out).2.1);(case side5=>exact Kd.C_below HR1.out be);(case side6=>exact HC1.out);rintro e w93 ⟨rfl,hb⟩;refine ⟨_,rfl,?_⟩;replace HO_316001:=aM (Kd.S_below ((by (with_reducible repeat (first|apply Kd.S_alloc|apply Kd.S_drewN|apply Kd.S_drew));exact (Kd.S_mono (Kd.S_far (p:=⟨gb337,0,none⟩) (Kd.S_mono HO_316001.out (fun k_ hk=>(⟨hk,hk.2.2⟩:_∧k_ ≠ gb337))) (fun _ hk=>hk.2) (.slice Ao85 y334.length co85)) (fun _ h_=>h_.1)))) hb);replace BK309:=aM (blk_below (g:=gb309) (o:=.cells #[.int .i64 a0_0,.slice A0_1 l0_1.length c0_1] 26 (0,0)) (by (with_reducible repeat (first|refine blk_drewN ?_ _|refine blk_drew ?_|refine blk_alloc ?_ _));refine blk_far ?_ NB309_337.out _;(with_reducible repeat (first|refine blk_drewN ?_ _|refine blk_drew ?_|refine blk_alloc ?_ _));exact BK309.out) hb);replace BK310:=aM (blk_below (g:=gb310) (o:=.cells #[.int .i64 0,.slice none 0 0] 26 (0,0)) (by (with_reducible repeat (first|refine blk_drewN ?_ _|refine blk_drew ?_|refine blk_alloc ?_ _));refine blk_far ?_ NB310_337.out _;(with_reducible repeat (first|refine blk_drewN ?_ _|refine blk_drew ?_|refine blk_alloc ?_ _));exact BK310.out) hb);replace BK315:=aM (blk_below (g:=gb315) (o:=.cells #[.int .i64 t311,.slice (some ad317) x316001_1.length co68] 26 (0,0)) (by (with_reducible repeat (first|refine blk_drewN ?_ _|refine blk_drew ?_|refine blk_alloc ?_ _));refine blk_far ?_ NB315_337.out _;(with_reducible repeat (first|refine blk_drewN ?_ _|refine blk_drew ?_|refine blk_alloc ?_ _));exact BK315.out) hb);replace HB:=bs hb;clear HL317_0 HO336 HX317_0 BK318 BK337;(try clear hb))
              go_roundg k1
              case measure=>have:=HK1.out;omega
              case rel=>exact ⟨(x7_1),(wrap64 (x8_1+1)),(x316001_1),(.slice (some ad317) x316001_1.length co68),rd_,rd_,H',⟨by have:=HK1.out;omega⟩,⟨by (with_reducible repeat (first|apply Kd.S_alloc|apply Kd.S_drewN|apply Kd.S_drew));exact Kd.S_mono HO_316001.out (fun _ hk=>trivial)⟩,⟨bk BK309⟩,⟨bk BK310⟩,⟨bk BK315⟩,⟨be⟩⟩
            ·rw [if_neg c28] at H
             exact absurd H (by simp)
           ·rw [if_neg c27] at H
            exact absurd H (by simp)
          ·rw [if_neg c26] at H
           exact absurd H (by simp)
         ·rw [if_neg c24] at H
          exact absurd H (by simp)
        ·rw [if_neg c23] at H
         exact absurd H (by simp)
       ·rw [if_neg c22] at H
        exact absurd H (by simp)
      ·rw [if_neg c21] at H
       have c21b0:decide (0≤t319)=false:=decide_eq_false c21
       clear c21
       replace H:=Option.bind_eq_some_iff.mp H
       obtain ⟨t343,A940,H⟩:=H
       try dsimp only at H
       have A94:=aM A940
       clear A940
       replace H:=Option.bind_eq_some_iff.mp H
       obtain ⟨t344,A950,H⟩:=H
       try dsimp only at H
       have A95:=aM A950
       clear A950
       by_cases c96:t344 ≥ 0
       ·rw [if_pos c96] at H
        have c96b0:decide (0≤t344)=true:=decide_eq_true c96
        clear c96
        by_cases c97:t343 ≥ 0
        ·rw [if_pos c97] at H
         have c97b0:decide (0≤t343)=true:=decide_eq_true c97
         clear c97
         by_cases c98:0≤t344
         ·rw [if_pos c98] at H
          have c98b0:decide (0≤t344)=true:=decide_eq_true c98
          clear c98
          by_cases c99:t344 < (((rd_T35 x316001_1 x8_1).f0).length:Int)
          ·rw [if_pos c99] at H
           have c99b0:decide (t344 < (((rd_T35 x316001_1 x8_1).f0).length:Int))=true:=decide_eq_true c99
           clear c99
           obtain ⟨y346,hy346⟩ : ∃ y_:List Int,y_=(((rd_T35 x316001_1 x8_1).f0).set (t344:Int).toNat t343):=⟨_,rfl⟩
           replace H:(spec_Rebalance.l0 k1 l1 (wrap64 (x7_1+1)) (wrap64 (x8_1+1)) t311 (x316001_1.set (x8_1:Int).toNat (⟨y346⟩:S35)))=some (r1,r2,r3):=by first|(rw [hy346];with_reducible exact H)|(have H2_:=(Option.bind_some _ _).symm.trans H;rw [hy346];with_reducible exact H2_)|(have H2_:=(Option.bind_some _ _).symm.trans H;with_reducible exact H2_)|with_reducible exact H|(rw [hy346];exact H)|exact H
           have Ny346:=aM hy346
           clear hy346
           obtain ⟨y348,hy348⟩ : ∃ y_:List (S35),y_=(x316001_1.set (x8_1:Int).toNat (⟨y346⟩:S35)):=⟨_,rfl⟩
           replace H:(spec_Rebalance.l0 k1 l1 (wrap64 (x7_1+1)) (wrap64 (x8_1+1)) t311 y348)=some (r1,r2,r3):=by first|(rw [hy348];with_reducible exact H)|(have H2_:=(Option.bind_some _ _).symm.trans H;rw [hy348];with_reducible exact H2_)|(have H2_:=(Option.bind_some _ _).symm.trans H;with_reducible exact H2_)|with_reducible exact H|(rw [hy348];exact H)|exact H
           have Ny348:=aM hy348
           clear hy348
           have H':=Aside0.mk H
           clear H
           have hnb101:=NB315_309.out
           have hnc101:=NB309_315.out
           have hnb102:=NB315_310.out
           have hnc102:=NB310_315.out
           have hcz103_0:wr.cell? ⟨gb315,0,none⟩=some (.int .i64 t311):=(blk_cell BK315.out 0).trans rfl
           have hcz103_1:wr.cell? ⟨gb315,1,none⟩=some (u316001):=(blk_cell BK315.out 1).trans rfl
           have hfz103_0:=blk_frozen BK315.out 0
           have hfz103_1:=blk_frozen BK315.out 1
           obtain ⟨Ao104,co104,eo104⟩:=Kd.S_slice HO_316001.out
           subst eo104
           have p317:0≤(x8_1:Int):=of_decide_eq_true (by first|(with_reducible assumption)|assumption)
           have q317:x8_1 < (x316001_1.length:Int):=of_decide_eq_true (by first|(with_reducible assumption)|assumption)
           obtain ⟨ad317,A317_0,c317_0,e317,hx317_0,hl317_0,hi317_0⟩:=at_T35 (Kd.S_reads' HO_316001.out).2.2 x8_1 p317 q317
           cases e317
           obtain ⟨ce317,hce317,hMe317,hcc317⟩:=Kd.S_get HO_316001.out z35 x8_1 p317 (by first|exact q317|exact of_decide_eq_true (by first|(with_reducible assumption)|assumption)|(have e_:=(Kd.S_reads' HO_316001.out).1;omega))
           obtain ⟨ve317_0,rfl,ge317_0⟩:=k35_openM hMe317
           have hv317_0:=hcc317 0 _ rfl
           rw [Nat.add_zero,show (k35).sz=1 from rfl,Nat.mul_one] at hv317_0
           replace hv317_0:=Option.some.inj (hv317_0.symm.trans hx317_0)
           rw [hv317_0] at ge317_0
           have HL317_0:=aM (show Kd.R (Kd.int .i64) 3 _ _ _ _ ((rd_T35 x316001_1 x8_1).f0) from ge317_0)
           clear hv317_0 ge317_0
           have HX317_0:=aM hx317_0
           clear hcc317 hce317
           have HR317_0:=aM hi317_0
           have HC317_0:=aM hl317_0
           clear hi317_0 hl317_0
           replace p317:=eq_true p317
           replace q317:=eq_true q317
           go_wp2_with (first|((with_reducible refine gate_dst (N:=9) rfl ?_);refine box_event ?hg (N:=9) ?hd (cs:=#[.slice none 0 0]) (t:=35) ?hr ?_;(case hd=>rfl);(case hg=>rfl);(case hr=>first|(go_simp;done)|(go_simp;rfl));intro gb318 hg w105 hbox hb;replace HO_316001:=aM (Kd.S_below (Kd.S_elderB (rS HO_316001) gb318 (Nat.le_of_eq hg.symm)) hb);replace HL317_0:=rB HL317_0 hb;replace HR317_0:=aM (Kd.C_below (by repeat ((with_reducible exact HR317_0.out))) hb);have BK318:=aM (hbox);have GW318:=gS w hg;have GE318:=gS w hg;replace HB:=bs hb;have NB309_318:=nL hg BK309;have NB318_309:=nG hg BK309;replace BK309:=bB BK309 hb;have NB310_318:=nL hg BK310;have NB318_310:=nG hg BK310;replace BK310:=bB BK310 hb;have NB315_318:=nL hg BK315;have NB318_315:=nG hg BK315;replace BK315:=bB BK315 hb;clear HX317_0;clear hb hbox hg;have hnb106:=NB318_309.out;have hnc106:=NB309_318.out;have hnb107:=NB318_310.out;have hnc107:=NB310_318.out;have hnb108:=NB318_315.out;have hnc108:=NB315_318.out;have hcz109_0:w105.cell? ⟨gb318,0,none⟩=some (.slice none 0 0):=(blk_cell BK318.out 0).trans rfl;have hfz109_0:=blk_frozen BK318.out 0)|((with_reducible refine gate_callee (f:=49) rfl ?_);refine goesL_ (some 34) rfl rfl Try.func49 (by kernel_rfl) rfl #[.agg #[.slice A317_0 ((rd_T35 x316001_1 x8_1).f0).length c317_0],.slice A1 l1.length c1] rfl (by (try simp only [List.map_toArray,List.map_cons,List.map_nil]);first|done|rfl|(simp only [List.length_drop,List.length_take];rfl)) ?_;(with_reducible refine (spec_l6Lost.calls k1 _ _ ((rd_T35 x316001_1 x8_1).f0) _ _ l1 t319 _ ?side1 ?side2 ?side3 ?side4 A20.out).mono ?_);(case side1=>repeat (exact ((Kd.R_reads' (by (with_reducible repeat (first|apply Kd.R_alloc|apply Kd.R_drewN|apply Kd.R_drew));exact (Kd.R_mono (Kd.R_far (p:=⟨gb318,0,none⟩) (Kd.R_types HL317_0.out BK318.out (by decide)) (fun _ hk=>hk.2) (.slice A317_0 ((rd_T35 x316001_1 x8_1).f0).length c317_0)) (fun _ h_=>h_.1)))).2.2)));(case side2=>exact HC317_0.out);(case side3=>exact Kd.C_below HR1.out be);(case side4=>exact HC1.out);rintro e w110 ⟨rfl,hb⟩;refine ⟨_,rfl,?_⟩;replace HO_316001:=aM (Kd.S_below ((by (with_reducible repeat (first|apply Kd.S_alloc|apply Kd.S_drewN|apply Kd.S_drew));exact (Kd.S_mono (Kd.S_far (p:=⟨gb318,0,none⟩) (Kd.S_mono HO_316001.out (fun k_ hk=>(⟨hk,hk.2⟩:_∧k_ ≠ gb318))) (fun _ hk=>hk.2) (.slice A317_0 ((rd_T35 x316001_1 x8_1).f0).length c317_0)) (fun _ h_=>h_.1)))) hb);replace BK309:=aM (blk_below (g:=gb309) (o:=.cells #[.int .i64 a0_0,.slice A0_1 l0_1.length c0_1] 26 (0,0)) (by (with_reducible repeat (first|refine blk_drewN ?_ _|refine blk_drew ?_|refine blk_alloc ?_ _));refine blk_far ?_ NB309_318.out _;(with_reducible repeat (first|refine blk_drewN ?_ _|refine blk_drew ?_|refine blk_alloc ?_ _));exact BK309.out) hb);replace BK310:=aM (blk_below (g:=gb310) (o:=.cells #[.int .i64 0,.slice none 0 0] 26 (0,0)) (by (with_reducible repeat (first|refine blk_drewN ?_ _|refine blk_drew ?_|refine blk_alloc ?_ _));refine blk_far ?_ NB310_318.out _;(with_reducible repeat (first|refine blk_drewN ?_ _|refine blk_drew ?_|refine blk_alloc ?_ _));exact BK310.out) hb);replace BK315:=aM (blk_below (g:=gb315) (o:=.cells #[.int .i64 t311,.slice (some ad317) x316001_1.length co104] 26 (0,0)) (by (with_reducible repeat (first|refine blk_drewN ?_ _|refine blk_drew ?_|refine blk_alloc ?_ _));refine blk_far ?_ NB315_318.out _;(with_reducible repeat (first|refine blk_drewN ?_ _|refine blk_drew ?_|refine blk_alloc ?_ _));exact BK315.out) hb);replace HR317_0:=aM (Kd.C_below ((Kd.R_reads' (by (with_reducible repeat (first|apply Kd.R_alloc|apply Kd.R_drewN|apply Kd.R_drew));exact (Kd.R_mono (Kd.R_far (p:=⟨gb318,0,none⟩) (Kd.R_types HL317_0.out BK318.out (by decide)) (fun _ hk=>hk.2) (.slice A317_0 ((rd_T35 x316001_1 x8_1).f0).length c317_0)) (fun _ h_=>h_.1)))).2.2) hb);replace BK318:=aM (blk_below (g:=gb318) (o:=.cells #[.slice A317_0 ((rd_T35 x316001_1 x8_1).f0).length c317_0] 35 (0,0)) (by (with_reducible repeat (first|refine blk_drewN ?_ _|refine blk_drew ?_|refine blk_alloc ?_ _));refine blk_put (cs:=#[.slice none 0 0]) ?_ 0 _ rfl;(with_reducible repeat (first|refine blk_drewN ?_ _|refine blk_drew ?_|refine blk_alloc ?_ _));exact BK318.out) hb);replace HB:=bs hb;clear HL317_0;(try clear hb);have hcz111_0:w110.cell? ⟨gb315,0,none⟩=some (.int .i64 t311):=(blk_cell BK315.out 0).trans rfl;have hcz111_1:w110.cell? ⟨gb315,1,none⟩=some (.slice (some ad317) x316001_1.length co104):=(blk_cell BK315.out 1).trans rfl;have hfz111_0:=blk_frozen BK315.out 0;have hfz111_1:=blk_frozen BK315.out 1;have hcz112_0:w110.cell? ⟨gb318,0,none⟩=some (.slice A317_0 ((rd_T35 x316001_1 x8_1).f0).length c317_0):=(blk_cell BK318.out 0).trans rfl;have hfz112_0:=blk_frozen BK318.out 0)|((with_reducible refine gate_callee (f:=50) rfl ?_);refine goesL_ (some 57) rfl rfl Try.func50 (by kernel_rfl) rfl #[.agg #[.int .i64 t311,.slice (some ad317) x316001_1.length co104],.agg #[.slice A317_0 ((rd_T35 x316001_1 x8_1).f0).length c317_0],.slice A1 l1.length c1] rfl (by (try simp only [List.map_toArray,List.map_cons,List.map_nil]);first|done|rfl|(simp only [List.length_drop,List.length_take];rfl)) ?_;(with_reducible refine (spec_Best.calls k1 t311 _ _ x316001_1 _ _ ((rd_T35 x316001_1 x8_1).f0) _ _ l1 t343 _ ?side1 ?side2 ?side3 ?side4 ?side5 ?side6 A94.out).mono ?_);(case side1=>exact sS HO_316001);(case side2=>exact (Kd.S_reads' HO_316001.out).2.1);(case side3=>repeat (exact (by repeat ((with_reducible exact HR317_0.out)))));(case side4=>exact HC317_0.out);(case side5=>exact rC HR1);(case side6=>exact HC1.out);rintro e w113 ⟨rfl,hb⟩;refine ⟨_,rfl,?_⟩;replace HO_316001:=sB HO_316001 hb;replace BK309:=bB BK309 hb;replace BK310:=bB BK310 hb;replace BK315:=bB BK315 hb;replace HR317_0:=aM (Kd.C_below (by repeat ((with_reducible exact HR317_0.out))) hb);replace BK318:=bB BK318 hb;replace HB:=bs hb;(try clear hb);have hcz114_0:w113.cell? ⟨gb315,0,none⟩=some (.int .i64 t311):=(blk_cell BK315.out 0).trans rfl;have hcz114_1:w113.cell? ⟨gb315,1,none⟩=some (.slice (some ad317) x316001_1.length co104):=(blk_cell BK315.out 1).trans rfl;have hfz114_0:=blk_frozen BK315.out 0;have hfz114_1:=blk_frozen BK315.out 1;have hcz115_0:w113.cell? ⟨gb318,0,none⟩=some (.slice A317_0 ((rd_T35 x316001_1 x8_1).f0).length c317_0):=(blk_cell BK318.out 0).trans rfl;have hfz115_0:=blk_frozen BK318.out 0)|((with_reducible refine gate_callee (f:=51) rfl ?_);refine goesL_ (some 62) rfl rfl Try.func51 (by kernel_rfl) rfl #[.agg #[.int .i64 t311,.slice (some ad317) x316001_1.length co104],.agg #[.slice A317_0 ((rd_T35 x316001_1 x8_1).f0).length c317_0],.slice A1 l1.length c1,.int .i64 t343] rfl (by (try simp only [List.map_toArray,List.map_cons,List.map_nil]);first|done|rfl|(simp only [List.length_drop,List.length_take];rfl)) ?_;(with_reducible refine (spec_l6Heavy.calls k1 t311 _ _ x316001_1 _ _ ((rd_T35 x316001_1 x8_1).f0) _ _ l1 t343 t344 _ ?side1 ?side2 ?side3 ?side4 ?side5 ?side6 A95.out).mono ?_);(case side1=>exact sS HO_316001);(case side2=>exact (Kd.S_reads' HO_316001.out).2.1);(case side3=>repeat (exact (by repeat ((with_reducible exact HR317_0.out)))));(case side4=>exact HC317_0.out);(case side5=>exact rC HR1);(case side6=>exact HC1.out);rintro e w116 ⟨rfl,hb⟩;refine ⟨_,rfl,?_⟩;replace HO_316001:=sB HO_316001 hb;replace BK309:=bB BK309 hb;replace BK310:=bB BK310 hb;replace BK315:=bB BK315 hb;replace HB:=bs hb;clear HR317_0 BK318;(try clear hb);have hcz117_0:w116.cell? ⟨gb315,0,none⟩=some (.int .i64 t311):=(blk_cell BK315.out 0).trans rfl;have hcz117_1:w116.cell? ⟨gb315,1,none⟩=some (.slice (some ad317) x316001_1.length co104):=(blk_cell BK315.out 1).trans rfl;have hfz117_0:=blk_frozen BK315.out 0;have hfz117_1:=blk_frozen BK315.out 1;have p345:0≤(x8_1:Int):=of_decide_eq_true (by first|(with_reducible assumption)|assumption);have q345:x8_1 < (x316001_1.length:Int):=of_decide_eq_true (by first|(with_reducible assumption)|assumption);obtain ⟨ad345,A345_0,c345_0,e345,hx345_0,hl345_0,hi345_0⟩:=at_T35 (Kd.S_reads' HO_316001.out).2.2 x8_1 p345 q345;obtain rfl:ad317=ad345:=(by injection e345);obtain ⟨ce345,hce345,hMe345,hcc345⟩:=Kd.S_get HO_316001.out z35 x8_1 p345 (by first|exact q345|exact of_decide_eq_true (by first|(with_reducible assumption)|assumption)|(have e_:=(Kd.S_reads' HO_316001.out).1;omega));obtain ⟨ve345_0,rfl,ge345_0⟩:=k35_openM hMe345;have hv345_0:=hcc345 0 _ rfl;rw [Nat.add_zero,show (k35).sz=1 from rfl,Nat.mul_one] at hv345_0;replace hv345_0:=Option.some.inj (hv345_0.symm.trans hx345_0);rw [hv345_0] at ge345_0;have HL345_0:=aM (show Kd.R (Kd.int .i64) 3 _ _ _ _ ((rd_T35 x316001_1 x8_1).f0) from ge345_0);clear hv345_0 ge345_0;have HX345_0:=aM hx345_0;clear hcc345 hce345;have HR345_0:=aM hi345_0;have HC345_0:=aM hl345_0;clear hi345_0 hl345_0;replace p345:=eq_true p345;replace q345:=eq_true q345;have p100:0≤(t344:Int):=of_decide_eq_true (by first|(with_reducible assumption)|assumption);have q100:(t344:Int) < ((((rd_T35 x316001_1 x8_1).f0).length:Int):Int):=of_decide_eq_true (by first|(with_reducible assumption)|assumption);obtain ⟨go100,co100,eo100,gb100,gl100,cl100,HG100⟩:=Kd.R_form HL345_0.out (by omega);(cases eo100);have GB100:=aM gb100;have GG100:=aM HG100;clear gb100 gl100 HG100;obtain ⟨hx100_0,hf100_0⟩:=Kd.R_celln 0 HL345_0.out (t344:Int) p100 q100;replace p100:=eq_true p100;replace q100:=eq_true q100;replace HO_316001:=aM (Kd.S_mono (ok':=(fun k_=>k_ ≠ gb318)) HO_316001.out (fun k_ hk=>hk.2));have hq118:(x8_1:Int) < (x316001_1.length:Int):=(by have h_:(x8_1:Int) < ((x316001_1.length:Int):Int):=of_decide_eq_true (by first|(with_reducible assumption)|assumption);first|exact h_|(have e_:=(Kd.S_reads' HO_316001.out).1;omega)|simpa only [List.length_set,List.length_set] using h_);obtain ⟨oki118,ce118,hcl118,hM118,hcc118,hok118,hbk118⟩:=Kd.S_borrow HO_316001.out z35 (x8_1:Int) (of_decide_eq_true (by first|(with_reducible assumption)|assumption)) hq118;obtain ⟨ve118_0,rfl,ge118_0⟩:=k35_openM hM118;have hv118:=hcc118 0 _ rfl;rw [Nat.add_zero,show (k35).sz=1 from rfl,Nat.mul_one] at hv118;replace hv118:=Option.some.inj (hv118.symm.trans HX345_0.out);subst hv118;clear hcc118 hcl118;replace ge118_0:=(show Kd.R (Kd.int .i64) 3 _ _ _ _ ((rd_T35 x316001_1 x8_1).f0) from ge118_0);have HP118:=Kd.R_putg ge118_0 (t344:Int) t343)|((with_reducible refine gate_store (t:=3) (p:=77) rfl ?_);refine store_event (t:=3) (p:=77) (v:=?vo_w119) (w1:=(w116.setCell ⟨go100,(t344:Int).toNat,none⟩ (.int .i64 t343))) ?hg ?ho ?hn ?hr ?_;(case ho=>rfl);(case hg=>rfl);(case hn=>rfl);(case hr=>first|(go_simp;done)|(go_simp;rfl));intro w119 hw;have hg:w116.grownBy w119 (some go100):=(by rw [hw];exact HP118.2);have hz_:Kd.R (Kd.int .i64) 3 w119 w.heap.size oki118 (.slice (some ⟨go100,0,none⟩) ((rd_T35 x316001_1 x8_1).f0).length c345_0) y346:=(by rw [hw,Ny346.out];exact HP118.1);have hp_:Kd.S k35 35 w119 w.heap.size (fun k_=>k_ ≠ gb318) (.slice (some ad317) x316001_1.length co104) y348:=(by rw [Ny348.out];exact Kd.S_mono (hbk118 hg (fun k_ e_=>by injection e_ with e_;subst e_;exact ge118_0.1 _ rfl) (k35_mkM _ _ _ (⟨y346⟩:S35) hz_)) (fun _ hk=>by first|exact hk|exact ⟨hk.2,hk.1⟩));have hm_:=Kd.R_mono hz_ hok118;clear HP118 hbk118;replace HO_316001:=aM (hp_);replace BK309:=bG BK309 hg (Kd.R_ne HL345_0.out BK309.out (by decide));replace BK310:=bG BK310 hg (Kd.R_ne HL345_0.out BK310.out (by decide));replace BK315:=bG BK315 hg (Kd.R_ne HL345_0.out BK315.out (by decide));replace HB:=aM ((by rw [hw];exact below_set (HB.out) GB100.out:Below w.heap.size w w119));clear HL345_0;clear hg hw hp_ hz_ hm_ hok118))
           go_roundg k1
           case measure=>have:=HK1.out;omega
           case rel=>exact ⟨(wrap64 (x7_1+1)),(wrap64 (x8_1+1)),(y348),(.slice (some ad317) x316001_1.length co104),rd_,rd_,H',⟨by have:=HK1.out;omega⟩,⟨by (with_reducible repeat (first|apply Kd.S_alloc|apply Kd.S_drewN|apply Kd.S_drew));exact Kd.S_mono HO_316001.out (fun _ hk=>trivial)⟩,⟨bk BK309⟩,⟨bk BK310⟩,⟨bk BK315⟩,⟨be⟩⟩
          ·rw [if_neg c99] at H
           exact absurd H (by simp)
         ·rw [if_neg c98] at H
          exact absurd H (by simp)
        ·rw [if_neg c97] at H
         have c97b0:decide (0≤t343)=false:=decide_eq_false c97
         clear c97
         have H':=Aside0.mk H
         clear H
         have hnb120:=NB315_309.out
         have hnc120:=NB309_315.out
         have hnb121:=NB315_310.out
         have hnc121:=NB310_315.out
         have hcz122_0:wr.cell? ⟨gb315,0,none⟩=some (.int .i64 t311):=(blk_cell BK315.out 0).trans rfl
         have hcz122_1:wr.cell? ⟨gb315,1,none⟩=some (u316001):=(blk_cell BK315.out 1).trans rfl
         have hfz122_0:=blk_frozen BK315.out 0
         have hfz122_1:=blk_frozen BK315.out 1
         obtain ⟨Ao123,co123,eo123⟩:=Kd.S_slice HO_316001.out
         subst eo123
         have p317:0≤(x8_1:Int):=of_decide_eq_true (by first|(with_reducible assumption)|assumption)
         have q317:x8_1 < (x316001_1.length:Int):=of_decide_eq_true (by first|(with_reducible assumption)|assumption)
         obtain ⟨ad317,A317_0,c317_0,e317,hx317_0,hl317_0,hi317_0⟩:=at_T35 (Kd.S_reads' HO_316001.out).2.2 x8_1 p317 q317
         cases e317
         obtain ⟨ce317,hce317,hMe317,hcc317⟩:=Kd.S_get HO_316001.out z35 x8_1 p317 (by first|exact q317|exact of_decide_eq_true (by first|(with_reducible assumption)|assumption)|(have e_:=(Kd.S_reads' HO_316001.out).1;omega))
         obtain ⟨ve317_0,rfl,ge317_0⟩:=k35_openM hMe317
         have hv317_0:=hcc317 0 _ rfl
         rw [Nat.add_zero,show (k35).sz=1 from rfl,Nat.mul_one] at hv317_0
         replace hv317_0:=Option.some.inj (hv317_0.symm.trans hx317_0)
         rw [hv317_0] at ge317_0
         have HL317_0:=aM (show Kd.R (Kd.int .i64) 3 _ _ _ _ ((rd_T35 x316001_1 x8_1).f0) from ge317_0)
         clear hv317_0 ge317_0
         have HX317_0:=aM hx317_0
         clear hcc317 hce317
         have HR317_0:=aM hi317_0
         have HC317_0:=aM hl317_0
         clear hi317_0 hl317_0
         replace p317:=eq_true p317
         replace q317:=eq_true q317
         go_wp2_with (first|((with_reducible refine gate_dst (N:=9) rfl ?_);refine box_event ?hg (N:=9) ?hd (cs:=#[.slice none 0 0]) (t:=35) ?hr ?_;(case hd=>rfl);(case hg=>rfl);(case hr=>first|(go_simp;done)|(go_simp;rfl));intro gb318 hg w124 hbox hb;replace HO_316001:=aM (Kd.S_below (Kd.S_elderB (rS HO_316001) gb318 (Nat.le_of_eq hg.symm)) hb);replace HL317_0:=rB HL317_0 hb;replace HR317_0:=aM (Kd.C_below (by repeat ((with_reducible exact HR317_0.out))) hb);have BK318:=aM (hbox);have GW318:=gS w hg;have GE318:=gS w hg;replace HB:=bs hb;have NB309_318:=nL hg BK309;have NB318_309:=nG hg BK309;replace BK309:=bB BK309 hb;have NB310_318:=nL hg BK310;have NB318_310:=nG hg BK310;replace BK310:=bB BK310 hb;have NB315_318:=nL hg BK315;have NB318_315:=nG hg BK315;replace BK315:=bB BK315 hb;clear HX317_0;clear hb hbox hg;have hnb125:=NB318_309.out;have hnc125:=NB309_318.out;have hnb126:=NB318_310.out;have hnc126:=NB310_318.out;have hnb127:=NB318_315.out;have hnc127:=NB315_318.out;have hcz128_0:w124.cell? ⟨gb318,0,none⟩=some (.slice none 0 0):=(blk_cell BK318.out 0).trans rfl;have hfz128_0:=blk_frozen BK318.out 0)|((with_reducible refine gate_callee (f:=49) rfl ?_);refine goesL_ (some 34) rfl rfl Try.func49 (by kernel_rfl) rfl #[.agg #[.slice A317_0 ((rd_T35 x316001_1 x8_1).f0).length c317_0],.slice A1 l1.length c1] rfl (by (try simp only [List.map_toArray,List.map_cons,List.map_nil]);first|done|rfl|(simp only [List.length_drop,List.length_take];rfl)) ?_;(with_reducible refine (spec_l6Lost.calls k1 _ _ ((rd_T35 x316001_1 x8_1).f0) _ _ l1 t319 _ ?side1 ?side2 ?side3 ?side4 A20.out).mono ?_);(case side1=>repeat (exact ((Kd.R_reads' (by (with_reducible repeat (first|apply Kd.R_alloc|apply Kd.R_drewN|apply Kd.R_drew));exact (Kd.R_mono (Kd.R_far (p:=⟨gb318,0,none⟩) (Kd.R_types HL317_0.out BK318.out (by decide)) (fun _ hk=>hk.2) (.slice A317_0 ((rd_T35 x316001_1 x8_1).f0).length c317_0)) (fun _ h_=>h_.1)))).2.2)));(case side2=>exact HC317_0.out);(case side3=>exact Kd.C_below HR1.out be);(case side4=>exact HC1.out);rintro e w129 ⟨rfl,hb⟩;refine ⟨_,rfl,?_⟩;replace HO_316001:=aM (Kd.S_below ((by (with_reducible repeat (first|apply Kd.S_alloc|apply Kd.S_drewN|apply Kd.S_drew));exact (Kd.S_mono (Kd.S_far (p:=⟨gb318,0,none⟩) (Kd.S_mono HO_316001.out (fun k_ hk=>(⟨hk,hk.2⟩:_∧k_ ≠ gb318))) (fun _ hk=>hk.2) (.slice A317_0 ((rd_T35 x316001_1 x8_1).f0).length c317_0)) (fun _ h_=>h_.1)))) hb);replace BK309:=aM (blk_below (g:=gb309) (o:=.cells #[.int .i64 a0_0,.slice A0_1 l0_1.length c0_1] 26 (0,0)) (by (with_reducible repeat (first|refine blk_drewN ?_ _|refine blk_drew ?_|refine blk_alloc ?_ _));refine blk_far ?_ NB309_318.out _;(with_reducible repeat (first|refine blk_drewN ?_ _|refine blk_drew ?_|refine blk_alloc ?_ _));exact BK309.out) hb);replace BK310:=aM (blk_below (g:=gb310) (o:=.cells #[.int .i64 0,.slice none 0 0] 26 (0,0)) (by (with_reducible repeat (first|refine blk_drewN ?_ _|refine blk_drew ?_|refine blk_alloc ?_ _));refine blk_far ?_ NB310_318.out _;(with_reducible repeat (first|refine blk_drewN ?_ _|refine blk_drew ?_|refine blk_alloc ?_ _));exact BK310.out) hb);replace BK315:=aM (blk_below (g:=gb315) (o:=.cells #[.int .i64 t311,.slice (some ad317) x316001_1.length co123] 26 (0,0)) (by (with_reducible repeat (first|refine blk_drewN ?_ _|refine blk_drew ?_|refine blk_alloc ?_ _));refine blk_far ?_ NB315_318.out _;(with_reducible repeat (first|refine blk_drewN ?_ _|refine blk_drew ?_|refine blk_alloc ?_ _));exact BK315.out) hb);replace HR317_0:=aM (Kd.C_below ((Kd.R_reads' (by (with_reducible repeat (first|apply Kd.R_alloc|apply Kd.R_drewN|apply Kd.R_drew));exact (Kd.R_mono (Kd.R_far (p:=⟨gb318,0,none⟩) (Kd.R_types HL317_0.out BK318.out (by decide)) (fun _ hk=>hk.2) (.slice A317_0 ((rd_T35 x316001_1 x8_1).f0).length c317_0)) (fun _ h_=>h_.1)))).2.2) hb);replace BK318:=aM (blk_below (g:=gb318) (o:=.cells #[.slice A317_0 ((rd_T35 x316001_1 x8_1).f0).length c317_0] 35 (0,0)) (by (with_reducible repeat (first|refine blk_drewN ?_ _|refine blk_drew ?_|refine blk_alloc ?_ _));refine blk_put (cs:=#[.slice none 0 0]) ?_ 0 _ rfl;(with_reducible repeat (first|refine blk_drewN ?_ _|refine blk_drew ?_|refine blk_alloc ?_ _));exact BK318.out) hb);replace HB:=bs hb;clear HL317_0;(try clear hb);have hcz130_0:w129.cell? ⟨gb315,0,none⟩=some (.int .i64 t311):=(blk_cell BK315.out 0).trans rfl;have hcz130_1:w129.cell? ⟨gb315,1,none⟩=some (.slice (some ad317) x316001_1.length co123):=(blk_cell BK315.out 1).trans rfl;have hfz130_0:=blk_frozen BK315.out 0;have hfz130_1:=blk_frozen BK315.out 1;have hcz131_0:w129.cell? ⟨gb318,0,none⟩=some (.slice A317_0 ((rd_T35 x316001_1 x8_1).f0).length c317_0):=(blk_cell BK318.out 0).trans rfl;have hfz131_0:=blk_frozen BK318.out 0)|((with_reducible refine gate_callee (f:=50) rfl ?_);refine goesL_ (some 57) rfl rfl Try.func50 (by kernel_rfl) rfl #[.agg #[.int .i64 t311,.slice (some ad317) x316001_1.length co123],.agg #[.slice A317_0 ((rd_T35 x316001_1 x8_1).f0).length c317_0],.slice A1 l1.length c1] rfl (by (try simp only [List.map_toArray,List.map_cons,List.map_nil]);first|done|rfl|(simp only [List.length_drop,List.length_take];rfl)) ?_;(with_reducible refine (spec_Best.calls k1 t311 _ _ x316001_1 _ _ ((rd_T35 x316001_1 x8_1).f0) _ _ l1 t343 _ ?side1 ?side2 ?side3 ?side4 ?side5 ?side6 A94.out).mono ?_);(case side1=>exact sS HO_316001);(case side2=>exact (Kd.S_reads' HO_316001.out).2.1);(case side3=>repeat (exact (by repeat ((with_reducible exact HR317_0.out)))));(case side4=>exact HC317_0.out);(case side5=>exact rC HR1);(case side6=>exact HC1.out);rintro e w132 ⟨rfl,hb⟩;refine ⟨_,rfl,?_⟩;replace HO_316001:=sB HO_316001 hb;replace BK309:=bB BK309 hb;replace BK310:=bB BK310 hb;replace BK315:=bB BK315 hb;replace HR317_0:=aM (Kd.C_below (by repeat ((with_reducible exact HR317_0.out))) hb);replace BK318:=bB BK318 hb;replace HB:=bs hb;(try clear hb);have hcz133_0:w132.cell? ⟨gb315,0,none⟩=some (.int .i64 t311):=(blk_cell BK315.out 0).trans rfl;have hcz133_1:w132.cell? ⟨gb315,1,none⟩=some (.slice (some ad317) x316001_1.length co123):=(blk_cell BK315.out 1).trans rfl;have hfz133_0:=blk_frozen BK315.out 0;have hfz133_1:=blk_frozen BK315.out 1;have hcz134_0:w132.cell? ⟨gb318,0,none⟩=some (.slice A317_0 ((rd_T35 x316001_1 x8_1).f0).length c317_0):=(blk_cell BK318.out 0).trans rfl;have hfz134_0:=blk_frozen BK318.out 0)|((with_reducible refine gate_callee (f:=51) rfl ?_);refine goesL_ (some 62) rfl rfl Try.func51 (by kernel_rfl) rfl #[.agg #[.int .i64 t311,.slice (some ad317) x316001_1.length co123],.agg #[.slice A317_0 ((rd_T35 x316001_1 x8_1).f0).length c317_0],.slice A1 l1.length c1,.int .i64 t343] rfl (by (try simp only [List.map_toArray,List.map_cons,List.map_nil]);first|done|rfl|(simp only [List.length_drop,List.length_take];rfl)) ?_;(with_reducible refine (spec_l6Heavy.calls k1 t311 _ _ x316001_1 _ _ ((rd_T35 x316001_1 x8_1).f0) _ _ l1 t343 t344 _ ?side1 ?side2 ?side3 ?side4 ?side5 ?side6 A95.out).mono ?_);(case side1=>exact sS HO_316001);(case side2=>exact (Kd.S_reads' HO_316001.out).2.1);(case side3=>repeat (exact (by repeat ((with_reducible exact HR317_0.out)))));(case side4=>exact HC317_0.out);(case side5=>exact rC HR1);(case side6=>exact HC1.out);rintro e w135 ⟨rfl,hb⟩;refine ⟨_,rfl,?_⟩;replace HO_316001:=sB HO_316001 hb;replace BK309:=bB BK309 hb;replace BK310:=bB BK310 hb;replace BK315:=bB BK315 hb;replace HB:=bs hb;clear HR317_0 BK318;(try clear hb)))
         go_roundg k1
         case measure=>have:=HK1.out;omega
         case rel=>exact ⟨(x7_1),(wrap64 (x8_1+1)),(x316001_1),(.slice (some ad317) x316001_1.length co123),rd_,rd_,H',⟨by have:=HK1.out;omega⟩,⟨by (with_reducible repeat (first|apply Kd.S_alloc|apply Kd.S_drewN|apply Kd.S_drew));exact Kd.S_mono HO_316001.out (fun _ hk=>trivial)⟩,⟨bk BK309⟩,⟨bk BK310⟩,⟨bk BK315⟩,⟨be⟩⟩
       ·rw [if_neg c96] at H
        have c96b0:decide (0≤t344)=false:=decide_eq_false c96
        clear c96
        have H':=Aside0.mk H
        clear H
        have hnb136:=NB315_309.out
        have hnc136:=NB309_315.out
        have hnb137:=NB315_310.out
        have hnc137:=NB310_315.out
        have hcz138_0:wr.cell? ⟨gb315,0,none⟩=some (.int .i64 t311):=(blk_cell BK315.out 0).trans rfl
        have hcz138_1:wr.cell? ⟨gb315,1,none⟩=some (u316001):=(blk_cell BK315.out 1).trans rfl
        have hfz138_0:=blk_frozen BK315.out 0
        have hfz138_1:=blk_frozen BK315.out 1
        obtain ⟨Ao139,co139,eo139⟩:=Kd.S_slice HO_316001.out
        subst eo139
        have p317:0≤(x8_1:Int):=of_decide_eq_true (by first|(with_reducible assumption)|assumption)
        have q317:x8_1 < (x316001_1.length:Int):=of_decide_eq_true (by first|(with_reducible assumption)|assumption)
        obtain ⟨ad317,A317_0,c317_0,e317,hx317_0,hl317_0,hi317_0⟩:=at_T35 (Kd.S_reads' HO_316001.out).2.2 x8_1 p317 q317
        cases e317
        obtain ⟨ce317,hce317,hMe317,hcc317⟩:=Kd.S_get HO_316001.out z35 x8_1 p317 (by first|exact q317|exact of_decide_eq_true (by first|(with_reducible assumption)|assumption)|(have e_:=(Kd.S_reads' HO_316001.out).1;omega))
        obtain ⟨ve317_0,rfl,ge317_0⟩:=k35_openM hMe317
        have hv317_0:=hcc317 0 _ rfl
        rw [Nat.add_zero,show (k35).sz=1 from rfl,Nat.mul_one] at hv317_0
        replace hv317_0:=Option.some.inj (hv317_0.symm.trans hx317_0)
        rw [hv317_0] at ge317_0
        have HL317_0:=aM (show Kd.R (Kd.int .i64) 3 _ _ _ _ ((rd_T35 x316001_1 x8_1).f0) from ge317_0)
        clear hv317_0 ge317_0
        have HX317_0:=aM hx317_0
        clear hcc317 hce317
        have HR317_0:=aM hi317_0
        have HC317_0:=aM hl317_0
        clear hi317_0 hl317_0
        replace p317:=eq_true p317
        replace q317:=eq_true q317
        go_wp2_with (first|((with_reducible refine gate_dst (N:=9) rfl ?_);refine box_event ?hg (N:=9) ?hd (cs:=#[.slice none 0 0]) (t:=35) ?hr ?_;(case hd=>rfl);(case hg=>rfl);(case hr=>first|(go_simp;done)|(go_simp;rfl));intro gb318 hg w140 hbox hb;replace HO_316001:=aM (Kd.S_below (Kd.S_elderB (rS HO_316001) gb318 (Nat.le_of_eq hg.symm)) hb);replace HL317_0:=rB HL317_0 hb;replace HR317_0:=aM (Kd.C_below (by repeat ((with_reducible exact HR317_0.out))) hb);have BK318:=aM (hbox);have GW318:=gS w hg;have GE318:=gS w hg;replace HB:=bs hb;have NB309_318:=nL hg BK309;have NB318_309:=nG hg BK309;replace BK309:=bB BK309 hb;have NB310_318:=nL hg BK310;have NB318_310:=nG hg BK310;replace BK310:=bB BK310 hb;have NB315_318:=nL hg BK315;have NB318_315:=nG hg BK315;replace BK315:=bB BK315 hb;clear HX317_0;clear hb hbox hg;have hnb141:=NB318_309.out;have hnc141:=NB309_318.out;have hnb142:=NB318_310.out;have hnc142:=NB310_318.out;have hnb143:=NB318_315.out;have hnc143:=NB315_318.out;have hcz144_0:w140.cell? ⟨gb318,0,none⟩=some (.slice none 0 0):=(blk_cell BK318.out 0).trans rfl;have hfz144_0:=blk_frozen BK318.out 0)|((with_reducible refine gate_callee (f:=49) rfl ?_);refine goesL_ (some 34) rfl rfl Try.func49 (by kernel_rfl) rfl #[.agg #[.slice A317_0 ((rd_T35 x316001_1 x8_1).f0).length c317_0],.slice A1 l1.length c1] rfl (by (try simp only [List.map_toArray,List.map_cons,List.map_nil]);first|done|rfl|(simp only [List.length_drop,List.length_take];rfl)) ?_;(with_reducible refine (spec_l6Lost.calls k1 _ _ ((rd_T35 x316001_1 x8_1).f0) _ _ l1 t319 _ ?side1 ?side2 ?side3 ?side4 A20.out).mono ?_);(case side1=>repeat (exact ((Kd.R_reads' (by (with_reducible repeat (first|apply Kd.R_alloc|apply Kd.R_drewN|apply Kd.R_drew));exact (Kd.R_mono (Kd.R_far (p:=⟨gb318,0,none⟩) (Kd.R_types HL317_0.out BK318.out (by decide)) (fun _ hk=>hk.2) (.slice A317_0 ((rd_T35 x316001_1 x8_1).f0).length c317_0)) (fun _ h_=>h_.1)))).2.2)));(case side2=>exact HC317_0.out);(case side3=>exact Kd.C_below HR1.out be);(case side4=>exact HC1.out);rintro e w145 ⟨rfl,hb⟩;refine ⟨_,rfl,?_⟩;replace HO_316001:=aM (Kd.S_below ((by (with_reducible repeat (first|apply Kd.S_alloc|apply Kd.S_drewN|apply Kd.S_drew));exact (Kd.S_mono (Kd.S_far (p:=⟨gb318,0,none⟩) (Kd.S_mono HO_316001.out (fun k_ hk=>(⟨hk,hk.2⟩:_∧k_ ≠ gb318))) (fun _ hk=>hk.2) (.slice A317_0 ((rd_T35 x316001_1 x8_1).f0).length c317_0)) (fun _ h_=>h_.1)))) hb);replace BK309:=aM (blk_below (g:=gb309) (o:=.cells #[.int .i64 a0_0,.slice A0_1 l0_1.length c0_1] 26 (0,0)) (by (with_reducible repeat (first|refine blk_drewN ?_ _|refine blk_drew ?_|refine blk_alloc ?_ _));refine blk_far ?_ NB309_318.out _;(with_reducible repeat (first|refine blk_drewN ?_ _|refine blk_drew ?_|refine blk_alloc ?_ _));exact BK309.out) hb);replace BK310:=aM (blk_below (g:=gb310) (o:=.cells #[.int .i64 0,.slice none 0 0] 26 (0,0)) (by (with_reducible repeat (first|refine blk_drewN ?_ _|refine blk_drew ?_|refine blk_alloc ?_ _));refine blk_far ?_ NB310_318.out _;(with_reducible repeat (first|refine blk_drewN ?_ _|refine blk_drew ?_|refine blk_alloc ?_ _));exact BK310.out) hb);replace BK315:=aM (blk_below (g:=gb315) (o:=.cells #[.int .i64 t311,.slice (some ad317) x316001_1.length co139] 26 (0,0)) (by (with_reducible repeat (first|refine blk_drewN ?_ _|refine blk_drew ?_|refine blk_alloc ?_ _));refine blk_far ?_ NB315_318.out _;(with_reducible repeat (first|refine blk_drewN ?_ _|refine blk_drew ?_|refine blk_alloc ?_ _));exact BK315.out) hb);replace HR317_0:=aM (Kd.C_below ((Kd.R_reads' (by (with_reducible repeat (first|apply Kd.R_alloc|apply Kd.R_drewN|apply Kd.R_drew));exact (Kd.R_mono (Kd.R_far (p:=⟨gb318,0,none⟩) (Kd.R_types HL317_0.out BK318.out (by decide)) (fun _ hk=>hk.2) (.slice A317_0 ((rd_T35 x316001_1 x8_1).f0).length c317_0)) (fun _ h_=>h_.1)))).2.2) hb);replace BK318:=aM (blk_below (g:=gb318) (o:=.cells #[.slice A317_0 ((rd_T35 x316001_1 x8_1).f0).length c317_0] 35 (0,0)) (by (with_reducible repeat (first|refine blk_drewN ?_ _|refine blk_drew ?_|refine blk_alloc ?_ _));refine blk_put (cs:=#[.slice none 0 0]) ?_ 0 _ rfl;(with_reducible repeat (first|refine blk_drewN ?_ _|refine blk_drew ?_|refine blk_alloc ?_ _));exact BK318.out) hb);replace HB:=bs hb;clear HL317_0;(try clear hb);have hcz146_0:w145.cell? ⟨gb315,0,none⟩=some (.int .i64 t311):=(blk_cell BK315.out 0).trans rfl;have hcz146_1:w145.cell? ⟨gb315,1,none⟩=some (.slice (some ad317) x316001_1.length co139):=(blk_cell BK315.out 1).trans rfl;have hfz146_0:=blk_frozen BK315.out 0;have hfz146_1:=blk_frozen BK315.out 1;have hcz147_0:w145.cell? ⟨gb318,0,none⟩=some (.slice A317_0 ((rd_T35 x316001_1 x8_1).f0).length c317_0):=(blk_cell BK318.out 0).trans rfl;have hfz147_0:=blk_frozen BK318.out 0)|((with_reducible refine gate_callee (f:=50) rfl ?_);refine goesL_ (some 57) rfl rfl Try.func50 (by kernel_rfl) rfl #[.agg #[.int .i64 t311,.slice (some ad317) x316001_1.length co139],.agg #[.slice A317_0 ((rd_T35 x316001_1 x8_1).f0).length c317_0],.slice A1 l1.length c1] rfl (by (try simp only [List.map_toArray,List.map_cons,List.map_nil]);first|done|rfl|(simp only [List.length_drop,List.length_take];rfl)) ?_;(with_reducible refine (spec_Best.calls k1 t311 _ _ x316001_1 _ _ ((rd_T35 x316001_1 x8_1).f0) _ _ l1 t343 _ ?side1 ?side2 ?side3 ?side4 ?side5 ?side6 A94.out).mono ?_);(case side1=>exact sS HO_316001);(case side2=>exact (Kd.S_reads' HO_316001.out).2.1);(case side3=>repeat (exact (by repeat ((with_reducible exact HR317_0.out)))));(case side4=>exact HC317_0.out);(case side5=>exact rC HR1);(case side6=>exact HC1.out);rintro e w148 ⟨rfl,hb⟩;refine ⟨_,rfl,?_⟩;replace HO_316001:=sB HO_316001 hb;replace BK309:=bB BK309 hb;replace BK310:=bB BK310 hb;replace BK315:=bB BK315 hb;replace HR317_0:=aM (Kd.C_below (by repeat ((with_reducible exact HR317_0.out))) hb);replace BK318:=bB BK318 hb;replace HB:=bs hb;(try clear hb);have hcz149_0:w148.cell? ⟨gb315,0,none⟩=some (.int .i64 t311):=(blk_cell BK315.out 0).trans rfl;have hcz149_1:w148.cell? ⟨gb315,1,none⟩=some (.slice (some ad317) x316001_1.length co139):=(blk_cell BK315.out 1).trans rfl;have hfz149_0:=blk_frozen BK315.out 0;have hfz149_1:=blk_frozen BK315.out 1;have hcz150_0:w148.cell? ⟨gb318,0,none⟩=some (.slice A317_0 ((rd_T35 x316001_1 x8_1).f0).length c317_0):=(blk_cell BK318.out 0).trans rfl;have hfz150_0:=blk_frozen BK318.out 0)|((with_reducible refine gate_callee (f:=51) rfl ?_);refine goesL_ (some 62) rfl rfl Try.func51 (by kernel_rfl) rfl #[.agg #[.int .i64 t311,.slice (some ad317) x316001_1.length co139],.agg #[.slice A317_0 ((rd_T35 x316001_1 x8_1).f0).length c317_0],.slice A1 l1.length c1,.int .i64 t343] rfl (by (try simp only [List.map_toArray,List.map_cons,List.map_nil]);first|done|rfl|(simp only [List.length_drop,List.length_take];rfl)) ?_;(with_reducible refine (spec_l6Heavy.calls k1 t311 _ _ x316001_1 _ _ ((rd_T35 x316001_1 x8_1).f0) _ _ l1 t343 t344 _ ?side1 ?side2 ?side3 ?side4 ?side5 ?side6 A95.out).mono ?_);(case side1=>exact sS HO_316001);(case side2=>exact (Kd.S_reads' HO_316001.out).2.1);(case side3=>repeat (exact (by repeat ((with_reducible exact HR317_0.out)))));(case side4=>exact HC317_0.out);(case side5=>exact rC HR1);(case side6=>exact HC1.out);rintro e w151 ⟨rfl,hb⟩;refine ⟨_,rfl,?_⟩;replace HO_316001:=sB HO_316001 hb;replace BK309:=bB BK309 hb;replace BK310:=bB BK310 hb;replace BK315:=bB BK315 hb;replace HB:=bs hb;clear HR317_0 BK318;(try clear hb)))
        go_roundg k1
        case measure=>have:=HK1.out;omega
        case rel=>exact ⟨(x7_1),(wrap64 (x8_1+1)),(x316001_1),(.slice (some ad317) x316001_1.length co139),rd_,rd_,H',⟨by have:=HK1.out;omega⟩,⟨by (with_reducible repeat (first|apply Kd.S_alloc|apply Kd.S_drewN|apply Kd.S_drew));exact Kd.S_mono HO_316001.out (fun _ hk=>trivial)⟩,⟨bk BK309⟩,⟨bk BK310⟩,⟨bk BK315⟩,⟨be⟩⟩
     ·rw [if_neg c19] at H
      exact absurd H (by simp)
    ·rw [if_neg c18] at H
     have c18b0:decide (x8_1 < (x316001_1.length:Int))=false:=decide_eq_false c18
     clear c18
     simp only [Option.some.injEq,Prod.mk.injEq] at H
     obtain ⟨rfl,rfl,rfl⟩:=H
     have hnb152:=NB315_309.out
     have hnc152:=NB309_315.out
     have hnb153:=NB315_310.out
     have hnc153:=NB310_315.out
     have hcz154_0:wr.cell? ⟨gb315,0,none⟩=some (.int .i64 t311):=(blk_cell BK315.out 0).trans rfl
     have hcz154_1:wr.cell? ⟨gb315,1,none⟩=some (u316001):=(blk_cell BK315.out 1).trans rfl
     have hfz154_0:=blk_frozen BK315.out 0
     have hfz154_1:=blk_frozen BK315.out 1
     obtain ⟨Ao155,co155,eo155⟩:=Kd.S_slice HO_316001.out
     subst eo155
     have hnb156:=NB310_309.out
     have hnc156:=NB309_310.out
     have hcz157_0:wr.cell? ⟨gb310,0,none⟩=some (.int .i64 0):=(blk_cell BK310.out 0).trans rfl
     have hcz157_1:wr.cell? ⟨gb310,1,none⟩=some (.slice none 0 0):=(blk_cell BK310.out 1).trans rfl
     have hfz157_0:=blk_frozen BK310.out 0
     have hfz157_1:=blk_frozen BK310.out 1
     go_wp2
     refine bodyPost_ret (results_ct rfl _ _ gb310 26 #[.int .i64 t311,.slice Ao155 x316001_1.length co155] (0,0) _ rfl (by (with_reducible repeat (first|refine blk_drewN ?_ _|refine blk_drew ?_|refine blk_alloc ?_ _));refine blk_put (cs:=#[.int .i64 t311,.slice none 0 0]) ?_ 1 _ rfl;(with_reducible repeat (first|refine blk_drewN ?_ _|refine blk_drew ?_|refine blk_alloc ?_ _));refine blk_put (cs:=#[.int .i64 0,.slice none 0 0]) ?_ 0 _ rfl;(with_reducible repeat (first|refine blk_drewN ?_ _|refine blk_drew ?_|refine blk_alloc ?_ _));exact BK310.out) Try.underlying26 rfl (by kernel_rfl)) rfl ?_
     exact ⟨_,rz,by (with_reducible repeat (first|apply Kd.S_alloc|apply Kd.S_drewN|apply Kd.S_drew));exact Kd.S_mono (Kd.S_far (p:=⟨gb310,1,none⟩) (Kd.S_far (p:=⟨gb310,0,none⟩) (Kd.S_types HO_316001.out BK310.out (by decide)) (fun _ hk=>hk.2) (.int .i64 t311)) (fun _ hk=>hk.2) (.slice Ao155 x316001_1.length co155)) (fun _ hk=>trivial),be⟩
 ·replace c5:=Bool.eq_false_iff.mpr c5
  subst c5
  replace H:=(if_neg (show ¬ (false=true) by decide)).symm.trans H
  simp only [Option.some.injEq,Prod.mk.injEq] at H
  obtain ⟨rfl,rfl,rfl⟩:=H
  go_enter Try.func11,Try.ntmps11
  go_wp2_with (first|((with_reducible refine gate_dst (N:=2) rfl ?_);refine box_event ?hg (N:=2) ?hd (cs:=#[.int .i64 a0_0,.slice A0_1 l0_1.length c0_1]) (t:=26) ?hr ?_;(case hd=>rfl);(case hg=>rfl);(case hr=>first|(go_simp;done)|(go_simp;rfl));intro gb309 hg w158 hbox hb;have BK309:=aM (hbox);have GW309:=gS w hg;have GE309:=gS w hg;replace HB:=bs hb;clear hb hbox hg)|((with_reducible refine gate_dst (N:=4) rfl ?_);refine box_event ?hg (N:=4) ?hd (cs:=#[.int .i64 0,.slice none 0 0]) (t:=26) ?hr ?_;(case hd=>rfl);(case hg=>rfl);(case hr=>first|(go_simp;done)|(go_simp;rfl));intro gb310 hg w159 hbox hb;have BK310:=aM (hbox);have GW310:=gS w hg;have GE310:=gS w hg;replace HB:=bs hb;have NB309_310:=nL hg BK309;have NB310_309:=nG hg BK309;replace BK309:=bB BK309 hb;clear hb hbox hg;have hnb160:=NB309_310.out;have hnc160:=NB310_309.out;have hcz161_0:w159.cell? ⟨gb309,0,none⟩=some (.int .i64 a0_0):=(blk_cell BK309.out 0).trans rfl;have hcz161_1:w159.cell? ⟨gb309,1,none⟩=some (.slice A0_1 l0_1.length c0_1):=(blk_cell BK309.out 1).trans rfl;have hfz161_0:=blk_frozen BK309.out 0;have hfz161_1:=blk_frozen BK309.out 1)|((with_reducible refine gate_callee (f:=47) rfl ?_);refine goesL_ (some 14) rfl rfl Try.func47 (by kernel_rfl) rfl #[.agg #[.int .i64 a0_0,.slice A0_1 l0_1.length c0_1]] rfl (by (try simp only [List.map_toArray,List.map_cons,List.map_nil]);first|done|rfl|(simp only [List.length_drop,List.length_take];rfl)) ?_;(with_reducible refine (spec_l5Copy.calls k a0_0 _ _ l0_1 t311 t312 _ ?side1 ?side2 A3.out).mono ?_);(case side1=>exact rC HR0_1);(case side2=>exact HC0_1.out);rintro e w162 ⟨v313,rfl,ho0,hb⟩;refine ⟨_,rfl,?_⟩;have HO314:=aM (Kd.S_lower ho0 (below_size be));replace BK309:=bB BK309 hb;replace BK310:=bB BK310 hb;replace HB:=bs hb;(try clear hb);(try clear ho0))|((with_reducible refine gate_dst (N:=6) rfl ?_);refine box_event ?hg (N:=6) ?hd (cs:=#[.int .i64 0,.slice none 0 0]) (t:=26) ?hr ?_;(case hd=>rfl);(case hg=>rfl);(case hr=>first|(go_simp;done)|(go_simp;rfl));intro gb315 hg w163 hbox hb;replace HO314:=sB HO314 hb;have BK315:=aM (hbox);have GW315:=gS w hg;have GE315:=gS w hg;replace HB:=bs hb;have NB309_315:=nL hg BK309;have NB315_309:=nG hg BK309;replace BK309:=bB BK309 hb;have NB310_315:=nL hg BK310;have NB315_310:=nG hg BK310;replace BK310:=bB BK310 hb;clear hb hbox hg;have hnb164:=NB315_309.out;have hnc164:=NB309_315.out;have hnb165:=NB315_310.out;have hnc165:=NB310_315.out;have hcz166_0:w163.cell? ⟨gb315,0,none⟩=some (.int .i64 0):=(blk_cell BK315.out 0).trans rfl;have hcz166_1:w163.cell? ⟨gb315,1,none⟩=some (.slice none 0 0):=(blk_cell BK315.out 1).trans rfl;have hfz166_0:=blk_frozen BK315.out 0;have hfz166_1:=blk_frozen BK315.out 1;obtain ⟨Ao167,co167,eo167⟩:=Kd.S_slice HO314.out;subst eo167;have hcz168_0:w163.cell? ⟨gb309,0,none⟩=some (.int .i64 a0_0):=(blk_cell BK309.out 0).trans rfl;have hcz168_1:w163.cell? ⟨gb309,1,none⟩=some (.slice A0_1 l0_1.length c0_1):=(blk_cell BK309.out 1).trans rfl;have hfz168_0:=blk_frozen BK309.out 0;have hfz168_1:=blk_frozen BK309.out 1)|((with_reducible refine gate_callee (f:=48) rfl ?_);refine goesL_ (some 17) rfl rfl Try.func48 (by kernel_rfl) rfl #[.agg #[.int .i64 a0_0,.slice A0_1 l0_1.length c0_1],.slice A1 l1.length c1] rfl (by (try simp only [List.map_toArray,List.map_cons,List.map_nil]);first|done|rfl|(simp only [List.length_drop,List.length_take];rfl)) ?_;(with_reducible refine (spec_l6Ok.calls k a0_0 _ _ l0_1 _ _ l1 false _ ?side1 ?side2 ?side3 ?side4 A4.out).mono ?_);(case side1=>exact Kd.C_below HR0_1.out be);(case side2=>exact HC0_1.out);(case side3=>exact Kd.C_below HR1.out be);(case side4=>exact HC1.out);rintro e w169 ⟨rfl,hb⟩;refine ⟨_,rfl,?_⟩;replace HO314:=aM (Kd.S_below ((by (with_reducible repeat (first|apply Kd.S_alloc|apply Kd.S_drewN|apply Kd.S_drew));exact (Kd.S_mono (Kd.S_far (p:=⟨gb315,1,none⟩) (Kd.S_far (p:=⟨gb315,0,none⟩) (Kd.S_types HO314.out BK315.out (by decide)) (fun _ hk=>hk.2) (.int .i64 t311)) (fun _ hk=>hk.2) (.slice Ao167 t312.length co167)) (fun _ h_=>h_.1)))) hb);replace BK310:=aM (blk_below (g:=gb310) (o:=.cells #[.int .i64 0,.slice none 0 0] 26 (0,0)) (by (with_reducible repeat (first|refine blk_drewN ?_ _|refine blk_drew ?_|refine blk_alloc ?_ _));refine blk_far ?_ NB310_315.out _;(with_reducible repeat (first|refine blk_drewN ?_ _|refine blk_drew ?_|refine blk_alloc ?_ _));refine blk_far ?_ NB310_315.out _;(with_reducible repeat (first|refine blk_drewN ?_ _|refine blk_drew ?_|refine blk_alloc ?_ _));exact BK310.out) hb);replace BK315:=aM (blk_below (g:=gb315) (o:=.cells #[.int .i64 t311,.slice Ao167 t312.length co167] 26 (0,0)) (by (with_reducible repeat (first|refine blk_drewN ?_ _|refine blk_drew ?_|refine blk_alloc ?_ _));refine blk_put (cs:=#[.int .i64 t311,.slice none 0 0]) ?_ 1 _ rfl;(with_reducible repeat (first|refine blk_drewN ?_ _|refine blk_drew ?_|refine blk_alloc ?_ _));refine blk_put (cs:=#[.int .i64 0,.slice none 0 0]) ?_ 0 _ rfl;(with_reducible repeat (first|refine blk_drewN ?_ _|refine blk_drew ?_|refine blk_alloc ?_ _));exact BK315.out) hb);replace HB:=bs hb;clear BK309;(try clear hb);have hcz170_0:w169.cell? ⟨gb315,0,none⟩=some (.int .i64 t311):=(blk_cell BK315.out 0).trans rfl;have hcz170_1:w169.cell? ⟨gb315,1,none⟩=some (.slice Ao167 t312.length co167):=(blk_cell BK315.out 1).trans rfl;have hfz170_0:=blk_frozen BK315.out 0;have hfz170_1:=blk_frozen BK315.out 1;have hcz171_0:w169.cell? ⟨gb310,0,none⟩=some (.int .i64 0):=(blk_cell BK310.out 0).trans rfl;have hcz171_1:w169.cell? ⟨gb310,1,none⟩=some (.slice none 0 0):=(blk_cell BK310.out 1).trans rfl;have hfz171_0:=blk_frozen BK310.out 0;have hfz171_1:=blk_frozen BK310.out 1))
  refine bodyPost_ret (results_ct rfl _ _ gb310 26 #[.int .i64 t311,.slice Ao167 t312.length co167] (0,0) _ rfl (by (with_reducible repeat (first|refine blk_drewN ?_ _|refine blk_drew ?_|refine blk_alloc ?_ _));refine blk_put (cs:=#[.int .i64 t311,.slice none 0 0]) ?_ 1 _ rfl;(with_reducible repeat (first|refine blk_drewN ?_ _|refine blk_drew ?_|refine blk_alloc ?_ _));refine blk_put (cs:=#[.int .i64 0,.slice none 0 0]) ?_ 0 _ rfl;(with_reducible repeat (first|refine blk_drewN ?_ _|refine blk_drew ?_|refine blk_alloc ?_ _));exact BK310.out) Try.underlying26 rfl (by kernel_rfl)) rfl ?_
  exact ⟨_,rz,by (with_reducible repeat (first|apply Kd.S_alloc|apply Kd.S_drewN|apply Kd.S_drew));exact Kd.S_mono (Kd.S_far (p:=⟨gb310,1,none⟩) (Kd.S_far (p:=⟨gb310,0,none⟩) (Kd.S_types HO314.out BK310.out (by decide)) (fun _ hk=>hk.2) (.int .i64 t311)) (fun _ hk=>hk.2) (.slice Ao167 t312.length co167)) (fun _ hk=>trivial),be⟩
end Go.Proofs.Ytpbjbfimnfghkaa.PFnExactRebalance
