/- Trimmed by a program of this session (trim.py). Not trusted: Lean checks it. -/
import Derived.Test.YtpbjbfimnfghkaaTLRebalancedPFnRebalancedx0
import Derived.Test.YtpbjbfimnfghkaaTLRebalancedPFnRebalancedx3
import Derived.Test.YtpbjbfimnfghkaaTLRebalancedPFnRebalancedx13
import Derived.Test.YtpbjbfimnfghkaaTLRebalancedPFnRebalancedx14
import Derived.Test.YtpbjbfimnfghkaaTLRebalancedPFnRebalancedx15
namespace Go.Proofs.Ytpbjbfimnfghkaa.PFnRebalanced
open Go.RowKit Go.Proofs.YtpbjbfimnfghkaaW.PrintWords Go.Proofs.YtpbjbfimnfghkaaW.PrintLast Go.Proofs.YtpbjbfimnfghkaaW.PrintMore Go.Proofs.Ytpbjbfimnfghkaa.St
attribute [local go_sem] max2_int min2_int max_two min_two max_three min_three max_four min_four
set_option linter.unusedVariables false
set_option linter.unusedSimpArgs false
def spec_Rebalance.l0:Nat→List (S61)→Int→Int→Int→List (S35)→Option (Int × (List (S35)) × Int)
 | 0,_,_,_,_,_=>none
 | k+1,x1,x7,x8,x575000,x575001=>if x8 < (x575001.length:Int) then (if 0≤x8 then ((spec_l6Lost.f k ((rd_T35 x575001 x8).f0) x1).bind fun t578=>(if t578 ≥ 0 then ((some (([]:List Int):List Int)).bind fun y579=>(if 0≤t578 then (if t578≤(((rd_T35 x575001 x8).f0).length:Int) then ((some (((rd_T35 x575001 x8).f0).take (t578:Int).toNat:List Int)).bind fun y582=>(if y579.length+y582.length < 17592186044416 then ((some (y579 ++ y582:List Int)).bind fun y586=>(if 0≤(wrap64 (t578+1)) then (if (wrap64 (t578+1))≤(((rd_T35 x575001 x8).f0).length:Int) then ((some (((rd_T35 x575001 x8).f0).drop ((wrap64 (t578+1)):Int).toNat:List Int)).bind fun y589=>(if y586.length+y589.length < 17592186044416 then ((spec_Best.f k x575000 x575001 (y586 ++ y589) x1).bind fun t597=>(if t597 ≥ 0 then (if t578 < (((rd_T35 x575001 x8).f0).length:Int) then (spec_Rebalance.l0 k x1 (wrap64 (x7+1)) (wrap64 (x8+1)) x575000 (x575001.set (x8:Int).toNat (⟨(((rd_T35 x575001 x8).f0).set (t578:Int).toNat t597)⟩:S35))) else (none)) else (spec_Rebalance.l0 k x1 x7 (wrap64 (x8+1)) x575000 x575001))) else (none))) else (none)) else (none))) else (none))) else (none)) else (none))) else ((spec_Best.f k x575000 x575001 ((rd_T35 x575001 x8).f0) x1).bind fun t602=>((spec_l6Heavy.f k x575000 x575001 ((rd_T35 x575001 x8).f0) x1 t602).bind fun t603=>(if t603 ≥ 0 then (if t602 ≥ 0 then (if 0≤t603 then (if t603 < (((rd_T35 x575001 x8).f0).length:Int) then (spec_Rebalance.l0 k x1 (wrap64 (x7+1)) (wrap64 (x8+1)) x575000 (x575001.set (x8:Int).toNat (⟨(((rd_T35 x575001 x8).f0).set (t603:Int).toNat t602)⟩:S35))) else (none)) else (none)) else (spec_Rebalance.l0 k x1 x7 (wrap64 (x8+1)) x575000 x575001)) else (spec_Rebalance.l0 k x1 x7 (wrap64 (x8+1)) x575000 x575001)))))) else (none)) else (some (x575000,x575001,x7))
def spec_Rebalance.f (k:Nat) (a0_0:Int) (l0_1:List (S35)) (l1:List (S61)):Option (Int × (List (S35)) × Int):=(spec_l5Copy.f k a0_0 l0_1).bind fun bt570=>((spec_l6Ok.f k a0_0 l0_1 l1).bind fun t575=>(if t575=true then (spec_Rebalance.l0 k l1 0 0 bt570.1 bt570.2) else (some (bt570.1,bt570.2,(-1)))))
def spec_Rebalance.T12:Bool × List (List Nat × List Nat):=(true,[([],[]),([],[]),([1],[1]),([],[]),([2,3],[2,3]),([0,4],[0,4]),([],[]),([6],[6]),([],[]),([8],[8]),([7,9],[7,9]),([5,10,5],[5,10]),([11],[11]),([],[]),([13,12,11,0,1,2,3,4,5,6,7,8,9,10,11,12,13],[12,13])])
def spec_Rebalance.B12:List Nat:=[0,0,2,0,14,31,0,64,0,256,960,2047,4095,0,16383]
theorem spec_Rebalance.tab12:rtab .any (opsOf Try.f11 12)=spec_Rebalance.T12:=by kernel_rfl
theorem spec_Rebalance.bits12:waitsOk spec_Rebalance.T12.2 spec_Rebalance.B12=true:=by kernel_rfl
set_option maxHeartbeats 8000000 in
set_option maxRecDepth 100000 in
theorem spec_Rebalance.calls (k:Nat) (a0_0:Int) (A0_1:Option Addr) (c0_1:Nat) (l0_1:List (S35)) (A1:Option Addr) (c1:Nat) (l1:List (S61)) (r1:Int) (r2:List (S35)) (r3:Int) (w:World) (hr0_1:Kd.C k35 w A0_1 l0_1.length l0_1) (hc0_1:l0_1.length≤c0_1) (hr1:Kd.C k61 w A1 l1.length l1) (hc1:l1.length≤c1) (h:spec_Rebalance.f k a0_0 l0_1 l1=some (r1,r2,r3)) :
  Calls Try.prog 11 #[.agg #[.int .i64 a0_0,.slice A0_1 l0_1.length c0_1],.slice A1 l1.length c1] w fun e w'=>∃ v1_:Value,e = .returned (.tuple #[.agg #[.int .i64 r1,v1_],.int .i64 r3])∧Kd.S k35 35 w' w.heap.size (fun _=>True) v1_ r2∧Below w.heap.size w w':=by
 have hu26:=Try.underlying26
 have hu35:=Try.underlying35
 have HR0_1:=aM hr0_1
 have HC0_1:=aM hc0_1
 clear hr0_1 hc0_1
 have HR1:=aM hr1
 have HC1:=aM hc1
 clear hr1 hc1
 have HB:=aM (Below.refl w.heap.size w)
 have H:((spec_l5Copy.f k a0_0 l0_1).bind fun bt570=>((spec_l6Ok.f k a0_0 l0_1 l1).bind fun t575=>(if t575=true then (spec_Rebalance.l0 k l1 0 0 bt570.1 bt570.2) else (some (bt570.1,bt570.2,(-1))))))=some (r1,r2,r3):=h
 clear h
 replace H:=Option.bind_eq_some_iff.mp H
 obtain ⟨⟨t570,t571⟩,A30,H⟩:=H
 try dsimp only at H
 have A3:=aM A30
 clear A30
 replace H:=Option.bind_eq_some_iff.mp H
 obtain ⟨t575,A40,H⟩:=H
 try dsimp only at H
 have A4:=aM A40
 clear A40
 by_cases c5:t575=true
 ·subst c5
  rw [if_pos rfl] at H
  have H':=Aside0.mk H
  clear H
  go_enter Try.func11,Try.ntmps11
  go_wp2_with (first|((with_reducible refine gate_dst (N:=2) rfl ?_);refine box_event ?hg (N:=2) ?hd (cs:=#[.int .i64 a0_0,.slice A0_1 l0_1.length c0_1]) (t:=26) ?hr ?_;(case hd=>rfl);(case hg=>rfl);(case hr=>(go_simp;done));intro gb568 hg w6 hbox hb;have BK568:=aM (hbox);have GW568:=gS w hg;have GE568:=gS w hg;replace HB:=bs hb;clear hb hbox hg)|((with_reducible refine gate_dst (N:=4) rfl ?_);refine box_event ?hg (N:=4) ?hd (cs:=#[.int .i64 0,.slice none 0 0]) (t:=26) ?hr ?_;(case hd=>rfl);(case hg=>rfl);(case hr=>(go_simp;done));intro gb569 hg w7 hbox hb;have BK569:=aM (hbox);have GW569:=gS w hg;have GE569:=gS w hg;replace HB:=bs hb;have NB568_569:=nL hg BK568;have NB569_568:=nG hg BK568;replace BK568:=bB BK568 hb;clear hb hbox hg;have hnb8:=NB568_569.out;have hnc8:=NB569_568.out;obtain ⟨hcz9_0,hcz9_1,hfz9_0,hfz9_1⟩:=b2 BK568)|((with_reducible refine gate_callee (f:=47) rfl ?_);refine goesL_ (some 14) rfl rfl Try.func47 (by kernel_rfl) rfl #[.agg #[.int .i64 a0_0,.slice A0_1 l0_1.length c0_1]] rfl (by (try simp only [List.map_toArray,List.map_cons,List.map_nil]);rfl) ?_;(with_reducible refine (spec_l5Copy.calls k a0_0 _ _ l0_1 t570 t571 _ ?side1 ?side2 A3.out).mono ?_);(case side1=>exact rC HR0_1);(case side2=>exact HC0_1.out);rintro e w10 ⟨v572,rfl,ho0,hb⟩;refine ⟨_,rfl,?_⟩;have HO573:=aM (Kd.S_lower ho0 (below_size be));replace BK568:=bB BK568 hb;replace BK569:=bB BK569 hb;replace HB:=bs hb;(try clear hb);(try clear ho0))|((with_reducible refine gate_dst (N:=6) rfl ?_);refine box_event ?hg (N:=6) ?hd (cs:=#[.int .i64 0,.slice none 0 0]) (t:=26) ?hr ?_;(case hd=>rfl);(case hg=>rfl);(case hr=>(go_simp;done));intro gb574 hg w11 hbox hb;replace HO573:=sB HO573 hb;have BK574:=aM (hbox);have GW574:=gS w hg;have GE574:=gS w hg;replace HB:=bs hb;have NB568_574:=nL hg BK568;have NB574_568:=nG hg BK568;replace BK568:=bB BK568 hb;have NB569_574:=nL hg BK569;have NB574_569:=nG hg BK569;replace BK569:=bB BK569 hb;clear hb hbox hg;have hnb12:=NB574_568.out;have hnc12:=NB568_574.out;have hnb13:=NB574_569.out;have hnc13:=NB569_574.out;obtain ⟨hcz14_0,hcz14_1,hfz14_0,hfz14_1⟩:=b2 BK574;obtain ⟨Ao15,co15,eo15⟩:=Kd.S_slice HO573.out;subst eo15;obtain ⟨hcz16_0,hcz16_1,hfz16_0,hfz16_1⟩:=b2 BK568)|((with_reducible refine gate_callee (f:=48) rfl ?_);refine goesL_ (some 17) rfl rfl Try.func48 (by kernel_rfl) rfl #[.agg #[.int .i64 a0_0,.slice A0_1 l0_1.length c0_1],.slice A1 l1.length c1] rfl (by (try simp only [List.map_toArray,List.map_cons,List.map_nil]);rfl) ?_;(with_reducible refine (spec_l6Ok.calls k a0_0 _ _ l0_1 _ _ l1 true _ ?side1 ?side2 ?side3 ?side4 A4.out).mono ?_);(case side1=>exact Kd.C_below HR0_1.out be);(case side2=>exact HC0_1.out);(case side3=>exact Kd.C_below HR1.out be);(case side4=>exact HC1.out);rintro e w17 ⟨rfl,hb⟩;refine ⟨_,rfl,?_⟩;replace HO573:=aM (Kd.S_below ((by exact (Kd.S_mono (Kd.S_far (p:=⟨gb574,1,none⟩) (Kd.S_far (p:=⟨gb574,0,none⟩) (Kd.S_types HO573.out BK574.out (by decide)) (fun _ hk=>hk.2) (.int .i64 t570)) (fun _ hk=>hk.2) (.slice Ao15 t571.length co15)) (fun _ h_=>h_.1)))) hb);replace BK568:=aM (blk_below (g:=gb568) (o:=.cells #[.int .i64 a0_0,.slice A0_1 l0_1.length c0_1] 26 (0,0)) (by refine blk_far ?_ NB568_574.out _;refine blk_far ?_ NB568_574.out _;exact BK568.out) hb);replace BK569:=aM (blk_below (g:=gb569) (o:=.cells #[.int .i64 0,.slice none 0 0] 26 (0,0)) (by refine blk_far ?_ NB569_574.out _;refine blk_far ?_ NB569_574.out _;exact BK569.out) hb);replace BK574:=aM (blk_below (g:=gb574) (o:=.cells #[.int .i64 t570,.slice Ao15 t571.length co15] 26 (0,0)) (by refine blk_put (cs:=#[.int .i64 t570,.slice none 0 0]) ?_ 1 _ rfl;refine blk_put (cs:=#[.int .i64 0,.slice none 0 0]) ?_ 0 _ rfl;exact BK574.out) hb);replace HB:=bs hb;(try clear hb)))
  go_loopg [7,8] k (fun kq v7 v8 w'=>∃ (x7_1:Int) (x8_1:Int) (x575001_1:List (S35)) (u575001:Value),v7 = .int .i64 x7_1∧v8 = .int .i64 x8_1∧Aside0 (spec_Rebalance.l0 kq l1 x7_1 x8_1 t570 x575001_1=some (r1,r2,r3))∧Aside0 (kq≤k)∧Aside0 (Kd.S k35 35 w' w.heap.size (fun _=>True) u575001 x575001_1)∧Aside0 (w'.heap[gb568]?=some (.cells #[.int .i64 a0_0,(.slice A0_1 l0_1.length c0_1)] 26 (0,0)))∧Aside0 (w'.heap[gb569]?=some (.cells #[.int .i64 0,(.slice none 0 0)] 26 (0,0)))∧Aside0 (w'.heap[gb574]?=some (.cells #[.int .i64 t570,u575001] 26 (0,0)))∧Aside0 (Below w.heap.size w w'))
  case atStart=>exact ⟨(0),(0),(t571),(.slice Ao15 t571.length co15),rd_,rd_,H',⟨Nat.le_refl _⟩,⟨rS HO573⟩,⟨bk BK568⟩,⟨bk BK569⟩,⟨bk BK574⟩,⟨be⟩⟩
  case round=>
   clear H'
   try clear hcz14_0
   try clear hcz14_1
   try clear hcz16_0
   try clear hcz16_1
   try clear hcz9_0
   try clear hcz9_1
   try clear hfz14_0
   try clear hfz14_1
   try clear hfz16_0
   try clear hfz16_1
   try clear hfz9_0
   try clear hfz9_1
   obtain ⟨x7_1,x8_1,x575001_1,u575001,rfl,rfl,HA,HK1,HO_575001,BK568,BK569,BK574,HB⟩:=hrel
   cases gk with
   | zero=>exact absurd HA.out (by simp [spec_Rebalance.l0])
   | succ k1=>
    have H:=HA.out
    clear HA
    simp only [spec_Rebalance.l0] at H
    by_cases c18:x8_1 < (x575001_1.length:Int)
    ·rw [if_pos c18] at H
     have c18b0:decide (x8_1 < (x575001_1.length:Int))=true:=decide_eq_true c18
     clear c18
     obtain ⟨c19,H⟩:=ifs H
     have c19b0:decide (0≤x8_1)=true:=decide_eq_true c19
     clear c19
     replace H:=Option.bind_eq_some_iff.mp H
     obtain ⟨t578,A200,H⟩:=H
     try dsimp only at H
     have A20:=aM A200
     clear A200
     by_cases c21:t578 ≥ 0
     ·rw [if_pos c21] at H
      have c21b0:decide (0≤t578)=true:=decide_eq_true c21
      clear c21
      obtain ⟨y579,hy579⟩ : ∃ y_:List Int,y_=(([]:List Int)):=⟨_,rfl⟩
      replace H:(if 0≤t578 then (if t578≤(((rd_T35 x575001_1 x8_1).f0).length:Int) then ((some (((rd_T35 x575001_1 x8_1).f0).take (t578:Int).toNat:List Int)).bind fun y582=>(if y579.length+y582.length < 17592186044416 then ((some (y579 ++ y582:List Int)).bind fun y586=>(if 0≤(wrap64 (t578+1)) then (if (wrap64 (t578+1))≤(((rd_T35 x575001_1 x8_1).f0).length:Int) then ((some (((rd_T35 x575001_1 x8_1).f0).drop ((wrap64 (t578+1)):Int).toNat:List Int)).bind fun y589=>(if y586.length+y589.length < 17592186044416 then ((spec_Best.f k1 t570 x575001_1 (y586 ++ y589) l1).bind fun t597=>(if t597 ≥ 0 then (if t578 < (((rd_T35 x575001_1 x8_1).f0).length:Int) then (spec_Rebalance.l0 k1 l1 (wrap64 (x7_1+1)) (wrap64 (x8_1+1)) t570 (x575001_1.set (x8_1:Int).toNat (⟨(((rd_T35 x575001_1 x8_1).f0).set (t578:Int).toNat t597)⟩:S35))) else (none)) else (spec_Rebalance.l0 k1 l1 x7_1 (wrap64 (x8_1+1)) t570 x575001_1))) else (none))) else (none)) else (none))) else (none))) else (none)) else (none))=some (r1,r2,r3):=by (have H2_:=(Option.bind_some _ _).symm.trans H;rw [hy579];with_reducible exact H2_)
      have Ny579:=aM hy579
      clear hy579
      obtain ⟨c22,H⟩:=ifs H
      have c22b0:=eq_true c22
      have c22b1:decide (0≤t578)=true:=decide_eq_true c22
      clear c22
      obtain ⟨c23,H⟩:=ifs H
      have c23b0:=eq_true c23
      have c23b1:decide (t578≤(((rd_T35 x575001_1 x8_1).f0).length:Int))=true:=decide_eq_true c23
      clear c23
      obtain ⟨y582,hy582⟩ : ∃ y_:List Int,y_=(((rd_T35 x575001_1 x8_1).f0).take (t578:Int).toNat):=⟨_,rfl⟩
      replace H:(if y579.length+y582.length < 17592186044416 then ((some (y579 ++ y582:List Int)).bind fun y586=>(if 0≤(wrap64 (t578+1)) then (if (wrap64 (t578+1))≤(((rd_T35 x575001_1 x8_1).f0).length:Int) then ((some (((rd_T35 x575001_1 x8_1).f0).drop ((wrap64 (t578+1)):Int).toNat:List Int)).bind fun y589=>(if y586.length+y589.length < 17592186044416 then ((spec_Best.f k1 t570 x575001_1 (y586 ++ y589) l1).bind fun t597=>(if t597 ≥ 0 then (if t578 < (((rd_T35 x575001_1 x8_1).f0).length:Int) then (spec_Rebalance.l0 k1 l1 (wrap64 (x7_1+1)) (wrap64 (x8_1+1)) t570 (x575001_1.set (x8_1:Int).toNat (⟨(((rd_T35 x575001_1 x8_1).f0).set (t578:Int).toNat t597)⟩:S35))) else (none)) else (spec_Rebalance.l0 k1 l1 x7_1 (wrap64 (x8_1+1)) t570 x575001_1))) else (none))) else (none)) else (none))) else (none))=some (r1,r2,r3):=by (have H2_:=(Option.bind_some _ _).symm.trans H;rw [hy582];with_reducible exact H2_)
      have Ny582:=aM hy582
      clear hy582
      obtain ⟨c24,H⟩:=ifs H
      have LMc24:=aM c24
      clear c24
      obtain ⟨y586,hy586⟩ : ∃ y_:List Int,y_=(y579 ++ y582):=⟨_,rfl⟩
      replace H:(if 0≤(wrap64 (t578+1)) then (if (wrap64 (t578+1))≤(((rd_T35 x575001_1 x8_1).f0).length:Int) then ((some (((rd_T35 x575001_1 x8_1).f0).drop ((wrap64 (t578+1)):Int).toNat:List Int)).bind fun y589=>(if y586.length+y589.length < 17592186044416 then ((spec_Best.f k1 t570 x575001_1 (y586 ++ y589) l1).bind fun t597=>(if t597 ≥ 0 then (if t578 < (((rd_T35 x575001_1 x8_1).f0).length:Int) then (spec_Rebalance.l0 k1 l1 (wrap64 (x7_1+1)) (wrap64 (x8_1+1)) t570 (x575001_1.set (x8_1:Int).toNat (⟨(((rd_T35 x575001_1 x8_1).f0).set (t578:Int).toNat t597)⟩:S35))) else (none)) else (spec_Rebalance.l0 k1 l1 x7_1 (wrap64 (x8_1+1)) t570 x575001_1))) else (none))) else (none)) else (none))=some (r1,r2,r3):=by (have H2_:=(Option.bind_some _ _).symm.trans H;rw [hy586];with_reducible exact H2_)
      have Ny586:=aM hy586
      clear hy586
      obtain ⟨ji25,hji25⟩ : ∃ j_:Int,(wrap64 (t578+1))=j_:=⟨_,rfl⟩
      replace H:(if 0≤(ji25) then (if (ji25)≤(((rd_T35 x575001_1 x8_1).f0).length:Int) then ((some (((rd_T35 x575001_1 x8_1).f0).drop ((ji25):Int).toNat:List Int)).bind fun y589=>(if y586.length+y589.length < 17592186044416 then ((spec_Best.f k1 t570 x575001_1 (y586 ++ y589) l1).bind fun t597=>(if t597 ≥ 0 then (if t578 < (((rd_T35 x575001_1 x8_1).f0).length:Int) then (spec_Rebalance.l0 k1 l1 (wrap64 (x7_1+1)) (wrap64 (x8_1+1)) t570 (x575001_1.set (x8_1:Int).toNat (⟨(((rd_T35 x575001_1 x8_1).f0).set (t578:Int).toNat t597)⟩:S35))) else (none)) else (spec_Rebalance.l0 k1 l1 x7_1 (wrap64 (x8_1+1)) t570 x575001_1))) else (none))) else (none)) else (none))=some (r1,r2,r3):=by (rw [hji25] at H;exact H)
      skip
      have hji25w:(IntKind.i64.wrap (t578+1))=ji25:=(i64_w _).trans hji25
      obtain ⟨c26,H⟩:=ifs H
      have c26b0:=eq_true c26
      have c26b1:decide (0≤(ji25))=true:=decide_eq_true c26
      clear c26
      obtain ⟨c27,H⟩:=ifs H
      have c27b0:=eq_true c27
      have c27b1:decide ((ji25)≤(((rd_T35 x575001_1 x8_1).f0).length:Int))=true:=decide_eq_true c27
      clear c27
      obtain ⟨y589,hy589⟩ : ∃ y_:List Int,y_=(((rd_T35 x575001_1 x8_1).f0).drop ((ji25):Int).toNat):=⟨_,rfl⟩
      replace H:(if y586.length+y589.length < 17592186044416 then ((spec_Best.f k1 t570 x575001_1 (y586 ++ y589) l1).bind fun t597=>(if t597 ≥ 0 then (if t578 < (((rd_T35 x575001_1 x8_1).f0).length:Int) then (spec_Rebalance.l0 k1 l1 (wrap64 (x7_1+1)) (wrap64 (x8_1+1)) t570 (x575001_1.set (x8_1:Int).toNat (⟨(((rd_T35 x575001_1 x8_1).f0).set (t578:Int).toNat t597)⟩:S35))) else (none)) else (spec_Rebalance.l0 k1 l1 x7_1 (wrap64 (x8_1+1)) t570 x575001_1))) else (none))=some (r1,r2,r3):=by (have H2_:=(Option.bind_some _ _).symm.trans H;rw [hy589];with_reducible exact H2_)
      have Ny589:=aM hy589
      clear hy589
      obtain ⟨c28,H⟩:=ifs H
      have LMc28:=aM c28
      clear c28
      obtain ⟨y593,hy593⟩ : ∃ y_:List Int,y_=(y586 ++ y589):=⟨_,rfl⟩
      replace H:((spec_Best.f k1 t570 x575001_1 y593 l1).bind fun t597=>(if t597 ≥ 0 then (if t578 < (((rd_T35 x575001_1 x8_1).f0).length:Int) then (spec_Rebalance.l0 k1 l1 (wrap64 (x7_1+1)) (wrap64 (x8_1+1)) t570 (x575001_1.set (x8_1:Int).toNat (⟨(((rd_T35 x575001_1 x8_1).f0).set (t578:Int).toNat t597)⟩:S35))) else (none)) else (spec_Rebalance.l0 k1 l1 x7_1 (wrap64 (x8_1+1)) t570 x575001_1)))=some (r1,r2,r3):=by (rw [hy593];with_reducible exact H)
      have Ny593:=aM hy593
      clear hy593
      replace H:=Option.bind_eq_some_iff.mp H
      obtain ⟨t597,A290,H⟩:=H
      try dsimp only at H
      have A29:=aM A290
      clear A290
      by_cases c30:t597 ≥ 0
      ·rw [if_pos c30] at H
       have c30b0:decide (0≤t597)=true:=decide_eq_true c30
       clear c30
       obtain ⟨c31,H⟩:=ifs H
       have c31b0:decide (t578 < (((rd_T35 x575001_1 x8_1).f0).length:Int))=true:=decide_eq_true c31
       clear c31
       obtain ⟨y599,hy599⟩ : ∃ y_:List Int,y_=(((rd_T35 x575001_1 x8_1).f0).set (t578:Int).toNat t597):=⟨_,rfl⟩
       replace H:(spec_Rebalance.l0 k1 l1 (wrap64 (x7_1+1)) (wrap64 (x8_1+1)) t570 (x575001_1.set (x8_1:Int).toNat (⟨y599⟩:S35)))=some (r1,r2,r3):=by (rw [hy599];with_reducible exact H)
       have Ny599:=aM hy599
       clear hy599
       obtain ⟨y601,hy601⟩ : ∃ y_:List (S35),y_=(x575001_1.set (x8_1:Int).toNat (⟨y599⟩:S35)):=⟨_,rfl⟩
       replace H:(spec_Rebalance.l0 k1 l1 (wrap64 (x7_1+1)) (wrap64 (x8_1+1)) t570 y601)=some (r1,r2,r3):=by (rw [hy601];with_reducible exact H)
       have Ny601:=aM hy601
       clear hy601
       have H':=Aside0.mk H
       clear H
       have hnb33:=NB574_568.out
       have hnc33:=NB568_574.out
       have hnb34:=NB574_569.out
       have hnc34:=NB569_574.out
       obtain ⟨hcz35_0,hcz35_1,hfz35_0,hfz35_1⟩:=b2 BK574
       obtain ⟨Ao36,co36,eo36⟩:=Kd.S_slice HO_575001.out
       subst eo36
       have p576:0≤(x8_1:Int):=od
       have q576:x8_1 < (x575001_1.length:Int):=od
       obtain ⟨ad576,A576_0,c576_0,e576,hx576_0,hl576_0,hi576_0⟩:=at_T35 (Kd.S_reads' HO_575001.out).2.2 x8_1 p576 q576
       cases e576
       obtain ⟨ce576,hce576,hMe576,hcc576⟩:=Kd.S_get HO_575001.out z35 x8_1 p576 (by exact q576)
       obtain ⟨ve576_0,rfl,ge576_0⟩:=k35_openM hMe576
       have hv576_0:=hcc576 0 _ rfl
       rw [Nat.add_zero,show (k35).sz=1 from rfl,Nat.mul_one] at hv576_0
       replace hv576_0:=Option.some.inj (hv576_0.symm.trans hx576_0)
       rw [hv576_0] at ge576_0
       have HL576_0:=aM (show Kd.R (Kd.int .i64) 3 _ _ _ _ ((rd_T35 x575001_1 x8_1).f0) from ge576_0)
       clear hv576_0 ge576_0
       have HX576_0:=aM hx576_0
       clear hcc576 hce576
       have HR576_0:=aM hi576_0
       have HC576_0:=aM hl576_0
       clear hi576_0 hl576_0
       replace p576:=eq_true p576
       replace q576:=eq_true q576
       try go_wp2_with (first|((with_reducible refine gate_dst (N:=9) rfl ?_);refine box_event ?hg (N:=9) ?hd (cs:=#[.slice none 0 0]) (t:=35) ?hr ?_;(case hd=>rfl);(case hg=>rfl);(case hr=>(go_simp;done));intro gb577 hg w37 hbox hb;replace HO_575001:=aM (Kd.S_below (Kd.S_elderB (rS HO_575001) gb577 (Nat.le_of_eq hg.symm)) hb);replace HL576_0:=rB HL576_0 hb;replace HR576_0:=cB HR576_0 hb;replace HX576_0:=xB hb HX576_0;have BK577:=aM (hbox);have GW577:=gS w hg;have GE577:=gS w hg;replace HB:=bs hb;have NB568_577:=nL hg BK568;have NB577_568:=nG hg BK568;replace BK568:=bB BK568 hb;have NB569_577:=nL hg BK569;have NB577_569:=nG hg BK569;replace BK569:=bB BK569 hb;have NB574_577:=nL hg BK574;have NB577_574:=nG hg BK574;replace BK574:=bB BK574 hb;clear hb hbox hg;have hnb38:=NB577_568.out;have hnc38:=NB568_577.out;have hnb39:=NB577_569.out;have hnc39:=NB569_577.out;have hnb40:=NB577_574.out;have hnc40:=NB574_577.out;obtain ⟨hcz41_0,hfz41_0⟩:=b1 BK577)|((with_reducible refine gate_callee (f:=49) rfl ?_);refine goesL_ (some 34) rfl rfl Try.func49 (by kernel_rfl) rfl #[.agg #[.slice A576_0 ((rd_T35 x575001_1 x8_1).f0).length c576_0],.slice A1 l1.length c1] rfl (by (try simp only [List.map_toArray,List.map_cons,List.map_nil]);rfl) ?_;(with_reducible refine (spec_l6Lost.calls k1 _ _ ((rd_T35 x575001_1 x8_1).f0) _ _ l1 t578 _ ?side1 ?side2 ?side3 ?side4 A20.out).mono ?_);(case side1=>repeat (exact ((Kd.R_reads' (by exact (Kd.R_mono (Kd.R_far (p:=⟨gb577,0,none⟩) (Kd.R_types HL576_0.out BK577.out (by decide)) (fun _ hk=>hk.2) (.slice A576_0 ((rd_T35 x575001_1 x8_1).f0).length c576_0)) (fun _ h_=>h_.1)))).2.2)));(case side2=>exact HC576_0.out);(case side3=>exact Kd.C_below HR1.out be);(case side4=>exact HC1.out);rintro e w42 ⟨rfl,hb⟩;refine ⟨_,rfl,?_⟩;replace BK568:=aM (blk_below (g:=gb568) (o:=.cells #[.int .i64 a0_0,.slice A0_1 l0_1.length c0_1] 26 (0,0)) (by refine blk_far ?_ NB568_577.out _;exact BK568.out) hb);replace BK569:=aM (blk_below (g:=gb569) (o:=.cells #[.int .i64 0,.slice none 0 0] 26 (0,0)) (by refine blk_far ?_ NB569_577.out _;exact BK569.out) hb);replace BK574:=aM (blk_below (g:=gb574) (o:=.cells #[.int .i64 t570,.slice (some ad576) x575001_1.length co36] 26 (0,0)) (by refine blk_far ?_ NB574_577.out _;exact BK574.out) hb);replace HR576_0:=aM (Kd.C_below ((Kd.R_reads' (by exact (Kd.R_mono (Kd.R_far (p:=⟨gb577,0,none⟩) (Kd.R_types HL576_0.out BK577.out (by decide)) (fun _ hk=>hk.2) (.slice A576_0 ((rd_T35 x575001_1 x8_1).f0).length c576_0)) (fun _ h_=>h_.1)))).2.2) hb);replace HL576_0:=aM (Kd.R_below ((by exact (Kd.R_mono (Kd.R_far (p:=⟨gb577,0,none⟩) (Kd.R_types HL576_0.out BK577.out (by decide)) (fun _ hk=>hk.2) (.slice A576_0 ((rd_T35 x575001_1 x8_1).f0).length c576_0)) (fun _ h_=>h_.1)))) hb);replace HX576_0:=aM (pw_cell_below hb ((cell_far (p:=⟨gb577,0,none⟩) (by (rw [add_block];exact ((Kd.S_R HO_575001.out).1 _ rfl).2)) (.slice A576_0 ((rd_T35 x575001_1 x8_1).f0).length c576_0)).trans (HX576_0.out)));replace HO_575001:=aM (Kd.S_below ((by exact (Kd.S_mono (Kd.S_far (p:=⟨gb577,0,none⟩) (Kd.S_mono HO_575001.out (fun k_ hk=>(⟨hk,hk.2⟩:_∧k_ ≠ gb577))) (fun _ hk=>hk.2) (.slice A576_0 ((rd_T35 x575001_1 x8_1).f0).length c576_0)) (fun _ h_=>h_.1)))) hb);replace BK577:=aM (blk_below (g:=gb577) (o:=.cells #[.slice A576_0 ((rd_T35 x575001_1 x8_1).f0).length c576_0] 35 (0,0)) (by refine blk_put (cs:=#[.slice none 0 0]) ?_ 0 _ rfl;exact BK577.out) hb);replace HB:=bs hb;(try clear hb)))
       replace HO_575001:=aM (Kd.S_drew HO_575001.out);replace HL576_0:=aM (Kd.R_drew HL576_0.out);replace BK568:=aM (blk_drew BK568.out);replace BK569:=aM (blk_drew BK569.out);replace BK574:=aM (blk_drew BK574.out);replace BK577:=aM (blk_drew BK577.out);replace HR576_0:=aM (Kd.C_drew HR576_0.out);replace HX576_0:=aM (Aid.cell_drew HX576_0.out);replace HB:=aM (below_drew1 HB.out)
       have q44:(t578:Int)≤((((rd_T35 x575001_1 x8_1).f0).length:Int):Int):=od
       obtain ⟨i044,hi044,_,hsz44,_⟩:=info_parts info3
       have hroom44:((rd_T35 x575001_1 x8_1).f0).length≤c576_0:=HC576_0.out
       have hC44:Kd.C (Kd.int .i64) _ A576_0 ((rd_T35 x575001_1 x8_1).f0).length ((rd_T35 x575001_1 x8_1).f0):=HR576_0.out
       have hcut44:=cut_to (P:=Try.prog) 33 3 .i64 Try.underlying33 hi044 A576_0 ((rd_T35 x575001_1 x8_1).f0).length c576_0 t578 od q44 hroom44
       have hr44:=Kd.C_take (m:=(t578:Int).toNat) hC44 (by omega)
       have hy44:y582.length=(t578:Int).toNat:=(by rw [Ny582.out,List.length_take];omega)
       rw [← Ny582.out] at hr44
       rw [← hy44] at hcut44
       have HR585:=aM hr44
       have HC585:=aM (show y582.length≤c576_0 from by omega)
       clear hr44 hC44 hroom44 hi044 hsz44
       have KY44:=aM hy44
       clear hy44
       have KL44:=aM (show (t578:Int).toNat≤((rd_T35 x575001_1 x8_1).f0).length from by omega)
       replace q44:=eq_true q44
       have q45:((ji25):Int)≤((((rd_T35 x575001_1 x8_1).f0).length:Int):Int):=od
       obtain ⟨i045,hi045,_,hsz45,_⟩:=info_parts info3
       have hroom45:((rd_T35 x575001_1 x8_1).f0).length≤c576_0:=HC576_0.out
       have hC45:Kd.C (Kd.int .i64) _ A576_0 ((rd_T35 x575001_1 x8_1).f0).length ((rd_T35 x575001_1 x8_1).f0):=HR576_0.out
       have q045:(0:Int)≤((ji25):Int):=od
       have hcut45:=cut_from (P:=Try.prog) 33 3 .i64 Try.underlying33 hi045 1 hsz45 A576_0 ((rd_T35 x575001_1 x8_1).f0).length c576_0 (ji25) q045 q45
       have hr45:=Kd.C_drop (m:=((ji25):Int).toNat) (c:=c576_0) hC45 (by omega) hroom45
       obtain ⟨A45,hA45⟩ : ∃ A1,A1=(if c576_0=((ji25):Int).toNat then A576_0 else (A576_0:Option Addr).map (·.add (((ji25):Int).toNat * 1))):=⟨_,rfl⟩
       obtain ⟨c45,hc45⟩ : ∃ c1,c1=c576_0 - ((ji25):Int).toNat:=⟨_,rfl⟩
       have hy45:y589.length=((rd_T35 x575001_1 x8_1).f0).length - ((ji25):Int).toNat:=(by rw [Ny589.out,List.length_drop] <;> omega)
       rw [show ((rd_T35 x575001_1 x8_1).f0).drop ((ji25):Int).toNat=y589 from Ny589.out.symm] at hr45
       replace hr45:Kd.C (Kd.int .i64) _ A45 y589.length y589:=(by rw [hA45];exact hr45)
       rw [← hy45,← hA45,← hc45] at hcut45
       have HR592:=aM hr45
       have HC592:=aM (show y589.length≤c45 from by rw [hy45,hc45];exact Nat.sub_le_sub_right hroom45 _)
       clear hr45 hC45 hroom45 hi045 hsz45 hc45
       have KY45:=aM hy45
       have KA45:=aM hA45
       clear hy45 hA45
       have KL45:=aM (show ((ji25):Int).toNat≤((rd_T35 x575001_1 x8_1).f0).length from by omega)
       replace q45:=eq_true q45
       refine start_ (n:=15) (S:=fun w'=>w'.cell? ⟨gb577,0,none⟩=some (.slice A576_0 ((rd_T35 x575001_1 x8_1).f0).length c576_0)) (ds:=[]) (fl 15 0) (by kernel_rfl) rfl rfl (bq BK577 0) (fun hHeld=>?_);refine with_tabW spec_Rebalance.tab12 spec_Rebalance.bits12 (fun HT_ HW_=>?_)
       generalize w42.drew=w43 at HO_575001 HL576_0 BK568 BK569 BK574 BK577 HR576_0 HX576_0 HB HR585 HR592 hHeld ⊢
       refine pt 1 38 (fl 15 2) HT_ ?_
       refine pt 3 40 (fl 15 10) HT_ ?_
       refine pt 6 43 (fl 15 74) HT_ ?_
       refine pt 8 45 (fl 15 330) HT_ ?_
       refine pt 9 46 (fl 15 842) HT_ ?_
       refine tt 2 39 (fl 15 846) HT_ HW_ hHeld ?_
       refine pt 4 41 (fl 15 862) HT_ ?_
       refine tt 7 44 (fl 15 990) HT_ HW_ hHeld ?_
       refine pt 10 47 (fl 15 2014) HT_ ?_
       refine join_ (σ:=Value × Value × Value × Nat) 1 (fl 15 16383) (fun s_=>[(37,s_.1),(42,s_.2.1),(48,s_.2.2.1),(12,.pointer (some ⟨s_.2.2.2,0,none⟩)),(49,.agg #[s_.2.2.1])]) (fun s_ w'=>(w'.cell? ⟨gb577,0,none⟩=some (.slice A576_0 ((rd_T35 x575001_1 x8_1).f0).length c576_0))∧(Kd.R (Kd.int .i64) 3 w' w.heap.size (fun k_=>some k_ ≠ (s_.2.2.1:Value).ownBlock∧some k_ ≠ (.slice (some ad576) x575001_1.length co36:Value).ownBlock) (.slice A576_0 ((rd_T35 x575001_1 x8_1).f0).length c576_0) ((rd_T35 x575001_1 x8_1).f0))∧(Kd.R (Kd.int .i64) 3 w' w.heap.size (fun k_=>some k_ ≠ (.slice A576_0 ((rd_T35 x575001_1 x8_1).f0).length c576_0:Value).ownBlock) s_.2.2.1 y593)∧(Kd.S k35 35 w' w.heap.size (fun k_=>some k_ ≠ (s_.2.2.1:Value).ownBlock∧k_ ≠ gb577∧k_ ≠ s_.2.2.2) (.slice (some ad576) x575001_1.length co36) x575001_1)∧(w'.cell? (ad576.add (x8_1).toNat)=some (.slice A576_0 ((rd_T35 x575001_1 x8_1).f0).length c576_0))∧(w'.heap[gb568]?=some (.cells #[.int .i64 a0_0,.slice A0_1 l0_1.length c0_1] 26 (0,0)))∧(w'.heap[gb569]?=some (.cells #[.int .i64 0,.slice none 0 0] 26 (0,0)))∧(w'.heap[gb574]?=some (.cells #[.int .i64 t570,.slice (some ad576) x575001_1.length co36] 26 (0,0)))∧(w'.heap[gb577]?=some (.cells #[.slice A576_0 ((rd_T35 x575001_1 x8_1).f0).length c576_0] 35 (0,0)))∧(w'.heap[s_.2.2.2]?=some (.cells #[.slice none 0 0] 35 (0,0)))∧(w.heap.size≤s_.2.2.2)∧(w.heap.size≤s_.2.2.2)∧(gb568 ≠ s_.2.2.2)∧(s_.2.2.2 ≠ gb568)∧(gb569 ≠ s_.2.2.2)∧(s_.2.2.2 ≠ gb569)∧(gb574 ≠ s_.2.2.2)∧(s_.2.2.2 ≠ gb574)∧(gb577 ≠ s_.2.2.2)∧(s_.2.2.2 ≠ gb577)∧(Below w.heap.size w w')) ?_ ?_
       rotate_left
       ·intro hCont
        refine two_ (i:=0) (j:=13) (Ni:=some 37) (Nj:=some 12) (fl 15 2015) (fl 15 10206) rfl rfl rfl rfl (two_of HT_.out (by kernel_rfl)) (by decide) (by decide) (fun K hK=>?_) (fun K hK=>?_)
        ·skip
         refine Kd.R_lit_step (Kd.int .i64) _ 3 ?hg (N:=37) ?hd (xs:=([]:List Int)) (inner:=[]) (ok:=fun _=>True) (okp:=fun _=>True) ?hr ?hp (fun _ hk=>hk) trivial (Below.refl _ _) (Nat.le_refl _) (by simp) ?_;(case hd=>rfl);(case hg=>rfl);(case hr=>(go_simp;done));(case hp=>exact (Reps.none _ _))
         intro v580 w46 ho47 hb hg_ hnew_
         clear hg_ hnew_
         (rw [← Ny579.out] at ho47)
         replace HO_575001:=aM (Kd.S_elder' (rS HO_575001) (Kd.R_base ho47) hb);have HO581:=aM (Kd.R_lower (Kd.R_new' ho47 (Kd.R_lt HL576_0.out)) (below_size be));replace HL576_0:=aM (Kd.R_elder' HL576_0.out (Kd.R_base ho47) hb);replace BK568:=bB BK568 hb;replace BK569:=bB BK569 hb;replace BK574:=bB BK574 hb;replace HX576_0:=xB hb HX576_0;replace BK577:=bB BK577 hb;replace HR585:=cB HR585 hb;replace HB:=bs hb;clear HR576_0 HR592;clear hb ho47
         refine hK.out _ _ (bq BK577 0) (fun hHeld=>?_)
         clear hK K
         refine no 37 ?_
         refine two_ (i:=5) (j:=13) (Ni:=some 42) (Nj:=some 12) (fl 15 2047) (fl 15 10207) rfl rfl rfl rfl (two_of HT_.out (by kernel_rfl)) (by decide) (by decide) (fun K hK=>?_) (fun K hK=>?_)
         ·skip
          refine Kd.R_append_rows_step (Kd.int .i64) (w0:=w) w.heap.size (by rfl) (.tmp 37) (.tmp 41) 33 3 (.int .i64 0) 8 rfl Try.underlying33 info3 rfl (by decide) (by omega) v580 y579 y582 _ _ _ (fun k_=>some k_ ≠ (.slice A576_0 ((rd_T35 x575001_1 x8_1).f0).length c576_0:Value).ownBlock) (fun _=>False) rfl rfl ?aO ?aR (fun _ _ h=>h) (fun _ h=>h.elim) ?aF ?aB ?aS ?aL ?_
          (case aR=>repeat (exact HR585.out))
          (case aB=>exact be)
          (case aF=>exact (fun k_ hk=>Kd.fresh' (Kd.R_lt HL576_0.out) k_ hk))
          (case aO=>exact (by exact Kd.R_mono HO581.out (fun _ hk=>hk.2)))
          (case aS=>exact (below_size be))
          (case aL=>have:=LMc24.out;omega)
          intro v587 w48 ho hb hg hat
          rw [← Ny586.out] at ho
          replace BK568:=bG BK568 hg (Kd.R_ne HO581.out BK568.out (by decide));replace BK569:=bG BK569 hg (Kd.R_ne HO581.out BK569.out (by decide));replace BK574:=bG BK574 hg (Kd.R_ne HO581.out BK574.out (by decide));replace HX576_0:=aM (Aid.cell_keep hg HX576_0.out (by intro e_;exact Aid.typed_ne (Kd.S_typed HO_575001.out) (Kd.R_typed HO581.out) (by decide) rfl (by rw [add_block] at e_;exact e_.symm)));replace HO_575001:=aM (Kd.S_after (ok:=(fun k_=>k_ ≠ gb577)) (by exact Kd.S_mono HO_575001.out (fun _ hk=>⟨hk.1.2,hk.2⟩)) hg hat);replace BK577:=bG BK577 hg (Kd.R_ne HO581.out BK577.out (by decide));replace HB:=aM (hb);replace HR592:=aM ((show Kd.C (Kd.int .i64) w48 A45 y589.length y589 from by rw [Ny589.out,KA45.out];exact Kd.C_drop (m:=((ji25):Int).toNat) (c:=c576_0) ((Kd.R_reads' (Kd.R_after (ok:=(fun k_=>some k_ ≠ (.slice (some ad576) x575001_1.length co36:Value).ownBlock)) (by exact Kd.R_mono HL576_0.out (fun _ hk=>⟨hk.1.2,hk.2⟩)) hg hat)).2.2) KL45.out ((Kd.R_reads' (Kd.R_after (ok:=(fun k_=>some k_ ≠ (.slice (some ad576) x575001_1.length co36:Value).ownBlock)) (by exact Kd.R_mono HL576_0.out (fun _ hk=>⟨hk.1.2,hk.2⟩)) hg hat)).2.1)));replace HL576_0:=aM (Kd.R_after (ok:=(fun k_=>some k_ ≠ (.slice (some ad576) x575001_1.length co36:Value).ownBlock)) (by exact Kd.R_mono HL576_0.out (fun _ hk=>⟨hk.1.2,hk.2⟩)) hg hat);have HO588:=aM (ho);clear HR585 HO581;clear ho hb hg hat
          refine hK.out _ _ (bq BK577 0) (fun hHeld=>?_)
          clear hK K
          refine no 42 ?_
          refine two_ (i:=11) (j:=13) (Ni:=some 48) (Nj:=some 12) (fl 15 4095) (fl 15 10239) rfl rfl rfl rfl (two_of HT_.out (by kernel_rfl)) (by decide) (by decide) (fun K hK=>?_) (fun K hK=>?_)
          ·skip
           refine Kd.R_append_rows_step (Kd.int .i64) (w0:=w) w.heap.size (by rfl) (.tmp 42) (.tmp 47) 33 3 (.int .i64 0) 8 rfl Try.underlying33 info3 rfl (by decide) (by omega) v587 y586 y589 _ _ _ (fun k_=>some k_ ≠ (.slice A576_0 ((rd_T35 x575001_1 x8_1).f0).length c576_0:Value).ownBlock) (fun _=>False) rfl rfl ?aO ?aR (fun _ _ h=>h) (fun _ h=>h.elim) ?aF ?aB ?aS ?aL ?_
           (case aR=>repeat (exact HR592.out))
           (case aB=>exact be)
           (case aF=>exact (fun k_ hk=>Kd.fresh' (Kd.R_lt HL576_0.out) k_ hk))
           (case aO=>exact (rR HO588))
           (case aS=>exact (below_size be))
           (case aL=>have:=LMc28.out;omega)
           intro v594 w49 ho hb hg hat
           rw [← Ny593.out] at ho
           replace BK568:=bG BK568 hg (Kd.R_ne HO588.out BK568.out (by decide));replace BK569:=bG BK569 hg (Kd.R_ne HO588.out BK569.out (by decide));replace BK574:=bG BK574 hg (Kd.R_ne HO588.out BK574.out (by decide));replace HL576_0:=aM (Kd.R_after (ok:=(fun k_=>some k_ ≠ (.slice (some ad576) x575001_1.length co36:Value).ownBlock)) HL576_0.out hg hat);replace HX576_0:=aM (Aid.cell_keep hg HX576_0.out (by intro e_;exact Aid.typed_ne (Kd.S_typed HO_575001.out) (Kd.R_typed HO588.out) (by decide) rfl (by rw [add_block] at e_;exact e_.symm)));replace HO_575001:=aM (Kd.S_after (ok:=(fun k_=>k_ ≠ gb577)) (rS HO_575001) hg hat);replace BK577:=bG BK577 hg (Kd.R_ne HO588.out BK577.out (by decide));replace HB:=aM (hb);have HO595:=aM (ho);clear HR592 HO588;clear ho hb hg hat
           obtain ⟨Ao50,co50,eo50⟩:=Kd.R_slice HO595.out
           (subst eo50)
           refine hK.out _ _ (bq BK577 0) (fun hHeld=>?_)
           clear hK K
           refine no 48 ?_
           refine pt 12 49 (fl 15 8191) HT_ ?_
           refine ot 13 (some 12) (fl 15 16383) HT_ (fun K hK=>?_)
           refine box_step ?hg (N:=12) ?hd (cs:=#[.slice none 0 0]) (t:=35) ?hr ?_;(case hd=>rfl);(case hg=>rfl);(case hr=>(go_simp;done))
           intro gb596 hg w51 hbox hb
           replace HO_575001:=aM (Kd.S_below (Kd.S_elderB (rS HO_575001) gb596 (Nat.le_of_eq hg.symm)) hb);replace HL576_0:=rB HL576_0 hb;replace HO595:=rB HO595 hb;replace HX576_0:=xB hb HX576_0;have BK596:=aM (hbox);have GW596:=gS w hg;have GE596:=gS w hg;replace HB:=bs hb;have NB568_596:=nL hg BK568;have NB596_568:=nG hg BK568;replace BK568:=bB BK568 hb;have NB569_596:=nL hg BK569;have NB596_569:=nG hg BK569;replace BK569:=bB BK569 hb;have NB574_596:=nL hg BK574;have NB596_574:=nG hg BK574;replace BK574:=bB BK574 hb;have NB577_596:=nL hg BK577;have NB596_577:=nG hg BK577;replace BK577:=bB BK577 hb;clear hb hbox hg
           refine hK.out _ _ (bq BK577 0) (fun hHeld=>?_)
           clear hK K
           refine no 12 ?_
           exact norm_ (by simp only [putAll,Act.put,List.setIfInBounds_toArray,List.set_cons_zero,List.set_cons_succ]) (hCont (v580,v587,.slice Ao50 y593.length co50,gb596) _ ⟨hHeld,(by exact Kd.R_mono HL576_0.out (fun _ hk=>⟨hk.2,hk.1⟩)),(rR HO595),(by exact Kd.S_mono HO_575001.out (fun _ hk=>⟨hk.1.2,⟨hk.1.1,hk.2⟩⟩)),HX576_0.out,(bk BK568),(bk BK569),(bk BK574),(bk BK577),(bk BK596),GW596.out,GE596.out,NB568_596.out,NB596_568.out,NB569_596.out,NB596_569.out,NB574_596.out,NB596_574.out,NB577_596.out,NB596_577.out,be⟩)
          ·skip
           refine box_step ?hg (N:=12) ?hd (cs:=#[.slice none 0 0]) (t:=35) ?hr ?_;(case hd=>rfl);(case hg=>rfl);(case hr=>(go_simp;done))
           intro gb596 hg w49 hbox hb
           replace HO_575001:=aM (Kd.S_below (Kd.S_elderB (rS HO_575001) gb596 (Nat.le_of_eq hg.symm)) hb);replace HL576_0:=rB HL576_0 hb;replace HO588:=rB HO588 hb;replace HX576_0:=xB hb HX576_0;replace HR592:=cB HR592 hb;have BK596:=aM (hbox);have GW596:=gS w hg;have GE596:=gS w hg;replace HB:=bs hb;have NB568_596:=nL hg BK568;have NB596_568:=nG hg BK568;replace BK568:=bB BK568 hb;have NB569_596:=nL hg BK569;have NB596_569:=nG hg BK569;replace BK569:=bB BK569 hb;have NB574_596:=nL hg BK574;have NB596_574:=nG hg BK574;replace BK574:=bB BK574 hb;have NB577_596:=nL hg BK577;have NB596_577:=nG hg BK577;replace BK577:=bB BK577 hb;clear hb hbox hg
           refine hK.out _ _ (bq BK577 0) (fun hHeld=>?_)
           clear hK K
           refine no 12 ?_
           refine ot 11 (some 48) (fl 15 12287) HT_ (fun K hK=>?_)
           refine Kd.R_append_rows_step (Kd.int .i64) (w0:=w) w.heap.size (by rfl) (.tmp 42) (.tmp 47) 33 3 (.int .i64 0) 8 rfl Try.underlying33 info3 rfl (by decide) (by omega) v587 y586 y589 _ _ _ (fun k_=>some k_ ≠ (.slice A576_0 ((rd_T35 x575001_1 x8_1).f0).length c576_0:Value).ownBlock) (fun _=>False) rfl rfl ?aO ?aR (fun _ _ h=>h) (fun _ h=>h.elim) ?aF ?aB ?aS ?aL ?_
           (case aR=>repeat (exact HR592.out))
           (case aB=>exact be)
           (case aF=>exact (fun k_ hk=>Kd.fresh' (Kd.R_lt HL576_0.out) k_ hk))
           (case aO=>exact (rR HO588))
           (case aS=>exact (below_size be))
           (case aL=>have:=LMc28.out;omega)
           intro v594 w50 ho hb hg hat
           rw [← Ny593.out] at ho
           replace BK568:=bG BK568 hg (Kd.R_ne HO588.out BK568.out (by decide));replace BK569:=bG BK569 hg (Kd.R_ne HO588.out BK569.out (by decide));replace BK574:=bG BK574 hg (Kd.R_ne HO588.out BK574.out (by decide));replace HL576_0:=aM (Kd.R_after (ok:=(fun k_=>some k_ ≠ (.slice (some ad576) x575001_1.length co36:Value).ownBlock)) HL576_0.out hg hat);replace HX576_0:=aM (Aid.cell_keep hg HX576_0.out (by intro e_;exact Aid.typed_ne (Kd.S_typed HO_575001.out) (Kd.R_typed HO588.out) (by decide) rfl (by rw [add_block] at e_;exact e_.symm)));replace HO_575001:=aM (Kd.S_after (ok:=(fun k_=>k_ ≠ gb577∧k_ ≠ gb596)) (by exact Kd.S_mono HO_575001.out (fun _ hk=>⟨⟨hk.1.1,hk.2⟩,hk.1.2⟩)) hg hat);replace BK577:=bG BK577 hg (Kd.R_ne HO588.out BK577.out (by decide));replace BK596:=bG BK596 hg (Kd.R_ne HO588.out BK596.out (by decide));replace HB:=aM (hb);have HO595:=aM (ho);clear HR592 HO588;clear ho hb hg hat
           obtain ⟨Ao51,co51,eo51⟩:=Kd.R_slice HO595.out
           (subst eo51)
           refine hK.out _ _ (bq BK577 0) (fun hHeld=>?_)
           clear hK K
           refine no 48 ?_
           refine pt 12 49 (fl 15 16383) HT_ ?_
           exact norm_ (by simp only [putAll,Act.put,List.setIfInBounds_toArray,List.set_cons_zero,List.set_cons_succ]) (hCont (v580,v587,.slice Ao51 y593.length co51,gb596) _ ⟨hHeld,(by exact Kd.R_mono HL576_0.out (fun _ hk=>⟨hk.2,hk.1⟩)),(rR HO595),(by exact Kd.S_mono HO_575001.out (fun _ hk=>⟨hk.2,⟨hk.1.1,hk.1.2⟩⟩)),HX576_0.out,(bk BK568),(bk BK569),(bk BK574),(bk BK577),(bk BK596),GW596.out,GE596.out,NB568_596.out,NB596_568.out,NB569_596.out,NB596_569.out,NB574_596.out,NB596_574.out,NB577_596.out,NB596_577.out,be⟩)
         ·skip
          refine box_step ?hg (N:=12) ?hd (cs:=#[.slice none 0 0]) (t:=35) ?hr ?_;(case hd=>rfl);(case hg=>rfl);(case hr=>(go_simp;done))
          intro gb596 hg w48 hbox hb
          replace HO_575001:=aM (Kd.S_below (Kd.S_elderB (rS HO_575001) gb596 (Nat.le_of_eq hg.symm)) hb);replace HL576_0:=rB HL576_0 hb;replace HO581:=rB HO581 hb;replace HX576_0:=xB hb HX576_0;replace HR585:=cB HR585 hb;have BK596:=aM (hbox);have GW596:=gS w hg;have GE596:=gS w hg;replace HB:=bs hb;have NB568_596:=nL hg BK568;have NB596_568:=nG hg BK568;replace BK568:=bB BK568 hb;have NB569_596:=nL hg BK569;have NB596_569:=nG hg BK569;replace BK569:=bB BK569 hb;have NB574_596:=nL hg BK574;have NB596_574:=nG hg BK574;replace BK574:=bB BK574 hb;have NB577_596:=nL hg BK577;have NB596_577:=nG hg BK577;replace BK577:=bB BK577 hb;clear hb hbox hg
          refine hK.out _ _ (bq BK577 0) (fun hHeld=>?_)
          clear hK K
          refine no 12 ?_
          refine ot 5 (some 42) (fl 15 10239) HT_ (fun K hK=>?_)
          refine Kd.R_append_rows_step (Kd.int .i64) (w0:=w) w.heap.size (by rfl) (.tmp 37) (.tmp 41) 33 3 (.int .i64 0) 8 rfl Try.underlying33 info3 rfl (by decide) (by omega) v580 y579 y582 _ _ _ (fun k_=>some k_ ≠ (.slice A576_0 ((rd_T35 x575001_1 x8_1).f0).length c576_0:Value).ownBlock) (fun _=>False) rfl rfl ?aO ?aR (fun _ _ h=>h) (fun _ h=>h.elim) ?aF ?aB ?aS ?aL ?_
          (case aR=>repeat (exact HR585.out))
          (case aB=>exact be)
          (case aF=>exact (fun k_ hk=>Kd.fresh' (Kd.R_lt HL576_0.out) k_ hk))
          (case aO=>exact (by exact Kd.R_mono HO581.out (fun _ hk=>hk.2)))
          (case aS=>exact (below_size be))
          (case aL=>have:=LMc24.out;omega)
          intro v587 w49 ho hb hg hat
          rw [← Ny586.out] at ho
          replace BK568:=bG BK568 hg (Kd.R_ne HO581.out BK568.out (by decide));replace BK569:=bG BK569 hg (Kd.R_ne HO581.out BK569.out (by decide));replace BK574:=bG BK574 hg (Kd.R_ne HO581.out BK574.out (by decide));replace HX576_0:=aM (Aid.cell_keep hg HX576_0.out (by intro e_;exact Aid.typed_ne (Kd.S_typed HO_575001.out) (Kd.R_typed HO581.out) (by decide) rfl (by rw [add_block] at e_;exact e_.symm)));replace HO_575001:=aM (Kd.S_after (ok:=(fun k_=>k_ ≠ gb577∧k_ ≠ gb596)) (by exact Kd.S_mono HO_575001.out (fun _ hk=>⟨⟨hk.1.1.2,hk.2⟩,hk.1.2⟩)) hg hat);replace BK577:=bG BK577 hg (Kd.R_ne HO581.out BK577.out (by decide));replace BK596:=bG BK596 hg (Kd.R_ne HO581.out BK596.out (by decide));replace HB:=aM (hb);replace HR592:=aM ((show Kd.C (Kd.int .i64) w49 A45 y589.length y589 from by rw [Ny589.out,KA45.out];exact Kd.C_drop (m:=((ji25):Int).toNat) (c:=c576_0) ((Kd.R_reads' (Kd.R_after (ok:=(fun k_=>some k_ ≠ (.slice (some ad576) x575001_1.length co36:Value).ownBlock)) (by exact Kd.R_mono HL576_0.out (fun _ hk=>⟨hk.1.2,hk.2⟩)) hg hat)).2.2) KL45.out ((Kd.R_reads' (Kd.R_after (ok:=(fun k_=>some k_ ≠ (.slice (some ad576) x575001_1.length co36:Value).ownBlock)) (by exact Kd.R_mono HL576_0.out (fun _ hk=>⟨hk.1.2,hk.2⟩)) hg hat)).2.1)));replace HL576_0:=aM (Kd.R_after (ok:=(fun k_=>some k_ ≠ (.slice (some ad576) x575001_1.length co36:Value).ownBlock)) (by exact Kd.R_mono HL576_0.out (fun _ hk=>⟨hk.1.2,hk.2⟩)) hg hat);have HO588:=aM (ho);clear HR585 HO581;clear ho hb hg hat
          refine hK.out _ _ (bq BK577 0) (fun hHeld=>?_)
          clear hK K
          refine no 42 ?_
          refine ot 11 (some 48) (fl 15 12287) HT_ (fun K hK=>?_)
          refine Kd.R_append_rows_step (Kd.int .i64) (w0:=w) w.heap.size (by rfl) (.tmp 42) (.tmp 47) 33 3 (.int .i64 0) 8 rfl Try.underlying33 info3 rfl (by decide) (by omega) v587 y586 y589 _ _ _ (fun k_=>some k_ ≠ (.slice A576_0 ((rd_T35 x575001_1 x8_1).f0).length c576_0:Value).ownBlock) (fun _=>False) rfl rfl ?aO ?aR (fun _ _ h=>h) (fun _ h=>h.elim) ?aF ?aB ?aS ?aL ?_
          (case aR=>repeat (exact HR592.out))
          (case aB=>exact be)
          (case aF=>exact (fun k_ hk=>Kd.fresh' (Kd.R_lt HL576_0.out) k_ hk))
          (case aO=>exact (rR HO588))
          (case aS=>exact (below_size be))
          (case aL=>have:=LMc28.out;omega)
          intro v594 w50 ho hb hg hat
          rw [← Ny593.out] at ho
          replace BK568:=bG BK568 hg (Kd.R_ne HO588.out BK568.out (by decide));replace BK569:=bG BK569 hg (Kd.R_ne HO588.out BK569.out (by decide));replace BK574:=bG BK574 hg (Kd.R_ne HO588.out BK574.out (by decide));replace HL576_0:=aM (Kd.R_after (ok:=(fun k_=>some k_ ≠ (.slice (some ad576) x575001_1.length co36:Value).ownBlock)) HL576_0.out hg hat);replace HX576_0:=aM (Aid.cell_keep hg HX576_0.out (by intro e_;exact Aid.typed_ne (Kd.S_typed HO_575001.out) (Kd.R_typed HO588.out) (by decide) rfl (by rw [add_block] at e_;exact e_.symm)));replace HO_575001:=aM (Kd.S_after (ok:=(fun k_=>k_ ≠ gb577∧k_ ≠ gb596)) (rS HO_575001) hg hat);replace BK577:=bG BK577 hg (Kd.R_ne HO588.out BK577.out (by decide));replace BK596:=bG BK596 hg (Kd.R_ne HO588.out BK596.out (by decide));replace HB:=aM (hb);have HO595:=aM (ho);clear HR592 HO588;clear ho hb hg hat
          obtain ⟨Ao51,co51,eo51⟩:=Kd.R_slice HO595.out
          (subst eo51)
          refine hK.out _ _ (bq BK577 0) (fun hHeld=>?_)
          clear hK K
          refine no 48 ?_
          refine pt 12 49 (fl 15 16383) HT_ ?_
          exact norm_ (by simp only [putAll,Act.put,List.setIfInBounds_toArray,List.set_cons_zero,List.set_cons_succ]) (hCont (v580,v587,.slice Ao51 y593.length co51,gb596) _ ⟨hHeld,(by exact Kd.R_mono HL576_0.out (fun _ hk=>⟨hk.2,hk.1⟩)),(rR HO595),(by exact Kd.S_mono HO_575001.out (fun _ hk=>⟨hk.2,⟨hk.1.1,hk.1.2⟩⟩)),HX576_0.out,(bk BK568),(bk BK569),(bk BK574),(bk BK577),(bk BK596),GW596.out,GE596.out,NB568_596.out,NB596_568.out,NB569_596.out,NB596_569.out,NB574_596.out,NB596_574.out,NB577_596.out,NB596_577.out,be⟩)
        ·skip
         refine box_step ?hg (N:=12) ?hd (cs:=#[.slice none 0 0]) (t:=35) ?hr ?_;(case hd=>rfl);(case hg=>rfl);(case hr=>(go_simp;done))
         intro gb596 hg w46 hbox hb
         replace HO_575001:=aM (Kd.S_below (Kd.S_elderB (rS HO_575001) gb596 (Nat.le_of_eq hg.symm)) hb);replace HL576_0:=rB HL576_0 hb;replace HX576_0:=xB hb HX576_0;replace HR585:=cB HR585 hb;have BK596:=aM (hbox);have GW596:=gS w hg;have GE596:=gS w hg;replace HB:=bs hb;have NB568_596:=nL hg BK568;have NB596_568:=nG hg BK568;replace BK568:=bB BK568 hb;have NB569_596:=nL hg BK569;have NB596_569:=nG hg BK569;replace BK569:=bB BK569 hb;have NB574_596:=nL hg BK574;have NB596_574:=nG hg BK574;replace BK574:=bB BK574 hb;have NB577_596:=nL hg BK577;have NB596_577:=nG hg BK577;replace BK577:=bB BK577 hb;clear HR576_0 HR592;clear hb hbox hg
         refine hK.out _ _ (bq BK577 0) (fun hHeld=>?_)
         clear hK K
         refine no 12 ?_
         refine ot 0 (some 37) (fl 15 10207) HT_ (fun K hK=>?_)
         refine Kd.R_lit_step (Kd.int .i64) _ 3 ?hg (N:=37) ?hd (xs:=([]:List Int)) (inner:=[]) (ok:=fun _=>True) (okp:=fun _=>True) ?hr ?hp (fun _ hk=>hk) trivial (Below.refl _ _) (Nat.le_refl _) (by simp) ?_;(case hd=>rfl);(case hg=>rfl);(case hr=>(go_simp;done));(case hp=>exact (Reps.none _ _))
         intro v580 w47 ho48 hb hg_ hnew_
         clear hg_ hnew_
         (rw [← Ny579.out] at ho48)
         replace HO_575001:=aM (Kd.S_elder' (rS HO_575001) (Kd.R_base ho48) hb);have HO581:=aM (Kd.R_lower (Kd.R_new' ho48 (Kd.R_lt HL576_0.out)) (below_size be));replace HL576_0:=aM (Kd.R_elder' HL576_0.out (Kd.R_base ho48) hb);replace BK568:=bB BK568 hb;replace BK569:=bB BK569 hb;replace BK574:=bB BK574 hb;replace HX576_0:=xB hb HX576_0;replace BK577:=bB BK577 hb;replace HR585:=cB HR585 hb;replace BK596:=bB BK596 hb;replace HB:=bs hb;clear hb ho48
         refine hK.out _ _ (bq BK577 0) (fun hHeld=>?_)
         clear hK K
         refine no 37 ?_
         refine ot 5 (some 42) (fl 15 10239) HT_ (fun K hK=>?_)
         refine Kd.R_append_rows_step (Kd.int .i64) (w0:=w) w.heap.size (by rfl) (.tmp 37) (.tmp 41) 33 3 (.int .i64 0) 8 rfl Try.underlying33 info3 rfl (by decide) (by omega) v580 y579 y582 _ _ _ (fun k_=>some k_ ≠ (.slice A576_0 ((rd_T35 x575001_1 x8_1).f0).length c576_0:Value).ownBlock) (fun _=>False) rfl rfl ?aO ?aR (fun _ _ h=>h) (fun _ h=>h.elim) ?aF ?aB ?aS ?aL ?_
         (case aR=>repeat (exact HR585.out))
         (case aB=>exact be)
         (case aF=>exact (fun k_ hk=>Kd.fresh' (Kd.R_lt HL576_0.out) k_ hk))
         (case aO=>exact (by exact Kd.R_mono HO581.out (fun _ hk=>hk.2)))
         (case aS=>exact (below_size be))
         (case aL=>have:=LMc24.out;omega)
         intro v587 w49 ho hb hg hat
         rw [← Ny586.out] at ho
         replace BK568:=bG BK568 hg (Kd.R_ne HO581.out BK568.out (by decide));replace BK569:=bG BK569 hg (Kd.R_ne HO581.out BK569.out (by decide));replace BK574:=bG BK574 hg (Kd.R_ne HO581.out BK574.out (by decide));replace HX576_0:=aM (Aid.cell_keep hg HX576_0.out (by intro e_;exact Aid.typed_ne (Kd.S_typed HO_575001.out) (Kd.R_typed HO581.out) (by decide) rfl (by rw [add_block] at e_;exact e_.symm)));replace HO_575001:=aM (Kd.S_after (ok:=(fun k_=>k_ ≠ gb577∧k_ ≠ gb596)) (by exact Kd.S_mono HO_575001.out (fun _ hk=>⟨⟨hk.1.1.2,hk.1.2⟩,hk.2⟩)) hg hat);replace BK577:=bG BK577 hg (Kd.R_ne HO581.out BK577.out (by decide));replace BK596:=bG BK596 hg (Kd.R_ne HO581.out BK596.out (by decide));replace HB:=aM (hb);replace HR592:=aM ((show Kd.C (Kd.int .i64) w49 A45 y589.length y589 from by rw [Ny589.out,KA45.out];exact Kd.C_drop (m:=((ji25):Int).toNat) (c:=c576_0) ((Kd.R_reads' (Kd.R_after (ok:=(fun k_=>some k_ ≠ (.slice (some ad576) x575001_1.length co36:Value).ownBlock)) (by exact Kd.R_mono HL576_0.out (fun _ hk=>⟨hk.1.2,hk.2⟩)) hg hat)).2.2) KL45.out ((Kd.R_reads' (Kd.R_after (ok:=(fun k_=>some k_ ≠ (.slice (some ad576) x575001_1.length co36:Value).ownBlock)) (by exact Kd.R_mono HL576_0.out (fun _ hk=>⟨hk.1.2,hk.2⟩)) hg hat)).2.1)));replace HL576_0:=aM (Kd.R_after (ok:=(fun k_=>some k_ ≠ (.slice (some ad576) x575001_1.length co36:Value).ownBlock)) (by exact Kd.R_mono HL576_0.out (fun _ hk=>⟨hk.1.2,hk.2⟩)) hg hat);have HO588:=aM (ho);clear HR585 HO581;clear ho hb hg hat
         refine hK.out _ _ (bq BK577 0) (fun hHeld=>?_)
         clear hK K
         refine no 42 ?_
         refine ot 11 (some 48) (fl 15 12287) HT_ (fun K hK=>?_)
         refine Kd.R_append_rows_step (Kd.int .i64) (w0:=w) w.heap.size (by rfl) (.tmp 42) (.tmp 47) 33 3 (.int .i64 0) 8 rfl Try.underlying33 info3 rfl (by decide) (by omega) v587 y586 y589 _ _ _ (fun k_=>some k_ ≠ (.slice A576_0 ((rd_T35 x575001_1 x8_1).f0).length c576_0:Value).ownBlock) (fun _=>False) rfl rfl ?aO ?aR (fun _ _ h=>h) (fun _ h=>h.elim) ?aF ?aB ?aS ?aL ?_
         (case aR=>repeat (exact HR592.out))
         (case aB=>exact be)
         (case aF=>exact (fun k_ hk=>Kd.fresh' (Kd.R_lt HL576_0.out) k_ hk))
         (case aO=>exact (rR HO588))
         (case aS=>exact (below_size be))
         (case aL=>have:=LMc28.out;omega)
         intro v594 w50 ho hb hg hat
         rw [← Ny593.out] at ho
         replace BK568:=bG BK568 hg (Kd.R_ne HO588.out BK568.out (by decide));replace BK569:=bG BK569 hg (Kd.R_ne HO588.out BK569.out (by decide));replace BK574:=bG BK574 hg (Kd.R_ne HO588.out BK574.out (by decide));replace HL576_0:=aM (Kd.R_after (ok:=(fun k_=>some k_ ≠ (.slice (some ad576) x575001_1.length co36:Value).ownBlock)) HL576_0.out hg hat);replace HX576_0:=aM (Aid.cell_keep hg HX576_0.out (by intro e_;exact Aid.typed_ne (Kd.S_typed HO_575001.out) (Kd.R_typed HO588.out) (by decide) rfl (by rw [add_block] at e_;exact e_.symm)));replace HO_575001:=aM (Kd.S_after (ok:=(fun k_=>k_ ≠ gb577∧k_ ≠ gb596)) (rS HO_575001) hg hat);replace BK577:=bG BK577 hg (Kd.R_ne HO588.out BK577.out (by decide));replace BK596:=bG BK596 hg (Kd.R_ne HO588.out BK596.out (by decide));replace HB:=aM (hb);have HO595:=aM (ho);clear HR592 HO588;clear ho hb hg hat
         obtain ⟨Ao51,co51,eo51⟩:=Kd.R_slice HO595.out
         (subst eo51)
         refine hK.out _ _ (bq BK577 0) (fun hHeld=>?_)
         clear hK K
         refine no 48 ?_
         refine pt 12 49 (fl 15 16383) HT_ ?_
         exact norm_ (by simp only [putAll,Act.put,List.setIfInBounds_toArray,List.set_cons_zero,List.set_cons_succ]) (hCont (v580,v587,.slice Ao51 y593.length co51,gb596) _ ⟨hHeld,(by exact Kd.R_mono HL576_0.out (fun _ hk=>⟨hk.2,hk.1⟩)),(rR HO595),(by exact Kd.S_mono HO_575001.out (fun _ hk=>⟨hk.2,⟨hk.1.1,hk.1.2⟩⟩)),HX576_0.out,(bk BK568),(bk BK569),(bk BK574),(bk BK577),(bk BK596),GW596.out,GE596.out,NB568_596.out,NB596_568.out,NB569_596.out,NB596_569.out,NB574_596.out,NB596_574.out,NB577_596.out,NB596_577.out,be⟩)
       rintro ⟨v580,v587,v594,gb596⟩ w52 ⟨hS_,h0_,h1_,h2_,h3_,h4_,h5_,h6_,h7_,h8_,h9_,h10_,h11_,h12_,h13_,h14_,h15_,h16_,h17_,h18_,h19_⟩
       have n0_:Aside0 (Kd.R (Kd.int .i64) 3 w52 w.heap.size (fun k_=>some k_ ≠ (v594:Value).ownBlock∧some k_ ≠ (.slice (some ad576) x575001_1.length co36:Value).ownBlock) (.slice A576_0 ((rd_T35 x575001_1 x8_1).f0).length c576_0) ((rd_T35 x575001_1 x8_1).f0)):=⟨h0_⟩
       have n1_:Aside0 (Kd.R (Kd.int .i64) 3 w52 w.heap.size (fun k_=>some k_ ≠ (.slice A576_0 ((rd_T35 x575001_1 x8_1).f0).length c576_0:Value).ownBlock) v594 y593):=⟨h1_⟩
       have n2_:Aside0 (Kd.S k35 35 w52 w.heap.size (fun k_=>some k_ ≠ (v594:Value).ownBlock∧k_ ≠ gb577∧k_ ≠ gb596) (.slice (some ad576) x575001_1.length co36) x575001_1):=⟨h2_⟩
       have n3_:Aside0 (w52.cell? (ad576.add (x8_1).toNat)=some (.slice A576_0 ((rd_T35 x575001_1 x8_1).f0).length c576_0)):=⟨h3_⟩
       have n4_:Aside0 (w52.heap[gb568]?=some (.cells #[.int .i64 a0_0,.slice A0_1 l0_1.length c0_1] 26 (0,0))):=⟨h4_⟩
       have n5_:Aside0 (w52.heap[gb569]?=some (.cells #[.int .i64 0,.slice none 0 0] 26 (0,0))):=⟨h5_⟩
       have n6_:Aside0 (w52.heap[gb574]?=some (.cells #[.int .i64 t570,.slice (some ad576) x575001_1.length co36] 26 (0,0))):=⟨h6_⟩
       have n7_:Aside0 (w52.heap[gb577]?=some (.cells #[.slice A576_0 ((rd_T35 x575001_1 x8_1).f0).length c576_0] 35 (0,0))):=⟨h7_⟩
       have n8_:Aside0 (w52.heap[gb596]?=some (.cells #[.slice none 0 0] 35 (0,0))):=⟨h8_⟩
       have n9_:Aside0 (w.heap.size≤gb596):=⟨h9_⟩
       have n10_:Aside0 (w.heap.size≤gb596):=⟨h10_⟩
       have n11_:Aside0 (gb568 ≠ gb596):=⟨h11_⟩
       have n12_:Aside0 (gb596 ≠ gb568):=⟨h12_⟩
       have n13_:Aside0 (gb569 ≠ gb596):=⟨h13_⟩
       have n14_:Aside0 (gb596 ≠ gb569):=⟨h14_⟩
       have n15_:Aside0 (gb574 ≠ gb596):=⟨h15_⟩
       have n16_:Aside0 (gb596 ≠ gb574):=⟨h16_⟩
       have n17_:Aside0 (gb577 ≠ gb596):=⟨h17_⟩
       have n18_:Aside0 (gb596 ≠ gb577):=⟨h18_⟩
       have n19_:Aside0 (Below w.heap.size w w52):=⟨h19_⟩
       clear HO_575001 HL576_0 BK568 BK569 BK574 BK577 HR576_0 HX576_0 HB h0_ h1_ h2_ h3_ h4_ h5_ h6_ h7_ h8_ h9_ h10_ h11_ h12_ h13_ h14_ h15_ h16_ h17_ h18_ h19_;have HL576_0:=n0_;have HO595:=n1_;have HO_575001:=n2_;have HX576_0:=n3_;have BK568:=n4_;have BK569:=n5_;have BK574:=n6_;have BK577:=n7_;have BK596:=n8_;have GW596:=n9_;have GE596:=n10_;have NB568_596:=n11_;have NB596_568:=n12_;have NB569_596:=n13_;have NB596_569:=n14_;have NB574_596:=n15_;have NB596_574:=n16_;have NB577_596:=n17_;have NB596_577:=n18_;have HB:=n19_;clear n0_ n1_ n2_ n3_ n4_ n5_ n6_ n7_ n8_ n9_ n10_ n11_ n12_ n13_ n14_ n15_ n16_ n17_ n18_ n19_
       have hHeld:w52.cell? ⟨gb577,0,none⟩=some (.slice A576_0 ((rd_T35 x575001_1 x8_1).f0).length c576_0):=hS_
       obtain ⟨Ao53,co53,eo53⟩:=Kd.R_slice HO595.out
       (subst eo53)
       refine norm_ (a':=?_) ?_ ?_
       rotate_left
       ·simp only [putAll,Act.put,List.setIfInBounds_toArray,List.set_cons_zero,List.set_cons_succ]
        rfl
       refine ot 14 none (fl 15 32767) HT_ (fun K hK=>?_)
       have hs54:w52.cell? ⟨gb596,0,none⟩=some (.slice none 0 0):=(blk_cell BK596.out 0).trans rfl
       have hfs54:=blk_frozen BK596.out 0
       have hns54_0:=NB568_596.out
       have hns54_1:=NB569_596.out
       have hns54_2:=NB574_596.out
       have hns54_3:=NB577_596.out
       have hms54_0:=NB596_568.out
       have hms54_1:=NB596_569.out
       have hms54_2:=NB596_574.out
       have hms54_3:=NB596_577.out
       refine skip_ (w1:=?_) (by rfl) rfl ?_ ?_
       rotate_left
       ·go_simp
        rfl
       refine hK.out _ _ (((cell_far (p:=⟨gb596,_,none⟩) NB577_596.out _).trans (hHeld))) (fun hHeld=>?_)
       clear hK K
       refine done_ (done_of HT_.out (by kernel_rfl)) ?_
       have hnb55:=NB574_596.out
       have hnc55:=NB596_574.out
       obtain ⟨hcz56_0,hcz56_1,hfz56_0,hfz56_1⟩:=b2 BK574
       have hnb57:=NB596_568.out
       have hnc57:=NB568_596.out
       have hnb58:=NB596_569.out
       have hnc58:=NB569_596.out
       have hnb59:=NB596_577.out
       have hnc59:=NB577_596.out
       obtain ⟨hcz60_0,hfz60_0⟩:=b1 BK596
       try go_wp2_with (first|((with_reducible refine gate_callee (f:=50) rfl ?_);refine goesL_ (some 53) rfl rfl Try.func50 (by kernel_rfl) rfl #[.agg #[.int .i64 t570,.slice (some ad576) x575001_1.length co36],.agg #[.slice Ao53 y593.length co53],.slice A1 l1.length c1] rfl (by (try simp only [List.map_toArray,List.map_cons,List.map_nil]);rfl) ?_;(with_reducible refine (spec_Best.calls k1 t570 _ _ x575001_1 _ _ y593 _ _ l1 t597 _ ?side1 ?side2 ?side3 ?side4 ?side5 ?side6 A29.out).mono ?_);(case side1=>refine (Kd.S_reads' (e:=35) (base:=w.heap.size) (ok:=fun k_=>(some k_ ≠ (.slice Ao53 y593.length co53:Value).ownBlock∧(k_ ≠ gb577∧k_ ≠ gb596))) (n:=x575001_1.length) (c:=co36) ?_).2.2;exact (by exact (Kd.S_mono (Kd.S_far (p:=⟨gb596,0,none⟩) (Kd.S_mono HO_575001.out (fun k_ hk=>(⟨hk,hk.2.2⟩:_∧k_ ≠ gb596))) (fun _ hk=>hk.2) (.slice Ao53 y593.length co53)) (fun _ h_=>h_.1))));(case side2=>exact (Kd.S_reads' HO_575001.out).2.1);(case side3=>refine (Kd.R_reads' (e:=3) (base:=w.heap.size) (ok:=fun k_=>some k_ ≠ (.slice A576_0 ((rd_T35 x575001_1 x8_1).f0).length c576_0:Value).ownBlock) (n:=y593.length) (c:=co53) ?_).2.2;exact (by exact (Kd.R_mono (Kd.R_far (p:=⟨gb596,0,none⟩) (Kd.R_types HO595.out BK596.out (by decide)) (fun _ hk=>hk.2) (.slice Ao53 y593.length co53)) (fun _ h_=>h_.1))));(case side4=>exact (Kd.R_reads' HO595.out).2.1);(case side5=>exact Kd.C_below HR1.out be);(case side6=>exact HC1.out);rintro e w61 ⟨rfl,hb⟩;refine ⟨_,rfl,?_⟩;replace HO_575001:=aM (Kd.S_below ((by exact (Kd.S_mono (Kd.S_far (p:=⟨gb596,0,none⟩) (Kd.S_mono HO_575001.out (fun k_ hk=>(⟨hk,hk.2.2⟩:_∧k_ ≠ gb596))) (fun _ hk=>hk.2) (.slice Ao53 y593.length co53)) (fun _ h_=>h_.1)))) hb);replace BK568:=aM (blk_below (g:=gb568) (o:=.cells #[.int .i64 a0_0,.slice A0_1 l0_1.length c0_1] 26 (0,0)) (by refine blk_far ?_ NB568_596.out _;exact BK568.out) hb);replace BK569:=aM (blk_below (g:=gb569) (o:=.cells #[.int .i64 0,.slice none 0 0] 26 (0,0)) (by refine blk_far ?_ NB569_596.out _;exact BK569.out) hb);replace BK574:=aM (blk_below (g:=gb574) (o:=.cells #[.int .i64 t570,.slice (some ad576) x575001_1.length co36] 26 (0,0)) (by refine blk_far ?_ NB574_596.out _;exact BK574.out) hb);replace HB:=bs hb;clear HL576_0 HO595 HX576_0 BK577 BK596;(try clear hb);obtain ⟨hcz62_0,hcz62_1,hfz62_0,hfz62_1⟩:=b2 BK574;have p598:0≤(x8_1:Int):=od;have q598:x8_1 < (x575001_1.length:Int):=od;obtain ⟨ad598,A598_0,c598_0,e598,hx598_0,hl598_0,hi598_0⟩:=at_T35 (Kd.S_reads' HO_575001.out).2.2 x8_1 p598 q598;obtain rfl:ad576=ad598:=(by injection e598);obtain ⟨ce598,hce598,hMe598,hcc598⟩:=Kd.S_get HO_575001.out z35 x8_1 p598 (by exact q598);obtain ⟨ve598_0,rfl,ge598_0⟩:=k35_openM hMe598;have hv598_0:=hcc598 0 _ rfl;rw [Nat.add_zero,show (k35).sz=1 from rfl,Nat.mul_one] at hv598_0;replace hv598_0:=Option.some.inj (hv598_0.symm.trans hx598_0);rw [hv598_0] at ge598_0;have HL598_0:=aM (show Kd.R (Kd.int .i64) 3 _ _ _ _ ((rd_T35 x575001_1 x8_1).f0) from ge598_0);clear hv598_0 ge598_0;have HX598_0:=aM hx598_0;clear hcc598 hce598;have HR598_0:=aM hi598_0;have HC598_0:=aM hl598_0;clear hi598_0 hl598_0;replace p598:=eq_true p598;replace q598:=eq_true q598;have p32:0≤(t578:Int):=od;have q32:(t578:Int) < ((((rd_T35 x575001_1 x8_1).f0).length:Int):Int):=od;obtain ⟨go32,co32,eo32,gb32,gl32,cl32,HG32⟩:=Kd.R_form HL598_0.out (by omega);(cases eo32);have GB32:=aM gb32;have GG32:=aM HG32;clear gb32 gl32 HG32;obtain ⟨hx32_0,hf32_0⟩:=Kd.R_celln 0 HL598_0.out (t578:Int) p32 q32;replace p32:=eq_true p32;replace q32:=eq_true q32;have hq63:(x8_1:Int) < (x575001_1.length:Int):=(by have h_:(x8_1:Int) < ((x575001_1.length:Int):Int):=od;exact h_);obtain ⟨oki63,ce63,hcl63,hM63,hcc63,hok63,hbk63⟩:=Kd.S_borrow HO_575001.out z35 (x8_1:Int) od hq63;obtain ⟨ve63_0,rfl,ge63_0⟩:=k35_openM hM63;have hv63:=hcc63 0 _ rfl;rw [Nat.add_zero,show (k35).sz=1 from rfl,Nat.mul_one] at hv63;replace hv63:=Option.some.inj (hv63.symm.trans HX598_0.out);subst hv63;clear hcc63 hcl63;replace ge63_0:=(show Kd.R (Kd.int .i64) 3 _ _ _ _ ((rd_T35 x575001_1 x8_1).f0) from ge63_0);have HP63:=Kd.R_putg ge63_0 (t578:Int) t597)|((with_reducible refine gate_store (t:=3) (p:=77) rfl ?_);refine store_event (t:=3) (p:=77) (v:=?vo_w64) (w1:=(w61.setCell ⟨go32,(t578:Int).toNat,none⟩ (.int .i64 t597))) ?hg ?ho ?hn ?hr ?_;(case ho=>rfl);(case hg=>rfl);(case hn=>rfl);(case hr=>(go_simp;done));intro w64 hw;have hg:w61.grownBy w64 (some go32):=(by rw [hw];exact HP63.2);have hz_:Kd.R (Kd.int .i64) 3 w64 w.heap.size oki63 (.slice (some ⟨go32,0,none⟩) ((rd_T35 x575001_1 x8_1).f0).length c598_0) y599:=(by rw [hw,Ny599.out];exact HP63.1);have hp_:Kd.S k35 35 w64 w.heap.size (fun k_=>some k_ ≠ (.slice Ao53 y593.length co53:Value).ownBlock∧k_ ≠ gb577∧k_ ≠ gb596) (.slice (some ad576) x575001_1.length co36) y601:=(by rw [Ny601.out];exact Kd.S_mono (hbk63 hg (fun k_ e_=>by injection e_ with e_;subst e_;exact ge63_0.1 _ rfl) (k35_mkM _ _ _ (⟨y599⟩:S35) hz_)) (fun _ hk=>by exact hk));have hm_:=Kd.R_mono hz_ hok63;clear HP63 hbk63;replace HO_575001:=aM (hp_);replace BK568:=bG BK568 hg (Kd.R_ne HL598_0.out BK568.out (by decide));replace BK569:=bG BK569 hg (Kd.R_ne HL598_0.out BK569.out (by decide));replace BK574:=bG BK574 hg (Kd.R_ne HL598_0.out BK574.out (by decide));replace HB:=aM ((by rw [hw];exact below_set (HB.out) GB32.out:Below w.heap.size w w64));clear HL598_0;clear hg hw hp_ hz_ hm_ hok63))
       go_roundg k1
       case measure=>have:=HK1.out;omega
       case rel=>exact ⟨(wrap64 (x7_1+1)),(wrap64 (x8_1+1)),(y601),(.slice (some ad576) x575001_1.length co36),rd_,rd_,H',⟨by have:=HK1.out;omega⟩,⟨by exact Kd.S_mono HO_575001.out (fun _ hk=>trivial)⟩,⟨bk BK568⟩,⟨bk BK569⟩,⟨bk BK574⟩,⟨be⟩⟩
      ·rw [if_neg c30] at H
       have c30b0:decide (0≤t597)=false:=decide_eq_false c30
       clear c30
       have H':=Aside0.mk H
       clear H
       have hnb65:=NB574_568.out
       have hnc65:=NB568_574.out
       have hnb66:=NB574_569.out
       have hnc66:=NB569_574.out
       obtain ⟨hcz67_0,hcz67_1,hfz67_0,hfz67_1⟩:=b2 BK574
       obtain ⟨Ao68,co68,eo68⟩:=Kd.S_slice HO_575001.out
       subst eo68
       have p576:0≤(x8_1:Int):=od
       have q576:x8_1 < (x575001_1.length:Int):=od
       obtain ⟨ad576,A576_0,c576_0,e576,hx576_0,hl576_0,hi576_0⟩:=at_T35 (Kd.S_reads' HO_575001.out).2.2 x8_1 p576 q576
       cases e576
       obtain ⟨ce576,hce576,hMe576,hcc576⟩:=Kd.S_get HO_575001.out z35 x8_1 p576 (by exact q576)
       obtain ⟨ve576_0,rfl,ge576_0⟩:=k35_openM hMe576
       have hv576_0:=hcc576 0 _ rfl
       rw [Nat.add_zero,show (k35).sz=1 from rfl,Nat.mul_one] at hv576_0
       replace hv576_0:=Option.some.inj (hv576_0.symm.trans hx576_0)
       rw [hv576_0] at ge576_0
       have HL576_0:=aM (show Kd.R (Kd.int .i64) 3 _ _ _ _ ((rd_T35 x575001_1 x8_1).f0) from ge576_0)
       clear hv576_0 ge576_0
       have HX576_0:=aM hx576_0
       clear hcc576 hce576
       have HR576_0:=aM hi576_0
       have HC576_0:=aM hl576_0
       clear hi576_0 hl576_0
       replace p576:=eq_true p576
       replace q576:=eq_true q576
       try go_wp2_with (first|((with_reducible refine gate_dst (N:=9) rfl ?_);refine box_event ?hg (N:=9) ?hd (cs:=#[.slice none 0 0]) (t:=35) ?hr ?_;(case hd=>rfl);(case hg=>rfl);(case hr=>(go_simp;done));intro gb577 hg w69 hbox hb;replace HO_575001:=aM (Kd.S_below (Kd.S_elderB (rS HO_575001) gb577 (Nat.le_of_eq hg.symm)) hb);replace HL576_0:=rB HL576_0 hb;replace HR576_0:=cB HR576_0 hb;replace HX576_0:=xB hb HX576_0;have BK577:=aM (hbox);have GW577:=gS w hg;have GE577:=gS w hg;replace HB:=bs hb;have NB568_577:=nL hg BK568;have NB577_568:=nG hg BK568;replace BK568:=bB BK568 hb;have NB569_577:=nL hg BK569;have NB577_569:=nG hg BK569;replace BK569:=bB BK569 hb;have NB574_577:=nL hg BK574;have NB577_574:=nG hg BK574;replace BK574:=bB BK574 hb;clear hb hbox hg;have hnb70:=NB577_568.out;have hnc70:=NB568_577.out;have hnb71:=NB577_569.out;have hnc71:=NB569_577.out;have hnb72:=NB577_574.out;have hnc72:=NB574_577.out;obtain ⟨hcz73_0,hfz73_0⟩:=b1 BK577)|((with_reducible refine gate_callee (f:=49) rfl ?_);refine goesL_ (some 34) rfl rfl Try.func49 (by kernel_rfl) rfl #[.agg #[.slice A576_0 ((rd_T35 x575001_1 x8_1).f0).length c576_0],.slice A1 l1.length c1] rfl (by (try simp only [List.map_toArray,List.map_cons,List.map_nil]);rfl) ?_;(with_reducible refine (spec_l6Lost.calls k1 _ _ ((rd_T35 x575001_1 x8_1).f0) _ _ l1 t578 _ ?side1 ?side2 ?side3 ?side4 A20.out).mono ?_);(case side1=>repeat (exact ((Kd.R_reads' (by exact (Kd.R_mono (Kd.R_far (p:=⟨gb577,0,none⟩) (Kd.R_types HL576_0.out BK577.out (by decide)) (fun _ hk=>hk.2) (.slice A576_0 ((rd_T35 x575001_1 x8_1).f0).length c576_0)) (fun _ h_=>h_.1)))).2.2)));(case side2=>exact HC576_0.out);(case side3=>exact Kd.C_below HR1.out be);(case side4=>exact HC1.out);rintro e w74 ⟨rfl,hb⟩;refine ⟨_,rfl,?_⟩;replace BK568:=aM (blk_below (g:=gb568) (o:=.cells #[.int .i64 a0_0,.slice A0_1 l0_1.length c0_1] 26 (0,0)) (by refine blk_far ?_ NB568_577.out _;exact BK568.out) hb);replace BK569:=aM (blk_below (g:=gb569) (o:=.cells #[.int .i64 0,.slice none 0 0] 26 (0,0)) (by refine blk_far ?_ NB569_577.out _;exact BK569.out) hb);replace BK574:=aM (blk_below (g:=gb574) (o:=.cells #[.int .i64 t570,.slice (some ad576) x575001_1.length co68] 26 (0,0)) (by refine blk_far ?_ NB574_577.out _;exact BK574.out) hb);replace HR576_0:=aM (Kd.C_below ((Kd.R_reads' (by exact (Kd.R_mono (Kd.R_far (p:=⟨gb577,0,none⟩) (Kd.R_types HL576_0.out BK577.out (by decide)) (fun _ hk=>hk.2) (.slice A576_0 ((rd_T35 x575001_1 x8_1).f0).length c576_0)) (fun _ h_=>h_.1)))).2.2) hb);replace HL576_0:=aM (Kd.R_below ((by exact (Kd.R_mono (Kd.R_far (p:=⟨gb577,0,none⟩) (Kd.R_types HL576_0.out BK577.out (by decide)) (fun _ hk=>hk.2) (.slice A576_0 ((rd_T35 x575001_1 x8_1).f0).length c576_0)) (fun _ h_=>h_.1)))) hb);replace HX576_0:=aM (pw_cell_below hb ((cell_far (p:=⟨gb577,0,none⟩) (by (rw [add_block];exact ((Kd.S_R HO_575001.out).1 _ rfl).2)) (.slice A576_0 ((rd_T35 x575001_1 x8_1).f0).length c576_0)).trans (HX576_0.out)));replace HO_575001:=aM (Kd.S_below ((by exact (Kd.S_mono (Kd.S_far (p:=⟨gb577,0,none⟩) (Kd.S_mono HO_575001.out (fun k_ hk=>(⟨hk,hk.2⟩:_∧k_ ≠ gb577))) (fun _ hk=>hk.2) (.slice A576_0 ((rd_T35 x575001_1 x8_1).f0).length c576_0)) (fun _ h_=>h_.1)))) hb);replace BK577:=aM (blk_below (g:=gb577) (o:=.cells #[.slice A576_0 ((rd_T35 x575001_1 x8_1).f0).length c576_0] 35 (0,0)) (by refine blk_put (cs:=#[.slice none 0 0]) ?_ 0 _ rfl;exact BK577.out) hb);replace HB:=bs hb;(try clear hb)))
       replace HO_575001:=aM (Kd.S_drew HO_575001.out);replace HL576_0:=aM (Kd.R_drew HL576_0.out);replace BK568:=aM (blk_drew BK568.out);replace BK569:=aM (blk_drew BK569.out);replace BK574:=aM (blk_drew BK574.out);replace BK577:=aM (blk_drew BK577.out);replace HR576_0:=aM (Kd.C_drew HR576_0.out);replace HX576_0:=aM (Aid.cell_drew HX576_0.out);replace HB:=aM (below_drew1 HB.out)
       have q76:(t578:Int)≤((((rd_T35 x575001_1 x8_1).f0).length:Int):Int):=od
       obtain ⟨i076,hi076,_,hsz76,_⟩:=info_parts info3
       have hroom76:((rd_T35 x575001_1 x8_1).f0).length≤c576_0:=HC576_0.out
       have hC76:Kd.C (Kd.int .i64) _ A576_0 ((rd_T35 x575001_1 x8_1).f0).length ((rd_T35 x575001_1 x8_1).f0):=HR576_0.out
       have hcut76:=cut_to (P:=Try.prog) 33 3 .i64 Try.underlying33 hi076 A576_0 ((rd_T35 x575001_1 x8_1).f0).length c576_0 t578 od q76 hroom76
       have hr76:=Kd.C_take (m:=(t578:Int).toNat) hC76 (by omega)
       have hy76:y582.length=(t578:Int).toNat:=(by rw [Ny582.out,List.length_take];omega)
       rw [← Ny582.out] at hr76
       rw [← hy76] at hcut76
       have HR585:=aM hr76
       have HC585:=aM (show y582.length≤c576_0 from by omega)
       clear hr76 hC76 hroom76 hi076 hsz76
       have KY76:=aM hy76
       clear hy76
       have KL76:=aM (show (t578:Int).toNat≤((rd_T35 x575001_1 x8_1).f0).length from by omega)
       replace q76:=eq_true q76
       have q77:((ji25):Int)≤((((rd_T35 x575001_1 x8_1).f0).length:Int):Int):=od
       obtain ⟨i077,hi077,_,hsz77,_⟩:=info_parts info3
       have hroom77:((rd_T35 x575001_1 x8_1).f0).length≤c576_0:=HC576_0.out
       have hC77:Kd.C (Kd.int .i64) _ A576_0 ((rd_T35 x575001_1 x8_1).f0).length ((rd_T35 x575001_1 x8_1).f0):=HR576_0.out
       have q077:(0:Int)≤((ji25):Int):=od
       have hcut77:=cut_from (P:=Try.prog) 33 3 .i64 Try.underlying33 hi077 1 hsz77 A576_0 ((rd_T35 x575001_1 x8_1).f0).length c576_0 (ji25) q077 q77
       have hr77:=Kd.C_drop (m:=((ji25):Int).toNat) (c:=c576_0) hC77 (by omega) hroom77
       obtain ⟨A77,hA77⟩ : ∃ A1,A1=(if c576_0=((ji25):Int).toNat then A576_0 else (A576_0:Option Addr).map (·.add (((ji25):Int).toNat * 1))):=⟨_,rfl⟩
       obtain ⟨c77,hc77⟩ : ∃ c1,c1=c576_0 - ((ji25):Int).toNat:=⟨_,rfl⟩
       have hy77:y589.length=((rd_T35 x575001_1 x8_1).f0).length - ((ji25):Int).toNat:=(by rw [Ny589.out,List.length_drop] <;> omega)
       rw [show ((rd_T35 x575001_1 x8_1).f0).drop ((ji25):Int).toNat=y589 from Ny589.out.symm] at hr77
       replace hr77:Kd.C (Kd.int .i64) _ A77 y589.length y589:=(by rw [hA77];exact hr77)
       rw [← hy77,← hA77,← hc77] at hcut77
       have HR592:=aM hr77
       have HC592:=aM (show y589.length≤c77 from by rw [hy77,hc77];exact Nat.sub_le_sub_right hroom77 _)
       clear hr77 hC77 hroom77 hi077 hsz77 hc77
       have KY77:=aM hy77
       have KA77:=aM hA77
       clear hy77 hA77
       have KL77:=aM (show ((ji25):Int).toNat≤((rd_T35 x575001_1 x8_1).f0).length from by omega)
       replace q77:=eq_true q77
       refine start_ (n:=15) (S:=fun w'=>w'.cell? ⟨gb577,0,none⟩=some (.slice A576_0 ((rd_T35 x575001_1 x8_1).f0).length c576_0)) (ds:=[]) (fl 15 0) (by kernel_rfl) rfl rfl (bq BK577 0) (fun hHeld=>?_);refine with_tabW spec_Rebalance.tab12 spec_Rebalance.bits12 (fun HT_ HW_=>?_)
       generalize w74.drew=w75 at HO_575001 HL576_0 BK568 BK569 BK574 BK577 HR576_0 HX576_0 HB HR585 HR592 hHeld ⊢
       refine pt 1 38 (fl 15 2) HT_ ?_
       refine pt 3 40 (fl 15 10) HT_ ?_
       refine pt 6 43 (fl 15 74) HT_ ?_
       refine pt 8 45 (fl 15 330) HT_ ?_
       refine pt 9 46 (fl 15 842) HT_ ?_
       refine tt 2 39 (fl 15 846) HT_ HW_ hHeld ?_
       refine pt 4 41 (fl 15 862) HT_ ?_
       refine tt 7 44 (fl 15 990) HT_ HW_ hHeld ?_
       refine pt 10 47 (fl 15 2014) HT_ ?_
       refine join_ (σ:=Value × Value × Value × Nat) 1 (fl 15 16383) (fun s_=>[(37,s_.1),(42,s_.2.1),(48,s_.2.2.1),(12,.pointer (some ⟨s_.2.2.2,0,none⟩)),(49,.agg #[s_.2.2.1])]) (fun s_ w'=>(w'.cell? ⟨gb577,0,none⟩=some (.slice A576_0 ((rd_T35 x575001_1 x8_1).f0).length c576_0))∧(Kd.R (Kd.int .i64) 3 w' w.heap.size (fun k_=>some k_ ≠ (s_.2.2.1:Value).ownBlock∧some k_ ≠ (.slice (some ad576) x575001_1.length co68:Value).ownBlock) (.slice A576_0 ((rd_T35 x575001_1 x8_1).f0).length c576_0) ((rd_T35 x575001_1 x8_1).f0))∧(Kd.R (Kd.int .i64) 3 w' w.heap.size (fun k_=>some k_ ≠ (.slice A576_0 ((rd_T35 x575001_1 x8_1).f0).length c576_0:Value).ownBlock) s_.2.2.1 y593)∧(Kd.S k35 35 w' w.heap.size (fun k_=>some k_ ≠ (s_.2.2.1:Value).ownBlock∧k_ ≠ gb577∧k_ ≠ s_.2.2.2) (.slice (some ad576) x575001_1.length co68) x575001_1)∧(w'.cell? (ad576.add (x8_1).toNat)=some (.slice A576_0 ((rd_T35 x575001_1 x8_1).f0).length c576_0))∧(w'.heap[gb568]?=some (.cells #[.int .i64 a0_0,.slice A0_1 l0_1.length c0_1] 26 (0,0)))∧(w'.heap[gb569]?=some (.cells #[.int .i64 0,.slice none 0 0] 26 (0,0)))∧(w'.heap[gb574]?=some (.cells #[.int .i64 t570,.slice (some ad576) x575001_1.length co68] 26 (0,0)))∧(w'.heap[gb577]?=some (.cells #[.slice A576_0 ((rd_T35 x575001_1 x8_1).f0).length c576_0] 35 (0,0)))∧(w'.heap[s_.2.2.2]?=some (.cells #[.slice none 0 0] 35 (0,0)))∧(w.heap.size≤s_.2.2.2)∧(w.heap.size≤s_.2.2.2)∧(gb568 ≠ s_.2.2.2)∧(s_.2.2.2 ≠ gb568)∧(gb569 ≠ s_.2.2.2)∧(s_.2.2.2 ≠ gb569)∧(gb574 ≠ s_.2.2.2)∧(s_.2.2.2 ≠ gb574)∧(gb577 ≠ s_.2.2.2)∧(s_.2.2.2 ≠ gb577)∧(Below w.heap.size w w')) ?_ ?_
       rotate_left
       ·intro hCont
        refine two_ (i:=0) (j:=13) (Ni:=some 37) (Nj:=some 12) (fl 15 2015) (fl 15 10206) rfl rfl rfl rfl (two_of HT_.out (by kernel_rfl)) (by decide) (by decide) (fun K hK=>?_) (fun K hK=>?_)
        ·skip
         refine Kd.R_lit_step (Kd.int .i64) _ 3 ?hg (N:=37) ?hd (xs:=([]:List Int)) (inner:=[]) (ok:=fun _=>True) (okp:=fun _=>True) ?hr ?hp (fun _ hk=>hk) trivial (Below.refl _ _) (Nat.le_refl _) (by simp) ?_;(case hd=>rfl);(case hg=>rfl);(case hr=>(go_simp;done));(case hp=>exact (Reps.none _ _))
         intro v580 w78 ho79 hb hg_ hnew_
         clear hg_ hnew_
         (rw [← Ny579.out] at ho79)
         replace HO_575001:=aM (Kd.S_elder' (rS HO_575001) (Kd.R_base ho79) hb);have HO581:=aM (Kd.R_lower (Kd.R_new' ho79 (Kd.R_lt HL576_0.out)) (below_size be));replace HL576_0:=aM (Kd.R_elder' HL576_0.out (Kd.R_base ho79) hb);replace BK568:=bB BK568 hb;replace BK569:=bB BK569 hb;replace BK574:=bB BK574 hb;replace HX576_0:=xB hb HX576_0;replace BK577:=bB BK577 hb;replace HR585:=cB HR585 hb;replace HB:=bs hb;clear HR576_0 HR592;clear hb ho79
         refine hK.out _ _ (bq BK577 0) (fun hHeld=>?_)
         clear hK K
         refine no 37 ?_
         refine two_ (i:=5) (j:=13) (Ni:=some 42) (Nj:=some 12) (fl 15 2047) (fl 15 10207) rfl rfl rfl rfl (two_of HT_.out (by kernel_rfl)) (by decide) (by decide) (fun K hK=>?_) (fun K hK=>?_)
         ·skip
          refine Kd.R_append_rows_step (Kd.int .i64) (w0:=w) w.heap.size (by rfl) (.tmp 37) (.tmp 41) 33 3 (.int .i64 0) 8 rfl Try.underlying33 info3 rfl (by decide) (by omega) v580 y579 y582 _ _ _ (fun k_=>some k_ ≠ (.slice A576_0 ((rd_T35 x575001_1 x8_1).f0).length c576_0:Value).ownBlock) (fun _=>False) rfl rfl ?aO ?aR (fun _ _ h=>h) (fun _ h=>h.elim) ?aF ?aB ?aS ?aL ?_
          (case aR=>repeat (exact HR585.out))
          (case aB=>exact be)
          (case aF=>exact (fun k_ hk=>Kd.fresh' (Kd.R_lt HL576_0.out) k_ hk))
          (case aO=>exact (by exact Kd.R_mono HO581.out (fun _ hk=>hk.2)))
          (case aS=>exact (below_size be))
          (case aL=>have:=LMc24.out;omega)
          intro v587 w80 ho hb hg hat
          rw [← Ny586.out] at ho
          replace BK568:=bG BK568 hg (Kd.R_ne HO581.out BK568.out (by decide));replace BK569:=bG BK569 hg (Kd.R_ne HO581.out BK569.out (by decide));replace BK574:=bG BK574 hg (Kd.R_ne HO581.out BK574.out (by decide));replace HX576_0:=aM (Aid.cell_keep hg HX576_0.out (by intro e_;exact Aid.typed_ne (Kd.S_typed HO_575001.out) (Kd.R_typed HO581.out) (by decide) rfl (by rw [add_block] at e_;exact e_.symm)));replace HO_575001:=aM (Kd.S_after (ok:=(fun k_=>k_ ≠ gb577)) (by exact Kd.S_mono HO_575001.out (fun _ hk=>⟨hk.1.2,hk.2⟩)) hg hat);replace BK577:=bG BK577 hg (Kd.R_ne HO581.out BK577.out (by decide));replace HB:=aM (hb);replace HR592:=aM ((show Kd.C (Kd.int .i64) w80 A77 y589.length y589 from by rw [Ny589.out,KA77.out];exact Kd.C_drop (m:=((ji25):Int).toNat) (c:=c576_0) ((Kd.R_reads' (Kd.R_after (ok:=(fun k_=>some k_ ≠ (.slice (some ad576) x575001_1.length co68:Value).ownBlock)) (by exact Kd.R_mono HL576_0.out (fun _ hk=>⟨hk.1.2,hk.2⟩)) hg hat)).2.2) KL77.out ((Kd.R_reads' (Kd.R_after (ok:=(fun k_=>some k_ ≠ (.slice (some ad576) x575001_1.length co68:Value).ownBlock)) (by exact Kd.R_mono HL576_0.out (fun _ hk=>⟨hk.1.2,hk.2⟩)) hg hat)).2.1)));replace HL576_0:=aM (Kd.R_after (ok:=(fun k_=>some k_ ≠ (.slice (some ad576) x575001_1.length co68:Value).ownBlock)) (by exact Kd.R_mono HL576_0.out (fun _ hk=>⟨hk.1.2,hk.2⟩)) hg hat);have HO588:=aM (ho);clear HR585 HO581;clear ho hb hg hat
          refine hK.out _ _ (bq BK577 0) (fun hHeld=>?_)
          clear hK K
          refine no 42 ?_
          refine two_ (i:=11) (j:=13) (Ni:=some 48) (Nj:=some 12) (fl 15 4095) (fl 15 10239) rfl rfl rfl rfl (two_of HT_.out (by kernel_rfl)) (by decide) (by decide) (fun K hK=>?_) (fun K hK=>?_)
          ·skip
           refine Kd.R_append_rows_step (Kd.int .i64) (w0:=w) w.heap.size (by rfl) (.tmp 42) (.tmp 47) 33 3 (.int .i64 0) 8 rfl Try.underlying33 info3 rfl (by decide) (by omega) v587 y586 y589 _ _ _ (fun k_=>some k_ ≠ (.slice A576_0 ((rd_T35 x575001_1 x8_1).f0).length c576_0:Value).ownBlock) (fun _=>False) rfl rfl ?aO ?aR (fun _ _ h=>h) (fun _ h=>h.elim) ?aF ?aB ?aS ?aL ?_
           (case aR=>repeat (exact HR592.out))
           (case aB=>exact be)
           (case aF=>exact (fun k_ hk=>Kd.fresh' (Kd.R_lt HL576_0.out) k_ hk))
           (case aO=>exact (rR HO588))
           (case aS=>exact (below_size be))
           (case aL=>have:=LMc28.out;omega)
           intro v594 w81 ho hb hg hat
           rw [← Ny593.out] at ho
           replace BK568:=bG BK568 hg (Kd.R_ne HO588.out BK568.out (by decide));replace BK569:=bG BK569 hg (Kd.R_ne HO588.out BK569.out (by decide));replace BK574:=bG BK574 hg (Kd.R_ne HO588.out BK574.out (by decide));replace HL576_0:=aM (Kd.R_after (ok:=(fun k_=>some k_ ≠ (.slice (some ad576) x575001_1.length co68:Value).ownBlock)) HL576_0.out hg hat);replace HX576_0:=aM (Aid.cell_keep hg HX576_0.out (by intro e_;exact Aid.typed_ne (Kd.S_typed HO_575001.out) (Kd.R_typed HO588.out) (by decide) rfl (by rw [add_block] at e_;exact e_.symm)));replace HO_575001:=aM (Kd.S_after (ok:=(fun k_=>k_ ≠ gb577)) (rS HO_575001) hg hat);replace BK577:=bG BK577 hg (Kd.R_ne HO588.out BK577.out (by decide));replace HB:=aM (hb);have HO595:=aM (ho);clear HR592 HO588;clear ho hb hg hat
           obtain ⟨Ao82,co82,eo82⟩:=Kd.R_slice HO595.out
           (subst eo82)
           refine hK.out _ _ (bq BK577 0) (fun hHeld=>?_)
           clear hK K
           refine no 48 ?_
           refine pt 12 49 (fl 15 8191) HT_ ?_
           refine ot 13 (some 12) (fl 15 16383) HT_ (fun K hK=>?_)
           refine box_step ?hg (N:=12) ?hd (cs:=#[.slice none 0 0]) (t:=35) ?hr ?_;(case hd=>rfl);(case hg=>rfl);(case hr=>(go_simp;done))
           intro gb596 hg w83 hbox hb
           replace HO_575001:=aM (Kd.S_below (Kd.S_elderB (rS HO_575001) gb596 (Nat.le_of_eq hg.symm)) hb);replace HL576_0:=rB HL576_0 hb;replace HO595:=rB HO595 hb;replace HX576_0:=xB hb HX576_0;have BK596:=aM (hbox);have GW596:=gS w hg;have GE596:=gS w hg;replace HB:=bs hb;have NB568_596:=nL hg BK568;have NB596_568:=nG hg BK568;replace BK568:=bB BK568 hb;have NB569_596:=nL hg BK569;have NB596_569:=nG hg BK569;replace BK569:=bB BK569 hb;have NB574_596:=nL hg BK574;have NB596_574:=nG hg BK574;replace BK574:=bB BK574 hb;have NB577_596:=nL hg BK577;have NB596_577:=nG hg BK577;replace BK577:=bB BK577 hb;clear hb hbox hg
           refine hK.out _ _ (bq BK577 0) (fun hHeld=>?_)
           clear hK K
           refine no 12 ?_
           exact norm_ (by simp only [putAll,Act.put,List.setIfInBounds_toArray,List.set_cons_zero,List.set_cons_succ]) (hCont (v580,v587,.slice Ao82 y593.length co82,gb596) _ ⟨hHeld,(by exact Kd.R_mono HL576_0.out (fun _ hk=>⟨hk.2,hk.1⟩)),(rR HO595),(by exact Kd.S_mono HO_575001.out (fun _ hk=>⟨hk.1.2,⟨hk.1.1,hk.2⟩⟩)),HX576_0.out,(bk BK568),(bk BK569),(bk BK574),(bk BK577),(bk BK596),GW596.out,GE596.out,NB568_596.out,NB596_568.out,NB569_596.out,NB596_569.out,NB574_596.out,NB596_574.out,NB577_596.out,NB596_577.out,be⟩)
          ·skip
           refine box_step ?hg (N:=12) ?hd (cs:=#[.slice none 0 0]) (t:=35) ?hr ?_;(case hd=>rfl);(case hg=>rfl);(case hr=>(go_simp;done))
           intro gb596 hg w81 hbox hb
           replace HO_575001:=aM (Kd.S_below (Kd.S_elderB (rS HO_575001) gb596 (Nat.le_of_eq hg.symm)) hb);replace HL576_0:=rB HL576_0 hb;replace HO588:=rB HO588 hb;replace HX576_0:=xB hb HX576_0;replace HR592:=cB HR592 hb;have BK596:=aM (hbox);have GW596:=gS w hg;have GE596:=gS w hg;replace HB:=bs hb;have NB568_596:=nL hg BK568;have NB596_568:=nG hg BK568;replace BK568:=bB BK568 hb;have NB569_596:=nL hg BK569;have NB596_569:=nG hg BK569;replace BK569:=bB BK569 hb;have NB574_596:=nL hg BK574;have NB596_574:=nG hg BK574;replace BK574:=bB BK574 hb;have NB577_596:=nL hg BK577;have NB596_577:=nG hg BK577;replace BK577:=bB BK577 hb;clear hb hbox hg
           refine hK.out _ _ (bq BK577 0) (fun hHeld=>?_)
           clear hK K
           refine no 12 ?_
           refine ot 11 (some 48) (fl 15 12287) HT_ (fun K hK=>?_)
           refine Kd.R_append_rows_step (Kd.int .i64) (w0:=w) w.heap.size (by rfl) (.tmp 42) (.tmp 47) 33 3 (.int .i64 0) 8 rfl Try.underlying33 info3 rfl (by decide) (by omega) v587 y586 y589 _ _ _ (fun k_=>some k_ ≠ (.slice A576_0 ((rd_T35 x575001_1 x8_1).f0).length c576_0:Value).ownBlock) (fun _=>False) rfl rfl ?aO ?aR (fun _ _ h=>h) (fun _ h=>h.elim) ?aF ?aB ?aS ?aL ?_
           (case aR=>repeat (exact HR592.out))
           (case aB=>exact be)
           (case aF=>exact (fun k_ hk=>Kd.fresh' (Kd.R_lt HL576_0.out) k_ hk))
           (case aO=>exact (rR HO588))
           (case aS=>exact (below_size be))
           (case aL=>have:=LMc28.out;omega)
           intro v594 w82 ho hb hg hat
           rw [← Ny593.out] at ho
           replace BK568:=bG BK568 hg (Kd.R_ne HO588.out BK568.out (by decide));replace BK569:=bG BK569 hg (Kd.R_ne HO588.out BK569.out (by decide));replace BK574:=bG BK574 hg (Kd.R_ne HO588.out BK574.out (by decide));replace HL576_0:=aM (Kd.R_after (ok:=(fun k_=>some k_ ≠ (.slice (some ad576) x575001_1.length co68:Value).ownBlock)) HL576_0.out hg hat);replace HX576_0:=aM (Aid.cell_keep hg HX576_0.out (by intro e_;exact Aid.typed_ne (Kd.S_typed HO_575001.out) (Kd.R_typed HO588.out) (by decide) rfl (by rw [add_block] at e_;exact e_.symm)));replace HO_575001:=aM (Kd.S_after (ok:=(fun k_=>k_ ≠ gb577∧k_ ≠ gb596)) (by exact Kd.S_mono HO_575001.out (fun _ hk=>⟨⟨hk.1.1,hk.2⟩,hk.1.2⟩)) hg hat);replace BK577:=bG BK577 hg (Kd.R_ne HO588.out BK577.out (by decide));replace BK596:=bG BK596 hg (Kd.R_ne HO588.out BK596.out (by decide));replace HB:=aM (hb);have HO595:=aM (ho);clear HR592 HO588;clear ho hb hg hat
           obtain ⟨Ao83,co83,eo83⟩:=Kd.R_slice HO595.out
           (subst eo83)
           refine hK.out _ _ (bq BK577 0) (fun hHeld=>?_)
           clear hK K
           refine no 48 ?_
           refine pt 12 49 (fl 15 16383) HT_ ?_
           exact norm_ (by simp only [putAll,Act.put,List.setIfInBounds_toArray,List.set_cons_zero,List.set_cons_succ]) (hCont (v580,v587,.slice Ao83 y593.length co83,gb596) _ ⟨hHeld,(by exact Kd.R_mono HL576_0.out (fun _ hk=>⟨hk.2,hk.1⟩)),(rR HO595),(by exact Kd.S_mono HO_575001.out (fun _ hk=>⟨hk.2,⟨hk.1.1,hk.1.2⟩⟩)),HX576_0.out,(bk BK568),(bk BK569),(bk BK574),(bk BK577),(bk BK596),GW596.out,GE596.out,NB568_596.out,NB596_568.out,NB569_596.out,NB596_569.out,NB574_596.out,NB596_574.out,NB577_596.out,NB596_577.out,be⟩)
         ·skip
          refine box_step ?hg (N:=12) ?hd (cs:=#[.slice none 0 0]) (t:=35) ?hr ?_;(case hd=>rfl);(case hg=>rfl);(case hr=>(go_simp;done))
          intro gb596 hg w80 hbox hb
          replace HO_575001:=aM (Kd.S_below (Kd.S_elderB (rS HO_575001) gb596 (Nat.le_of_eq hg.symm)) hb);replace HL576_0:=rB HL576_0 hb;replace HO581:=rB HO581 hb;replace HX576_0:=xB hb HX576_0;replace HR585:=cB HR585 hb;have BK596:=aM (hbox);have GW596:=gS w hg;have GE596:=gS w hg;replace HB:=bs hb;have NB568_596:=nL hg BK568;have NB596_568:=nG hg BK568;replace BK568:=bB BK568 hb;have NB569_596:=nL hg BK569;have NB596_569:=nG hg BK569;replace BK569:=bB BK569 hb;have NB574_596:=nL hg BK574;have NB596_574:=nG hg BK574;replace BK574:=bB BK574 hb;have NB577_596:=nL hg BK577;have NB596_577:=nG hg BK577;replace BK577:=bB BK577 hb;clear hb hbox hg
          refine hK.out _ _ (bq BK577 0) (fun hHeld=>?_)
          clear hK K
          refine no 12 ?_
          refine ot 5 (some 42) (fl 15 10239) HT_ (fun K hK=>?_)
          refine Kd.R_append_rows_step (Kd.int .i64) (w0:=w) w.heap.size (by rfl) (.tmp 37) (.tmp 41) 33 3 (.int .i64 0) 8 rfl Try.underlying33 info3 rfl (by decide) (by omega) v580 y579 y582 _ _ _ (fun k_=>some k_ ≠ (.slice A576_0 ((rd_T35 x575001_1 x8_1).f0).length c576_0:Value).ownBlock) (fun _=>False) rfl rfl ?aO ?aR (fun _ _ h=>h) (fun _ h=>h.elim) ?aF ?aB ?aS ?aL ?_
          (case aR=>repeat (exact HR585.out))
          (case aB=>exact be)
          (case aF=>exact (fun k_ hk=>Kd.fresh' (Kd.R_lt HL576_0.out) k_ hk))
          (case aO=>exact (by exact Kd.R_mono HO581.out (fun _ hk=>hk.2)))
          (case aS=>exact (below_size be))
          (case aL=>have:=LMc24.out;omega)
          intro v587 w81 ho hb hg hat
          rw [← Ny586.out] at ho
          replace BK568:=bG BK568 hg (Kd.R_ne HO581.out BK568.out (by decide));replace BK569:=bG BK569 hg (Kd.R_ne HO581.out BK569.out (by decide));replace BK574:=bG BK574 hg (Kd.R_ne HO581.out BK574.out (by decide));replace HX576_0:=aM (Aid.cell_keep hg HX576_0.out (by intro e_;exact Aid.typed_ne (Kd.S_typed HO_575001.out) (Kd.R_typed HO581.out) (by decide) rfl (by rw [add_block] at e_;exact e_.symm)));replace HO_575001:=aM (Kd.S_after (ok:=(fun k_=>k_ ≠ gb577∧k_ ≠ gb596)) (by exact Kd.S_mono HO_575001.out (fun _ hk=>⟨⟨hk.1.1.2,hk.2⟩,hk.1.2⟩)) hg hat);replace BK577:=bG BK577 hg (Kd.R_ne HO581.out BK577.out (by decide));replace BK596:=bG BK596 hg (Kd.R_ne HO581.out BK596.out (by decide));replace HB:=aM (hb);replace HR592:=aM ((show Kd.C (Kd.int .i64) w81 A77 y589.length y589 from by rw [Ny589.out,KA77.out];exact Kd.C_drop (m:=((ji25):Int).toNat) (c:=c576_0) ((Kd.R_reads' (Kd.R_after (ok:=(fun k_=>some k_ ≠ (.slice (some ad576) x575001_1.length co68:Value).ownBlock)) (by exact Kd.R_mono HL576_0.out (fun _ hk=>⟨hk.1.2,hk.2⟩)) hg hat)).2.2) KL77.out ((Kd.R_reads' (Kd.R_after (ok:=(fun k_=>some k_ ≠ (.slice (some ad576) x575001_1.length co68:Value).ownBlock)) (by exact Kd.R_mono HL576_0.out (fun _ hk=>⟨hk.1.2,hk.2⟩)) hg hat)).2.1)));replace HL576_0:=aM (Kd.R_after (ok:=(fun k_=>some k_ ≠ (.slice (some ad576) x575001_1.length co68:Value).ownBlock)) (by exact Kd.R_mono HL576_0.out (fun _ hk=>⟨hk.1.2,hk.2⟩)) hg hat);have HO588:=aM (ho);clear HR585 HO581;clear ho hb hg hat
          refine hK.out _ _ (bq BK577 0) (fun hHeld=>?_)
          clear hK K
          refine no 42 ?_
          refine ot 11 (some 48) (fl 15 12287) HT_ (fun K hK=>?_)
          refine Kd.R_append_rows_step (Kd.int .i64) (w0:=w) w.heap.size (by rfl) (.tmp 42) (.tmp 47) 33 3 (.int .i64 0) 8 rfl Try.underlying33 info3 rfl (by decide) (by omega) v587 y586 y589 _ _ _ (fun k_=>some k_ ≠ (.slice A576_0 ((rd_T35 x575001_1 x8_1).f0).length c576_0:Value).ownBlock) (fun _=>False) rfl rfl ?aO ?aR (fun _ _ h=>h) (fun _ h=>h.elim) ?aF ?aB ?aS ?aL ?_
          (case aR=>repeat (exact HR592.out))
          (case aB=>exact be)
          (case aF=>exact (fun k_ hk=>Kd.fresh' (Kd.R_lt HL576_0.out) k_ hk))
          (case aO=>exact (rR HO588))
          (case aS=>exact (below_size be))
          (case aL=>have:=LMc28.out;omega)
          intro v594 w82 ho hb hg hat
          rw [← Ny593.out] at ho
          replace BK568:=bG BK568 hg (Kd.R_ne HO588.out BK568.out (by decide));replace BK569:=bG BK569 hg (Kd.R_ne HO588.out BK569.out (by decide));replace BK574:=bG BK574 hg (Kd.R_ne HO588.out BK574.out (by decide));replace HL576_0:=aM (Kd.R_after (ok:=(fun k_=>some k_ ≠ (.slice (some ad576) x575001_1.length co68:Value).ownBlock)) HL576_0.out hg hat);replace HX576_0:=aM (Aid.cell_keep hg HX576_0.out (by intro e_;exact Aid.typed_ne (Kd.S_typed HO_575001.out) (Kd.R_typed HO588.out) (by decide) rfl (by rw [add_block] at e_;exact e_.symm)));replace HO_575001:=aM (Kd.S_after (ok:=(fun k_=>k_ ≠ gb577∧k_ ≠ gb596)) (rS HO_575001) hg hat);replace BK577:=bG BK577 hg (Kd.R_ne HO588.out BK577.out (by decide));replace BK596:=bG BK596 hg (Kd.R_ne HO588.out BK596.out (by decide));replace HB:=aM (hb);have HO595:=aM (ho);clear HR592 HO588;clear ho hb hg hat
          obtain ⟨Ao83,co83,eo83⟩:=Kd.R_slice HO595.out
          (subst eo83)
          refine hK.out _ _ (bq BK577 0) (fun hHeld=>?_)
          clear hK K
          refine no 48 ?_
          refine pt 12 49 (fl 15 16383) HT_ ?_
          exact norm_ (by simp only [putAll,Act.put,List.setIfInBounds_toArray,List.set_cons_zero,List.set_cons_succ]) (hCont (v580,v587,.slice Ao83 y593.length co83,gb596) _ ⟨hHeld,(by exact Kd.R_mono HL576_0.out (fun _ hk=>⟨hk.2,hk.1⟩)),(rR HO595),(by exact Kd.S_mono HO_575001.out (fun _ hk=>⟨hk.2,⟨hk.1.1,hk.1.2⟩⟩)),HX576_0.out,(bk BK568),(bk BK569),(bk BK574),(bk BK577),(bk BK596),GW596.out,GE596.out,NB568_596.out,NB596_568.out,NB569_596.out,NB596_569.out,NB574_596.out,NB596_574.out,NB577_596.out,NB596_577.out,be⟩)
        ·skip
         refine box_step ?hg (N:=12) ?hd (cs:=#[.slice none 0 0]) (t:=35) ?hr ?_;(case hd=>rfl);(case hg=>rfl);(case hr=>(go_simp;done))
         intro gb596 hg w78 hbox hb
         replace HO_575001:=aM (Kd.S_below (Kd.S_elderB (rS HO_575001) gb596 (Nat.le_of_eq hg.symm)) hb);replace HL576_0:=rB HL576_0 hb;replace HX576_0:=xB hb HX576_0;replace HR585:=cB HR585 hb;have BK596:=aM (hbox);have GW596:=gS w hg;have GE596:=gS w hg;replace HB:=bs hb;have NB568_596:=nL hg BK568;have NB596_568:=nG hg BK568;replace BK568:=bB BK568 hb;have NB569_596:=nL hg BK569;have NB596_569:=nG hg BK569;replace BK569:=bB BK569 hb;have NB574_596:=nL hg BK574;have NB596_574:=nG hg BK574;replace BK574:=bB BK574 hb;have NB577_596:=nL hg BK577;have NB596_577:=nG hg BK577;replace BK577:=bB BK577 hb;clear HR576_0 HR592;clear hb hbox hg
         refine hK.out _ _ (bq BK577 0) (fun hHeld=>?_)
         clear hK K
         refine no 12 ?_
         refine ot 0 (some 37) (fl 15 10207) HT_ (fun K hK=>?_)
         refine Kd.R_lit_step (Kd.int .i64) _ 3 ?hg (N:=37) ?hd (xs:=([]:List Int)) (inner:=[]) (ok:=fun _=>True) (okp:=fun _=>True) ?hr ?hp (fun _ hk=>hk) trivial (Below.refl _ _) (Nat.le_refl _) (by simp) ?_;(case hd=>rfl);(case hg=>rfl);(case hr=>(go_simp;done));(case hp=>exact (Reps.none _ _))
         intro v580 w79 ho80 hb hg_ hnew_
         clear hg_ hnew_
         (rw [← Ny579.out] at ho80)
         replace HO_575001:=aM (Kd.S_elder' (rS HO_575001) (Kd.R_base ho80) hb);have HO581:=aM (Kd.R_lower (Kd.R_new' ho80 (Kd.R_lt HL576_0.out)) (below_size be));replace HL576_0:=aM (Kd.R_elder' HL576_0.out (Kd.R_base ho80) hb);replace BK568:=bB BK568 hb;replace BK569:=bB BK569 hb;replace BK574:=bB BK574 hb;replace HX576_0:=xB hb HX576_0;replace BK577:=bB BK577 hb;replace HR585:=cB HR585 hb;replace BK596:=bB BK596 hb;replace HB:=bs hb;clear hb ho80
         refine hK.out _ _ (bq BK577 0) (fun hHeld=>?_)
         clear hK K
         refine no 37 ?_
         refine ot 5 (some 42) (fl 15 10239) HT_ (fun K hK=>?_)
         refine Kd.R_append_rows_step (Kd.int .i64) (w0:=w) w.heap.size (by rfl) (.tmp 37) (.tmp 41) 33 3 (.int .i64 0) 8 rfl Try.underlying33 info3 rfl (by decide) (by omega) v580 y579 y582 _ _ _ (fun k_=>some k_ ≠ (.slice A576_0 ((rd_T35 x575001_1 x8_1).f0).length c576_0:Value).ownBlock) (fun _=>False) rfl rfl ?aO ?aR (fun _ _ h=>h) (fun _ h=>h.elim) ?aF ?aB ?aS ?aL ?_
         (case aR=>repeat (exact HR585.out))
         (case aB=>exact be)
         (case aF=>exact (fun k_ hk=>Kd.fresh' (Kd.R_lt HL576_0.out) k_ hk))
         (case aO=>exact (by exact Kd.R_mono HO581.out (fun _ hk=>hk.2)))
         (case aS=>exact (below_size be))
         (case aL=>have:=LMc24.out;omega)
         intro v587 w81 ho hb hg hat
         rw [← Ny586.out] at ho
         replace BK568:=bG BK568 hg (Kd.R_ne HO581.out BK568.out (by decide));replace BK569:=bG BK569 hg (Kd.R_ne HO581.out BK569.out (by decide));replace BK574:=bG BK574 hg (Kd.R_ne HO581.out BK574.out (by decide));replace HX576_0:=aM (Aid.cell_keep hg HX576_0.out (by intro e_;exact Aid.typed_ne (Kd.S_typed HO_575001.out) (Kd.R_typed HO581.out) (by decide) rfl (by rw [add_block] at e_;exact e_.symm)));replace HO_575001:=aM (Kd.S_after (ok:=(fun k_=>k_ ≠ gb577∧k_ ≠ gb596)) (by exact Kd.S_mono HO_575001.out (fun _ hk=>⟨⟨hk.1.1.2,hk.1.2⟩,hk.2⟩)) hg hat);replace BK577:=bG BK577 hg (Kd.R_ne HO581.out BK577.out (by decide));replace BK596:=bG BK596 hg (Kd.R_ne HO581.out BK596.out (by decide));replace HB:=aM (hb);replace HR592:=aM ((show Kd.C (Kd.int .i64) w81 A77 y589.length y589 from by rw [Ny589.out,KA77.out];exact Kd.C_drop (m:=((ji25):Int).toNat) (c:=c576_0) ((Kd.R_reads' (Kd.R_after (ok:=(fun k_=>some k_ ≠ (.slice (some ad576) x575001_1.length co68:Value).ownBlock)) (by exact Kd.R_mono HL576_0.out (fun _ hk=>⟨hk.1.2,hk.2⟩)) hg hat)).2.2) KL77.out ((Kd.R_reads' (Kd.R_after (ok:=(fun k_=>some k_ ≠ (.slice (some ad576) x575001_1.length co68:Value).ownBlock)) (by exact Kd.R_mono HL576_0.out (fun _ hk=>⟨hk.1.2,hk.2⟩)) hg hat)).2.1)));replace HL576_0:=aM (Kd.R_after (ok:=(fun k_=>some k_ ≠ (.slice (some ad576) x575001_1.length co68:Value).ownBlock)) (by exact Kd.R_mono HL576_0.out (fun _ hk=>⟨hk.1.2,hk.2⟩)) hg hat);have HO588:=aM (ho);clear HR585 HO581;clear ho hb hg hat
         refine hK.out _ _ (bq BK577 0) (fun hHeld=>?_)
         clear hK K
         refine no 42 ?_
         refine ot 11 (some 48) (fl 15 12287) HT_ (fun K hK=>?_)
         refine Kd.R_append_rows_step (Kd.int .i64) (w0:=w) w.heap.size (by rfl) (.tmp 42) (.tmp 47) 33 3 (.int .i64 0) 8 rfl Try.underlying33 info3 rfl (by decide) (by omega) v587 y586 y589 _ _ _ (fun k_=>some k_ ≠ (.slice A576_0 ((rd_T35 x575001_1 x8_1).f0).length c576_0:Value).ownBlock) (fun _=>False) rfl rfl ?aO ?aR (fun _ _ h=>h) (fun _ h=>h.elim) ?aF ?aB ?aS ?aL ?_
         (case aR=>repeat (exact HR592.out))
         (case aB=>exact be)
         (case aF=>exact (fun k_ hk=>Kd.fresh' (Kd.R_lt HL576_0.out) k_ hk))
         (case aO=>exact (rR HO588))
         (case aS=>exact (below_size be))
         (case aL=>have:=LMc28.out;omega)
         intro v594 w82 ho hb hg hat
         rw [← Ny593.out] at ho
         replace BK568:=bG BK568 hg (Kd.R_ne HO588.out BK568.out (by decide));replace BK569:=bG BK569 hg (Kd.R_ne HO588.out BK569.out (by decide));replace BK574:=bG BK574 hg (Kd.R_ne HO588.out BK574.out (by decide));replace HL576_0:=aM (Kd.R_after (ok:=(fun k_=>some k_ ≠ (.slice (some ad576) x575001_1.length co68:Value).ownBlock)) HL576_0.out hg hat);replace HX576_0:=aM (Aid.cell_keep hg HX576_0.out (by intro e_;exact Aid.typed_ne (Kd.S_typed HO_575001.out) (Kd.R_typed HO588.out) (by decide) rfl (by rw [add_block] at e_;exact e_.symm)));replace HO_575001:=aM (Kd.S_after (ok:=(fun k_=>k_ ≠ gb577∧k_ ≠ gb596)) (rS HO_575001) hg hat);replace BK577:=bG BK577 hg (Kd.R_ne HO588.out BK577.out (by decide));replace BK596:=bG BK596 hg (Kd.R_ne HO588.out BK596.out (by decide));replace HB:=aM (hb);have HO595:=aM (ho);clear HR592 HO588;clear ho hb hg hat
         obtain ⟨Ao83,co83,eo83⟩:=Kd.R_slice HO595.out
         (subst eo83)
         refine hK.out _ _ (bq BK577 0) (fun hHeld=>?_)
         clear hK K
         refine no 48 ?_
         refine pt 12 49 (fl 15 16383) HT_ ?_
         exact norm_ (by simp only [putAll,Act.put,List.setIfInBounds_toArray,List.set_cons_zero,List.set_cons_succ]) (hCont (v580,v587,.slice Ao83 y593.length co83,gb596) _ ⟨hHeld,(by exact Kd.R_mono HL576_0.out (fun _ hk=>⟨hk.2,hk.1⟩)),(rR HO595),(by exact Kd.S_mono HO_575001.out (fun _ hk=>⟨hk.2,⟨hk.1.1,hk.1.2⟩⟩)),HX576_0.out,(bk BK568),(bk BK569),(bk BK574),(bk BK577),(bk BK596),GW596.out,GE596.out,NB568_596.out,NB596_568.out,NB569_596.out,NB596_569.out,NB574_596.out,NB596_574.out,NB577_596.out,NB596_577.out,be⟩)
       rintro ⟨v580,v587,v594,gb596⟩ w84 ⟨hS_,h0_,h1_,h2_,h3_,h4_,h5_,h6_,h7_,h8_,h9_,h10_,h11_,h12_,h13_,h14_,h15_,h16_,h17_,h18_,h19_⟩
       have n0_:Aside0 (Kd.R (Kd.int .i64) 3 w84 w.heap.size (fun k_=>some k_ ≠ (v594:Value).ownBlock∧some k_ ≠ (.slice (some ad576) x575001_1.length co68:Value).ownBlock) (.slice A576_0 ((rd_T35 x575001_1 x8_1).f0).length c576_0) ((rd_T35 x575001_1 x8_1).f0)):=⟨h0_⟩
       have n1_:Aside0 (Kd.R (Kd.int .i64) 3 w84 w.heap.size (fun k_=>some k_ ≠ (.slice A576_0 ((rd_T35 x575001_1 x8_1).f0).length c576_0:Value).ownBlock) v594 y593):=⟨h1_⟩
       have n2_:Aside0 (Kd.S k35 35 w84 w.heap.size (fun k_=>some k_ ≠ (v594:Value).ownBlock∧k_ ≠ gb577∧k_ ≠ gb596) (.slice (some ad576) x575001_1.length co68) x575001_1):=⟨h2_⟩
       have n3_:Aside0 (w84.cell? (ad576.add (x8_1).toNat)=some (.slice A576_0 ((rd_T35 x575001_1 x8_1).f0).length c576_0)):=⟨h3_⟩
       have n4_:Aside0 (w84.heap[gb568]?=some (.cells #[.int .i64 a0_0,.slice A0_1 l0_1.length c0_1] 26 (0,0))):=⟨h4_⟩
       have n5_:Aside0 (w84.heap[gb569]?=some (.cells #[.int .i64 0,.slice none 0 0] 26 (0,0))):=⟨h5_⟩
       have n6_:Aside0 (w84.heap[gb574]?=some (.cells #[.int .i64 t570,.slice (some ad576) x575001_1.length co68] 26 (0,0))):=⟨h6_⟩
       have n7_:Aside0 (w84.heap[gb577]?=some (.cells #[.slice A576_0 ((rd_T35 x575001_1 x8_1).f0).length c576_0] 35 (0,0))):=⟨h7_⟩
       have n8_:Aside0 (w84.heap[gb596]?=some (.cells #[.slice none 0 0] 35 (0,0))):=⟨h8_⟩
       have n9_:Aside0 (w.heap.size≤gb596):=⟨h9_⟩
       have n10_:Aside0 (w.heap.size≤gb596):=⟨h10_⟩
       have n11_:Aside0 (gb568 ≠ gb596):=⟨h11_⟩
       have n12_:Aside0 (gb596 ≠ gb568):=⟨h12_⟩
       have n13_:Aside0 (gb569 ≠ gb596):=⟨h13_⟩
       have n14_:Aside0 (gb596 ≠ gb569):=⟨h14_⟩
       have n15_:Aside0 (gb574 ≠ gb596):=⟨h15_⟩
       have n16_:Aside0 (gb596 ≠ gb574):=⟨h16_⟩
       have n17_:Aside0 (gb577 ≠ gb596):=⟨h17_⟩
       have n18_:Aside0 (gb596 ≠ gb577):=⟨h18_⟩
       have n19_:Aside0 (Below w.heap.size w w84):=⟨h19_⟩
       clear HO_575001 HL576_0 BK568 BK569 BK574 BK577 HR576_0 HX576_0 HB h0_ h1_ h2_ h3_ h4_ h5_ h6_ h7_ h8_ h9_ h10_ h11_ h12_ h13_ h14_ h15_ h16_ h17_ h18_ h19_;have HL576_0:=n0_;have HO595:=n1_;have HO_575001:=n2_;have HX576_0:=n3_;have BK568:=n4_;have BK569:=n5_;have BK574:=n6_;have BK577:=n7_;have BK596:=n8_;have GW596:=n9_;have GE596:=n10_;have NB568_596:=n11_;have NB596_568:=n12_;have NB569_596:=n13_;have NB596_569:=n14_;have NB574_596:=n15_;have NB596_574:=n16_;have NB577_596:=n17_;have NB596_577:=n18_;have HB:=n19_;clear n0_ n1_ n2_ n3_ n4_ n5_ n6_ n7_ n8_ n9_ n10_ n11_ n12_ n13_ n14_ n15_ n16_ n17_ n18_ n19_
       have hHeld:w84.cell? ⟨gb577,0,none⟩=some (.slice A576_0 ((rd_T35 x575001_1 x8_1).f0).length c576_0):=hS_
       obtain ⟨Ao85,co85,eo85⟩:=Kd.R_slice HO595.out
       (subst eo85)
       refine norm_ (a':=?_) ?_ ?_
       rotate_left
       ·simp only [putAll,Act.put,List.setIfInBounds_toArray,List.set_cons_zero,List.set_cons_succ]
        rfl
       refine ot 14 none (fl 15 32767) HT_ (fun K hK=>?_)
       have hs86:w84.cell? ⟨gb596,0,none⟩=some (.slice none 0 0):=(blk_cell BK596.out 0).trans rfl
       have hfs86:=blk_frozen BK596.out 0
       have hns86_0:=NB568_596.out
       have hns86_1:=NB569_596.out
       have hns86_2:=NB574_596.out
       have hns86_3:=NB577_596.out
       have hms86_0:=NB596_568.out
       have hms86_1:=NB596_569.out
       have hms86_2:=NB596_574.out
       have hms86_3:=NB596_577.out
       refine skip_ (w1:=?_) (by rfl) rfl ?_ ?_
       rotate_left
       ·go_simp
        rfl
       refine hK.out _ _ (((cell_far (p:=⟨gb596,_,none⟩) NB577_596.out _).trans (hHeld))) (fun hHeld=>?_)
       clear hK K
       refine done_ (done_of HT_.out (by kernel_rfl)) ?_
       have hnb87:=NB574_596.out
       have hnc87:=NB596_574.out
       obtain ⟨hcz88_0,hcz88_1,hfz88_0,hfz88_1⟩:=b2 BK574
       have hnb89:=NB596_568.out
       have hnc89:=NB568_596.out
       have hnb90:=NB596_569.out
       have hnc90:=NB569_596.out
       have hnb91:=NB596_577.out
       have hnc91:=NB577_596.out
       obtain ⟨hcz92_0,hfz92_0⟩:=b1 BK596
       try go_wp2_with ((with_reducible refine gate_callee (f:=50) rfl ?_);refine goesL_ (some 53) rfl rfl Try.func50 (by kernel_rfl) rfl #[.agg #[.int .i64 t570,.slice (some ad576) x575001_1.length co68],.agg #[.slice Ao85 y593.length co85],.slice A1 l1.length c1] rfl (by (try simp only [List.map_toArray,List.map_cons,List.map_nil]);rfl) ?_;(with_reducible refine (spec_Best.calls k1 t570 _ _ x575001_1 _ _ y593 _ _ l1 t597 _ ?side1 ?side2 ?side3 ?side4 ?side5 ?side6 A29.out).mono ?_);(case side1=>refine (Kd.S_reads' (e:=35) (base:=w.heap.size) (ok:=fun k_=>(some k_ ≠ (.slice Ao85 y593.length co85:Value).ownBlock∧(k_ ≠ gb577∧k_ ≠ gb596))) (n:=x575001_1.length) (c:=co68) ?_).2.2;exact (by exact (Kd.S_mono (Kd.S_far (p:=⟨gb596,0,none⟩) (Kd.S_mono HO_575001.out (fun k_ hk=>(⟨hk,hk.2.2⟩:_∧k_ ≠ gb596))) (fun _ hk=>hk.2) (.slice Ao85 y593.length co85)) (fun _ h_=>h_.1))));(case side2=>exact (Kd.S_reads' HO_575001.out).2.1);(case side3=>refine (Kd.R_reads' (e:=3) (base:=w.heap.size) (ok:=fun k_=>some k_ ≠ (.slice A576_0 ((rd_T35 x575001_1 x8_1).f0).length c576_0:Value).ownBlock) (n:=y593.length) (c:=co85) ?_).2.2;exact (by exact (Kd.R_mono (Kd.R_far (p:=⟨gb596,0,none⟩) (Kd.R_types HO595.out BK596.out (by decide)) (fun _ hk=>hk.2) (.slice Ao85 y593.length co85)) (fun _ h_=>h_.1))));(case side4=>exact (Kd.R_reads' HO595.out).2.1);(case side5=>exact Kd.C_below HR1.out be);(case side6=>exact HC1.out);rintro e w93 ⟨rfl,hb⟩;refine ⟨_,rfl,?_⟩;replace HO_575001:=aM (Kd.S_below ((by exact (Kd.S_mono (Kd.S_far (p:=⟨gb596,0,none⟩) (Kd.S_mono HO_575001.out (fun k_ hk=>(⟨hk,hk.2.2⟩:_∧k_ ≠ gb596))) (fun _ hk=>hk.2) (.slice Ao85 y593.length co85)) (fun _ h_=>h_.1)))) hb);replace BK568:=aM (blk_below (g:=gb568) (o:=.cells #[.int .i64 a0_0,.slice A0_1 l0_1.length c0_1] 26 (0,0)) (by refine blk_far ?_ NB568_596.out _;exact BK568.out) hb);replace BK569:=aM (blk_below (g:=gb569) (o:=.cells #[.int .i64 0,.slice none 0 0] 26 (0,0)) (by refine blk_far ?_ NB569_596.out _;exact BK569.out) hb);replace BK574:=aM (blk_below (g:=gb574) (o:=.cells #[.int .i64 t570,.slice (some ad576) x575001_1.length co68] 26 (0,0)) (by refine blk_far ?_ NB574_596.out _;exact BK574.out) hb);replace HB:=bs hb;clear HL576_0 HO595 HX576_0 BK577 BK596;(try clear hb))
       go_roundg k1
       case measure=>have:=HK1.out;omega
       case rel=>exact ⟨(x7_1),(wrap64 (x8_1+1)),(x575001_1),(.slice (some ad576) x575001_1.length co68),rd_,rd_,H',⟨by have:=HK1.out;omega⟩,⟨by exact Kd.S_mono HO_575001.out (fun _ hk=>trivial)⟩,⟨bk BK568⟩,⟨bk BK569⟩,⟨bk BK574⟩,⟨be⟩⟩
     ·rw [if_neg c21] at H
      have c21b0:decide (0≤t578)=false:=decide_eq_false c21
      clear c21
      replace H:=Option.bind_eq_some_iff.mp H
      obtain ⟨t602,A940,H⟩:=H
      try dsimp only at H
      have A94:=aM A940
      clear A940
      replace H:=Option.bind_eq_some_iff.mp H
      obtain ⟨t603,A950,H⟩:=H
      try dsimp only at H
      have A95:=aM A950
      clear A950
      by_cases c96:t603 ≥ 0
      ·rw [if_pos c96] at H
       have c96b0:decide (0≤t603)=true:=decide_eq_true c96
       clear c96
       by_cases c97:t602 ≥ 0
       ·rw [if_pos c97] at H
        have c97b0:decide (0≤t602)=true:=decide_eq_true c97
        clear c97
        obtain ⟨c98,H⟩:=ifs H
        have c98b0:decide (0≤t603)=true:=decide_eq_true c98
        clear c98
        obtain ⟨c99,H⟩:=ifs H
        have c99b0:decide (t603 < (((rd_T35 x575001_1 x8_1).f0).length:Int))=true:=decide_eq_true c99
        clear c99
        obtain ⟨y605,hy605⟩ : ∃ y_:List Int,y_=(((rd_T35 x575001_1 x8_1).f0).set (t603:Int).toNat t602):=⟨_,rfl⟩
        replace H:(spec_Rebalance.l0 k1 l1 (wrap64 (x7_1+1)) (wrap64 (x8_1+1)) t570 (x575001_1.set (x8_1:Int).toNat (⟨y605⟩:S35)))=some (r1,r2,r3):=by (rw [hy605];with_reducible exact H)
        have Ny605:=aM hy605
        clear hy605
        obtain ⟨y607,hy607⟩ : ∃ y_:List (S35),y_=(x575001_1.set (x8_1:Int).toNat (⟨y605⟩:S35)):=⟨_,rfl⟩
        replace H:(spec_Rebalance.l0 k1 l1 (wrap64 (x7_1+1)) (wrap64 (x8_1+1)) t570 y607)=some (r1,r2,r3):=by (rw [hy607];with_reducible exact H)
        have Ny607:=aM hy607
        clear hy607
        have H':=Aside0.mk H
        clear H
        have hnb101:=NB574_568.out
        have hnc101:=NB568_574.out
        have hnb102:=NB574_569.out
        have hnc102:=NB569_574.out
        obtain ⟨hcz103_0,hcz103_1,hfz103_0,hfz103_1⟩:=b2 BK574
        obtain ⟨Ao104,co104,eo104⟩:=Kd.S_slice HO_575001.out
        subst eo104
        have p576:0≤(x8_1:Int):=od
        have q576:x8_1 < (x575001_1.length:Int):=od
        obtain ⟨ad576,A576_0,c576_0,e576,hx576_0,hl576_0,hi576_0⟩:=at_T35 (Kd.S_reads' HO_575001.out).2.2 x8_1 p576 q576
        cases e576
        obtain ⟨ce576,hce576,hMe576,hcc576⟩:=Kd.S_get HO_575001.out z35 x8_1 p576 (by exact q576)
        obtain ⟨ve576_0,rfl,ge576_0⟩:=k35_openM hMe576
        have hv576_0:=hcc576 0 _ rfl
        rw [Nat.add_zero,show (k35).sz=1 from rfl,Nat.mul_one] at hv576_0
        replace hv576_0:=Option.some.inj (hv576_0.symm.trans hx576_0)
        rw [hv576_0] at ge576_0
        have HL576_0:=aM (show Kd.R (Kd.int .i64) 3 _ _ _ _ ((rd_T35 x575001_1 x8_1).f0) from ge576_0)
        clear hv576_0 ge576_0
        have HX576_0:=aM hx576_0
        clear hcc576 hce576
        have HR576_0:=aM hi576_0
        have HC576_0:=aM hl576_0
        clear hi576_0 hl576_0
        replace p576:=eq_true p576
        replace q576:=eq_true q576
        go_wp2_with (first|((with_reducible refine gate_dst (N:=9) rfl ?_);refine box_event ?hg (N:=9) ?hd (cs:=#[.slice none 0 0]) (t:=35) ?hr ?_;(case hd=>rfl);(case hg=>rfl);(case hr=>(go_simp;done));intro gb577 hg w105 hbox hb;replace HO_575001:=aM (Kd.S_below (Kd.S_elderB (rS HO_575001) gb577 (Nat.le_of_eq hg.symm)) hb);replace HL576_0:=rB HL576_0 hb;replace HR576_0:=cB HR576_0 hb;have BK577:=aM (hbox);have GW577:=gS w hg;have GE577:=gS w hg;replace HB:=bs hb;have NB568_577:=nL hg BK568;have NB577_568:=nG hg BK568;replace BK568:=bB BK568 hb;have NB569_577:=nL hg BK569;have NB577_569:=nG hg BK569;replace BK569:=bB BK569 hb;have NB574_577:=nL hg BK574;have NB577_574:=nG hg BK574;replace BK574:=bB BK574 hb;clear HX576_0;clear hb hbox hg;have hnb106:=NB577_568.out;have hnc106:=NB568_577.out;have hnb107:=NB577_569.out;have hnc107:=NB569_577.out;have hnb108:=NB577_574.out;have hnc108:=NB574_577.out;obtain ⟨hcz109_0,hfz109_0⟩:=b1 BK577)|((with_reducible refine gate_callee (f:=49) rfl ?_);refine goesL_ (some 34) rfl rfl Try.func49 (by kernel_rfl) rfl #[.agg #[.slice A576_0 ((rd_T35 x575001_1 x8_1).f0).length c576_0],.slice A1 l1.length c1] rfl (by (try simp only [List.map_toArray,List.map_cons,List.map_nil]);rfl) ?_;(with_reducible refine (spec_l6Lost.calls k1 _ _ ((rd_T35 x575001_1 x8_1).f0) _ _ l1 t578 _ ?side1 ?side2 ?side3 ?side4 A20.out).mono ?_);(case side1=>repeat (exact ((Kd.R_reads' (by exact (Kd.R_mono (Kd.R_far (p:=⟨gb577,0,none⟩) (Kd.R_types HL576_0.out BK577.out (by decide)) (fun _ hk=>hk.2) (.slice A576_0 ((rd_T35 x575001_1 x8_1).f0).length c576_0)) (fun _ h_=>h_.1)))).2.2)));(case side2=>exact HC576_0.out);(case side3=>exact Kd.C_below HR1.out be);(case side4=>exact HC1.out);rintro e w110 ⟨rfl,hb⟩;refine ⟨_,rfl,?_⟩;replace HO_575001:=aM (Kd.S_below ((by exact (Kd.S_mono (Kd.S_far (p:=⟨gb577,0,none⟩) (Kd.S_mono HO_575001.out (fun k_ hk=>(⟨hk,hk.2⟩:_∧k_ ≠ gb577))) (fun _ hk=>hk.2) (.slice A576_0 ((rd_T35 x575001_1 x8_1).f0).length c576_0)) (fun _ h_=>h_.1)))) hb);replace BK568:=aM (blk_below (g:=gb568) (o:=.cells #[.int .i64 a0_0,.slice A0_1 l0_1.length c0_1] 26 (0,0)) (by refine blk_far ?_ NB568_577.out _;exact BK568.out) hb);replace BK569:=aM (blk_below (g:=gb569) (o:=.cells #[.int .i64 0,.slice none 0 0] 26 (0,0)) (by refine blk_far ?_ NB569_577.out _;exact BK569.out) hb);replace BK574:=aM (blk_below (g:=gb574) (o:=.cells #[.int .i64 t570,.slice (some ad576) x575001_1.length co104] 26 (0,0)) (by refine blk_far ?_ NB574_577.out _;exact BK574.out) hb);replace HR576_0:=aM (Kd.C_below ((Kd.R_reads' (by exact (Kd.R_mono (Kd.R_far (p:=⟨gb577,0,none⟩) (Kd.R_types HL576_0.out BK577.out (by decide)) (fun _ hk=>hk.2) (.slice A576_0 ((rd_T35 x575001_1 x8_1).f0).length c576_0)) (fun _ h_=>h_.1)))).2.2) hb);replace BK577:=aM (blk_below (g:=gb577) (o:=.cells #[.slice A576_0 ((rd_T35 x575001_1 x8_1).f0).length c576_0] 35 (0,0)) (by refine blk_put (cs:=#[.slice none 0 0]) ?_ 0 _ rfl;exact BK577.out) hb);replace HB:=bs hb;clear HL576_0;(try clear hb);obtain ⟨hcz111_0,hcz111_1,hfz111_0,hfz111_1⟩:=b2 BK574;obtain ⟨hcz112_0,hfz112_0⟩:=b1 BK577)|((with_reducible refine gate_callee (f:=50) rfl ?_);refine goesL_ (some 57) rfl rfl Try.func50 (by kernel_rfl) rfl #[.agg #[.int .i64 t570,.slice (some ad576) x575001_1.length co104],.agg #[.slice A576_0 ((rd_T35 x575001_1 x8_1).f0).length c576_0],.slice A1 l1.length c1] rfl (by (try simp only [List.map_toArray,List.map_cons,List.map_nil]);rfl) ?_;(with_reducible refine (spec_Best.calls k1 t570 _ _ x575001_1 _ _ ((rd_T35 x575001_1 x8_1).f0) _ _ l1 t602 _ ?side1 ?side2 ?side3 ?side4 ?side5 ?side6 A94.out).mono ?_);(case side1=>exact sS HO_575001);(case side2=>exact (Kd.S_reads' HO_575001.out).2.1);(case side3=>repeat (exact HR576_0.out));(case side4=>exact HC576_0.out);(case side5=>exact rC HR1);(case side6=>exact HC1.out);rintro e w113 ⟨rfl,hb⟩;refine ⟨_,rfl,?_⟩;replace HO_575001:=sB HO_575001 hb;replace BK568:=bB BK568 hb;replace BK569:=bB BK569 hb;replace BK574:=bB BK574 hb;replace HR576_0:=cB HR576_0 hb;replace BK577:=bB BK577 hb;replace HB:=bs hb;(try clear hb);obtain ⟨hcz114_0,hcz114_1,hfz114_0,hfz114_1⟩:=b2 BK574;obtain ⟨hcz115_0,hfz115_0⟩:=b1 BK577)|((with_reducible refine gate_callee (f:=51) rfl ?_);refine goesL_ (some 62) rfl rfl Try.func51 (by kernel_rfl) rfl #[.agg #[.int .i64 t570,.slice (some ad576) x575001_1.length co104],.agg #[.slice A576_0 ((rd_T35 x575001_1 x8_1).f0).length c576_0],.slice A1 l1.length c1,.int .i64 t602] rfl (by (try simp only [List.map_toArray,List.map_cons,List.map_nil]);rfl) ?_;(with_reducible refine (spec_l6Heavy.calls k1 t570 _ _ x575001_1 _ _ ((rd_T35 x575001_1 x8_1).f0) _ _ l1 t602 t603 _ ?side1 ?side2 ?side3 ?side4 ?side5 ?side6 A95.out).mono ?_);(case side1=>exact sS HO_575001);(case side2=>exact (Kd.S_reads' HO_575001.out).2.1);(case side3=>repeat (exact HR576_0.out));(case side4=>exact HC576_0.out);(case side5=>exact rC HR1);(case side6=>exact HC1.out);rintro e w116 ⟨rfl,hb⟩;refine ⟨_,rfl,?_⟩;replace HO_575001:=sB HO_575001 hb;replace BK568:=bB BK568 hb;replace BK569:=bB BK569 hb;replace BK574:=bB BK574 hb;replace HB:=bs hb;clear HR576_0 BK577;(try clear hb);obtain ⟨hcz117_0,hcz117_1,hfz117_0,hfz117_1⟩:=b2 BK574;have p604:0≤(x8_1:Int):=od;have q604:x8_1 < (x575001_1.length:Int):=od;obtain ⟨ad604,A604_0,c604_0,e604,hx604_0,hl604_0,hi604_0⟩:=at_T35 (Kd.S_reads' HO_575001.out).2.2 x8_1 p604 q604;obtain rfl:ad576=ad604:=(by injection e604);obtain ⟨ce604,hce604,hMe604,hcc604⟩:=Kd.S_get HO_575001.out z35 x8_1 p604 (by exact q604);obtain ⟨ve604_0,rfl,ge604_0⟩:=k35_openM hMe604;have hv604_0:=hcc604 0 _ rfl;rw [Nat.add_zero,show (k35).sz=1 from rfl,Nat.mul_one] at hv604_0;replace hv604_0:=Option.some.inj (hv604_0.symm.trans hx604_0);rw [hv604_0] at ge604_0;have HL604_0:=aM (show Kd.R (Kd.int .i64) 3 _ _ _ _ ((rd_T35 x575001_1 x8_1).f0) from ge604_0);clear hv604_0 ge604_0;have HX604_0:=aM hx604_0;clear hcc604 hce604;have HR604_0:=aM hi604_0;have HC604_0:=aM hl604_0;clear hi604_0 hl604_0;replace p604:=eq_true p604;replace q604:=eq_true q604;have p100:0≤(t603:Int):=od;have q100:(t603:Int) < ((((rd_T35 x575001_1 x8_1).f0).length:Int):Int):=od;obtain ⟨go100,co100,eo100,gb100,gl100,cl100,HG100⟩:=Kd.R_form HL604_0.out (by omega);(cases eo100);have GB100:=aM gb100;have GG100:=aM HG100;clear gb100 gl100 HG100;obtain ⟨hx100_0,hf100_0⟩:=Kd.R_celln 0 HL604_0.out (t603:Int) p100 q100;replace p100:=eq_true p100;replace q100:=eq_true q100;replace HO_575001:=aM (Kd.S_mono (ok':=(fun k_=>k_ ≠ gb577)) HO_575001.out (fun k_ hk=>hk.2));have hq118:(x8_1:Int) < (x575001_1.length:Int):=(by have h_:(x8_1:Int) < ((x575001_1.length:Int):Int):=od;exact h_);obtain ⟨oki118,ce118,hcl118,hM118,hcc118,hok118,hbk118⟩:=Kd.S_borrow HO_575001.out z35 (x8_1:Int) od hq118;obtain ⟨ve118_0,rfl,ge118_0⟩:=k35_openM hM118;have hv118:=hcc118 0 _ rfl;rw [Nat.add_zero,show (k35).sz=1 from rfl,Nat.mul_one] at hv118;replace hv118:=Option.some.inj (hv118.symm.trans HX604_0.out);subst hv118;clear hcc118 hcl118;replace ge118_0:=(show Kd.R (Kd.int .i64) 3 _ _ _ _ ((rd_T35 x575001_1 x8_1).f0) from ge118_0);have HP118:=Kd.R_putg ge118_0 (t603:Int) t602)|((with_reducible refine gate_store (t:=3) (p:=77) rfl ?_);refine store_event (t:=3) (p:=77) (v:=?vo_w119) (w1:=(w116.setCell ⟨go100,(t603:Int).toNat,none⟩ (.int .i64 t602))) ?hg ?ho ?hn ?hr ?_;(case ho=>rfl);(case hg=>rfl);(case hn=>rfl);(case hr=>(go_simp;done));intro w119 hw;have hg:w116.grownBy w119 (some go100):=(by rw [hw];exact HP118.2);have hz_:Kd.R (Kd.int .i64) 3 w119 w.heap.size oki118 (.slice (some ⟨go100,0,none⟩) ((rd_T35 x575001_1 x8_1).f0).length c604_0) y605:=(by rw [hw,Ny605.out];exact HP118.1);have hp_:Kd.S k35 35 w119 w.heap.size (fun k_=>k_ ≠ gb577) (.slice (some ad576) x575001_1.length co104) y607:=(by rw [Ny607.out];exact Kd.S_mono (hbk118 hg (fun k_ e_=>by injection e_ with e_;subst e_;exact ge118_0.1 _ rfl) (k35_mkM _ _ _ (⟨y605⟩:S35) hz_)) (fun _ hk=>by exact hk));have hm_:=Kd.R_mono hz_ hok118;clear HP118 hbk118;replace HO_575001:=aM (hp_);replace BK568:=bG BK568 hg (Kd.R_ne HL604_0.out BK568.out (by decide));replace BK569:=bG BK569 hg (Kd.R_ne HL604_0.out BK569.out (by decide));replace BK574:=bG BK574 hg (Kd.R_ne HL604_0.out BK574.out (by decide));replace HB:=aM ((by rw [hw];exact below_set (HB.out) GB100.out:Below w.heap.size w w119));clear HL604_0;clear hg hw hp_ hz_ hm_ hok118))
        go_roundg k1
        case measure=>have:=HK1.out;omega
        case rel=>exact ⟨(wrap64 (x7_1+1)),(wrap64 (x8_1+1)),(y607),(.slice (some ad576) x575001_1.length co104),rd_,rd_,H',⟨by have:=HK1.out;omega⟩,⟨by exact Kd.S_mono HO_575001.out (fun _ hk=>trivial)⟩,⟨bk BK568⟩,⟨bk BK569⟩,⟨bk BK574⟩,⟨be⟩⟩
       ·rw [if_neg c97] at H
        have c97b0:decide (0≤t602)=false:=decide_eq_false c97
        clear c97
        have H':=Aside0.mk H
        clear H
        have hnb120:=NB574_568.out
        have hnc120:=NB568_574.out
        have hnb121:=NB574_569.out
        have hnc121:=NB569_574.out
        obtain ⟨hcz122_0,hcz122_1,hfz122_0,hfz122_1⟩:=b2 BK574
        obtain ⟨Ao123,co123,eo123⟩:=Kd.S_slice HO_575001.out
        subst eo123
        have p576:0≤(x8_1:Int):=od
        have q576:x8_1 < (x575001_1.length:Int):=od
        obtain ⟨ad576,A576_0,c576_0,e576,hx576_0,hl576_0,hi576_0⟩:=at_T35 (Kd.S_reads' HO_575001.out).2.2 x8_1 p576 q576
        cases e576
        obtain ⟨ce576,hce576,hMe576,hcc576⟩:=Kd.S_get HO_575001.out z35 x8_1 p576 (by exact q576)
        obtain ⟨ve576_0,rfl,ge576_0⟩:=k35_openM hMe576
        have hv576_0:=hcc576 0 _ rfl
        rw [Nat.add_zero,show (k35).sz=1 from rfl,Nat.mul_one] at hv576_0
        replace hv576_0:=Option.some.inj (hv576_0.symm.trans hx576_0)
        rw [hv576_0] at ge576_0
        have HL576_0:=aM (show Kd.R (Kd.int .i64) 3 _ _ _ _ ((rd_T35 x575001_1 x8_1).f0) from ge576_0)
        clear hv576_0 ge576_0
        have HX576_0:=aM hx576_0
        clear hcc576 hce576
        have HR576_0:=aM hi576_0
        have HC576_0:=aM hl576_0
        clear hi576_0 hl576_0
        replace p576:=eq_true p576
        replace q576:=eq_true q576
        go_wp2_with (first|((with_reducible refine gate_dst (N:=9) rfl ?_);refine box_event ?hg (N:=9) ?hd (cs:=#[.slice none 0 0]) (t:=35) ?hr ?_;(case hd=>rfl);(case hg=>rfl);(case hr=>(go_simp;done));intro gb577 hg w124 hbox hb;replace HO_575001:=aM (Kd.S_below (Kd.S_elderB (rS HO_575001) gb577 (Nat.le_of_eq hg.symm)) hb);replace HL576_0:=rB HL576_0 hb;replace HR576_0:=cB HR576_0 hb;have BK577:=aM (hbox);have GW577:=gS w hg;have GE577:=gS w hg;replace HB:=bs hb;have NB568_577:=nL hg BK568;have NB577_568:=nG hg BK568;replace BK568:=bB BK568 hb;have NB569_577:=nL hg BK569;have NB577_569:=nG hg BK569;replace BK569:=bB BK569 hb;have NB574_577:=nL hg BK574;have NB577_574:=nG hg BK574;replace BK574:=bB BK574 hb;clear HX576_0;clear hb hbox hg;have hnb125:=NB577_568.out;have hnc125:=NB568_577.out;have hnb126:=NB577_569.out;have hnc126:=NB569_577.out;have hnb127:=NB577_574.out;have hnc127:=NB574_577.out;obtain ⟨hcz128_0,hfz128_0⟩:=b1 BK577)|((with_reducible refine gate_callee (f:=49) rfl ?_);refine goesL_ (some 34) rfl rfl Try.func49 (by kernel_rfl) rfl #[.agg #[.slice A576_0 ((rd_T35 x575001_1 x8_1).f0).length c576_0],.slice A1 l1.length c1] rfl (by (try simp only [List.map_toArray,List.map_cons,List.map_nil]);rfl) ?_;(with_reducible refine (spec_l6Lost.calls k1 _ _ ((rd_T35 x575001_1 x8_1).f0) _ _ l1 t578 _ ?side1 ?side2 ?side3 ?side4 A20.out).mono ?_);(case side1=>repeat (exact ((Kd.R_reads' (by exact (Kd.R_mono (Kd.R_far (p:=⟨gb577,0,none⟩) (Kd.R_types HL576_0.out BK577.out (by decide)) (fun _ hk=>hk.2) (.slice A576_0 ((rd_T35 x575001_1 x8_1).f0).length c576_0)) (fun _ h_=>h_.1)))).2.2)));(case side2=>exact HC576_0.out);(case side3=>exact Kd.C_below HR1.out be);(case side4=>exact HC1.out);rintro e w129 ⟨rfl,hb⟩;refine ⟨_,rfl,?_⟩;replace HO_575001:=aM (Kd.S_below ((by exact (Kd.S_mono (Kd.S_far (p:=⟨gb577,0,none⟩) (Kd.S_mono HO_575001.out (fun k_ hk=>(⟨hk,hk.2⟩:_∧k_ ≠ gb577))) (fun _ hk=>hk.2) (.slice A576_0 ((rd_T35 x575001_1 x8_1).f0).length c576_0)) (fun _ h_=>h_.1)))) hb);replace BK568:=aM (blk_below (g:=gb568) (o:=.cells #[.int .i64 a0_0,.slice A0_1 l0_1.length c0_1] 26 (0,0)) (by refine blk_far ?_ NB568_577.out _;exact BK568.out) hb);replace BK569:=aM (blk_below (g:=gb569) (o:=.cells #[.int .i64 0,.slice none 0 0] 26 (0,0)) (by refine blk_far ?_ NB569_577.out _;exact BK569.out) hb);replace BK574:=aM (blk_below (g:=gb574) (o:=.cells #[.int .i64 t570,.slice (some ad576) x575001_1.length co123] 26 (0,0)) (by refine blk_far ?_ NB574_577.out _;exact BK574.out) hb);replace HR576_0:=aM (Kd.C_below ((Kd.R_reads' (by exact (Kd.R_mono (Kd.R_far (p:=⟨gb577,0,none⟩) (Kd.R_types HL576_0.out BK577.out (by decide)) (fun _ hk=>hk.2) (.slice A576_0 ((rd_T35 x575001_1 x8_1).f0).length c576_0)) (fun _ h_=>h_.1)))).2.2) hb);replace BK577:=aM (blk_below (g:=gb577) (o:=.cells #[.slice A576_0 ((rd_T35 x575001_1 x8_1).f0).length c576_0] 35 (0,0)) (by refine blk_put (cs:=#[.slice none 0 0]) ?_ 0 _ rfl;exact BK577.out) hb);replace HB:=bs hb;clear HL576_0;(try clear hb);obtain ⟨hcz130_0,hcz130_1,hfz130_0,hfz130_1⟩:=b2 BK574;obtain ⟨hcz131_0,hfz131_0⟩:=b1 BK577)|((with_reducible refine gate_callee (f:=50) rfl ?_);refine goesL_ (some 57) rfl rfl Try.func50 (by kernel_rfl) rfl #[.agg #[.int .i64 t570,.slice (some ad576) x575001_1.length co123],.agg #[.slice A576_0 ((rd_T35 x575001_1 x8_1).f0).length c576_0],.slice A1 l1.length c1] rfl (by (try simp only [List.map_toArray,List.map_cons,List.map_nil]);rfl) ?_;(with_reducible refine (spec_Best.calls k1 t570 _ _ x575001_1 _ _ ((rd_T35 x575001_1 x8_1).f0) _ _ l1 t602 _ ?side1 ?side2 ?side3 ?side4 ?side5 ?side6 A94.out).mono ?_);(case side1=>exact sS HO_575001);(case side2=>exact (Kd.S_reads' HO_575001.out).2.1);(case side3=>repeat (exact HR576_0.out));(case side4=>exact HC576_0.out);(case side5=>exact rC HR1);(case side6=>exact HC1.out);rintro e w132 ⟨rfl,hb⟩;refine ⟨_,rfl,?_⟩;replace HO_575001:=sB HO_575001 hb;replace BK568:=bB BK568 hb;replace BK569:=bB BK569 hb;replace BK574:=bB BK574 hb;replace HR576_0:=cB HR576_0 hb;replace BK577:=bB BK577 hb;replace HB:=bs hb;(try clear hb);obtain ⟨hcz133_0,hcz133_1,hfz133_0,hfz133_1⟩:=b2 BK574;obtain ⟨hcz134_0,hfz134_0⟩:=b1 BK577)|((with_reducible refine gate_callee (f:=51) rfl ?_);refine goesL_ (some 62) rfl rfl Try.func51 (by kernel_rfl) rfl #[.agg #[.int .i64 t570,.slice (some ad576) x575001_1.length co123],.agg #[.slice A576_0 ((rd_T35 x575001_1 x8_1).f0).length c576_0],.slice A1 l1.length c1,.int .i64 t602] rfl (by (try simp only [List.map_toArray,List.map_cons,List.map_nil]);rfl) ?_;(with_reducible refine (spec_l6Heavy.calls k1 t570 _ _ x575001_1 _ _ ((rd_T35 x575001_1 x8_1).f0) _ _ l1 t602 t603 _ ?side1 ?side2 ?side3 ?side4 ?side5 ?side6 A95.out).mono ?_);(case side1=>exact sS HO_575001);(case side2=>exact (Kd.S_reads' HO_575001.out).2.1);(case side3=>repeat (exact HR576_0.out));(case side4=>exact HC576_0.out);(case side5=>exact rC HR1);(case side6=>exact HC1.out);rintro e w135 ⟨rfl,hb⟩;refine ⟨_,rfl,?_⟩;replace HO_575001:=sB HO_575001 hb;replace BK568:=bB BK568 hb;replace BK569:=bB BK569 hb;replace BK574:=bB BK574 hb;replace HB:=bs hb;clear HR576_0 BK577;(try clear hb)))
        go_roundg k1
        case measure=>have:=HK1.out;omega
        case rel=>exact ⟨(x7_1),(wrap64 (x8_1+1)),(x575001_1),(.slice (some ad576) x575001_1.length co123),rd_,rd_,H',⟨by have:=HK1.out;omega⟩,⟨by exact Kd.S_mono HO_575001.out (fun _ hk=>trivial)⟩,⟨bk BK568⟩,⟨bk BK569⟩,⟨bk BK574⟩,⟨be⟩⟩
      ·rw [if_neg c96] at H
       have c96b0:decide (0≤t603)=false:=decide_eq_false c96
       clear c96
       have H':=Aside0.mk H
       clear H
       have hnb136:=NB574_568.out
       have hnc136:=NB568_574.out
       have hnb137:=NB574_569.out
       have hnc137:=NB569_574.out
       obtain ⟨hcz138_0,hcz138_1,hfz138_0,hfz138_1⟩:=b2 BK574
       obtain ⟨Ao139,co139,eo139⟩:=Kd.S_slice HO_575001.out
       subst eo139
       have p576:0≤(x8_1:Int):=od
       have q576:x8_1 < (x575001_1.length:Int):=od
       obtain ⟨ad576,A576_0,c576_0,e576,hx576_0,hl576_0,hi576_0⟩:=at_T35 (Kd.S_reads' HO_575001.out).2.2 x8_1 p576 q576
       cases e576
       obtain ⟨ce576,hce576,hMe576,hcc576⟩:=Kd.S_get HO_575001.out z35 x8_1 p576 (by exact q576)
       obtain ⟨ve576_0,rfl,ge576_0⟩:=k35_openM hMe576
       have hv576_0:=hcc576 0 _ rfl
       rw [Nat.add_zero,show (k35).sz=1 from rfl,Nat.mul_one] at hv576_0
       replace hv576_0:=Option.some.inj (hv576_0.symm.trans hx576_0)
       rw [hv576_0] at ge576_0
       have HL576_0:=aM (show Kd.R (Kd.int .i64) 3 _ _ _ _ ((rd_T35 x575001_1 x8_1).f0) from ge576_0)
       clear hv576_0 ge576_0
       have HX576_0:=aM hx576_0
       clear hcc576 hce576
       have HR576_0:=aM hi576_0
       have HC576_0:=aM hl576_0
       clear hi576_0 hl576_0
       replace p576:=eq_true p576
       replace q576:=eq_true q576
       go_wp2_with (first|((with_reducible refine gate_dst (N:=9) rfl ?_);refine box_event ?hg (N:=9) ?hd (cs:=#[.slice none 0 0]) (t:=35) ?hr ?_;(case hd=>rfl);(case hg=>rfl);(case hr=>(go_simp;done));intro gb577 hg w140 hbox hb;replace HO_575001:=aM (Kd.S_below (Kd.S_elderB (rS HO_575001) gb577 (Nat.le_of_eq hg.symm)) hb);replace HL576_0:=rB HL576_0 hb;replace HR576_0:=cB HR576_0 hb;have BK577:=aM (hbox);have GW577:=gS w hg;have GE577:=gS w hg;replace HB:=bs hb;have NB568_577:=nL hg BK568;have NB577_568:=nG hg BK568;replace BK568:=bB BK568 hb;have NB569_577:=nL hg BK569;have NB577_569:=nG hg BK569;replace BK569:=bB BK569 hb;have NB574_577:=nL hg BK574;have NB577_574:=nG hg BK574;replace BK574:=bB BK574 hb;clear HX576_0;clear hb hbox hg;have hnb141:=NB577_568.out;have hnc141:=NB568_577.out;have hnb142:=NB577_569.out;have hnc142:=NB569_577.out;have hnb143:=NB577_574.out;have hnc143:=NB574_577.out;obtain ⟨hcz144_0,hfz144_0⟩:=b1 BK577)|((with_reducible refine gate_callee (f:=49) rfl ?_);refine goesL_ (some 34) rfl rfl Try.func49 (by kernel_rfl) rfl #[.agg #[.slice A576_0 ((rd_T35 x575001_1 x8_1).f0).length c576_0],.slice A1 l1.length c1] rfl (by (try simp only [List.map_toArray,List.map_cons,List.map_nil]);rfl) ?_;(with_reducible refine (spec_l6Lost.calls k1 _ _ ((rd_T35 x575001_1 x8_1).f0) _ _ l1 t578 _ ?side1 ?side2 ?side3 ?side4 A20.out).mono ?_);(case side1=>repeat (exact ((Kd.R_reads' (by exact (Kd.R_mono (Kd.R_far (p:=⟨gb577,0,none⟩) (Kd.R_types HL576_0.out BK577.out (by decide)) (fun _ hk=>hk.2) (.slice A576_0 ((rd_T35 x575001_1 x8_1).f0).length c576_0)) (fun _ h_=>h_.1)))).2.2)));(case side2=>exact HC576_0.out);(case side3=>exact Kd.C_below HR1.out be);(case side4=>exact HC1.out);rintro e w145 ⟨rfl,hb⟩;refine ⟨_,rfl,?_⟩;replace HO_575001:=aM (Kd.S_below ((by exact (Kd.S_mono (Kd.S_far (p:=⟨gb577,0,none⟩) (Kd.S_mono HO_575001.out (fun k_ hk=>(⟨hk,hk.2⟩:_∧k_ ≠ gb577))) (fun _ hk=>hk.2) (.slice A576_0 ((rd_T35 x575001_1 x8_1).f0).length c576_0)) (fun _ h_=>h_.1)))) hb);replace BK568:=aM (blk_below (g:=gb568) (o:=.cells #[.int .i64 a0_0,.slice A0_1 l0_1.length c0_1] 26 (0,0)) (by refine blk_far ?_ NB568_577.out _;exact BK568.out) hb);replace BK569:=aM (blk_below (g:=gb569) (o:=.cells #[.int .i64 0,.slice none 0 0] 26 (0,0)) (by refine blk_far ?_ NB569_577.out _;exact BK569.out) hb);replace BK574:=aM (blk_below (g:=gb574) (o:=.cells #[.int .i64 t570,.slice (some ad576) x575001_1.length co139] 26 (0,0)) (by refine blk_far ?_ NB574_577.out _;exact BK574.out) hb);replace HR576_0:=aM (Kd.C_below ((Kd.R_reads' (by exact (Kd.R_mono (Kd.R_far (p:=⟨gb577,0,none⟩) (Kd.R_types HL576_0.out BK577.out (by decide)) (fun _ hk=>hk.2) (.slice A576_0 ((rd_T35 x575001_1 x8_1).f0).length c576_0)) (fun _ h_=>h_.1)))).2.2) hb);replace BK577:=aM (blk_below (g:=gb577) (o:=.cells #[.slice A576_0 ((rd_T35 x575001_1 x8_1).f0).length c576_0] 35 (0,0)) (by refine blk_put (cs:=#[.slice none 0 0]) ?_ 0 _ rfl;exact BK577.out) hb);replace HB:=bs hb;clear HL576_0;(try clear hb);obtain ⟨hcz146_0,hcz146_1,hfz146_0,hfz146_1⟩:=b2 BK574;obtain ⟨hcz147_0,hfz147_0⟩:=b1 BK577)|((with_reducible refine gate_callee (f:=50) rfl ?_);refine goesL_ (some 57) rfl rfl Try.func50 (by kernel_rfl) rfl #[.agg #[.int .i64 t570,.slice (some ad576) x575001_1.length co139],.agg #[.slice A576_0 ((rd_T35 x575001_1 x8_1).f0).length c576_0],.slice A1 l1.length c1] rfl (by (try simp only [List.map_toArray,List.map_cons,List.map_nil]);rfl) ?_;(with_reducible refine (spec_Best.calls k1 t570 _ _ x575001_1 _ _ ((rd_T35 x575001_1 x8_1).f0) _ _ l1 t602 _ ?side1 ?side2 ?side3 ?side4 ?side5 ?side6 A94.out).mono ?_);(case side1=>exact sS HO_575001);(case side2=>exact (Kd.S_reads' HO_575001.out).2.1);(case side3=>repeat (exact HR576_0.out));(case side4=>exact HC576_0.out);(case side5=>exact rC HR1);(case side6=>exact HC1.out);rintro e w148 ⟨rfl,hb⟩;refine ⟨_,rfl,?_⟩;replace HO_575001:=sB HO_575001 hb;replace BK568:=bB BK568 hb;replace BK569:=bB BK569 hb;replace BK574:=bB BK574 hb;replace HR576_0:=cB HR576_0 hb;replace BK577:=bB BK577 hb;replace HB:=bs hb;(try clear hb);obtain ⟨hcz149_0,hcz149_1,hfz149_0,hfz149_1⟩:=b2 BK574;obtain ⟨hcz150_0,hfz150_0⟩:=b1 BK577)|((with_reducible refine gate_callee (f:=51) rfl ?_);refine goesL_ (some 62) rfl rfl Try.func51 (by kernel_rfl) rfl #[.agg #[.int .i64 t570,.slice (some ad576) x575001_1.length co139],.agg #[.slice A576_0 ((rd_T35 x575001_1 x8_1).f0).length c576_0],.slice A1 l1.length c1,.int .i64 t602] rfl (by (try simp only [List.map_toArray,List.map_cons,List.map_nil]);rfl) ?_;(with_reducible refine (spec_l6Heavy.calls k1 t570 _ _ x575001_1 _ _ ((rd_T35 x575001_1 x8_1).f0) _ _ l1 t602 t603 _ ?side1 ?side2 ?side3 ?side4 ?side5 ?side6 A95.out).mono ?_);(case side1=>exact sS HO_575001);(case side2=>exact (Kd.S_reads' HO_575001.out).2.1);(case side3=>repeat (exact HR576_0.out));(case side4=>exact HC576_0.out);(case side5=>exact rC HR1);(case side6=>exact HC1.out);rintro e w151 ⟨rfl,hb⟩;refine ⟨_,rfl,?_⟩;replace HO_575001:=sB HO_575001 hb;replace BK568:=bB BK568 hb;replace BK569:=bB BK569 hb;replace BK574:=bB BK574 hb;replace HB:=bs hb;clear HR576_0 BK577;(try clear hb)))
       go_roundg k1
       case measure=>have:=HK1.out;omega
       case rel=>exact ⟨(x7_1),(wrap64 (x8_1+1)),(x575001_1),(.slice (some ad576) x575001_1.length co139),rd_,rd_,H',⟨by have:=HK1.out;omega⟩,⟨by exact Kd.S_mono HO_575001.out (fun _ hk=>trivial)⟩,⟨bk BK568⟩,⟨bk BK569⟩,⟨bk BK574⟩,⟨be⟩⟩
    ·rw [if_neg c18] at H
     have c18b0:decide (x8_1 < (x575001_1.length:Int))=false:=decide_eq_false c18
     clear c18
     simp only [Option.some.injEq,Prod.mk.injEq] at H
     obtain ⟨rfl,rfl,rfl⟩:=H
     have hnb152:=NB574_568.out
     have hnc152:=NB568_574.out
     have hnb153:=NB574_569.out
     have hnc153:=NB569_574.out
     obtain ⟨hcz154_0,hcz154_1,hfz154_0,hfz154_1⟩:=b2 BK574
     obtain ⟨Ao155,co155,eo155⟩:=Kd.S_slice HO_575001.out
     subst eo155
     have hnb156:=NB569_568.out
     have hnc156:=NB568_569.out
     obtain ⟨hcz157_0,hcz157_1,hfz157_0,hfz157_1⟩:=b2 BK569
     go_wp2
     refine bodyPost_ret (results_ct rfl _ _ gb569 26 #[.int .i64 t570,.slice Ao155 x575001_1.length co155] (0,0) _ rfl (by refine blk_put (cs:=#[.int .i64 t570,.slice none 0 0]) ?_ 1 _ rfl;refine blk_put (cs:=#[.int .i64 0,.slice none 0 0]) ?_ 0 _ rfl;exact BK569.out) Try.underlying26 rfl (by kernel_rfl)) rfl ?_
     exact ⟨_,rz,by exact Kd.S_mono (Kd.S_far (p:=⟨gb569,1,none⟩) (Kd.S_far (p:=⟨gb569,0,none⟩) (Kd.S_types HO_575001.out BK569.out (by decide)) (fun _ hk=>hk.2) (.int .i64 t570)) (fun _ hk=>hk.2) (.slice Ao155 x575001_1.length co155)) (fun _ hk=>trivial),be⟩
 ·replace c5:=Bool.eq_false_iff.mpr c5
  subst c5
  replace H:=(if_neg (show ¬ (false=true) by decide)).symm.trans H
  simp only [Option.some.injEq,Prod.mk.injEq] at H
  obtain ⟨rfl,rfl,rfl⟩:=H
  go_enter Try.func11,Try.ntmps11
  go_wp2_with (first|((with_reducible refine gate_dst (N:=2) rfl ?_);refine box_event ?hg (N:=2) ?hd (cs:=#[.int .i64 a0_0,.slice A0_1 l0_1.length c0_1]) (t:=26) ?hr ?_;(case hd=>rfl);(case hg=>rfl);(case hr=>(go_simp;done));intro gb568 hg w158 hbox hb;have BK568:=aM (hbox);have GW568:=gS w hg;have GE568:=gS w hg;replace HB:=bs hb;clear hb hbox hg)|((with_reducible refine gate_dst (N:=4) rfl ?_);refine box_event ?hg (N:=4) ?hd (cs:=#[.int .i64 0,.slice none 0 0]) (t:=26) ?hr ?_;(case hd=>rfl);(case hg=>rfl);(case hr=>(go_simp;done));intro gb569 hg w159 hbox hb;have BK569:=aM (hbox);have GW569:=gS w hg;have GE569:=gS w hg;replace HB:=bs hb;have NB568_569:=nL hg BK568;have NB569_568:=nG hg BK568;replace BK568:=bB BK568 hb;clear hb hbox hg;have hnb160:=NB568_569.out;have hnc160:=NB569_568.out;obtain ⟨hcz161_0,hcz161_1,hfz161_0,hfz161_1⟩:=b2 BK568)|((with_reducible refine gate_callee (f:=47) rfl ?_);refine goesL_ (some 14) rfl rfl Try.func47 (by kernel_rfl) rfl #[.agg #[.int .i64 a0_0,.slice A0_1 l0_1.length c0_1]] rfl (by (try simp only [List.map_toArray,List.map_cons,List.map_nil]);rfl) ?_;(with_reducible refine (spec_l5Copy.calls k a0_0 _ _ l0_1 t570 t571 _ ?side1 ?side2 A3.out).mono ?_);(case side1=>exact rC HR0_1);(case side2=>exact HC0_1.out);rintro e w162 ⟨v572,rfl,ho0,hb⟩;refine ⟨_,rfl,?_⟩;have HO573:=aM (Kd.S_lower ho0 (below_size be));replace BK568:=bB BK568 hb;replace BK569:=bB BK569 hb;replace HB:=bs hb;(try clear hb);(try clear ho0))|((with_reducible refine gate_dst (N:=6) rfl ?_);refine box_event ?hg (N:=6) ?hd (cs:=#[.int .i64 0,.slice none 0 0]) (t:=26) ?hr ?_;(case hd=>rfl);(case hg=>rfl);(case hr=>(go_simp;done));intro gb574 hg w163 hbox hb;replace HO573:=sB HO573 hb;have BK574:=aM (hbox);have GW574:=gS w hg;have GE574:=gS w hg;replace HB:=bs hb;have NB568_574:=nL hg BK568;have NB574_568:=nG hg BK568;replace BK568:=bB BK568 hb;have NB569_574:=nL hg BK569;have NB574_569:=nG hg BK569;replace BK569:=bB BK569 hb;clear hb hbox hg;have hnb164:=NB574_568.out;have hnc164:=NB568_574.out;have hnb165:=NB574_569.out;have hnc165:=NB569_574.out;obtain ⟨hcz166_0,hcz166_1,hfz166_0,hfz166_1⟩:=b2 BK574;obtain ⟨Ao167,co167,eo167⟩:=Kd.S_slice HO573.out;subst eo167;obtain ⟨hcz168_0,hcz168_1,hfz168_0,hfz168_1⟩:=b2 BK568)|((with_reducible refine gate_callee (f:=48) rfl ?_);refine goesL_ (some 17) rfl rfl Try.func48 (by kernel_rfl) rfl #[.agg #[.int .i64 a0_0,.slice A0_1 l0_1.length c0_1],.slice A1 l1.length c1] rfl (by (try simp only [List.map_toArray,List.map_cons,List.map_nil]);rfl) ?_;(with_reducible refine (spec_l6Ok.calls k a0_0 _ _ l0_1 _ _ l1 false _ ?side1 ?side2 ?side3 ?side4 A4.out).mono ?_);(case side1=>exact Kd.C_below HR0_1.out be);(case side2=>exact HC0_1.out);(case side3=>exact Kd.C_below HR1.out be);(case side4=>exact HC1.out);rintro e w169 ⟨rfl,hb⟩;refine ⟨_,rfl,?_⟩;replace HO573:=aM (Kd.S_below ((by exact (Kd.S_mono (Kd.S_far (p:=⟨gb574,1,none⟩) (Kd.S_far (p:=⟨gb574,0,none⟩) (Kd.S_types HO573.out BK574.out (by decide)) (fun _ hk=>hk.2) (.int .i64 t570)) (fun _ hk=>hk.2) (.slice Ao167 t571.length co167)) (fun _ h_=>h_.1)))) hb);replace BK569:=aM (blk_below (g:=gb569) (o:=.cells #[.int .i64 0,.slice none 0 0] 26 (0,0)) (by refine blk_far ?_ NB569_574.out _;refine blk_far ?_ NB569_574.out _;exact BK569.out) hb);replace BK574:=aM (blk_below (g:=gb574) (o:=.cells #[.int .i64 t570,.slice Ao167 t571.length co167] 26 (0,0)) (by refine blk_put (cs:=#[.int .i64 t570,.slice none 0 0]) ?_ 1 _ rfl;refine blk_put (cs:=#[.int .i64 0,.slice none 0 0]) ?_ 0 _ rfl;exact BK574.out) hb);replace HB:=bs hb;clear BK568;(try clear hb);obtain ⟨hcz170_0,hcz170_1,hfz170_0,hfz170_1⟩:=b2 BK574;obtain ⟨hcz171_0,hcz171_1,hfz171_0,hfz171_1⟩:=b2 BK569))
  refine bodyPost_ret (results_ct rfl _ _ gb569 26 #[.int .i64 t570,.slice Ao167 t571.length co167] (0,0) _ rfl (by refine blk_put (cs:=#[.int .i64 t570,.slice none 0 0]) ?_ 1 _ rfl;refine blk_put (cs:=#[.int .i64 0,.slice none 0 0]) ?_ 0 _ rfl;exact BK569.out) Try.underlying26 rfl (by kernel_rfl)) rfl ?_
  exact ⟨_,rz,by exact Kd.S_mono (Kd.S_far (p:=⟨gb569,1,none⟩) (Kd.S_far (p:=⟨gb569,0,none⟩) (Kd.S_types HO573.out BK569.out (by decide)) (fun _ hk=>hk.2) (.int .i64 t570)) (fun _ hk=>hk.2) (.slice Ao167 t571.length co167)) (fun _ hk=>trivial),be⟩
end Go.Proofs.Ytpbjbfimnfghkaa.PFnRebalanced
