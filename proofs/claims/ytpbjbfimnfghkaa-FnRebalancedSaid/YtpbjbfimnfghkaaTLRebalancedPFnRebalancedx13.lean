/- Trimmed by a program of this session (trim.py). Not trusted: Lean checks it. -/
import Derived.Test.YtpbjbfimnfghkaaTLRebalancedPFnRebalancedx0
import Derived.Test.YtpbjbfimnfghkaaTLRebalancedPFnRebalancedx7
import Derived.Test.YtpbjbfimnfghkaaTLRebalancedPFnRebalancedx8
import Derived.Test.YtpbjbfimnfghkaaTLRebalancedPFnRebalancedx9
import Derived.Test.YtpbjbfimnfghkaaTLRebalancedPFnRebalancedx11
import Derived.Test.YtpbjbfimnfghkaaTLRebalancedPFnRebalancedx12
namespace Go.Proofs.Ytpbjbfimnfghkaa.PFnRebalanced
open Go.RowKit Go.Proofs.YtpbjbfimnfghkaaW.PrintWords Go.Proofs.YtpbjbfimnfghkaaW.PrintLast Go.Proofs.YtpbjbfimnfghkaaW.PrintMore Go.Proofs.Ytpbjbfimnfghkaa.St
attribute [local go_sem] max2_int min2_int max_two min_two max_three min_three max_four min_four
set_option linter.unusedVariables false
set_option linter.unusedSimpArgs false
def impl_Rebalance.l0:Nat→List (S61)→Int→Int→Int→Int→List (S35)→Option (Int × (List (S35)) × Int)
 | 0,_,_,_,_,_,_=>none
 | k+1,x1,x7,x22,x23,x494000,x494001=>if x23 < x22 then (if 0≤x23 then (if x23 < (x494001.length:Int) then ((impl_lost.f k ((rd_T35 x494001 x23).f0) x1).bind fun t497=>(if t497 ≥ 0 then (if 0≤t497 then (if t497≤(((rd_T35 x494001 x23).f0).length:Int) then ((impl_copyInts.f (((rd_T35 x494001 x23).f0).take (t497:Int).toNat)).bind fun t502=>(if 0≤(wrap64 (t497+1)) then (if (wrap64 (t497+1))≤(((rd_T35 x494001 x23).f0).length:Int) then ((some (((rd_T35 x494001 x23).f0).drop ((wrap64 (t497+1)):Int).toNat:List Int)).bind fun y505=>(if t502.length+y505.length < 17592186044416 then ((impl_Best.f k x494000 x494001 (t502 ++ y505) x1).bind fun t512=>(if t512 ≥ 0 then (if t497 < (((rd_T35 x494001 x23).f0).length:Int) then (impl_Rebalance.l0 k x1 (wrap64 (x7+1)) x22 (wrap64 (x23+1)) x494000 (x494001.set (x23:Int).toNat (⟨(((rd_T35 x494001 x23).f0).set (t497:Int).toNat t512)⟩:S35))) else (none)) else (impl_Rebalance.l0 k x1 x7 x22 (wrap64 (x23+1)) x494000 x494001))) else (none))) else (none)) else (none))) else (none)) else (none)) else ((impl_heavy.f k x494000 x494001 ((rd_T35 x494001 x23).f0) x1).bind fun bt516=>(if bt516.1 ≥ 0 then (if bt516.2 ≥ 0 then (if 0≤bt516.1 then (if bt516.1 < (((rd_T35 x494001 x23).f0).length:Int) then (impl_Rebalance.l0 k x1 (wrap64 (x7+1)) x22 (wrap64 (x23+1)) x494000 (x494001.set (x23:Int).toNat (⟨(((rd_T35 x494001 x23).f0).set (bt516.1:Int).toNat bt516.2)⟩:S35))) else (none)) else (none)) else (impl_Rebalance.l0 k x1 x7 x22 (wrap64 (x23+1)) x494000 x494001)) else (impl_Rebalance.l0 k x1 x7 x22 (wrap64 (x23+1)) x494000 x494001))))) else (none)) else (none)) else (some (x494000,x494001,x7))
def impl_Rebalance.f (k:Nat) (a0_0:Int) (l0_1:List (S35)) (l1:List (S61)):Option (Int × (List (S35)) × Int):=(impl_copyRing.f k a0_0 l0_1).bind fun bt489=>((impl_canMove.f k a0_0 l0_1 l1).bind fun t494=>(if t494=true then (impl_Rebalance.l0 k l1 0 (bt489.2.length:Int) 0 bt489.1 bt489.2) else (some (bt489.1,bt489.2,(-1)))))
def impl_Rebalance.T12:Bool × List (List Nat × List Nat):=(true,[([],[]),([0],[0]),([],[]),([1,2],[1,2]),([3],[3]),([],[]),([5],[5]),([],[]),([7],[7]),([6,8],[6,8]),([4,9,4],[4,9]),([10,10,0,1,2,3,4,5,6,7,8,9,10],[10])])
def impl_Rebalance.B12:List Nat:=[0,1,0,7,15,0,32,0,128,480,1023,2047]
theorem impl_Rebalance.tab12:rtab .any (opsOf Try.f10 12)=impl_Rebalance.T12:=by kernel_rfl
theorem impl_Rebalance.bits12:waitsOk impl_Rebalance.T12.2 impl_Rebalance.B12=true:=by kernel_rfl
set_option maxHeartbeats 8000000 in
set_option maxRecDepth 100000 in
theorem impl_Rebalance.calls (k:Nat) (a0_0:Int) (A0_1:Option Addr) (c0_1:Nat) (l0_1:List (S35)) (A1:Option Addr) (c1:Nat) (l1:List (S61)) (r1:Int) (r2:List (S35)) (r3:Int) (w:World) (hr0_1:Kd.C k35 w A0_1 l0_1.length l0_1) (hc0_1:l0_1.length≤c0_1) (hr1:Kd.C k61 w A1 l1.length l1) (hc1:l1.length≤c1) (h:impl_Rebalance.f k a0_0 l0_1 l1=some (r1,r2,r3)) :
  Calls Try.prog 10 #[.agg #[.int .i64 a0_0,.slice A0_1 l0_1.length c0_1],.slice A1 l1.length c1] w fun e w'=>∃ v1_:Value,e = .returned (.tuple #[.agg #[.int .i64 r1,v1_],.int .i64 r3])∧Kd.S k35 35 w' w.heap.size (fun _=>True) v1_ r2∧Below w.heap.size w w':=by
 have hu26:=Try.underlying26
 have hu35:=Try.underlying35
 have HR0_1:=aM hr0_1
 have HC0_1:=aM hc0_1
 clear hr0_1 hc0_1
 have HR1:=aM hr1
 have HC1:=aM hc1
 clear hr1 hc1
 have HB:=aM (Below.refl w.heap.size w)
 have H:((impl_copyRing.f k a0_0 l0_1).bind fun bt489=>((impl_canMove.f k a0_0 l0_1 l1).bind fun t494=>(if t494=true then (impl_Rebalance.l0 k l1 0 (bt489.2.length:Int) 0 bt489.1 bt489.2) else (some (bt489.1,bt489.2,(-1))))))=some (r1,r2,r3):=h
 clear h
 replace H:=Option.bind_eq_some_iff.mp H
 obtain ⟨⟨t489,t490⟩,A30,H⟩:=H
 try dsimp only at H
 have A3:=aM A30
 clear A30
 replace H:=Option.bind_eq_some_iff.mp H
 obtain ⟨t494,A40,H⟩:=H
 try dsimp only at H
 have A4:=aM A40
 clear A40
 by_cases c5:t494=true
 ·subst c5
  rw [if_pos rfl] at H
  have H':=Aside0.mk H
  clear H
  go_enter Try.func10,Try.ntmps10
  go_wp2_with (first|((with_reducible refine gate_dst (N:=2) rfl ?_);refine box_event ?hg (N:=2) ?hd (cs:=#[.int .i64 a0_0,.slice A0_1 l0_1.length c0_1]) (t:=26) ?hr ?_;(case hd=>rfl);(case hg=>rfl);(case hr=>(go_simp;done));intro gb487 hg w6 hbox hb;have BK487:=aM (hbox);have GW487:=gS w hg;have GE487:=gS w hg;replace HB:=bs hb;clear hb hbox hg)|((with_reducible refine gate_dst (N:=4) rfl ?_);refine box_event ?hg (N:=4) ?hd (cs:=#[.int .i64 0,.slice none 0 0]) (t:=26) ?hr ?_;(case hd=>rfl);(case hg=>rfl);(case hr=>(go_simp;done));intro gb488 hg w7 hbox hb;have BK488:=aM (hbox);have GW488:=gS w hg;have GE488:=gS w hg;replace HB:=bs hb;have NB487_488:=nL hg BK487;have NB488_487:=nG hg BK487;replace BK487:=bB BK487 hb;clear hb hbox hg;have hnb8:=NB487_488.out;have hnc8:=NB488_487.out;obtain ⟨hcz9_0,hcz9_1,hfz9_0,hfz9_1⟩:=b2 BK487)|((with_reducible refine gate_callee (f:=41) rfl ?_);refine goesL_ (some 14) rfl rfl Try.func41 (by kernel_rfl) rfl #[.agg #[.int .i64 a0_0,.slice A0_1 l0_1.length c0_1]] rfl (by (try simp only [List.map_toArray,List.map_cons,List.map_nil]);rfl) ?_;(with_reducible refine (impl_copyRing.calls k a0_0 _ _ l0_1 t489 t490 _ ?side1 ?side2 A3.out).mono ?_);(case side1=>exact rC HR0_1);(case side2=>exact HC0_1.out);rintro e w10 ⟨v491,rfl,ho0,hb⟩;refine ⟨_,rfl,?_⟩;have HO492:=aM (Kd.S_lower ho0 (below_size be));replace BK487:=bB BK487 hb;replace BK488:=bB BK488 hb;replace HB:=bs hb;(try clear hb);(try clear ho0))|((with_reducible refine gate_dst (N:=6) rfl ?_);refine box_event ?hg (N:=6) ?hd (cs:=#[.int .i64 0,.slice none 0 0]) (t:=26) ?hr ?_;(case hd=>rfl);(case hg=>rfl);(case hr=>(go_simp;done));intro gb493 hg w11 hbox hb;replace HO492:=sB HO492 hb;have BK493:=aM (hbox);have GW493:=gS w hg;have GE493:=gS w hg;replace HB:=bs hb;have NB487_493:=nL hg BK487;have NB493_487:=nG hg BK487;replace BK487:=bB BK487 hb;have NB488_493:=nL hg BK488;have NB493_488:=nG hg BK488;replace BK488:=bB BK488 hb;clear hb hbox hg;have hnb12:=NB493_487.out;have hnc12:=NB487_493.out;have hnb13:=NB493_488.out;have hnc13:=NB488_493.out;obtain ⟨hcz14_0,hcz14_1,hfz14_0,hfz14_1⟩:=b2 BK493;obtain ⟨Ao15,co15,eo15⟩:=Kd.S_slice HO492.out;subst eo15;obtain ⟨hcz16_0,hcz16_1,hfz16_0,hfz16_1⟩:=b2 BK487)|((with_reducible refine gate_callee (f:=42) rfl ?_);refine goesL_ (some 17) rfl rfl Try.func42 (by kernel_rfl) rfl #[.agg #[.int .i64 a0_0,.slice A0_1 l0_1.length c0_1],.slice A1 l1.length c1] rfl (by (try simp only [List.map_toArray,List.map_cons,List.map_nil]);rfl) ?_;(with_reducible refine (impl_canMove.calls k a0_0 _ _ l0_1 _ _ l1 true _ ?side1 ?side2 ?side3 ?side4 A4.out).mono ?_);(case side1=>exact Kd.C_below HR0_1.out be);(case side2=>exact HC0_1.out);(case side3=>exact Kd.C_below HR1.out be);(case side4=>exact HC1.out);rintro e w17 ⟨rfl,hb⟩;refine ⟨_,rfl,?_⟩;replace HO492:=aM (Kd.S_below ((by exact (Kd.S_mono (Kd.S_far (p:=⟨gb493,1,none⟩) (Kd.S_far (p:=⟨gb493,0,none⟩) (Kd.S_types HO492.out BK493.out (by decide)) (fun _ hk=>hk.2) (.int .i64 t489)) (fun _ hk=>hk.2) (.slice Ao15 t490.length co15)) (fun _ h_=>h_.1)))) hb);replace BK487:=aM (blk_below (g:=gb487) (o:=.cells #[.int .i64 a0_0,.slice A0_1 l0_1.length c0_1] 26 (0,0)) (by refine blk_far ?_ NB487_493.out _;refine blk_far ?_ NB487_493.out _;exact BK487.out) hb);replace BK488:=aM (blk_below (g:=gb488) (o:=.cells #[.int .i64 0,.slice none 0 0] 26 (0,0)) (by refine blk_far ?_ NB488_493.out _;refine blk_far ?_ NB488_493.out _;exact BK488.out) hb);replace BK493:=aM (blk_below (g:=gb493) (o:=.cells #[.int .i64 t489,.slice Ao15 t490.length co15] 26 (0,0)) (by refine blk_put (cs:=#[.int .i64 t489,.slice none 0 0]) ?_ 1 _ rfl;refine blk_put (cs:=#[.int .i64 0,.slice none 0 0]) ?_ 0 _ rfl;exact BK493.out) hb);replace HB:=bs hb;(try clear hb);obtain ⟨hcz18_0,hcz18_1,hfz18_0,hfz18_1⟩:=b2 BK493))
  go_loopg [7,23] k (fun kq v7 v23 w'=>∃ (x7_1:Int) (x23_1:Int) (x494001_1:List (S35)) (u494001:Value),v7 = .int .i64 x7_1∧v23 = .int .i64 x23_1∧Aside0 (impl_Rebalance.l0 kq l1 x7_1 (t490.length:Int) x23_1 t489 x494001_1=some (r1,r2,r3))∧Aside0 (kq≤k)∧Aside0 (Kd.S k35 35 w' w.heap.size (fun _=>True) u494001 x494001_1)∧Aside0 (w'.heap[gb487]?=some (.cells #[.int .i64 a0_0,(.slice A0_1 l0_1.length c0_1)] 26 (0,0)))∧Aside0 (w'.heap[gb488]?=some (.cells #[.int .i64 0,(.slice none 0 0)] 26 (0,0)))∧Aside0 (w'.heap[gb493]?=some (.cells #[.int .i64 t489,u494001] 26 (0,0)))∧Aside0 (Below w.heap.size w w'))
  case atStart=>exact ⟨(0),(0),(t490),(.slice Ao15 t490.length co15),rd_,rd_,H',⟨Nat.le_refl _⟩,⟨rS HO492⟩,⟨bk BK487⟩,⟨bk BK488⟩,⟨bk BK493⟩,⟨be⟩⟩
  case round=>
   clear H'
   try clear hcz14_0
   try clear hcz14_1
   try clear hcz16_0
   try clear hcz16_1
   try clear hcz18_0
   try clear hcz18_1
   try clear hcz9_0
   try clear hcz9_1
   try clear hfz14_0
   try clear hfz14_1
   try clear hfz16_0
   try clear hfz16_1
   try clear hfz18_0
   try clear hfz18_1
   try clear hfz9_0
   try clear hfz9_1
   obtain ⟨x7_1,x23_1,x494001_1,u494001,rfl,rfl,HA,HK1,HO_494001,BK487,BK488,BK493,HB⟩:=hrel
   cases gk with
   | zero=>exact absurd HA.out (by simp [impl_Rebalance.l0])
   | succ k1=>
    have H:=HA.out
    clear HA
    simp only [impl_Rebalance.l0] at H
    by_cases c19:x23_1 < (t490.length:Int)
    ·rw [if_pos c19] at H
     have c19b0:decide (x23_1 < (t490.length:Int))=true:=decide_eq_true c19
     clear c19
     obtain ⟨c20,H⟩:=ifs H
     have c20b0:decide (0≤x23_1)=true:=decide_eq_true c20
     clear c20
     obtain ⟨c21,H⟩:=ifs H
     have c21b0:decide (x23_1 < (x494001_1.length:Int))=true:=decide_eq_true c21
     clear c21
     replace H:=Option.bind_eq_some_iff.mp H
     obtain ⟨t497,A220,H⟩:=H
     try dsimp only at H
     have A22:=aM A220
     clear A220
     by_cases c23:t497 ≥ 0
     ·rw [if_pos c23] at H
      have c23b0:decide (0≤t497)=true:=decide_eq_true c23
      clear c23
      obtain ⟨c24,H⟩:=ifs H
      have c24b0:=eq_true c24
      have c24b1:decide (0≤t497)=true:=decide_eq_true c24
      clear c24
      obtain ⟨c25,H⟩:=ifs H
      have c25b0:=eq_true c25
      have c25b1:decide (t497≤(((rd_T35 x494001_1 x23_1).f0).length:Int))=true:=decide_eq_true c25
      clear c25
      obtain ⟨y498,hy498⟩ : ∃ y_:List Int,y_=(((rd_T35 x494001_1 x23_1).f0).take (t497:Int).toNat):=⟨_,rfl⟩
      replace H:((impl_copyInts.f y498).bind fun t502=>(if 0≤(wrap64 (t497+1)) then (if (wrap64 (t497+1))≤(((rd_T35 x494001_1 x23_1).f0).length:Int) then ((some (((rd_T35 x494001_1 x23_1).f0).drop ((wrap64 (t497+1)):Int).toNat:List Int)).bind fun y505=>(if t502.length+y505.length < 17592186044416 then ((impl_Best.f k1 t489 x494001_1 (t502 ++ y505) l1).bind fun t512=>(if t512 ≥ 0 then (if t497 < (((rd_T35 x494001_1 x23_1).f0).length:Int) then (impl_Rebalance.l0 k1 l1 (wrap64 (x7_1+1)) (t490.length:Int) (wrap64 (x23_1+1)) t489 (x494001_1.set (x23_1:Int).toNat (⟨(((rd_T35 x494001_1 x23_1).f0).set (t497:Int).toNat t512)⟩:S35))) else (none)) else (impl_Rebalance.l0 k1 l1 x7_1 (t490.length:Int) (wrap64 (x23_1+1)) t489 x494001_1))) else (none))) else (none)) else (none)))=some (r1,r2,r3):=by (rw [hy498];with_reducible exact H)
      have Ny498:=aM hy498
      clear hy498
      replace H:=Option.bind_eq_some_iff.mp H
      obtain ⟨t502,A260,H⟩:=H
      try dsimp only at H
      have A26:=aM A260
      clear A260
      obtain ⟨ji27,hji27⟩ : ∃ j_:Int,(wrap64 (t497+1))=j_:=⟨_,rfl⟩
      replace H:(if 0≤(ji27) then (if (ji27)≤(((rd_T35 x494001_1 x23_1).f0).length:Int) then ((some (((rd_T35 x494001_1 x23_1).f0).drop ((ji27):Int).toNat:List Int)).bind fun y505=>(if t502.length+y505.length < 17592186044416 then ((impl_Best.f k1 t489 x494001_1 (t502 ++ y505) l1).bind fun t512=>(if t512 ≥ 0 then (if t497 < (((rd_T35 x494001_1 x23_1).f0).length:Int) then (impl_Rebalance.l0 k1 l1 (wrap64 (x7_1+1)) (t490.length:Int) (wrap64 (x23_1+1)) t489 (x494001_1.set (x23_1:Int).toNat (⟨(((rd_T35 x494001_1 x23_1).f0).set (t497:Int).toNat t512)⟩:S35))) else (none)) else (impl_Rebalance.l0 k1 l1 x7_1 (t490.length:Int) (wrap64 (x23_1+1)) t489 x494001_1))) else (none))) else (none)) else (none))=some (r1,r2,r3):=by (rw [hji27] at H;exact H)
      skip
      skip
      have hji27w:(IntKind.i64.wrap (t497+1))=ji27:=(i64_w _).trans hji27
      obtain ⟨c28,H⟩:=ifs H
      have c28b0:=eq_true c28
      have c28b1:decide (0≤(ji27))=true:=decide_eq_true c28
      clear c28
      obtain ⟨c29,H⟩:=ifs H
      have c29b0:=eq_true c29
      have c29b1:decide ((ji27)≤(((rd_T35 x494001_1 x23_1).f0).length:Int))=true:=decide_eq_true c29
      clear c29
      obtain ⟨y505,hy505⟩ : ∃ y_:List Int,y_=(((rd_T35 x494001_1 x23_1).f0).drop ((ji27):Int).toNat):=⟨_,rfl⟩
      replace H:(if t502.length+y505.length < 17592186044416 then ((impl_Best.f k1 t489 x494001_1 (t502 ++ y505) l1).bind fun t512=>(if t512 ≥ 0 then (if t497 < (((rd_T35 x494001_1 x23_1).f0).length:Int) then (impl_Rebalance.l0 k1 l1 (wrap64 (x7_1+1)) (t490.length:Int) (wrap64 (x23_1+1)) t489 (x494001_1.set (x23_1:Int).toNat (⟨(((rd_T35 x494001_1 x23_1).f0).set (t497:Int).toNat t512)⟩:S35))) else (none)) else (impl_Rebalance.l0 k1 l1 x7_1 (t490.length:Int) (wrap64 (x23_1+1)) t489 x494001_1))) else (none))=some (r1,r2,r3):=by (have H2_:=(Option.bind_some _ _).symm.trans H;rw [hy505];with_reducible exact H2_)
      have Ny505:=aM hy505
      clear hy505
      obtain ⟨c30,H⟩:=ifs H
      have LMc30:=aM c30
      clear c30
      obtain ⟨y509,hy509⟩ : ∃ y_:List Int,y_=(t502 ++ y505):=⟨_,rfl⟩
      replace H:((impl_Best.f k1 t489 x494001_1 y509 l1).bind fun t512=>(if t512 ≥ 0 then (if t497 < (((rd_T35 x494001_1 x23_1).f0).length:Int) then (impl_Rebalance.l0 k1 l1 (wrap64 (x7_1+1)) (t490.length:Int) (wrap64 (x23_1+1)) t489 (x494001_1.set (x23_1:Int).toNat (⟨(((rd_T35 x494001_1 x23_1).f0).set (t497:Int).toNat t512)⟩:S35))) else (none)) else (impl_Rebalance.l0 k1 l1 x7_1 (t490.length:Int) (wrap64 (x23_1+1)) t489 x494001_1)))=some (r1,r2,r3):=by (rw [hy509];with_reducible exact H)
      have Ny509:=aM hy509
      clear hy509
      replace H:=Option.bind_eq_some_iff.mp H
      obtain ⟨t512,A310,H⟩:=H
      try dsimp only at H
      have A31:=aM A310
      clear A310
      by_cases c32:t512 ≥ 0
      ·rw [if_pos c32] at H
       have c32b0:decide (0≤t512)=true:=decide_eq_true c32
       clear c32
       obtain ⟨c33,H⟩:=ifs H
       have c33b0:decide (t497 < (((rd_T35 x494001_1 x23_1).f0).length:Int))=true:=decide_eq_true c33
       clear c33
       obtain ⟨y513,hy513⟩ : ∃ y_:List Int,y_=(((rd_T35 x494001_1 x23_1).f0).set (t497:Int).toNat t512):=⟨_,rfl⟩
       replace H:(impl_Rebalance.l0 k1 l1 (wrap64 (x7_1+1)) (t490.length:Int) (wrap64 (x23_1+1)) t489 (x494001_1.set (x23_1:Int).toNat (⟨y513⟩:S35)))=some (r1,r2,r3):=by (rw [hy513];with_reducible exact H)
       have Ny513:=aM hy513
       clear hy513
       obtain ⟨y515,hy515⟩ : ∃ y_:List (S35),y_=(x494001_1.set (x23_1:Int).toNat (⟨y513⟩:S35)):=⟨_,rfl⟩
       replace H:(impl_Rebalance.l0 k1 l1 (wrap64 (x7_1+1)) (t490.length:Int) (wrap64 (x23_1+1)) t489 y515)=some (r1,r2,r3):=by (rw [hy515];with_reducible exact H)
       have Ny515:=aM hy515
       clear hy515
       have H':=Aside0.mk H
       clear H
       have hnb35:=NB493_487.out
       have hnc35:=NB487_493.out
       have hnb36:=NB493_488.out
       have hnc36:=NB488_493.out
       obtain ⟨hcz37_0,hcz37_1,hfz37_0,hfz37_1⟩:=b2 BK493
       obtain ⟨Ao38,co38,eo38⟩:=Kd.S_slice HO_494001.out
       subst eo38
       have p495:0≤(x23_1:Int):=od
       have q495:x23_1 < (x494001_1.length:Int):=od
       obtain ⟨ad495,A495_0,c495_0,e495,hx495_0,hl495_0,hi495_0⟩:=at_T35 (Kd.S_reads' HO_494001.out).2.2 x23_1 p495 q495
       cases e495
       obtain ⟨ce495,hce495,hMe495,hcc495⟩:=Kd.S_get HO_494001.out z35 x23_1 p495 (by exact q495)
       obtain ⟨ve495_0,rfl,ge495_0⟩:=k35_openM hMe495
       have hv495_0:=hcc495 0 _ rfl
       rw [Nat.add_zero,show (k35).sz=1 from rfl,Nat.mul_one] at hv495_0
       replace hv495_0:=Option.some.inj (hv495_0.symm.trans hx495_0)
       rw [hv495_0] at ge495_0
       have HL495_0:=aM (show Kd.R (Kd.int .i64) 3 _ _ _ _ ((rd_T35 x494001_1 x23_1).f0) from ge495_0)
       clear hv495_0 ge495_0
       have HX495_0:=aM hx495_0
       clear hcc495 hce495
       have HR495_0:=aM hi495_0
       have HC495_0:=aM hl495_0
       clear hi495_0 hl495_0
       replace p495:=eq_true p495
       replace q495:=eq_true q495
       try go_wp2_with (first|((with_reducible refine gate_dst (N:=9) rfl ?_);refine box_event ?hg (N:=9) ?hd (cs:=#[.slice none 0 0]) (t:=35) ?hr ?_;(case hd=>rfl);(case hg=>rfl);(case hr=>(go_simp;done));intro gb496 hg w39 hbox hb;replace HO_494001:=aM (Kd.S_below (Kd.S_elderB (rS HO_494001) gb496 (Nat.le_of_eq hg.symm)) hb);replace HL495_0:=rB HL495_0 hb;replace HR495_0:=cB HR495_0 hb;replace HX495_0:=xB hb HX495_0;have BK496:=aM (hbox);have GW496:=gS w hg;have GE496:=gS w hg;replace HB:=bs hb;have NB487_496:=nL hg BK487;have NB496_487:=nG hg BK487;replace BK487:=bB BK487 hb;have NB488_496:=nL hg BK488;have NB496_488:=nG hg BK488;replace BK488:=bB BK488 hb;have NB493_496:=nL hg BK493;have NB496_493:=nG hg BK493;replace BK493:=bB BK493 hb;clear hb hbox hg;have hnb40:=NB496_487.out;have hnc40:=NB487_496.out;have hnb41:=NB496_488.out;have hnc41:=NB488_496.out;have hnb42:=NB496_493.out;have hnc42:=NB493_496.out;obtain ⟨hcz43_0,hfz43_0⟩:=b1 BK496)|((with_reducible refine gate_callee (f:=43) rfl ?_);refine goesL_ (some 33) rfl rfl Try.func43 (by kernel_rfl) rfl #[.agg #[.slice A495_0 ((rd_T35 x494001_1 x23_1).f0).length c495_0],.slice A1 l1.length c1] rfl (by (try simp only [List.map_toArray,List.map_cons,List.map_nil]);rfl) ?_;(with_reducible refine (impl_lost.calls k1 _ _ ((rd_T35 x494001_1 x23_1).f0) _ _ l1 t497 _ ?side1 ?side2 ?side3 ?side4 A22.out).mono ?_);(case side1=>repeat (exact ((Kd.R_reads' (by exact (Kd.R_mono (Kd.R_far (p:=⟨gb496,0,none⟩) (Kd.R_types HL495_0.out BK496.out (by decide)) (fun _ hk=>hk.2) (.slice A495_0 ((rd_T35 x494001_1 x23_1).f0).length c495_0)) (fun _ h_=>h_.1)))).2.2)));(case side2=>exact HC495_0.out);(case side3=>exact Kd.C_below HR1.out be);(case side4=>exact HC1.out);rintro e w44 ⟨rfl,hb⟩;refine ⟨_,rfl,?_⟩;replace BK487:=aM (blk_below (g:=gb487) (o:=.cells #[.int .i64 a0_0,.slice A0_1 l0_1.length c0_1] 26 (0,0)) (by refine blk_far ?_ NB487_496.out _;exact BK487.out) hb);replace BK488:=aM (blk_below (g:=gb488) (o:=.cells #[.int .i64 0,.slice none 0 0] 26 (0,0)) (by refine blk_far ?_ NB488_496.out _;exact BK488.out) hb);replace BK493:=aM (blk_below (g:=gb493) (o:=.cells #[.int .i64 t489,.slice (some ad495) x494001_1.length co38] 26 (0,0)) (by refine blk_far ?_ NB493_496.out _;exact BK493.out) hb);replace HR495_0:=aM (Kd.C_below ((Kd.R_reads' (by exact (Kd.R_mono (Kd.R_far (p:=⟨gb496,0,none⟩) (Kd.R_types HL495_0.out BK496.out (by decide)) (fun _ hk=>hk.2) (.slice A495_0 ((rd_T35 x494001_1 x23_1).f0).length c495_0)) (fun _ h_=>h_.1)))).2.2) hb);replace HL495_0:=aM (Kd.R_below ((by exact (Kd.R_mono (Kd.R_far (p:=⟨gb496,0,none⟩) (Kd.R_types HL495_0.out BK496.out (by decide)) (fun _ hk=>hk.2) (.slice A495_0 ((rd_T35 x494001_1 x23_1).f0).length c495_0)) (fun _ h_=>h_.1)))) hb);replace HX495_0:=aM (pw_cell_below hb ((cell_far (p:=⟨gb496,0,none⟩) (by (rw [add_block];exact ((Kd.S_R HO_494001.out).1 _ rfl).2)) (.slice A495_0 ((rd_T35 x494001_1 x23_1).f0).length c495_0)).trans (HX495_0.out)));replace HO_494001:=aM (Kd.S_below ((by exact (Kd.S_mono (Kd.S_far (p:=⟨gb496,0,none⟩) (Kd.S_mono HO_494001.out (fun k_ hk=>(⟨hk,hk.2⟩:_∧k_ ≠ gb496))) (fun _ hk=>hk.2) (.slice A495_0 ((rd_T35 x494001_1 x23_1).f0).length c495_0)) (fun _ h_=>h_.1)))) hb);replace BK496:=aM (blk_below (g:=gb496) (o:=.cells #[.slice A495_0 ((rd_T35 x494001_1 x23_1).f0).length c495_0] 35 (0,0)) (by refine blk_put (cs:=#[.slice none 0 0]) ?_ 0 _ rfl;exact BK496.out) hb);replace HB:=bs hb;(try clear hb)))
       replace HO_494001:=aM (Kd.S_drew HO_494001.out);replace HL495_0:=aM (Kd.R_drew HL495_0.out);replace BK487:=aM (blk_drew BK487.out);replace BK488:=aM (blk_drew BK488.out);replace BK493:=aM (blk_drew BK493.out);replace BK496:=aM (blk_drew BK496.out);replace HR495_0:=aM (Kd.C_drew HR495_0.out);replace HX495_0:=aM (Aid.cell_drew HX495_0.out);replace HB:=aM (below_drew1 HB.out)
       have q46:(t497:Int)≤((((rd_T35 x494001_1 x23_1).f0).length:Int):Int):=od
       obtain ⟨i046,hi046,_,hsz46,_⟩:=info_parts info3
       have hroom46:((rd_T35 x494001_1 x23_1).f0).length≤c495_0:=HC495_0.out
       have hC46:Kd.C (Kd.int .i64) _ A495_0 ((rd_T35 x494001_1 x23_1).f0).length ((rd_T35 x494001_1 x23_1).f0):=HR495_0.out
       have hcut46:=cut_to (P:=Try.prog) 33 3 .i64 Try.underlying33 hi046 A495_0 ((rd_T35 x494001_1 x23_1).f0).length c495_0 t497 od q46 hroom46
       have hr46:=Kd.C_take (m:=(t497:Int).toNat) hC46 (by omega)
       have hy46:y498.length=(t497:Int).toNat:=(by rw [Ny498.out,List.length_take];omega)
       rw [← Ny498.out] at hr46
       rw [← hy46] at hcut46
       have HR501:=aM hr46
       have HC501:=aM (show y498.length≤c495_0 from by omega)
       clear hr46 hC46 hroom46 hi046 hsz46
       have KY46:=aM hy46
       clear hy46
       have KL46:=aM (show (t497:Int).toNat≤((rd_T35 x494001_1 x23_1).f0).length from by omega)
       replace q46:=eq_true q46
       have q47:((ji27):Int)≤((((rd_T35 x494001_1 x23_1).f0).length:Int):Int):=od
       obtain ⟨i047,hi047,_,hsz47,_⟩:=info_parts info3
       have hroom47:((rd_T35 x494001_1 x23_1).f0).length≤c495_0:=HC495_0.out
       have hC47:Kd.C (Kd.int .i64) _ A495_0 ((rd_T35 x494001_1 x23_1).f0).length ((rd_T35 x494001_1 x23_1).f0):=HR495_0.out
       have q047:(0:Int)≤((ji27):Int):=od
       have hcut47:=cut_from (P:=Try.prog) 33 3 .i64 Try.underlying33 hi047 1 hsz47 A495_0 ((rd_T35 x494001_1 x23_1).f0).length c495_0 (ji27) q047 q47
       have hr47:=Kd.C_drop (m:=((ji27):Int).toNat) (c:=c495_0) hC47 (by omega) hroom47
       obtain ⟨A47,hA47⟩ : ∃ A1,A1=(if c495_0=((ji27):Int).toNat then A495_0 else (A495_0:Option Addr).map (·.add (((ji27):Int).toNat * 1))):=⟨_,rfl⟩
       obtain ⟨c47,hc47⟩ : ∃ c1,c1=c495_0 - ((ji27):Int).toNat:=⟨_,rfl⟩
       have hy47:y505.length=((rd_T35 x494001_1 x23_1).f0).length - ((ji27):Int).toNat:=(by rw [Ny505.out,List.length_drop] <;> omega)
       rw [show ((rd_T35 x494001_1 x23_1).f0).drop ((ji27):Int).toNat=y505 from Ny505.out.symm] at hr47
       replace hr47:Kd.C (Kd.int .i64) _ A47 y505.length y505:=(by rw [hA47];exact hr47)
       rw [← hy47,← hA47,← hc47] at hcut47
       have HR508:=aM hr47
       have HC508:=aM (show y505.length≤c47 from by rw [hy47,hc47];exact Nat.sub_le_sub_right hroom47 _)
       clear hr47 hC47 hroom47 hi047 hsz47 hc47
       have KY47:=aM hy47
       have KA47:=aM hA47
       clear hy47 hA47
       have KL47:=aM (show ((ji27):Int).toNat≤((rd_T35 x494001_1 x23_1).f0).length from by omega)
       replace q47:=eq_true q47
       refine start_ (n:=12) (S:=fun w'=>w'.cell? ⟨gb496,0,none⟩=some (.slice A495_0 ((rd_T35 x494001_1 x23_1).f0).length c495_0)) (ds:=[]) (fl 12 0) (by kernel_rfl) rfl rfl (bq BK496 0) (fun hHeld=>?_);refine with_tabW impl_Rebalance.tab12 impl_Rebalance.bits12 (fun HT_ HW_=>?_)
       generalize w44.drew=w45 at HO_494001 HL495_0 BK487 BK488 BK493 BK496 HR495_0 HX495_0 HB HR501 HR508 hHeld ⊢
       refine pt 0 36 (fl 12 1) HT_ ?_
       refine pt 2 38 (fl 12 5) HT_ ?_
       refine pt 5 41 (fl 12 37) HT_ ?_
       refine pt 7 43 (fl 12 165) HT_ ?_
       refine pt 8 44 (fl 12 421) HT_ ?_
       refine tt 1 37 (fl 12 423) HT_ HW_ hHeld ?_
       refine pt 3 39 (fl 12 431) HT_ ?_
       refine tt 6 42 (fl 12 495) HT_ HW_ hHeld ?_
       refine pt 9 45 (fl 12 1007) HT_ ?_
       refine ot 4 (some 40) (fl 12 1023) HT_ (fun K hK=>?_)
       refine goes_ Try.func44 (by kernel_rfl) rfl #[.slice A495_0 y498.length c495_0] (by rfl) rfl rfl (by (try simp only [List.map_toArray,List.map_cons,List.map_nil]);rfl) ?_
       with_reducible refine (impl_copyInts.calls _ _ y498 t502 _ ?side1 ?side2 A26.out).mono ?_
       (case side1=>repeat (exact HR501.out))
       (case side2=>exact HC501.out)
       rintro e w48 ⟨v503,rfl,ho0,hb⟩
       refine ⟨_,rfl,?_⟩
       replace HO_494001:=aM (Kd.S_elder' (rS HO_494001) (Kd.R_base ho0) hb);have HO504:=aM (Kd.R_lower (Kd.R_new' ho0 (Kd.R_lt HL495_0.out)) (below_size be));replace HL495_0:=aM (Kd.R_elder' HL495_0.out (Kd.R_base ho0) hb);replace BK487:=bB BK487 hb;replace BK488:=bB BK488 hb;replace BK493:=bB BK493 hb;replace HX495_0:=xB hb HX495_0;replace BK496:=bB BK496 hb;replace HR508:=cB HR508 hb;replace HB:=bs hb;clear HR495_0 HR501;(try clear hb);(try clear ho0)
       refine hK.out _ _ (bq BK496 0) (fun hHeld=>?_)
       clear hK K
       refine no 40 ?_
       refine ot 10 (some 46) (fl 12 2047) HT_ (fun K hK=>?_)
       refine Kd.R_append_rows_step (Kd.int .i64) (w0:=w) w.heap.size (by rfl) (.tmp 40) (.tmp 45) 33 3 (.int .i64 0) 8 rfl Try.underlying33 info3 rfl (by decide) (by omega) v503 t502 y505 _ _ _ (fun k_=>some k_ ≠ (.slice A495_0 ((rd_T35 x494001_1 x23_1).f0).length c495_0:Value).ownBlock) (fun _=>False) rfl rfl ?aO ?aR (fun _ _ h=>h) (fun _ h=>h.elim) ?aF ?aB ?aS ?aL ?_
       (case aR=>repeat (exact HR508.out))
       (case aB=>exact be)
       (case aF=>exact (fun k_ hk=>Kd.fresh' (Kd.R_lt HL495_0.out) k_ hk))
       (case aO=>exact (by exact Kd.R_mono HO504.out (fun _ hk=>hk.2)))
       (case aS=>exact (below_size be))
       (case aL=>have:=LMc30.out;omega)
       intro v510 w49 ho hb hg hat
       rw [← Ny509.out] at ho
       replace BK487:=bG BK487 hg (Kd.R_ne HO504.out BK487.out (by decide));replace BK488:=bG BK488 hg (Kd.R_ne HO504.out BK488.out (by decide));replace BK493:=bG BK493 hg (Kd.R_ne HO504.out BK493.out (by decide));replace HL495_0:=aM (Kd.R_after (ok:=(fun k_=>some k_ ≠ (.slice (some ad495) x494001_1.length co38:Value).ownBlock)) (by exact Kd.R_mono HL495_0.out (fun _ hk=>⟨hk.1.2,hk.2⟩)) hg hat);replace HX495_0:=aM (Aid.cell_keep hg HX495_0.out (by intro e_;exact Aid.typed_ne (Kd.S_typed HO_494001.out) (Kd.R_typed HO504.out) (by decide) rfl (by rw [add_block] at e_;exact e_.symm)));replace HO_494001:=aM (Kd.S_after (ok:=(fun k_=>k_ ≠ gb496)) (by exact Kd.S_mono HO_494001.out (fun _ hk=>⟨hk.1.2,hk.2⟩)) hg hat);replace BK496:=bG BK496 hg (Kd.R_ne HO504.out BK496.out (by decide));replace HB:=aM (hb);have HO511:=aM (ho);clear HR508 HO504;clear ho hb hg hat
       refine hK.out _ _ (bq BK496 0) (fun hHeld=>?_)
       clear hK K
       refine no 46 ?_
       refine pt 11 12 (fl 12 4095) HT_ ?_
       refine done_ (done_of HT_.out (by kernel_rfl)) ?_
       obtain ⟨hcz50_0,hcz50_1,hfz50_0,hfz50_1⟩:=b2 BK493
       obtain ⟨Ao51,co51,eo51⟩:=Kd.R_slice HO511.out
       subst eo51
       try go_wp2_with (first|((with_reducible refine gate_callee (f:=45) rfl ?_);refine goesL_ (some 51) rfl rfl Try.func45 (by kernel_rfl) rfl #[.agg #[.int .i64 t489,.slice (some ad495) x494001_1.length co38],.agg #[.slice Ao51 y509.length co51],.slice A1 l1.length c1] rfl (by (try simp only [List.map_toArray,List.map_cons,List.map_nil]);rfl) ?_;(with_reducible refine (impl_Best.calls k1 t489 _ _ x494001_1 _ _ y509 _ _ l1 t512 _ ?side1 ?side2 ?side3 ?side4 ?side5 ?side6 A31.out).mono ?_);(case side1=>exact sS HO_494001);(case side2=>exact (Kd.S_reads' HO_494001.out).2.1);(case side3=>exact sR HO511);(case side4=>exact (Kd.R_reads' HO511.out).2.1);(case side5=>exact rC HR1);(case side6=>exact HC1.out);rintro e w52 ⟨rfl,hb⟩;refine ⟨_,rfl,?_⟩;replace HO_494001:=sB HO_494001 hb;replace HL495_0:=rB HL495_0 hb;replace BK487:=bB BK487 hb;replace BK488:=bB BK488 hb;replace BK493:=bB BK493 hb;replace HX495_0:=xB hb HX495_0;replace BK496:=bB BK496 hb;replace HB:=bs hb;clear HO511;(try clear hb);obtain ⟨hcz53_0,hfz53_0⟩:=b1 BK496;have p34:0≤(t497:Int):=od;have q34:(t497:Int) < ((((rd_T35 x494001_1 x23_1).f0).length:Int):Int):=od;obtain ⟨go34,co34,eo34,gb34,gl34,cl34,HG34⟩:=Kd.R_form HL495_0.out (by omega);(cases eo34);have GB34:=aM gb34;have GG34:=aM HG34;clear gb34 gl34 HG34;obtain ⟨hx34_0,hf34_0⟩:=Kd.R_celln 0 HL495_0.out (t497:Int) p34 q34;replace p34:=eq_true p34;replace q34:=eq_true q34;have hq54:(x23_1:Int) < (x494001_1.length:Int):=(by have h_:(x23_1:Int) < ((x494001_1.length:Int):Int):=od;exact h_);obtain ⟨oki54,ce54,hcl54,hM54,hcc54,hok54,hbk54⟩:=Kd.S_borrow HO_494001.out z35 (x23_1:Int) od hq54;obtain ⟨ve54_0,rfl,ge54_0⟩:=k35_openM hM54;have hv54:=hcc54 0 _ rfl;rw [Nat.add_zero,show (k35).sz=1 from rfl,Nat.mul_one] at hv54;replace hv54:=Option.some.inj (hv54.symm.trans HX495_0.out);subst hv54;clear hcc54 hcl54;replace ge54_0:=(show Kd.R (Kd.int .i64) 3 _ _ _ _ ((rd_T35 x494001_1 x23_1).f0) from ge54_0);have HP54:=Kd.R_putg ge54_0 (t497:Int) t512)|((with_reducible refine gate_store (t:=3) (p:=69) rfl ?_);refine store_event (t:=3) (p:=69) (v:=?vo_w55) (w1:=(w52.setCell ⟨go34,(t497:Int).toNat,none⟩ (.int .i64 t512))) ?hg ?ho ?hn ?hr ?_;(case ho=>rfl);(case hg=>rfl);(case hn=>rfl);(case hr=>(go_simp;done));intro w55 hw;have hg:w52.grownBy w55 (some go34):=(by rw [hw];exact HP54.2);have hz_:Kd.R (Kd.int .i64) 3 w55 w.heap.size oki54 (.slice (some ⟨go34,0,none⟩) ((rd_T35 x494001_1 x23_1).f0).length c495_0) y513:=(by rw [hw,Ny513.out];exact HP54.1);have hp_:Kd.S k35 35 w55 w.heap.size (fun k_=>some k_ ≠ (.slice Ao51 y509.length co51:Value).ownBlock∧k_ ≠ gb496) (.slice (some ad495) x494001_1.length co38) y515:=(by rw [Ny515.out];exact Kd.S_mono (hbk54 hg (fun k_ e_=>by injection e_ with e_;subst e_;exact ge54_0.1 _ rfl) (k35_mkM _ _ _ (⟨y513⟩:S35) hz_)) (fun _ hk=>by exact ⟨hk.2,hk.1⟩));have hm_:=Kd.R_mono hz_ hok54;clear HP54 hbk54;replace HO_494001:=aM (hp_);replace BK487:=bG BK487 hg (Kd.R_ne HL495_0.out BK487.out (by decide));replace BK488:=bG BK488 hg (Kd.R_ne HL495_0.out BK488.out (by decide));replace BK493:=bG BK493 hg (Kd.R_ne HL495_0.out BK493.out (by decide));replace HB:=aM ((by rw [hw];exact below_set (HB.out) GB34.out:Below w.heap.size w w55));clear BK496 HL495_0;clear hg hw hp_ hz_ hm_ hok54))
       go_roundg k1
       case measure=>have:=HK1.out;omega
       case rel=>exact ⟨(wrap64 (x7_1+1)),(wrap64 (x23_1+1)),(y515),(.slice (some ad495) x494001_1.length co38),rd_,rd_,H',⟨by have:=HK1.out;omega⟩,⟨by exact Kd.S_mono HO_494001.out (fun _ hk=>trivial)⟩,⟨bk BK487⟩,⟨bk BK488⟩,⟨bk BK493⟩,⟨be⟩⟩
      ·rw [if_neg c32] at H
       have c32b0:decide (0≤t512)=false:=decide_eq_false c32
       clear c32
       have H':=Aside0.mk H
       clear H
       have hnb56:=NB493_487.out
       have hnc56:=NB487_493.out
       have hnb57:=NB493_488.out
       have hnc57:=NB488_493.out
       obtain ⟨hcz58_0,hcz58_1,hfz58_0,hfz58_1⟩:=b2 BK493
       obtain ⟨Ao59,co59,eo59⟩:=Kd.S_slice HO_494001.out
       subst eo59
       have p495:0≤(x23_1:Int):=od
       have q495:x23_1 < (x494001_1.length:Int):=od
       obtain ⟨ad495,A495_0,c495_0,e495,hx495_0,hl495_0,hi495_0⟩:=at_T35 (Kd.S_reads' HO_494001.out).2.2 x23_1 p495 q495
       cases e495
       obtain ⟨ce495,hce495,hMe495,hcc495⟩:=Kd.S_get HO_494001.out z35 x23_1 p495 (by exact q495)
       obtain ⟨ve495_0,rfl,ge495_0⟩:=k35_openM hMe495
       have hv495_0:=hcc495 0 _ rfl
       rw [Nat.add_zero,show (k35).sz=1 from rfl,Nat.mul_one] at hv495_0
       replace hv495_0:=Option.some.inj (hv495_0.symm.trans hx495_0)
       rw [hv495_0] at ge495_0
       have HL495_0:=aM (show Kd.R (Kd.int .i64) 3 _ _ _ _ ((rd_T35 x494001_1 x23_1).f0) from ge495_0)
       clear hv495_0 ge495_0
       have HX495_0:=aM hx495_0
       clear hcc495 hce495
       have HR495_0:=aM hi495_0
       have HC495_0:=aM hl495_0
       clear hi495_0 hl495_0
       replace p495:=eq_true p495
       replace q495:=eq_true q495
       try go_wp2_with (first|((with_reducible refine gate_dst (N:=9) rfl ?_);refine box_event ?hg (N:=9) ?hd (cs:=#[.slice none 0 0]) (t:=35) ?hr ?_;(case hd=>rfl);(case hg=>rfl);(case hr=>(go_simp;done));intro gb496 hg w60 hbox hb;replace HO_494001:=aM (Kd.S_below (Kd.S_elderB (rS HO_494001) gb496 (Nat.le_of_eq hg.symm)) hb);replace HL495_0:=rB HL495_0 hb;replace HR495_0:=cB HR495_0 hb;replace HX495_0:=xB hb HX495_0;have BK496:=aM (hbox);have GW496:=gS w hg;have GE496:=gS w hg;replace HB:=bs hb;have NB487_496:=nL hg BK487;have NB496_487:=nG hg BK487;replace BK487:=bB BK487 hb;have NB488_496:=nL hg BK488;have NB496_488:=nG hg BK488;replace BK488:=bB BK488 hb;have NB493_496:=nL hg BK493;have NB496_493:=nG hg BK493;replace BK493:=bB BK493 hb;clear hb hbox hg;have hnb61:=NB496_487.out;have hnc61:=NB487_496.out;have hnb62:=NB496_488.out;have hnc62:=NB488_496.out;have hnb63:=NB496_493.out;have hnc63:=NB493_496.out;obtain ⟨hcz64_0,hfz64_0⟩:=b1 BK496)|((with_reducible refine gate_callee (f:=43) rfl ?_);refine goesL_ (some 33) rfl rfl Try.func43 (by kernel_rfl) rfl #[.agg #[.slice A495_0 ((rd_T35 x494001_1 x23_1).f0).length c495_0],.slice A1 l1.length c1] rfl (by (try simp only [List.map_toArray,List.map_cons,List.map_nil]);rfl) ?_;(with_reducible refine (impl_lost.calls k1 _ _ ((rd_T35 x494001_1 x23_1).f0) _ _ l1 t497 _ ?side1 ?side2 ?side3 ?side4 A22.out).mono ?_);(case side1=>repeat (exact ((Kd.R_reads' (by exact (Kd.R_mono (Kd.R_far (p:=⟨gb496,0,none⟩) (Kd.R_types HL495_0.out BK496.out (by decide)) (fun _ hk=>hk.2) (.slice A495_0 ((rd_T35 x494001_1 x23_1).f0).length c495_0)) (fun _ h_=>h_.1)))).2.2)));(case side2=>exact HC495_0.out);(case side3=>exact Kd.C_below HR1.out be);(case side4=>exact HC1.out);rintro e w65 ⟨rfl,hb⟩;refine ⟨_,rfl,?_⟩;replace BK487:=aM (blk_below (g:=gb487) (o:=.cells #[.int .i64 a0_0,.slice A0_1 l0_1.length c0_1] 26 (0,0)) (by refine blk_far ?_ NB487_496.out _;exact BK487.out) hb);replace BK488:=aM (blk_below (g:=gb488) (o:=.cells #[.int .i64 0,.slice none 0 0] 26 (0,0)) (by refine blk_far ?_ NB488_496.out _;exact BK488.out) hb);replace BK493:=aM (blk_below (g:=gb493) (o:=.cells #[.int .i64 t489,.slice (some ad495) x494001_1.length co59] 26 (0,0)) (by refine blk_far ?_ NB493_496.out _;exact BK493.out) hb);replace HR495_0:=aM (Kd.C_below ((Kd.R_reads' (by exact (Kd.R_mono (Kd.R_far (p:=⟨gb496,0,none⟩) (Kd.R_types HL495_0.out BK496.out (by decide)) (fun _ hk=>hk.2) (.slice A495_0 ((rd_T35 x494001_1 x23_1).f0).length c495_0)) (fun _ h_=>h_.1)))).2.2) hb);replace HL495_0:=aM (Kd.R_below ((by exact (Kd.R_mono (Kd.R_far (p:=⟨gb496,0,none⟩) (Kd.R_types HL495_0.out BK496.out (by decide)) (fun _ hk=>hk.2) (.slice A495_0 ((rd_T35 x494001_1 x23_1).f0).length c495_0)) (fun _ h_=>h_.1)))) hb);replace HX495_0:=aM (pw_cell_below hb ((cell_far (p:=⟨gb496,0,none⟩) (by (rw [add_block];exact ((Kd.S_R HO_494001.out).1 _ rfl).2)) (.slice A495_0 ((rd_T35 x494001_1 x23_1).f0).length c495_0)).trans (HX495_0.out)));replace HO_494001:=aM (Kd.S_below ((by exact (Kd.S_mono (Kd.S_far (p:=⟨gb496,0,none⟩) (Kd.S_mono HO_494001.out (fun k_ hk=>(⟨hk,hk.2⟩:_∧k_ ≠ gb496))) (fun _ hk=>hk.2) (.slice A495_0 ((rd_T35 x494001_1 x23_1).f0).length c495_0)) (fun _ h_=>h_.1)))) hb);replace BK496:=aM (blk_below (g:=gb496) (o:=.cells #[.slice A495_0 ((rd_T35 x494001_1 x23_1).f0).length c495_0] 35 (0,0)) (by refine blk_put (cs:=#[.slice none 0 0]) ?_ 0 _ rfl;exact BK496.out) hb);replace HB:=bs hb;(try clear hb)))
       replace HO_494001:=aM (Kd.S_drew HO_494001.out);replace HL495_0:=aM (Kd.R_drew HL495_0.out);replace BK487:=aM (blk_drew BK487.out);replace BK488:=aM (blk_drew BK488.out);replace BK493:=aM (blk_drew BK493.out);replace BK496:=aM (blk_drew BK496.out);replace HR495_0:=aM (Kd.C_drew HR495_0.out);replace HX495_0:=aM (Aid.cell_drew HX495_0.out);replace HB:=aM (below_drew1 HB.out)
       have q67:(t497:Int)≤((((rd_T35 x494001_1 x23_1).f0).length:Int):Int):=od
       obtain ⟨i067,hi067,_,hsz67,_⟩:=info_parts info3
       have hroom67:((rd_T35 x494001_1 x23_1).f0).length≤c495_0:=HC495_0.out
       have hC67:Kd.C (Kd.int .i64) _ A495_0 ((rd_T35 x494001_1 x23_1).f0).length ((rd_T35 x494001_1 x23_1).f0):=HR495_0.out
       have hcut67:=cut_to (P:=Try.prog) 33 3 .i64 Try.underlying33 hi067 A495_0 ((rd_T35 x494001_1 x23_1).f0).length c495_0 t497 od q67 hroom67
       have hr67:=Kd.C_take (m:=(t497:Int).toNat) hC67 (by omega)
       have hy67:y498.length=(t497:Int).toNat:=(by rw [Ny498.out,List.length_take];omega)
       rw [← Ny498.out] at hr67
       rw [← hy67] at hcut67
       have HR501:=aM hr67
       have HC501:=aM (show y498.length≤c495_0 from by omega)
       clear hr67 hC67 hroom67 hi067 hsz67
       have KY67:=aM hy67
       clear hy67
       have KL67:=aM (show (t497:Int).toNat≤((rd_T35 x494001_1 x23_1).f0).length from by omega)
       replace q67:=eq_true q67
       have q68:((ji27):Int)≤((((rd_T35 x494001_1 x23_1).f0).length:Int):Int):=od
       obtain ⟨i068,hi068,_,hsz68,_⟩:=info_parts info3
       have hroom68:((rd_T35 x494001_1 x23_1).f0).length≤c495_0:=HC495_0.out
       have hC68:Kd.C (Kd.int .i64) _ A495_0 ((rd_T35 x494001_1 x23_1).f0).length ((rd_T35 x494001_1 x23_1).f0):=HR495_0.out
       have q068:(0:Int)≤((ji27):Int):=od
       have hcut68:=cut_from (P:=Try.prog) 33 3 .i64 Try.underlying33 hi068 1 hsz68 A495_0 ((rd_T35 x494001_1 x23_1).f0).length c495_0 (ji27) q068 q68
       have hr68:=Kd.C_drop (m:=((ji27):Int).toNat) (c:=c495_0) hC68 (by omega) hroom68
       obtain ⟨A68,hA68⟩ : ∃ A1,A1=(if c495_0=((ji27):Int).toNat then A495_0 else (A495_0:Option Addr).map (·.add (((ji27):Int).toNat * 1))):=⟨_,rfl⟩
       obtain ⟨c68,hc68⟩ : ∃ c1,c1=c495_0 - ((ji27):Int).toNat:=⟨_,rfl⟩
       have hy68:y505.length=((rd_T35 x494001_1 x23_1).f0).length - ((ji27):Int).toNat:=(by rw [Ny505.out,List.length_drop] <;> omega)
       rw [show ((rd_T35 x494001_1 x23_1).f0).drop ((ji27):Int).toNat=y505 from Ny505.out.symm] at hr68
       replace hr68:Kd.C (Kd.int .i64) _ A68 y505.length y505:=(by rw [hA68];exact hr68)
       rw [← hy68,← hA68,← hc68] at hcut68
       have HR508:=aM hr68
       have HC508:=aM (show y505.length≤c68 from by rw [hy68,hc68];exact Nat.sub_le_sub_right hroom68 _)
       clear hr68 hC68 hroom68 hi068 hsz68 hc68
       have KY68:=aM hy68
       have KA68:=aM hA68
       clear hy68 hA68
       have KL68:=aM (show ((ji27):Int).toNat≤((rd_T35 x494001_1 x23_1).f0).length from by omega)
       replace q68:=eq_true q68
       refine start_ (n:=12) (S:=fun w'=>w'.cell? ⟨gb496,0,none⟩=some (.slice A495_0 ((rd_T35 x494001_1 x23_1).f0).length c495_0)) (ds:=[]) (fl 12 0) (by kernel_rfl) rfl rfl (bq BK496 0) (fun hHeld=>?_);refine with_tabW impl_Rebalance.tab12 impl_Rebalance.bits12 (fun HT_ HW_=>?_)
       generalize w65.drew=w66 at HO_494001 HL495_0 BK487 BK488 BK493 BK496 HR495_0 HX495_0 HB HR501 HR508 hHeld ⊢
       refine pt 0 36 (fl 12 1) HT_ ?_
       refine pt 2 38 (fl 12 5) HT_ ?_
       refine pt 5 41 (fl 12 37) HT_ ?_
       refine pt 7 43 (fl 12 165) HT_ ?_
       refine pt 8 44 (fl 12 421) HT_ ?_
       refine tt 1 37 (fl 12 423) HT_ HW_ hHeld ?_
       refine pt 3 39 (fl 12 431) HT_ ?_
       refine tt 6 42 (fl 12 495) HT_ HW_ hHeld ?_
       refine pt 9 45 (fl 12 1007) HT_ ?_
       refine ot 4 (some 40) (fl 12 1023) HT_ (fun K hK=>?_)
       refine goes_ Try.func44 (by kernel_rfl) rfl #[.slice A495_0 y498.length c495_0] (by rfl) rfl rfl (by (try simp only [List.map_toArray,List.map_cons,List.map_nil]);rfl) ?_
       with_reducible refine (impl_copyInts.calls _ _ y498 t502 _ ?side1 ?side2 A26.out).mono ?_
       (case side1=>repeat (exact HR501.out))
       (case side2=>exact HC501.out)
       rintro e w69 ⟨v503,rfl,ho0,hb⟩
       refine ⟨_,rfl,?_⟩
       replace HO_494001:=aM (Kd.S_elder' (rS HO_494001) (Kd.R_base ho0) hb);have HO504:=aM (Kd.R_lower (Kd.R_new' ho0 (Kd.R_lt HL495_0.out)) (below_size be));replace HL495_0:=aM (Kd.R_elder' HL495_0.out (Kd.R_base ho0) hb);replace BK487:=bB BK487 hb;replace BK488:=bB BK488 hb;replace BK493:=bB BK493 hb;replace BK496:=bB BK496 hb;replace HR508:=cB HR508 hb;replace HB:=bs hb;clear HR495_0 HX495_0 HR501;(try clear hb);(try clear ho0)
       refine hK.out _ _ (bq BK496 0) (fun hHeld=>?_)
       clear hK K
       refine no 40 ?_
       refine ot 10 (some 46) (fl 12 2047) HT_ (fun K hK=>?_)
       refine Kd.R_append_rows_step (Kd.int .i64) (w0:=w) w.heap.size (by rfl) (.tmp 40) (.tmp 45) 33 3 (.int .i64 0) 8 rfl Try.underlying33 info3 rfl (by decide) (by omega) v503 t502 y505 _ _ _ (fun k_=>some k_ ≠ (.slice A495_0 ((rd_T35 x494001_1 x23_1).f0).length c495_0:Value).ownBlock) (fun _=>False) rfl rfl ?aO ?aR (fun _ _ h=>h) (fun _ h=>h.elim) ?aF ?aB ?aS ?aL ?_
       (case aR=>repeat (exact HR508.out))
       (case aB=>exact be)
       (case aF=>exact (fun k_ hk=>Kd.fresh' (Kd.R_lt HL495_0.out) k_ hk))
       (case aO=>exact (by exact Kd.R_mono HO504.out (fun _ hk=>hk.2)))
       (case aS=>exact (below_size be))
       (case aL=>have:=LMc30.out;omega)
       intro v510 w70 ho hb hg hat
       rw [← Ny509.out] at ho
       replace HO_494001:=aM (Kd.S_after (ok:=(fun k_=>k_ ≠ gb496)) (by exact Kd.S_mono HO_494001.out (fun _ hk=>⟨hk.1.2,hk.2⟩)) hg hat);replace BK487:=bG BK487 hg (Kd.R_ne HO504.out BK487.out (by decide));replace BK488:=bG BK488 hg (Kd.R_ne HO504.out BK488.out (by decide));replace BK493:=bG BK493 hg (Kd.R_ne HO504.out BK493.out (by decide));replace BK496:=bG BK496 hg (Kd.R_ne HO504.out BK496.out (by decide));replace HB:=aM (hb);have HO511:=aM (ho);clear HL495_0 HR508 HO504;clear ho hb hg hat
       refine hK.out _ _ (bq BK496 0) (fun hHeld=>?_)
       clear hK K
       refine no 46 ?_
       refine pt 11 12 (fl 12 4095) HT_ ?_
       refine done_ (done_of HT_.out (by kernel_rfl)) ?_
       obtain ⟨hcz71_0,hcz71_1,hfz71_0,hfz71_1⟩:=b2 BK493
       obtain ⟨Ao72,co72,eo72⟩:=Kd.R_slice HO511.out
       subst eo72
       try go_wp2_with ((with_reducible refine gate_callee (f:=45) rfl ?_);refine goesL_ (some 51) rfl rfl Try.func45 (by kernel_rfl) rfl #[.agg #[.int .i64 t489,.slice (some ad495) x494001_1.length co59],.agg #[.slice Ao72 y509.length co72],.slice A1 l1.length c1] rfl (by (try simp only [List.map_toArray,List.map_cons,List.map_nil]);rfl) ?_;(with_reducible refine (impl_Best.calls k1 t489 _ _ x494001_1 _ _ y509 _ _ l1 t512 _ ?side1 ?side2 ?side3 ?side4 ?side5 ?side6 A31.out).mono ?_);(case side1=>exact sS HO_494001);(case side2=>exact (Kd.S_reads' HO_494001.out).2.1);(case side3=>exact sR HO511);(case side4=>exact (Kd.R_reads' HO511.out).2.1);(case side5=>exact rC HR1);(case side6=>exact HC1.out);rintro e w73 ⟨rfl,hb⟩;refine ⟨_,rfl,?_⟩;replace HO_494001:=sB HO_494001 hb;replace BK487:=bB BK487 hb;replace BK488:=bB BK488 hb;replace BK493:=bB BK493 hb;replace HB:=bs hb;clear HO511 BK496;(try clear hb))
       go_roundg k1
       case measure=>have:=HK1.out;omega
       case rel=>exact ⟨(x7_1),(wrap64 (x23_1+1)),(x494001_1),(.slice (some ad495) x494001_1.length co59),rd_,rd_,H',⟨by have:=HK1.out;omega⟩,⟨by exact Kd.S_mono HO_494001.out (fun _ hk=>trivial)⟩,⟨bk BK487⟩,⟨bk BK488⟩,⟨bk BK493⟩,⟨be⟩⟩
     ·rw [if_neg c23] at H
      have c23b0:decide (0≤t497)=false:=decide_eq_false c23
      clear c23
      replace H:=Option.bind_eq_some_iff.mp H
      obtain ⟨⟨t516,t517⟩,A740,H⟩:=H
      try dsimp only at H
      have A74:=aM A740
      clear A740
      by_cases c75:t516 ≥ 0
      ·rw [if_pos c75] at H
       have c75b0:decide (0≤t516)=true:=decide_eq_true c75
       clear c75
       by_cases c76:t517 ≥ 0
       ·rw [if_pos c76] at H
        have c76b0:decide (0≤t517)=true:=decide_eq_true c76
        clear c76
        obtain ⟨c77,H⟩:=ifs H
        have c77b0:decide (0≤t516)=true:=decide_eq_true c77
        clear c77
        obtain ⟨c78,H⟩:=ifs H
        have c78b0:decide (t516 < (((rd_T35 x494001_1 x23_1).f0).length:Int))=true:=decide_eq_true c78
        clear c78
        obtain ⟨y518,hy518⟩ : ∃ y_:List Int,y_=(((rd_T35 x494001_1 x23_1).f0).set (t516:Int).toNat t517):=⟨_,rfl⟩
        replace H:(impl_Rebalance.l0 k1 l1 (wrap64 (x7_1+1)) (t490.length:Int) (wrap64 (x23_1+1)) t489 (x494001_1.set (x23_1:Int).toNat (⟨y518⟩:S35)))=some (r1,r2,r3):=by (rw [hy518];with_reducible exact H)
        have Ny518:=aM hy518
        clear hy518
        obtain ⟨y520,hy520⟩ : ∃ y_:List (S35),y_=(x494001_1.set (x23_1:Int).toNat (⟨y518⟩:S35)):=⟨_,rfl⟩
        replace H:(impl_Rebalance.l0 k1 l1 (wrap64 (x7_1+1)) (t490.length:Int) (wrap64 (x23_1+1)) t489 y520)=some (r1,r2,r3):=by (rw [hy520];with_reducible exact H)
        have Ny520:=aM hy520
        clear hy520
        have H':=Aside0.mk H
        clear H
        have hnb80:=NB493_487.out
        have hnc80:=NB487_493.out
        have hnb81:=NB493_488.out
        have hnc81:=NB488_493.out
        obtain ⟨hcz82_0,hcz82_1,hfz82_0,hfz82_1⟩:=b2 BK493
        obtain ⟨Ao83,co83,eo83⟩:=Kd.S_slice HO_494001.out
        subst eo83
        have p495:0≤(x23_1:Int):=od
        have q495:x23_1 < (x494001_1.length:Int):=od
        obtain ⟨ad495,A495_0,c495_0,e495,hx495_0,hl495_0,hi495_0⟩:=at_T35 (Kd.S_reads' HO_494001.out).2.2 x23_1 p495 q495
        cases e495
        obtain ⟨ce495,hce495,hMe495,hcc495⟩:=Kd.S_get HO_494001.out z35 x23_1 p495 (by exact q495)
        obtain ⟨ve495_0,rfl,ge495_0⟩:=k35_openM hMe495
        have hv495_0:=hcc495 0 _ rfl
        rw [Nat.add_zero,show (k35).sz=1 from rfl,Nat.mul_one] at hv495_0
        replace hv495_0:=Option.some.inj (hv495_0.symm.trans hx495_0)
        rw [hv495_0] at ge495_0
        have HL495_0:=aM (show Kd.R (Kd.int .i64) 3 _ _ _ _ ((rd_T35 x494001_1 x23_1).f0) from ge495_0)
        clear hv495_0 ge495_0
        have HX495_0:=aM hx495_0
        clear hcc495 hce495
        have HR495_0:=aM hi495_0
        have HC495_0:=aM hl495_0
        clear hi495_0 hl495_0
        replace p495:=eq_true p495
        replace q495:=eq_true q495
        go_wp2_with (first|((with_reducible refine gate_dst (N:=9) rfl ?_);refine box_event ?hg (N:=9) ?hd (cs:=#[.slice none 0 0]) (t:=35) ?hr ?_;(case hd=>rfl);(case hg=>rfl);(case hr=>(go_simp;done));intro gb496 hg w84 hbox hb;replace HO_494001:=aM (Kd.S_below (Kd.S_elderB (rS HO_494001) gb496 (Nat.le_of_eq hg.symm)) hb);replace HL495_0:=rB HL495_0 hb;replace HR495_0:=cB HR495_0 hb;replace HX495_0:=xB hb HX495_0;have BK496:=aM (hbox);have GW496:=gS w hg;have GE496:=gS w hg;replace HB:=bs hb;have NB487_496:=nL hg BK487;have NB496_487:=nG hg BK487;replace BK487:=bB BK487 hb;have NB488_496:=nL hg BK488;have NB496_488:=nG hg BK488;replace BK488:=bB BK488 hb;have NB493_496:=nL hg BK493;have NB496_493:=nG hg BK493;replace BK493:=bB BK493 hb;clear hb hbox hg;have hnb85:=NB496_487.out;have hnc85:=NB487_496.out;have hnb86:=NB496_488.out;have hnc86:=NB488_496.out;have hnb87:=NB496_493.out;have hnc87:=NB493_496.out;obtain ⟨hcz88_0,hfz88_0⟩:=b1 BK496)|((with_reducible refine gate_callee (f:=43) rfl ?_);refine goesL_ (some 33) rfl rfl Try.func43 (by kernel_rfl) rfl #[.agg #[.slice A495_0 ((rd_T35 x494001_1 x23_1).f0).length c495_0],.slice A1 l1.length c1] rfl (by (try simp only [List.map_toArray,List.map_cons,List.map_nil]);rfl) ?_;(with_reducible refine (impl_lost.calls k1 _ _ ((rd_T35 x494001_1 x23_1).f0) _ _ l1 t497 _ ?side1 ?side2 ?side3 ?side4 A22.out).mono ?_);(case side1=>repeat (exact ((Kd.R_reads' (by exact (Kd.R_mono (Kd.R_far (p:=⟨gb496,0,none⟩) (Kd.R_types HL495_0.out BK496.out (by decide)) (fun _ hk=>hk.2) (.slice A495_0 ((rd_T35 x494001_1 x23_1).f0).length c495_0)) (fun _ h_=>h_.1)))).2.2)));(case side2=>exact HC495_0.out);(case side3=>exact Kd.C_below HR1.out be);(case side4=>exact HC1.out);rintro e w89 ⟨rfl,hb⟩;refine ⟨_,rfl,?_⟩;replace BK487:=aM (blk_below (g:=gb487) (o:=.cells #[.int .i64 a0_0,.slice A0_1 l0_1.length c0_1] 26 (0,0)) (by refine blk_far ?_ NB487_496.out _;exact BK487.out) hb);replace BK488:=aM (blk_below (g:=gb488) (o:=.cells #[.int .i64 0,.slice none 0 0] 26 (0,0)) (by refine blk_far ?_ NB488_496.out _;exact BK488.out) hb);replace BK493:=aM (blk_below (g:=gb493) (o:=.cells #[.int .i64 t489,.slice (some ad495) x494001_1.length co83] 26 (0,0)) (by refine blk_far ?_ NB493_496.out _;exact BK493.out) hb);replace HR495_0:=aM (Kd.C_below ((Kd.R_reads' (by exact (Kd.R_mono (Kd.R_far (p:=⟨gb496,0,none⟩) (Kd.R_types HL495_0.out BK496.out (by decide)) (fun _ hk=>hk.2) (.slice A495_0 ((rd_T35 x494001_1 x23_1).f0).length c495_0)) (fun _ h_=>h_.1)))).2.2) hb);replace HL495_0:=aM (Kd.R_below ((by exact (Kd.R_mono (Kd.R_far (p:=⟨gb496,0,none⟩) (Kd.R_types HL495_0.out BK496.out (by decide)) (fun _ hk=>hk.2) (.slice A495_0 ((rd_T35 x494001_1 x23_1).f0).length c495_0)) (fun _ h_=>h_.1)))) hb);replace HX495_0:=aM (pw_cell_below hb ((cell_far (p:=⟨gb496,0,none⟩) (by (rw [add_block];exact ((Kd.S_R HO_494001.out).1 _ rfl).2)) (.slice A495_0 ((rd_T35 x494001_1 x23_1).f0).length c495_0)).trans (HX495_0.out)));replace HO_494001:=aM (Kd.S_below ((by exact (Kd.S_mono (Kd.S_far (p:=⟨gb496,0,none⟩) (Kd.S_mono HO_494001.out (fun k_ hk=>(⟨hk,hk.2⟩:_∧k_ ≠ gb496))) (fun _ hk=>hk.2) (.slice A495_0 ((rd_T35 x494001_1 x23_1).f0).length c495_0)) (fun _ h_=>h_.1)))) hb);replace BK496:=aM (blk_below (g:=gb496) (o:=.cells #[.slice A495_0 ((rd_T35 x494001_1 x23_1).f0).length c495_0] 35 (0,0)) (by refine blk_put (cs:=#[.slice none 0 0]) ?_ 0 _ rfl;exact BK496.out) hb);replace HB:=bs hb;(try clear hb);obtain ⟨hcz90_0,hcz90_1,hfz90_0,hfz90_1⟩:=b2 BK493;obtain ⟨hcz91_0,hfz91_0⟩:=b1 BK496)|((with_reducible refine gate_callee (f:=46) rfl ?_);refine goesL_ (some 56) rfl rfl Try.func46 (by kernel_rfl) rfl #[.agg #[.int .i64 t489,.slice (some ad495) x494001_1.length co83],.agg #[.slice A495_0 ((rd_T35 x494001_1 x23_1).f0).length c495_0],.slice A1 l1.length c1] rfl (by (try simp only [List.map_toArray,List.map_cons,List.map_nil]);rfl) ?_;(with_reducible refine (impl_heavy.calls k1 t489 _ _ x494001_1 _ _ ((rd_T35 x494001_1 x23_1).f0) _ _ l1 t516 t517 _ ?side1 ?side2 ?side3 ?side4 ?side5 ?side6 A74.out).mono ?_);(case side1=>exact sS HO_494001);(case side2=>exact (Kd.S_reads' HO_494001.out).2.1);(case side3=>repeat (exact HR495_0.out));(case side4=>exact HC495_0.out);(case side5=>exact rC HR1);(case side6=>exact HC1.out);rintro e w92 ⟨rfl,hb⟩;refine ⟨_,rfl,?_⟩;replace HO_494001:=sB HO_494001 hb;replace HL495_0:=rB HL495_0 hb;replace BK487:=bB BK487 hb;replace BK488:=bB BK488 hb;replace BK493:=bB BK493 hb;replace HX495_0:=xB hb HX495_0;replace BK496:=bB BK496 hb;replace HB:=bs hb;clear HR495_0;(try clear hb);obtain ⟨hcz93_0,hfz93_0⟩:=b1 BK496;have p79:0≤(t516:Int):=od;have q79:(t516:Int) < ((((rd_T35 x494001_1 x23_1).f0).length:Int):Int):=od;obtain ⟨go79,co79,eo79,gb79,gl79,cl79,HG79⟩:=Kd.R_form HL495_0.out (by omega);(cases eo79);have GB79:=aM gb79;have GG79:=aM HG79;clear gb79 gl79 HG79;obtain ⟨hx79_0,hf79_0⟩:=Kd.R_celln 0 HL495_0.out (t516:Int) p79 q79;replace p79:=eq_true p79;replace q79:=eq_true q79;replace HO_494001:=aM (Kd.S_mono (ok':=(fun k_=>k_ ≠ gb496)) HO_494001.out (fun k_ hk=>hk.2));have hq94:(x23_1:Int) < (x494001_1.length:Int):=(by have h_:(x23_1:Int) < ((x494001_1.length:Int):Int):=od;exact h_);obtain ⟨oki94,ce94,hcl94,hM94,hcc94,hok94,hbk94⟩:=Kd.S_borrow HO_494001.out z35 (x23_1:Int) od hq94;obtain ⟨ve94_0,rfl,ge94_0⟩:=k35_openM hM94;have hv94:=hcc94 0 _ rfl;rw [Nat.add_zero,show (k35).sz=1 from rfl,Nat.mul_one] at hv94;replace hv94:=Option.some.inj (hv94.symm.trans HX495_0.out);subst hv94;clear hcc94 hcl94;replace ge94_0:=(show Kd.R (Kd.int .i64) 3 _ _ _ _ ((rd_T35 x494001_1 x23_1).f0) from ge94_0);have HP94:=Kd.R_putg ge94_0 (t516:Int) t517)|((with_reducible refine gate_store (t:=3) (p:=69) rfl ?_);refine store_event (t:=3) (p:=69) (v:=?vo_w95) (w1:=(w92.setCell ⟨go79,(t516:Int).toNat,none⟩ (.int .i64 t517))) ?hg ?ho ?hn ?hr ?_;(case ho=>rfl);(case hg=>rfl);(case hn=>rfl);(case hr=>(go_simp;done));intro w95 hw;have hg:w92.grownBy w95 (some go79):=(by rw [hw];exact HP94.2);have hz_:Kd.R (Kd.int .i64) 3 w95 w.heap.size oki94 (.slice (some ⟨go79,0,none⟩) ((rd_T35 x494001_1 x23_1).f0).length c495_0) y518:=(by rw [hw,Ny518.out];exact HP94.1);have hp_:Kd.S k35 35 w95 w.heap.size (fun k_=>k_ ≠ gb496) (.slice (some ad495) x494001_1.length co83) y520:=(by rw [Ny520.out];exact Kd.S_mono (hbk94 hg (fun k_ e_=>by injection e_ with e_;subst e_;exact ge94_0.1 _ rfl) (k35_mkM _ _ _ (⟨y518⟩:S35) hz_)) (fun _ hk=>by exact hk));have hm_:=Kd.R_mono hz_ hok94;clear HP94 hbk94;replace HO_494001:=aM (hp_);replace BK487:=bG BK487 hg (Kd.R_ne HL495_0.out BK487.out (by decide));replace BK488:=bG BK488 hg (Kd.R_ne HL495_0.out BK488.out (by decide));replace BK493:=bG BK493 hg (Kd.R_ne HL495_0.out BK493.out (by decide));replace HB:=aM ((by rw [hw];exact below_set (HB.out) GB79.out:Below w.heap.size w w95));clear BK496 HL495_0;clear hg hw hp_ hz_ hm_ hok94))
        go_roundg k1
        case measure=>have:=HK1.out;omega
        case rel=>exact ⟨(wrap64 (x7_1+1)),(wrap64 (x23_1+1)),(y520),(.slice (some ad495) x494001_1.length co83),rd_,rd_,H',⟨by have:=HK1.out;omega⟩,⟨by exact Kd.S_mono HO_494001.out (fun _ hk=>trivial)⟩,⟨bk BK487⟩,⟨bk BK488⟩,⟨bk BK493⟩,⟨be⟩⟩
       ·rw [if_neg c76] at H
        have c76b0:decide (0≤t517)=false:=decide_eq_false c76
        clear c76
        have H':=Aside0.mk H
        clear H
        have hnb96:=NB493_487.out
        have hnc96:=NB487_493.out
        have hnb97:=NB493_488.out
        have hnc97:=NB488_493.out
        obtain ⟨hcz98_0,hcz98_1,hfz98_0,hfz98_1⟩:=b2 BK493
        obtain ⟨Ao99,co99,eo99⟩:=Kd.S_slice HO_494001.out
        subst eo99
        have p495:0≤(x23_1:Int):=od
        have q495:x23_1 < (x494001_1.length:Int):=od
        obtain ⟨ad495,A495_0,c495_0,e495,hx495_0,hl495_0,hi495_0⟩:=at_T35 (Kd.S_reads' HO_494001.out).2.2 x23_1 p495 q495
        cases e495
        obtain ⟨ce495,hce495,hMe495,hcc495⟩:=Kd.S_get HO_494001.out z35 x23_1 p495 (by exact q495)
        obtain ⟨ve495_0,rfl,ge495_0⟩:=k35_openM hMe495
        have hv495_0:=hcc495 0 _ rfl
        rw [Nat.add_zero,show (k35).sz=1 from rfl,Nat.mul_one] at hv495_0
        replace hv495_0:=Option.some.inj (hv495_0.symm.trans hx495_0)
        rw [hv495_0] at ge495_0
        have HL495_0:=aM (show Kd.R (Kd.int .i64) 3 _ _ _ _ ((rd_T35 x494001_1 x23_1).f0) from ge495_0)
        clear hv495_0 ge495_0
        have HX495_0:=aM hx495_0
        clear hcc495 hce495
        have HR495_0:=aM hi495_0
        have HC495_0:=aM hl495_0
        clear hi495_0 hl495_0
        replace p495:=eq_true p495
        replace q495:=eq_true q495
        go_wp2_with (first|((with_reducible refine gate_dst (N:=9) rfl ?_);refine box_event ?hg (N:=9) ?hd (cs:=#[.slice none 0 0]) (t:=35) ?hr ?_;(case hd=>rfl);(case hg=>rfl);(case hr=>(go_simp;done));intro gb496 hg w100 hbox hb;replace HO_494001:=aM (Kd.S_below (Kd.S_elderB (rS HO_494001) gb496 (Nat.le_of_eq hg.symm)) hb);replace HL495_0:=rB HL495_0 hb;replace HR495_0:=cB HR495_0 hb;have BK496:=aM (hbox);have GW496:=gS w hg;have GE496:=gS w hg;replace HB:=bs hb;have NB487_496:=nL hg BK487;have NB496_487:=nG hg BK487;replace BK487:=bB BK487 hb;have NB488_496:=nL hg BK488;have NB496_488:=nG hg BK488;replace BK488:=bB BK488 hb;have NB493_496:=nL hg BK493;have NB496_493:=nG hg BK493;replace BK493:=bB BK493 hb;clear HX495_0;clear hb hbox hg;have hnb101:=NB496_487.out;have hnc101:=NB487_496.out;have hnb102:=NB496_488.out;have hnc102:=NB488_496.out;have hnb103:=NB496_493.out;have hnc103:=NB493_496.out;obtain ⟨hcz104_0,hfz104_0⟩:=b1 BK496)|((with_reducible refine gate_callee (f:=43) rfl ?_);refine goesL_ (some 33) rfl rfl Try.func43 (by kernel_rfl) rfl #[.agg #[.slice A495_0 ((rd_T35 x494001_1 x23_1).f0).length c495_0],.slice A1 l1.length c1] rfl (by (try simp only [List.map_toArray,List.map_cons,List.map_nil]);rfl) ?_;(with_reducible refine (impl_lost.calls k1 _ _ ((rd_T35 x494001_1 x23_1).f0) _ _ l1 t497 _ ?side1 ?side2 ?side3 ?side4 A22.out).mono ?_);(case side1=>repeat (exact ((Kd.R_reads' (by exact (Kd.R_mono (Kd.R_far (p:=⟨gb496,0,none⟩) (Kd.R_types HL495_0.out BK496.out (by decide)) (fun _ hk=>hk.2) (.slice A495_0 ((rd_T35 x494001_1 x23_1).f0).length c495_0)) (fun _ h_=>h_.1)))).2.2)));(case side2=>exact HC495_0.out);(case side3=>exact Kd.C_below HR1.out be);(case side4=>exact HC1.out);rintro e w105 ⟨rfl,hb⟩;refine ⟨_,rfl,?_⟩;replace HO_494001:=aM (Kd.S_below ((by exact (Kd.S_mono (Kd.S_far (p:=⟨gb496,0,none⟩) (Kd.S_mono HO_494001.out (fun k_ hk=>(⟨hk,hk.2⟩:_∧k_ ≠ gb496))) (fun _ hk=>hk.2) (.slice A495_0 ((rd_T35 x494001_1 x23_1).f0).length c495_0)) (fun _ h_=>h_.1)))) hb);replace BK487:=aM (blk_below (g:=gb487) (o:=.cells #[.int .i64 a0_0,.slice A0_1 l0_1.length c0_1] 26 (0,0)) (by refine blk_far ?_ NB487_496.out _;exact BK487.out) hb);replace BK488:=aM (blk_below (g:=gb488) (o:=.cells #[.int .i64 0,.slice none 0 0] 26 (0,0)) (by refine blk_far ?_ NB488_496.out _;exact BK488.out) hb);replace BK493:=aM (blk_below (g:=gb493) (o:=.cells #[.int .i64 t489,.slice (some ad495) x494001_1.length co99] 26 (0,0)) (by refine blk_far ?_ NB493_496.out _;exact BK493.out) hb);replace HR495_0:=aM (Kd.C_below ((Kd.R_reads' (by exact (Kd.R_mono (Kd.R_far (p:=⟨gb496,0,none⟩) (Kd.R_types HL495_0.out BK496.out (by decide)) (fun _ hk=>hk.2) (.slice A495_0 ((rd_T35 x494001_1 x23_1).f0).length c495_0)) (fun _ h_=>h_.1)))).2.2) hb);replace BK496:=aM (blk_below (g:=gb496) (o:=.cells #[.slice A495_0 ((rd_T35 x494001_1 x23_1).f0).length c495_0] 35 (0,0)) (by refine blk_put (cs:=#[.slice none 0 0]) ?_ 0 _ rfl;exact BK496.out) hb);replace HB:=bs hb;clear HL495_0;(try clear hb);obtain ⟨hcz106_0,hcz106_1,hfz106_0,hfz106_1⟩:=b2 BK493;obtain ⟨hcz107_0,hfz107_0⟩:=b1 BK496)|((with_reducible refine gate_callee (f:=46) rfl ?_);refine goesL_ (some 56) rfl rfl Try.func46 (by kernel_rfl) rfl #[.agg #[.int .i64 t489,.slice (some ad495) x494001_1.length co99],.agg #[.slice A495_0 ((rd_T35 x494001_1 x23_1).f0).length c495_0],.slice A1 l1.length c1] rfl (by (try simp only [List.map_toArray,List.map_cons,List.map_nil]);rfl) ?_;(with_reducible refine (impl_heavy.calls k1 t489 _ _ x494001_1 _ _ ((rd_T35 x494001_1 x23_1).f0) _ _ l1 t516 t517 _ ?side1 ?side2 ?side3 ?side4 ?side5 ?side6 A74.out).mono ?_);(case side1=>exact sS HO_494001);(case side2=>exact (Kd.S_reads' HO_494001.out).2.1);(case side3=>repeat (exact HR495_0.out));(case side4=>exact HC495_0.out);(case side5=>exact rC HR1);(case side6=>exact HC1.out);rintro e w108 ⟨rfl,hb⟩;refine ⟨_,rfl,?_⟩;replace HO_494001:=sB HO_494001 hb;replace BK487:=bB BK487 hb;replace BK488:=bB BK488 hb;replace BK493:=bB BK493 hb;replace HB:=bs hb;clear HR495_0 BK496;(try clear hb)))
        go_roundg k1
        case measure=>have:=HK1.out;omega
        case rel=>exact ⟨(x7_1),(wrap64 (x23_1+1)),(x494001_1),(.slice (some ad495) x494001_1.length co99),rd_,rd_,H',⟨by have:=HK1.out;omega⟩,⟨by exact Kd.S_mono HO_494001.out (fun _ hk=>trivial)⟩,⟨bk BK487⟩,⟨bk BK488⟩,⟨bk BK493⟩,⟨be⟩⟩
      ·rw [if_neg c75] at H
       have c75b0:decide (0≤t516)=false:=decide_eq_false c75
       clear c75
       have H':=Aside0.mk H
       clear H
       have hnb109:=NB493_487.out
       have hnc109:=NB487_493.out
       have hnb110:=NB493_488.out
       have hnc110:=NB488_493.out
       obtain ⟨hcz111_0,hcz111_1,hfz111_0,hfz111_1⟩:=b2 BK493
       obtain ⟨Ao112,co112,eo112⟩:=Kd.S_slice HO_494001.out
       subst eo112
       have p495:0≤(x23_1:Int):=od
       have q495:x23_1 < (x494001_1.length:Int):=od
       obtain ⟨ad495,A495_0,c495_0,e495,hx495_0,hl495_0,hi495_0⟩:=at_T35 (Kd.S_reads' HO_494001.out).2.2 x23_1 p495 q495
       cases e495
       obtain ⟨ce495,hce495,hMe495,hcc495⟩:=Kd.S_get HO_494001.out z35 x23_1 p495 (by exact q495)
       obtain ⟨ve495_0,rfl,ge495_0⟩:=k35_openM hMe495
       have hv495_0:=hcc495 0 _ rfl
       rw [Nat.add_zero,show (k35).sz=1 from rfl,Nat.mul_one] at hv495_0
       replace hv495_0:=Option.some.inj (hv495_0.symm.trans hx495_0)
       rw [hv495_0] at ge495_0
       have HL495_0:=aM (show Kd.R (Kd.int .i64) 3 _ _ _ _ ((rd_T35 x494001_1 x23_1).f0) from ge495_0)
       clear hv495_0 ge495_0
       have HX495_0:=aM hx495_0
       clear hcc495 hce495
       have HR495_0:=aM hi495_0
       have HC495_0:=aM hl495_0
       clear hi495_0 hl495_0
       replace p495:=eq_true p495
       replace q495:=eq_true q495
       go_wp2_with (first|((with_reducible refine gate_dst (N:=9) rfl ?_);refine box_event ?hg (N:=9) ?hd (cs:=#[.slice none 0 0]) (t:=35) ?hr ?_;(case hd=>rfl);(case hg=>rfl);(case hr=>(go_simp;done));intro gb496 hg w113 hbox hb;replace HO_494001:=aM (Kd.S_below (Kd.S_elderB (rS HO_494001) gb496 (Nat.le_of_eq hg.symm)) hb);replace HL495_0:=rB HL495_0 hb;replace HR495_0:=cB HR495_0 hb;have BK496:=aM (hbox);have GW496:=gS w hg;have GE496:=gS w hg;replace HB:=bs hb;have NB487_496:=nL hg BK487;have NB496_487:=nG hg BK487;replace BK487:=bB BK487 hb;have NB488_496:=nL hg BK488;have NB496_488:=nG hg BK488;replace BK488:=bB BK488 hb;have NB493_496:=nL hg BK493;have NB496_493:=nG hg BK493;replace BK493:=bB BK493 hb;clear HX495_0;clear hb hbox hg;have hnb114:=NB496_487.out;have hnc114:=NB487_496.out;have hnb115:=NB496_488.out;have hnc115:=NB488_496.out;have hnb116:=NB496_493.out;have hnc116:=NB493_496.out;obtain ⟨hcz117_0,hfz117_0⟩:=b1 BK496)|((with_reducible refine gate_callee (f:=43) rfl ?_);refine goesL_ (some 33) rfl rfl Try.func43 (by kernel_rfl) rfl #[.agg #[.slice A495_0 ((rd_T35 x494001_1 x23_1).f0).length c495_0],.slice A1 l1.length c1] rfl (by (try simp only [List.map_toArray,List.map_cons,List.map_nil]);rfl) ?_;(with_reducible refine (impl_lost.calls k1 _ _ ((rd_T35 x494001_1 x23_1).f0) _ _ l1 t497 _ ?side1 ?side2 ?side3 ?side4 A22.out).mono ?_);(case side1=>repeat (exact ((Kd.R_reads' (by exact (Kd.R_mono (Kd.R_far (p:=⟨gb496,0,none⟩) (Kd.R_types HL495_0.out BK496.out (by decide)) (fun _ hk=>hk.2) (.slice A495_0 ((rd_T35 x494001_1 x23_1).f0).length c495_0)) (fun _ h_=>h_.1)))).2.2)));(case side2=>exact HC495_0.out);(case side3=>exact Kd.C_below HR1.out be);(case side4=>exact HC1.out);rintro e w118 ⟨rfl,hb⟩;refine ⟨_,rfl,?_⟩;replace HO_494001:=aM (Kd.S_below ((by exact (Kd.S_mono (Kd.S_far (p:=⟨gb496,0,none⟩) (Kd.S_mono HO_494001.out (fun k_ hk=>(⟨hk,hk.2⟩:_∧k_ ≠ gb496))) (fun _ hk=>hk.2) (.slice A495_0 ((rd_T35 x494001_1 x23_1).f0).length c495_0)) (fun _ h_=>h_.1)))) hb);replace BK487:=aM (blk_below (g:=gb487) (o:=.cells #[.int .i64 a0_0,.slice A0_1 l0_1.length c0_1] 26 (0,0)) (by refine blk_far ?_ NB487_496.out _;exact BK487.out) hb);replace BK488:=aM (blk_below (g:=gb488) (o:=.cells #[.int .i64 0,.slice none 0 0] 26 (0,0)) (by refine blk_far ?_ NB488_496.out _;exact BK488.out) hb);replace BK493:=aM (blk_below (g:=gb493) (o:=.cells #[.int .i64 t489,.slice (some ad495) x494001_1.length co112] 26 (0,0)) (by refine blk_far ?_ NB493_496.out _;exact BK493.out) hb);replace HR495_0:=aM (Kd.C_below ((Kd.R_reads' (by exact (Kd.R_mono (Kd.R_far (p:=⟨gb496,0,none⟩) (Kd.R_types HL495_0.out BK496.out (by decide)) (fun _ hk=>hk.2) (.slice A495_0 ((rd_T35 x494001_1 x23_1).f0).length c495_0)) (fun _ h_=>h_.1)))).2.2) hb);replace BK496:=aM (blk_below (g:=gb496) (o:=.cells #[.slice A495_0 ((rd_T35 x494001_1 x23_1).f0).length c495_0] 35 (0,0)) (by refine blk_put (cs:=#[.slice none 0 0]) ?_ 0 _ rfl;exact BK496.out) hb);replace HB:=bs hb;clear HL495_0;(try clear hb);obtain ⟨hcz119_0,hcz119_1,hfz119_0,hfz119_1⟩:=b2 BK493;obtain ⟨hcz120_0,hfz120_0⟩:=b1 BK496)|((with_reducible refine gate_callee (f:=46) rfl ?_);refine goesL_ (some 56) rfl rfl Try.func46 (by kernel_rfl) rfl #[.agg #[.int .i64 t489,.slice (some ad495) x494001_1.length co112],.agg #[.slice A495_0 ((rd_T35 x494001_1 x23_1).f0).length c495_0],.slice A1 l1.length c1] rfl (by (try simp only [List.map_toArray,List.map_cons,List.map_nil]);rfl) ?_;(with_reducible refine (impl_heavy.calls k1 t489 _ _ x494001_1 _ _ ((rd_T35 x494001_1 x23_1).f0) _ _ l1 t516 t517 _ ?side1 ?side2 ?side3 ?side4 ?side5 ?side6 A74.out).mono ?_);(case side1=>exact sS HO_494001);(case side2=>exact (Kd.S_reads' HO_494001.out).2.1);(case side3=>repeat (exact HR495_0.out));(case side4=>exact HC495_0.out);(case side5=>exact rC HR1);(case side6=>exact HC1.out);rintro e w121 ⟨rfl,hb⟩;refine ⟨_,rfl,?_⟩;replace HO_494001:=sB HO_494001 hb;replace BK487:=bB BK487 hb;replace BK488:=bB BK488 hb;replace BK493:=bB BK493 hb;replace HB:=bs hb;clear HR495_0 BK496;(try clear hb)))
       go_roundg k1
       case measure=>have:=HK1.out;omega
       case rel=>exact ⟨(x7_1),(wrap64 (x23_1+1)),(x494001_1),(.slice (some ad495) x494001_1.length co112),rd_,rd_,H',⟨by have:=HK1.out;omega⟩,⟨by exact Kd.S_mono HO_494001.out (fun _ hk=>trivial)⟩,⟨bk BK487⟩,⟨bk BK488⟩,⟨bk BK493⟩,⟨be⟩⟩
    ·rw [if_neg c19] at H
     have c19b0:decide (x23_1 < (t490.length:Int))=false:=decide_eq_false c19
     clear c19
     simp only [Option.some.injEq,Prod.mk.injEq] at H
     obtain ⟨rfl,rfl,rfl⟩:=H
     have hnb122:=NB493_487.out
     have hnc122:=NB487_493.out
     have hnb123:=NB493_488.out
     have hnc123:=NB488_493.out
     obtain ⟨hcz124_0,hcz124_1,hfz124_0,hfz124_1⟩:=b2 BK493
     have hnb125:=NB488_487.out
     have hnc125:=NB487_488.out
     obtain ⟨hcz126_0,hcz126_1,hfz126_0,hfz126_1⟩:=b2 BK488
     obtain ⟨Ao127,co127,eo127⟩:=Kd.S_slice HO_494001.out
     subst eo127
     go_wp2
     refine bodyPost_ret (results_ct rfl _ _ gb488 26 #[.int .i64 t489,.slice Ao127 x494001_1.length co127] (0,0) _ rfl (by refine blk_put (cs:=#[.int .i64 t489,.slice none 0 0]) ?_ 1 _ rfl;refine blk_put (cs:=#[.int .i64 0,.slice none 0 0]) ?_ 0 _ rfl;exact BK488.out) Try.underlying26 rfl (by kernel_rfl)) rfl ?_
     exact ⟨_,rz,by exact Kd.S_mono (Kd.S_far (p:=⟨gb488,1,none⟩) (Kd.S_far (p:=⟨gb488,0,none⟩) (Kd.S_types HO_494001.out BK488.out (by decide)) (fun _ hk=>hk.2) (.int .i64 t489)) (fun _ hk=>hk.2) (.slice Ao127 x494001_1.length co127)) (fun _ hk=>trivial),be⟩
 ·replace c5:=Bool.eq_false_iff.mpr c5
  subst c5
  replace H:=(if_neg (show ¬ (false=true) by decide)).symm.trans H
  simp only [Option.some.injEq,Prod.mk.injEq] at H
  obtain ⟨rfl,rfl,rfl⟩:=H
  go_enter Try.func10,Try.ntmps10
  go_wp2_with (first|((with_reducible refine gate_dst (N:=2) rfl ?_);refine box_event ?hg (N:=2) ?hd (cs:=#[.int .i64 a0_0,.slice A0_1 l0_1.length c0_1]) (t:=26) ?hr ?_;(case hd=>rfl);(case hg=>rfl);(case hr=>(go_simp;done));intro gb487 hg w128 hbox hb;have BK487:=aM (hbox);have GW487:=gS w hg;have GE487:=gS w hg;replace HB:=bs hb;clear hb hbox hg)|((with_reducible refine gate_dst (N:=4) rfl ?_);refine box_event ?hg (N:=4) ?hd (cs:=#[.int .i64 0,.slice none 0 0]) (t:=26) ?hr ?_;(case hd=>rfl);(case hg=>rfl);(case hr=>(go_simp;done));intro gb488 hg w129 hbox hb;have BK488:=aM (hbox);have GW488:=gS w hg;have GE488:=gS w hg;replace HB:=bs hb;have NB487_488:=nL hg BK487;have NB488_487:=nG hg BK487;replace BK487:=bB BK487 hb;clear hb hbox hg;have hnb130:=NB487_488.out;have hnc130:=NB488_487.out;obtain ⟨hcz131_0,hcz131_1,hfz131_0,hfz131_1⟩:=b2 BK487)|((with_reducible refine gate_callee (f:=41) rfl ?_);refine goesL_ (some 14) rfl rfl Try.func41 (by kernel_rfl) rfl #[.agg #[.int .i64 a0_0,.slice A0_1 l0_1.length c0_1]] rfl (by (try simp only [List.map_toArray,List.map_cons,List.map_nil]);rfl) ?_;(with_reducible refine (impl_copyRing.calls k a0_0 _ _ l0_1 t489 t490 _ ?side1 ?side2 A3.out).mono ?_);(case side1=>exact rC HR0_1);(case side2=>exact HC0_1.out);rintro e w132 ⟨v491,rfl,ho0,hb⟩;refine ⟨_,rfl,?_⟩;have HO492:=aM (Kd.S_lower ho0 (below_size be));replace BK487:=bB BK487 hb;replace BK488:=bB BK488 hb;replace HB:=bs hb;(try clear hb);(try clear ho0))|((with_reducible refine gate_dst (N:=6) rfl ?_);refine box_event ?hg (N:=6) ?hd (cs:=#[.int .i64 0,.slice none 0 0]) (t:=26) ?hr ?_;(case hd=>rfl);(case hg=>rfl);(case hr=>(go_simp;done));intro gb493 hg w133 hbox hb;replace HO492:=sB HO492 hb;have BK493:=aM (hbox);have GW493:=gS w hg;have GE493:=gS w hg;replace HB:=bs hb;have NB487_493:=nL hg BK487;have NB493_487:=nG hg BK487;replace BK487:=bB BK487 hb;have NB488_493:=nL hg BK488;have NB493_488:=nG hg BK488;replace BK488:=bB BK488 hb;clear hb hbox hg;have hnb134:=NB493_487.out;have hnc134:=NB487_493.out;have hnb135:=NB493_488.out;have hnc135:=NB488_493.out;obtain ⟨hcz136_0,hcz136_1,hfz136_0,hfz136_1⟩:=b2 BK493;obtain ⟨Ao137,co137,eo137⟩:=Kd.S_slice HO492.out;subst eo137;obtain ⟨hcz138_0,hcz138_1,hfz138_0,hfz138_1⟩:=b2 BK487)|((with_reducible refine gate_callee (f:=42) rfl ?_);refine goesL_ (some 17) rfl rfl Try.func42 (by kernel_rfl) rfl #[.agg #[.int .i64 a0_0,.slice A0_1 l0_1.length c0_1],.slice A1 l1.length c1] rfl (by (try simp only [List.map_toArray,List.map_cons,List.map_nil]);rfl) ?_;(with_reducible refine (impl_canMove.calls k a0_0 _ _ l0_1 _ _ l1 false _ ?side1 ?side2 ?side3 ?side4 A4.out).mono ?_);(case side1=>exact Kd.C_below HR0_1.out be);(case side2=>exact HC0_1.out);(case side3=>exact Kd.C_below HR1.out be);(case side4=>exact HC1.out);rintro e w139 ⟨rfl,hb⟩;refine ⟨_,rfl,?_⟩;replace HO492:=aM (Kd.S_below ((by exact (Kd.S_mono (Kd.S_far (p:=⟨gb493,1,none⟩) (Kd.S_far (p:=⟨gb493,0,none⟩) (Kd.S_types HO492.out BK493.out (by decide)) (fun _ hk=>hk.2) (.int .i64 t489)) (fun _ hk=>hk.2) (.slice Ao137 t490.length co137)) (fun _ h_=>h_.1)))) hb);replace BK488:=aM (blk_below (g:=gb488) (o:=.cells #[.int .i64 0,.slice none 0 0] 26 (0,0)) (by refine blk_far ?_ NB488_493.out _;refine blk_far ?_ NB488_493.out _;exact BK488.out) hb);replace BK493:=aM (blk_below (g:=gb493) (o:=.cells #[.int .i64 t489,.slice Ao137 t490.length co137] 26 (0,0)) (by refine blk_put (cs:=#[.int .i64 t489,.slice none 0 0]) ?_ 1 _ rfl;refine blk_put (cs:=#[.int .i64 0,.slice none 0 0]) ?_ 0 _ rfl;exact BK493.out) hb);replace HB:=bs hb;clear BK487;(try clear hb);obtain ⟨hcz140_0,hcz140_1,hfz140_0,hfz140_1⟩:=b2 BK493;obtain ⟨hcz141_0,hcz141_1,hfz141_0,hfz141_1⟩:=b2 BK488))
  refine bodyPost_ret (results_ct rfl _ _ gb488 26 #[.int .i64 t489,.slice Ao137 t490.length co137] (0,0) _ rfl (by refine blk_put (cs:=#[.int .i64 t489,.slice none 0 0]) ?_ 1 _ rfl;refine blk_put (cs:=#[.int .i64 0,.slice none 0 0]) ?_ 0 _ rfl;exact BK488.out) Try.underlying26 rfl (by kernel_rfl)) rfl ?_
  exact ⟨_,rz,by exact Kd.S_mono (Kd.S_far (p:=⟨gb488,1,none⟩) (Kd.S_far (p:=⟨gb488,0,none⟩) (Kd.S_types HO492.out BK488.out (by decide)) (fun _ hk=>hk.2) (.int .i64 t489)) (fun _ hk=>hk.2) (.slice Ao137 t490.length co137)) (fun _ hk=>trivial),be⟩
def spec_l5Copy.l0:Nat→Int→Int→List (S35)→Int→List (S35)→Option (Int × (List (S35)))
 | 0,_,_,_,_,_=>none
 | k+1,x4,x524000,x524001,x526000,x526001=>if x4 < (x524001.length:Int) then ((some (([]:List Int):List Int)).bind fun y526=>(if 0≤x4 then (if y526.length+((rd_T35 x524001 x4).f0).length < 17592186044416 then (if x526001.length < 5864062014805 then (spec_l5Copy.l0 k (wrap64 (x4+1)) x524000 x524001 x526000 (x526001 ++ [(⟨(y526 ++ ((rd_T35 x524001 x4).f0))⟩:S35)])) else (none)) else (none)) else (none))) else (some (x526000,x526001))
def spec_l5Copy.f (k:Nat) (a0_0:Int) (l0_1:List (S35)):Option (Int × (List (S35))):=spec_l5Copy.l0 k 0 a0_0 l0_1 a0_0 ([]:List (S35))
def spec_l5Copy.T5:Bool × List (List Nat × List Nat):=(true,[([],[]),([0],[0]),([],[]),([],[]),([3],[3]),([],[]),([4,5],[4,5]),([6],[6]),([7],[7]),([2,8],[2,8]),([9],[9]),([10],[10]),([1,11,9],[1,11]),([0,1,2,3,4,5,6,7,8,9,10,11,12],[]),([13,12,12,0,1,2,3,4,5,6,7,8,9,10,11,12],[12,13])])
def spec_l5Copy.B5:List Nat:=[0,1,0,0,8,0,56,120,248,508,1020,2044,4095,8191,16383]
theorem spec_l5Copy.tab5:rtab .any (opsOf Try.f47 5)=spec_l5Copy.T5:=by kernel_rfl
theorem spec_l5Copy.bits5:waitsOk spec_l5Copy.T5.2 spec_l5Copy.B5=true:=by kernel_rfl
set_option maxHeartbeats 8000000 in
set_option maxRecDepth 100000 in
theorem spec_l5Copy.calls (k:Nat) (a0_0:Int) (A0_1:Option Addr) (c0_1:Nat) (l0_1:List (S35)) (r1:Int) (r2:List (S35)) (w:World) (hr0_1:Kd.C k35 w A0_1 l0_1.length l0_1) (hc0_1:l0_1.length≤c0_1) (h:spec_l5Copy.f k a0_0 l0_1=some (r1,r2)) :
  Calls Try.prog 47 #[.agg #[.int .i64 a0_0,.slice A0_1 l0_1.length c0_1]] w fun e w'=>∃ v1_:Value,e = .returned (.agg #[.int .i64 r1,v1_])∧Kd.S k35 35 w' w.heap.size (fun _=>True) v1_ r2∧Below w.heap.size w w':=by
 have hu26:=Try.underlying26
 have hu35:=Try.underlying35
 have HR0_1:=aM hr0_1
 have HC0_1:=aM hc0_1
 clear hr0_1 hc0_1
 have HB:=aM (Below.refl w.heap.size w)
 have H:(spec_l5Copy.l0 k 0 a0_0 l0_1 a0_0 ([]:List (S35)))=some (r1,r2):=h
 clear h
 have H':=Aside0.mk H
 clear H
 go_enter Try.func47,Try.ntmps47
 go_wp2_with (first|((with_reducible refine gate_dst (N:=1) rfl ?_);refine box_event ?hg (N:=1) ?hd (cs:=#[.int .i64 a0_0,.slice A0_1 l0_1.length c0_1]) (t:=26) ?hr ?_;(case hd=>rfl);(case hg=>rfl);(case hr=>(go_simp;done));intro gb523 hg w2 hbox hb;have BK523:=aM (hbox);have GW523:=gS w hg;replace HB:=bs hb;clear hb hbox hg)|((with_reducible refine gate_dst (N:=2) rfl ?_);refine box_event ?hg (N:=2) ?hd (cs:=#[.int .i64 0,.slice none 0 0]) (t:=26) ?hr ?_;(case hd=>rfl);(case hg=>rfl);(case hr=>(go_simp;done));intro gb524 hg w3 hbox hb;have BK524:=aM (hbox);have GW524:=gS w hg;replace HB:=bs hb;have NB523_524:=nL hg BK523;have NB524_523:=nG hg BK523;replace BK523:=bB BK523 hb;clear hb hbox hg;have hnb4:=NB523_524.out;have hnc4:=NB524_523.out;obtain ⟨hcz5_0,hcz5_1,hfz5_0,hfz5_1⟩:=b2 BK523)|((with_reducible refine gate_dst (N:=3) rfl ?_);refine box_event ?hg (N:=3) ?hd (cs:=#[.int .i64 0,.slice none 0 0]) (t:=26) ?hr ?_;(case hd=>rfl);(case hg=>rfl);(case hr=>(go_simp;done));intro gb525 hg w6 hbox hb;have BK525:=aM (hbox);have GW525:=gS w hg;replace HB:=bs hb;have NB523_525:=nL hg BK523;have NB525_523:=nG hg BK523;replace BK523:=bB BK523 hb;have NB524_525:=nL hg BK524;have NB525_524:=nG hg BK524;replace BK524:=bB BK524 hb;clear hb hbox hg;have hnb7:=NB525_523.out;have hnc7:=NB523_525.out;have hnb8:=NB525_524.out;have hnc8:=NB524_525.out;obtain ⟨hcz9_0,hcz9_1,hfz9_0,hfz9_1⟩:=b2 BK525))
 go_loopg [4] k (fun kq v4 w'=>∃ (x4_1:Int) (x526001_1:List (S35)) (u526001:Value),v4 = .int .i64 x4_1∧Aside0 (spec_l5Copy.l0 kq x4_1 a0_0 l0_1 a0_0 x526001_1=some (r1,r2))∧Aside0 (kq≤k)∧Aside0 (Kd.S k35 35 w' w.heap.size (fun _=>True) u526001 x526001_1)∧Aside0 (w'.heap[gb523]?=some (.cells #[.int .i64 a0_0,(.slice A0_1 l0_1.length c0_1)] 26 (0,0)))∧Aside0 (w'.heap[gb524]?=some (.cells #[.int .i64 0,(.slice none 0 0)] 26 (0,0)))∧Aside0 (w'.heap[gb525]?=some (.cells #[.int .i64 a0_0,u526001] 26 (0,0)))∧Aside0 (Below w.heap.size w w'))
 case atStart=>exact ⟨(0),(([]:List (S35))),(.slice none 0 0),rd_,H',⟨Nat.le_refl _⟩,⟨by exact Kd.S_nil _ _ _ _ _⟩,⟨by refine blk_far ?_ NB523_525.out _;refine blk_far ?_ NB523_525.out _;exact BK523.out⟩,⟨by refine blk_far ?_ NB524_525.out _;refine blk_far ?_ NB524_525.out _;exact BK524.out⟩,⟨by refine blk_put (cs:=#[.int .i64 a0_0,.slice none 0 0]) ?_ 1 _ rfl;refine blk_put (cs:=#[.int .i64 0,.slice none 0 0]) ?_ 0 _ rfl;exact BK525.out⟩,⟨be⟩⟩
 case round=>
  clear H'
  try clear hcz5_0
  try clear hcz5_1
  try clear hcz9_0
  try clear hcz9_1
  try clear hfz5_0
  try clear hfz5_1
  try clear hfz9_0
  try clear hfz9_1
  obtain ⟨x4_1,x526001_1,u526001,rfl,HA,HK1,HO_526001,BK523,BK524,BK525,HB⟩:=hrel
  cases gk with
  | zero=>exact absurd HA.out (by simp [spec_l5Copy.l0])
  | succ k1=>
   have H:=HA.out
   clear HA
   simp only [spec_l5Copy.l0] at H
   by_cases c10:x4_1 < (l0_1.length:Int)
   ·rw [if_pos c10] at H
    have c10b0:decide (x4_1 < (l0_1.length:Int))=true:=decide_eq_true c10
    clear c10
    obtain ⟨y526,hy526⟩ : ∃ y_:List Int,y_=(([]:List Int)):=⟨_,rfl⟩
    replace H:(if 0≤x4_1 then (if y526.length+((rd_T35 l0_1 x4_1).f0).length < 17592186044416 then (if x526001_1.length < 5864062014805 then (spec_l5Copy.l0 k1 (wrap64 (x4_1+1)) a0_0 l0_1 a0_0 (x526001_1 ++ [(⟨(y526 ++ ((rd_T35 l0_1 x4_1).f0))⟩:S35)])) else (none)) else (none)) else (none))=some (r1,r2):=by (have H2_:=(Option.bind_some _ _).symm.trans H;rw [hy526];with_reducible exact H2_)
    have Ny526:=aM hy526
    clear hy526
    obtain ⟨c11,H⟩:=ifs H
    have c11b0:decide (0≤x4_1)=true:=decide_eq_true c11
    clear c11
    obtain ⟨c12,H⟩:=ifs H
    have LMc12:=aM c12
    clear c12
    obtain ⟨y530,hy530⟩ : ∃ y_:List Int,y_=(y526 ++ ((rd_T35 l0_1 x4_1).f0)):=⟨_,rfl⟩
    replace H:(if x526001_1.length < 5864062014805 then (spec_l5Copy.l0 k1 (wrap64 (x4_1+1)) a0_0 l0_1 a0_0 (x526001_1 ++ [(⟨y530⟩:S35)])) else (none))=some (r1,r2):=by (rw [hy530];with_reducible exact H)
    have Ny530:=aM hy530
    clear hy530
    obtain ⟨c13,H⟩:=ifs H
    have LMc13:=aM c13
    clear c13
    obtain ⟨y533,hy533⟩ : ∃ y_:List (S35),y_=(x526001_1 ++ [(⟨y530⟩:S35)]):=⟨_,rfl⟩
    replace H:(spec_l5Copy.l0 k1 (wrap64 (x4_1+1)) a0_0 l0_1 a0_0 y533)=some (r1,r2):=by (rw [hy533];with_reducible exact H)
    have Ny533:=aM hy533
    clear hy533
    have H':=Aside0.mk H
    clear H
    have hnb14:=NB523_524.out
    have hnc14:=NB524_523.out
    have hnb15:=NB523_525.out
    have hnc15:=NB525_523.out
    obtain ⟨hcz16_0,hcz16_1,hfz16_0,hfz16_1⟩:=b2 BK523
    try go_wp2
    replace HO_526001:=aM (Kd.S_drew HO_526001.out);replace BK523:=aM (blk_drew BK523.out);replace BK524:=aM (blk_drew BK524.out);replace BK525:=aM (blk_drew BK525.out);replace HB:=aM (below_drew1 HB.out)
    have p529:0≤(x4_1:Int):=od
    have q529:x4_1 < (l0_1.length:Int):=od
    obtain ⟨ad529,A529_0,c529_0,e529,hx529_0,hl529_0,hi529_0⟩:=at_T35 HR0_1.out x4_1 p529 q529
    have hw529_0:=hx529_0
    cases e529
    replace hx529_0:=xH HB hx529_0
    have HR529_0:=aM hi529_0
    have HC529_0:=aM hl529_0
    clear hi529_0 hl529_0
    replace p529:=eq_true p529
    replace q529:=eq_true q529
    refine start_ (n:=15) (S:=fun w'=>w'.cell? ⟨gb525,0,none⟩=some (.int .i64 a0_0)∧w'.cell? ⟨gb525,1,none⟩=some (u526001)∧w'.cell? ⟨gb523,0,none⟩=some (.int .i64 a0_0)∧w'.cell? ⟨gb523,1,none⟩=some (.slice (some ad529) l0_1.length c0_1)∧w'.cell? (ad529.add (x4_1).toNat)=some (.slice A529_0 ((rd_T35 l0_1 x4_1).f0).length c529_0)) (ds:=[14]) (fl 15 0) (by kernel_rfl) rfl rfl ⟨bq BK525 0,bq BK525 1,bq BK523 0,bq BK523 1,(xH HB hw529_0)⟩ (fun hHeld=>?_);refine with_tabW spec_l5Copy.tab5 spec_l5Copy.bits5 (fun HT_ HW_=>?_)
    generalize wr.drew=w17 at HO_526001 BK523 BK524 BK525 HB HR529_0 hx529_0 hHeld ⊢
    refine pt 0 15 (fl 15 1) HT_ ?_
    refine pt 3 18 (fl 15 9) HT_ ?_
    refine pt 5 20 (fl 15 41) HT_ ?_
    refine tt 1 16 (fl 15 43) HT_ HW_ hHeld ?_
    refine tt 4 19 (fl 15 59) HT_ HW_ hHeld ?_
    refine pt 6 21 (fl 15 123) HT_ ?_
    refine pt 7 22 (fl 15 251) HT_ ?_
    refine tt 8 23 (fl 15 507) HT_ HW_ hHeld ?_
    refine ot 2 (some 17) (fl 15 511) HT_ (fun K hK=>?_)
    refine Kd.R_lit_step (Kd.int .i64) _ 3 ?hg (N:=17) ?hd (xs:=([]:List Int)) (inner:=[]) (ok:=fun _=>True) (okp:=fun _=>True) ?hr ?hp (fun _ hk=>hk) trivial (Below.refl _ _) (Nat.le_refl _) (by simp) ?_;(case hd=>rfl);(case hg=>rfl);(case hr=>(go_simp;done));(case hp=>exact (Reps.none _ _))
    intro v527 w18 ho19 hb hg_ hnew_
    clear hg_ hnew_
    (rw [← Ny526.out] at ho19)
    replace HO_526001:=aM (Kd.S_elder' (rS HO_526001) (Kd.R_base ho19) hb);have HO528:=aM (Kd.R_lower ho19 (below_size be));replace BK523:=bB BK523 hb;replace BK524:=bB BK524 hb;replace BK525:=bB BK525 hb;replace HB:=bs hb;clear hb ho19
    refine hK.out _ _ ⟨bq BK525 0,bq BK525 1,bq BK523 0,bq BK523 1,(xH HB hw529_0)⟩ (fun hHeld=>?_)
    clear hK K
    refine no 17 ?_
    refine ot 9 (some 24) (fl 15 1023) HT_ (fun K hK=>?_)
    refine Kd.R_append_rows_step (Kd.int .i64) (w0:=w) w.heap.size (by rfl) (.tmp 17) (.tmp 23) 33 3 (.int .i64 0) 8 rfl Try.underlying33 info3 rfl (by decide) (by omega) v527 y526 ((rd_T35 l0_1 x4_1).f0) _ _ _ (fun _=>True) (fun _=>False) rfl rfl ?aO ?aR (fun _ _ h=>h) (fun _ h=>h.elim) ?aF ?aB ?aS ?aL ?_
    (case aR=>exact rC HR529_0)
    (case aB=>exact be)
    (case aF=>exact (fun _ _=>trivial))
    (case aO=>exact (rR HO528))
    (case aS=>exact (below_size be))
    (case aL=>have:=LMc12.out;omega)
    intro v531 w20 ho hb hg hat
    rw [← Ny530.out] at ho
    replace HO_526001:=aM (Kd.S_after (ok:=(fun _=>True)) (rS HO_526001) hg hat);replace BK523:=bG BK523 hg (Kd.R_ne HO528.out BK523.out (by decide));replace BK524:=bG BK524 hg (Kd.R_ne HO528.out BK524.out (by decide));replace BK525:=bG BK525 hg (Kd.R_ne HO528.out BK525.out (by decide));replace HB:=aM (hb);have HO532:=aM (ho);clear HO528;clear ho hb hg hat
    obtain ⟨Ao21,co21,eo21⟩:=Kd.R_slice HO532.out
    (subst eo21)
    refine hK.out _ _ ⟨bq BK525 0,bq BK525 1,bq BK523 0,bq BK523 1,(xH HB hw529_0)⟩ (fun hHeld=>?_)
    clear hK K
    refine no 24 ?_
    refine pt 10 25 (fl 15 2047) HT_ ?_
    refine ot 11 (some 26) (fl 15 4095) HT_ (fun K hK=>?_)
    refine value_ (w1:=?_) (v:=?_) (by rfl) rfl ?_ ?_
    rotate_left 2
    ·go_simp
     constructor
     ·rfl
     ·rfl
    refine hK.out _ _ ⟨(blk_cell (blk_alloc BK525.out _) 0).trans rfl,(blk_cell (blk_alloc BK525.out _) 1).trans rfl,(blk_cell (blk_alloc BK523.out _) 0).trans rfl,(blk_cell (blk_alloc BK523.out _) 1).trans rfl,(World.cell?_alloc_lt _ _ _ (World.block_lt_of_cell? _ _ ((xH HB hw529_0)))).trans ((xH HB hw529_0))⟩ (fun hHeld=>?_)
    clear hK K
    refine no 26 ?_
    refine ot 12 (some 27) (fl 15 8191) HT_ (fun K hK=>?_)
    refine Kd.S_append_step k35 (w0:=w) w.heap.size (by rfl) (.tmp 16) (.tmp 26) 24 35 (.agg #[(.slice none 0 0)]) 24 rfl Try.underlying24 info35 rfl (by decide) (by omega) u526001 x526001_1 (⟨y530⟩:S35) [.slice Ao21 y530.length co21] (fun _=>True) (fun k_=>some k_=(.slice Ao21 y530.length co21:Value).ownBlock) rfl rfl ?aP (fun k_ hk_=>((Kd.R_mono (ok':=fun k_=>((fun _=>True)) k_∧some k_ ≠ (u526001:Value).ownBlock) (Kd.R_apart' (HO532.out) (Kd.S_typed HO_526001.out) (by decide)) (fun k_ hk=>⟨trivial,hk.2⟩))).1 k_ hk_.symm) ?aF ?aO ?aB ?aS ?aL ?_
    (case aP=>exact k35_mkM _ _ _ (⟨y530⟩:S35) (Kd.R_mono (Kd.R_tight rfl (Kd.R_mono (ok':=fun k_=>((fun _=>True)) k_∧some k_ ≠ (u526001:Value).ownBlock) (Kd.R_apart' (HO532.out) (Kd.S_typed HO_526001.out) (by decide)) (fun k_ hk=>⟨trivial,hk.2⟩))) (fun _ h_=>h_)))
    (case aB=>exact be)
    (case aF=>exact (fun _ _=>trivial))
    (case aO=>exact (by exact Kd.S_mono HO_526001.out (fun k_ hk=>⟨trivial,fun e_=>hk.2 e_⟩)))
    (case aS=>exact (below_size be))
    (case aL=>have:=LMc13.out;omega)
    intro v534 w22 ho hb hg hat
    rw [← Ny533.out] at ho
    replace BK523:=bG BK523 hg (Kd.S_ne HO_526001.out BK523.out (by decide));replace BK524:=bG BK524 hg (Kd.S_ne HO_526001.out BK524.out (by decide));replace BK525:=bG BK525 hg (Kd.S_ne HO_526001.out BK525.out (by decide));replace HB:=aM (hb);have HO535:=aM (ho);clear HO_526001 HO532;clear ho hb hg hat
    obtain ⟨Ao23,co23,eo23⟩:=Kd.S_slice HO535.out
    (subst eo23)
    refine hK.out _ _ ⟨bq BK525 0,bq BK525 1,bq BK523 0,bq BK523 1,(xH HB hw529_0)⟩ (fun hHeld=>?_)
    clear hK K
    refine no 27 ?_
    refine pt 13 28 (fl 15 16383) HT_ ?_
    refine last_ (i:=14) (N:=none) (fl 15 32767) rfl rfl (one_of HT_.out (by kernel_rfl)) (by decide) (fun K hK=>?_)
    have hs24:w22.cell? ⟨gb525,1,none⟩=some (u526001):=(blk_cell BK525.out 1).trans rfl
    have hfs24:=blk_frozen BK525.out 1
    have hns24_0:=NB523_525.out
    have hns24_1:=NB524_525.out
    have hms24_0:=NB525_523.out
    have hms24_1:=NB525_524.out
    refine skip_ (w1:=?_) (by rfl) rfl ?_ ?_
    rotate_left
    ·go_simp
     rfl
    refine hK.out _ _ ?_
    clear hK K
    refine done_ (done_of HT_.out (by kernel_rfl)) ?_
    try go_wp2
    go_roundg k1
    case measure=>have:=HK1.out;omega
    case rel=>exact ⟨(wrap64 (x4_1+1)),(y533),(.slice Ao23 y533.length co23),rd_,H',⟨by have:=HK1.out;omega⟩,⟨by exact Kd.S_mono (Kd.S_far (p:=⟨gb525,1,none⟩) (Kd.S_types HO535.out BK525.out (by decide)) (fun _ hk=>hk.2) (.slice Ao23 y533.length co23)) (fun _ hk=>trivial)⟩,⟨by refine blk_far ?_ NB523_525.out _;exact BK523.out⟩,⟨by refine blk_far ?_ NB524_525.out _;exact BK524.out⟩,⟨by refine blk_put (cs:=#[.int .i64 a0_0,u526001]) ?_ 1 _ rfl;exact BK525.out⟩,⟨be⟩⟩
   ·rw [if_neg c10] at H
    have c10b0:decide (x4_1 < (l0_1.length:Int))=false:=decide_eq_false c10
    clear c10
    simp only [Option.some.injEq,Prod.mk.injEq] at H
    obtain ⟨rfl,rfl⟩:=H
    have hnb25:=NB523_524.out
    have hnc25:=NB524_523.out
    have hnb26:=NB523_525.out
    have hnc26:=NB525_523.out
    obtain ⟨hcz27_0,hcz27_1,hfz27_0,hfz27_1⟩:=b2 BK523
    have hnb28:=NB525_524.out
    have hnc28:=NB524_525.out
    obtain ⟨hcz29_0,hcz29_1,hfz29_0,hfz29_1⟩:=b2 BK525
    obtain ⟨hcz30_0,hcz30_1,hfz30_0,hfz30_1⟩:=b2 BK524
    obtain ⟨Ao31,co31,eo31⟩:=Kd.S_slice HO_526001.out
    subst eo31
    go_wp2
    refine bodyPost_ret (results_cell_row rfl _ _ gb524 26 #[.int .i64 a0_0,.slice Ao31 x526001_1.length co31] (0,0) _ rfl (by refine blk_put (cs:=#[.int .i64 a0_0,.slice none 0 0]) ?_ 1 _ rfl;refine blk_put (cs:=#[.int .i64 0,.slice none 0 0]) ?_ 0 _ rfl;exact BK524.out) Try.underlying26 rfl (by kernel_rfl)) rfl ?_
    exact ⟨_,rz,by exact Kd.S_mono (Kd.S_far (p:=⟨gb524,1,none⟩) (Kd.S_far (p:=⟨gb524,0,none⟩) (Kd.S_types HO_526001.out BK524.out (by decide)) (fun _ hk=>hk.2) (.int .i64 a0_0)) (fun _ hk=>hk.2) (.slice Ao31 x526001_1.length co31)) (fun _ hk=>trivial),be⟩
end Go.Proofs.Ytpbjbfimnfghkaa.PFnRebalanced
