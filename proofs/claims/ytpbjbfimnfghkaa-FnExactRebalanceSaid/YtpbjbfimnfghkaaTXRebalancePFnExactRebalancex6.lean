/- Trimmed by a program of this session (trim.py). Not trusted: Lean checks it. -/
import Derived.Test.YtpbjbfimnfghkaaTXRebalancePFnExactRebalancex0
import Derived.Test.YtpbjbfimnfghkaaTXRebalancePFnExactRebalancex1
import Derived.Test.YtpbjbfimnfghkaaTXRebalancePFnExactRebalancex2
import Derived.Test.YtpbjbfimnfghkaaTXRebalancePFnExactRebalancex4
import Derived.Test.YtpbjbfimnfghkaaTXRebalancePFnExactRebalancex5
namespace Go.Proofs.Ytpbjbfimnfghkaa.PFnExactRebalance
open Go.RowKit Go.Proofs.YtpbjbfimnfghkaaW.PrintWords Go.Proofs.YtpbjbfimnfghkaaW.PrintLast Go.Proofs.YtpbjbfimnfghkaaW.PrintMore Go.Proofs.Ytpbjbfimnfghkaa.St
attribute [local go_sem] max2_int min2_int max_two min_two max_three min_three max_four min_four
set_option linter.unusedVariables false
set_option linter.unusedSimpArgs false
def impl_Rebalance.l0:Nat→List (S61)→Int→Int→Int→Int→List (S35)→Option (Int × (List (S35)) × Int)
 | 0,_,_,_,_,_,_=>none
 | k+1,x1,x7,x22,x23,x192000,x192001=>if x23 < x22 then (if 0≤x23 then (if x23 < (x192001.length:Int) then ((impl_lost.f k ((rd_T35 x192001 x23).f0) x1).bind fun t195=>(if t195 ≥ 0 then (if 0≤t195 then (if t195≤(((rd_T35 x192001 x23).f0).length:Int) then ((impl_copyInts.f (((rd_T35 x192001 x23).f0).take (t195:Int).toNat)).bind fun t200=>(if 0≤(wrap64 (t195+1)) then (if (wrap64 (t195+1))≤(((rd_T35 x192001 x23).f0).length:Int) then ((some (((rd_T35 x192001 x23).f0).drop ((wrap64 (t195+1)):Int).toNat:List Int)).bind fun y203=>(if t200.length+y203.length < 17592186044416 then ((impl_Best.f k x192000 x192001 (t200 ++ y203) x1).bind fun t210=>(if t210 ≥ 0 then (if t195 < (((rd_T35 x192001 x23).f0).length:Int) then (impl_Rebalance.l0 k x1 (wrap64 (x7+1)) x22 (wrap64 (x23+1)) x192000 (x192001.set (x23:Int).toNat (⟨(((rd_T35 x192001 x23).f0).set (t195:Int).toNat t210)⟩:S35))) else (none)) else (impl_Rebalance.l0 k x1 x7 x22 (wrap64 (x23+1)) x192000 x192001))) else (none))) else (none)) else (none))) else (none)) else (none)) else ((impl_heavy.f k x192000 x192001 ((rd_T35 x192001 x23).f0) x1).bind fun bt214=>(if bt214.1 ≥ 0 then (if bt214.2 ≥ 0 then (if 0≤bt214.1 then (if bt214.1 < (((rd_T35 x192001 x23).f0).length:Int) then (impl_Rebalance.l0 k x1 (wrap64 (x7+1)) x22 (wrap64 (x23+1)) x192000 (x192001.set (x23:Int).toNat (⟨(((rd_T35 x192001 x23).f0).set (bt214.1:Int).toNat bt214.2)⟩:S35))) else (none)) else (none)) else (impl_Rebalance.l0 k x1 x7 x22 (wrap64 (x23+1)) x192000 x192001)) else (impl_Rebalance.l0 k x1 x7 x22 (wrap64 (x23+1)) x192000 x192001))))) else (none)) else (none)) else (some (x192000,x192001,x7))
def impl_Rebalance.f (k:Nat) (a0_0:Int) (l0_1:List (S35)) (l1:List (S61)):Option (Int × (List (S35)) × Int):=(impl_copyRing.f k a0_0 l0_1).bind fun bt187=>((impl_canMove.f k a0_0 l0_1 l1).bind fun t192=>(if t192=true then (impl_Rebalance.l0 k l1 0 (bt187.2.length:Int) 0 bt187.1 bt187.2) else (some (bt187.1,bt187.2,(-1)))))
def impl_Rebalance.T12:Bool × List (List Nat × List Nat):=(true,[([],[]),([0],[0]),([],[]),([1,2],[1,2]),([3],[3]),([],[]),([5],[5]),([],[]),([7],[7]),([6,8],[6,8]),([4,9,4],[4,9]),([10,10,0,1,2,3,4,5,6,7,8,9,10],[10])])
def impl_Rebalance.B12:List Nat:=[0,1,0,7,15,0,32,0,128,480,1023,2047]
theorem impl_Rebalance.tab12:rtab .any (opsOf Try.f10 12)=impl_Rebalance.T12:=by kernel_rfl
theorem impl_Rebalance.bits12:waitsOk impl_Rebalance.T12.2 impl_Rebalance.B12=true:=by kernel_rfl
set_option maxHeartbeats 8000000 in
set_option maxRecDepth 100000 in
theorem impl_Rebalance.calls (k:Nat) (a0_0:Int) (A0_1:Option Addr) (c0_1:Nat) (l0_1:List (S35)) (A1:Option Addr) (c1:Nat) (l1:List (S61)) (r1:Int) (r2:List (S35)) (r3:Int) (w:World) (hr0_1:Kd.C k35 w A0_1 l0_1.length l0_1) (hc0_1:l0_1.length≤c0_1) (hr1:Kd.C k61 w A1 l1.length l1) (hc1:l1.length≤c1) (h:impl_Rebalance.f k a0_0 l0_1 l1=some (r1,r2,r3)) :
  Calls Try.prog 10 #[.agg #[.int .i64 a0_0,.slice A0_1 l0_1.length c0_1],.slice A1 l1.length c1] w fun e w'=>∃ v1_:Value,e = .returned (.tuple #[.agg #[.int .i64 r1,v1_],.int .i64 r3])∧Kd.S k35 35 w' w.heap.size (fun _=>True) v1_ r2∧Below w.heap.size w w':=by
 have hu26:=Try.underlying26
 have hu35:=Try.underlying35
 have HR0_1:=aM hr0_1
 have HC0_1:=aM hc0_1
 clear hr0_1 hc0_1
 have HR1:=aM hr1
 have HC1:=aM hc1
 clear hr1 hc1
 have HB:=aM (Below.refl w.heap.size w)
 have H:((impl_copyRing.f k a0_0 l0_1).bind fun bt187=>((impl_canMove.f k a0_0 l0_1 l1).bind fun t192=>(if t192=true then (impl_Rebalance.l0 k l1 0 (bt187.2.length:Int) 0 bt187.1 bt187.2) else (some (bt187.1,bt187.2,(-1))))))=some (r1,r2,r3):=h
 clear h
 replace H:=Option.bind_eq_some_iff.mp H
 obtain ⟨⟨t187,t188⟩,A30,H⟩:=H
 try dsimp only at H
 have A3:=aM A30
 clear A30
 replace H:=Option.bind_eq_some_iff.mp H
 obtain ⟨t192,A40,H⟩:=H
 try dsimp only at H
 have A4:=aM A40
 clear A40
 by_cases c5:t192=true
 ·subst c5
  rw [if_pos rfl] at H
  have H':=Aside0.mk H
  clear H
  go_enter Try.func10,Try.ntmps10
  go_wp2_with (first|((with_reducible refine gate_dst (N:=2) rfl ?_);refine box_event ?hg (N:=2) ?hd (cs:=#[.int .i64 a0_0,.slice A0_1 l0_1.length c0_1]) (t:=26) ?hr ?_;(case hd=>rfl);(case hg=>rfl);(case hr=>first|(go_simp;done)|(go_simp;rfl));intro gb185 hg w6 hbox hb;have BK185:=aM (hbox);have GW185:=gS w hg;have GE185:=gS w hg;replace HB:=bs hb;clear hb hbox hg)|((with_reducible refine gate_dst (N:=4) rfl ?_);refine box_event ?hg (N:=4) ?hd (cs:=#[.int .i64 0,.slice none 0 0]) (t:=26) ?hr ?_;(case hd=>rfl);(case hg=>rfl);(case hr=>first|(go_simp;done)|(go_simp;rfl));intro gb186 hg w7 hbox hb;have BK186:=aM (hbox);have GW186:=gS w hg;have GE186:=gS w hg;replace HB:=bs hb;have NB185_186:=nL hg BK185;have NB186_185:=nG hg BK185;replace BK185:=bB BK185 hb;clear hb hbox hg;have hnb8:=NB185_186.out;have hnc8:=NB186_185.out;have hcz9_0:w7.cell? ⟨gb185,0,none⟩=some (.int .i64 a0_0):=(blk_cell BK185.out 0).trans rfl;have hcz9_1:w7.cell? ⟨gb185,1,none⟩=some (.slice A0_1 l0_1.length c0_1):=(blk_cell BK185.out 1).trans rfl;have hfz9_0:=blk_frozen BK185.out 0;have hfz9_1:=blk_frozen BK185.out 1)|((with_reducible refine gate_callee (f:=41) rfl ?_);refine goesL_ (some 14) rfl rfl Try.func41 (by kernel_rfl) rfl #[.agg #[.int .i64 a0_0,.slice A0_1 l0_1.length c0_1]] rfl (by (try simp only [List.map_toArray,List.map_cons,List.map_nil]);first|done|rfl|(simp only [List.length_drop,List.length_take];rfl)) ?_;(with_reducible refine (impl_copyRing.calls k a0_0 _ _ l0_1 t187 t188 _ ?side1 ?side2 A3.out).mono ?_);(case side1=>exact rC HR0_1);(case side2=>exact HC0_1.out);rintro e w10 ⟨v189,rfl,ho0,hb⟩;refine ⟨_,rfl,?_⟩;have HO190:=aM (Kd.S_lower ho0 (below_size be));replace BK185:=bB BK185 hb;replace BK186:=bB BK186 hb;replace HB:=bs hb;(try clear hb);(try clear ho0))|((with_reducible refine gate_dst (N:=6) rfl ?_);refine box_event ?hg (N:=6) ?hd (cs:=#[.int .i64 0,.slice none 0 0]) (t:=26) ?hr ?_;(case hd=>rfl);(case hg=>rfl);(case hr=>first|(go_simp;done)|(go_simp;rfl));intro gb191 hg w11 hbox hb;replace HO190:=sB HO190 hb;have BK191:=aM (hbox);have GW191:=gS w hg;have GE191:=gS w hg;replace HB:=bs hb;have NB185_191:=nL hg BK185;have NB191_185:=nG hg BK185;replace BK185:=bB BK185 hb;have NB186_191:=nL hg BK186;have NB191_186:=nG hg BK186;replace BK186:=bB BK186 hb;clear hb hbox hg;have hnb12:=NB191_185.out;have hnc12:=NB185_191.out;have hnb13:=NB191_186.out;have hnc13:=NB186_191.out;have hcz14_0:w11.cell? ⟨gb191,0,none⟩=some (.int .i64 0):=(blk_cell BK191.out 0).trans rfl;have hcz14_1:w11.cell? ⟨gb191,1,none⟩=some (.slice none 0 0):=(blk_cell BK191.out 1).trans rfl;have hfz14_0:=blk_frozen BK191.out 0;have hfz14_1:=blk_frozen BK191.out 1;obtain ⟨Ao15,co15,eo15⟩:=Kd.S_slice HO190.out;subst eo15;have hcz16_0:w11.cell? ⟨gb185,0,none⟩=some (.int .i64 a0_0):=(blk_cell BK185.out 0).trans rfl;have hcz16_1:w11.cell? ⟨gb185,1,none⟩=some (.slice A0_1 l0_1.length c0_1):=(blk_cell BK185.out 1).trans rfl;have hfz16_0:=blk_frozen BK185.out 0;have hfz16_1:=blk_frozen BK185.out 1)|((with_reducible refine gate_callee (f:=42) rfl ?_);refine goesL_ (some 17) rfl rfl Try.func42 (by kernel_rfl) rfl #[.agg #[.int .i64 a0_0,.slice A0_1 l0_1.length c0_1],.slice A1 l1.length c1] rfl (by (try simp only [List.map_toArray,List.map_cons,List.map_nil]);first|done|rfl|(simp only [List.length_drop,List.length_take];rfl)) ?_;(with_reducible refine (impl_canMove.calls k a0_0 _ _ l0_1 _ _ l1 true _ ?side1 ?side2 ?side3 ?side4 A4.out).mono ?_);(case side1=>exact Kd.C_below HR0_1.out be);(case side2=>exact HC0_1.out);(case side3=>exact Kd.C_below HR1.out be);(case side4=>exact HC1.out);rintro e w17 ⟨rfl,hb⟩;refine ⟨_,rfl,?_⟩;replace HO190:=aM (Kd.S_below ((by (with_reducible repeat (first|apply Kd.S_alloc|apply Kd.S_drewN|apply Kd.S_drew));exact (Kd.S_mono (Kd.S_far (p:=⟨gb191,1,none⟩) (Kd.S_far (p:=⟨gb191,0,none⟩) (Kd.S_types HO190.out BK191.out (by decide)) (fun _ hk=>hk.2) (.int .i64 t187)) (fun _ hk=>hk.2) (.slice Ao15 t188.length co15)) (fun _ h_=>h_.1)))) hb);replace BK185:=aM (blk_below (g:=gb185) (o:=.cells #[.int .i64 a0_0,.slice A0_1 l0_1.length c0_1] 26 (0,0)) (by (with_reducible repeat (first|refine blk_drewN ?_ _|refine blk_drew ?_|refine blk_alloc ?_ _));refine blk_far ?_ NB185_191.out _;(with_reducible repeat (first|refine blk_drewN ?_ _|refine blk_drew ?_|refine blk_alloc ?_ _));refine blk_far ?_ NB185_191.out _;(with_reducible repeat (first|refine blk_drewN ?_ _|refine blk_drew ?_|refine blk_alloc ?_ _));exact BK185.out) hb);replace BK186:=aM (blk_below (g:=gb186) (o:=.cells #[.int .i64 0,.slice none 0 0] 26 (0,0)) (by (with_reducible repeat (first|refine blk_drewN ?_ _|refine blk_drew ?_|refine blk_alloc ?_ _));refine blk_far ?_ NB186_191.out _;(with_reducible repeat (first|refine blk_drewN ?_ _|refine blk_drew ?_|refine blk_alloc ?_ _));refine blk_far ?_ NB186_191.out _;(with_reducible repeat (first|refine blk_drewN ?_ _|refine blk_drew ?_|refine blk_alloc ?_ _));exact BK186.out) hb);replace BK191:=aM (blk_below (g:=gb191) (o:=.cells #[.int .i64 t187,.slice Ao15 t188.length co15] 26 (0,0)) (by (with_reducible repeat (first|refine blk_drewN ?_ _|refine blk_drew ?_|refine blk_alloc ?_ _));refine blk_put (cs:=#[.int .i64 t187,.slice none 0 0]) ?_ 1 _ rfl;(with_reducible repeat (first|refine blk_drewN ?_ _|refine blk_drew ?_|refine blk_alloc ?_ _));refine blk_put (cs:=#[.int .i64 0,.slice none 0 0]) ?_ 0 _ rfl;(with_reducible repeat (first|refine blk_drewN ?_ _|refine blk_drew ?_|refine blk_alloc ?_ _));exact BK191.out) hb);replace HB:=bs hb;(try clear hb);have hcz18_0:w17.cell? ⟨gb191,0,none⟩=some (.int .i64 t187):=(blk_cell BK191.out 0).trans rfl;have hcz18_1:w17.cell? ⟨gb191,1,none⟩=some (.slice Ao15 t188.length co15):=(blk_cell BK191.out 1).trans rfl;have hfz18_0:=blk_frozen BK191.out 0;have hfz18_1:=blk_frozen BK191.out 1))
  go_loopg [7,23] k (fun kq v7 v23 w'=>∃ (x7_1:Int) (x23_1:Int) (x192001_1:List (S35)) (u192001:Value),v7 = .int .i64 x7_1∧v23 = .int .i64 x23_1∧Aside0 (impl_Rebalance.l0 kq l1 x7_1 (t188.length:Int) x23_1 t187 x192001_1=some (r1,r2,r3))∧Aside0 (kq≤k)∧Aside0 (Kd.S k35 35 w' w.heap.size (fun _=>True) u192001 x192001_1)∧Aside0 (w'.heap[gb185]?=some (.cells #[.int .i64 a0_0,(.slice A0_1 l0_1.length c0_1)] 26 (0,0)))∧Aside0 (w'.heap[gb186]?=some (.cells #[.int .i64 0,(.slice none 0 0)] 26 (0,0)))∧Aside0 (w'.heap[gb191]?=some (.cells #[.int .i64 t187,u192001] 26 (0,0)))∧Aside0 (Below w.heap.size w w'))
  case atStart=>exact ⟨(0),(0),(t188),(.slice Ao15 t188.length co15),rd_,rd_,H',⟨Nat.le_refl _⟩,⟨rS HO190⟩,⟨bk BK185⟩,⟨bk BK186⟩,⟨bk BK191⟩,⟨be⟩⟩
  case round=>
   clear H'
   try clear hcz14_0
   try clear hcz14_1
   try clear hcz16_0
   try clear hcz16_1
   try clear hcz18_0
   try clear hcz18_1
   try clear hcz9_0
   try clear hcz9_1
   try clear hfz14_0
   try clear hfz14_1
   try clear hfz16_0
   try clear hfz16_1
   try clear hfz18_0
   try clear hfz18_1
   try clear hfz9_0
   try clear hfz9_1
   obtain ⟨x7_1,x23_1,x192001_1,u192001,rfl,rfl,HA,HK1,HO_192001,BK185,BK186,BK191,HB⟩:=hrel
   cases gk with
   | zero=>exact absurd HA.out (by simp [impl_Rebalance.l0])
   | succ k1=>
    have H:=HA.out
    clear HA
    simp only [impl_Rebalance.l0] at H
    by_cases c19:x23_1 < (t188.length:Int)
    ·rw [if_pos c19] at H
     have c19b0:decide (x23_1 < (t188.length:Int))=true:=decide_eq_true c19
     clear c19
     by_cases c20:0≤x23_1
     ·rw [if_pos c20] at H
      have c20b0:decide (0≤x23_1)=true:=decide_eq_true c20
      clear c20
      by_cases c21:x23_1 < (x192001_1.length:Int)
      ·rw [if_pos c21] at H
       have c21b0:decide (x23_1 < (x192001_1.length:Int))=true:=decide_eq_true c21
       clear c21
       replace H:=Option.bind_eq_some_iff.mp H
       obtain ⟨t195,A220,H⟩:=H
       try dsimp only at H
       have A22:=aM A220
       clear A220
       by_cases c23:t195 ≥ 0
       ·rw [if_pos c23] at H
        have c23b0:decide (0≤t195)=true:=decide_eq_true c23
        clear c23
        by_cases c24:0≤t195
        ·rw [if_pos c24] at H
         have c24b0:=eq_true c24
         have c24b1:decide (0≤t195)=true:=decide_eq_true c24
         clear c24
         by_cases c25:t195≤(((rd_T35 x192001_1 x23_1).f0).length:Int)
         ·rw [if_pos c25] at H
          have c25b0:=eq_true c25
          have c25b1:decide (t195≤(((rd_T35 x192001_1 x23_1).f0).length:Int))=true:=decide_eq_true c25
          clear c25
          obtain ⟨y196,hy196⟩ : ∃ y_:List Int,y_=(((rd_T35 x192001_1 x23_1).f0).take (t195:Int).toNat):=⟨_,rfl⟩
          replace H:((impl_copyInts.f y196).bind fun t200=>(if 0≤(wrap64 (t195+1)) then (if (wrap64 (t195+1))≤(((rd_T35 x192001_1 x23_1).f0).length:Int) then ((some (((rd_T35 x192001_1 x23_1).f0).drop ((wrap64 (t195+1)):Int).toNat:List Int)).bind fun y203=>(if t200.length+y203.length < 17592186044416 then ((impl_Best.f k1 t187 x192001_1 (t200 ++ y203) l1).bind fun t210=>(if t210 ≥ 0 then (if t195 < (((rd_T35 x192001_1 x23_1).f0).length:Int) then (impl_Rebalance.l0 k1 l1 (wrap64 (x7_1+1)) (t188.length:Int) (wrap64 (x23_1+1)) t187 (x192001_1.set (x23_1:Int).toNat (⟨(((rd_T35 x192001_1 x23_1).f0).set (t195:Int).toNat t210)⟩:S35))) else (none)) else (impl_Rebalance.l0 k1 l1 x7_1 (t188.length:Int) (wrap64 (x23_1+1)) t187 x192001_1))) else (none))) else (none)) else (none)))=some (r1,r2,r3):=by first|(rw [hy196];with_reducible exact H)|(have H2_:=(Option.bind_some _ _).symm.trans H;rw [hy196];with_reducible exact H2_)|(have H2_:=(Option.bind_some _ _).symm.trans H;with_reducible exact H2_)|with_reducible exact H|(rw [hy196];exact H)|exact H
          have Ny196:=aM hy196
          clear hy196
          replace H:=Option.bind_eq_some_iff.mp H
          obtain ⟨t200,A260,H⟩:=H
          try dsimp only at H
          have A26:=aM A260
          clear A260
          obtain ⟨ji27,hji27⟩ : ∃ j_:Int,(wrap64 (t195+1))=j_:=⟨_,rfl⟩
          replace H:(if 0≤(ji27) then (if (ji27)≤(((rd_T35 x192001_1 x23_1).f0).length:Int) then ((some (((rd_T35 x192001_1 x23_1).f0).drop ((ji27):Int).toNat:List Int)).bind fun y203=>(if t200.length+y203.length < 17592186044416 then ((impl_Best.f k1 t187 x192001_1 (t200 ++ y203) l1).bind fun t210=>(if t210 ≥ 0 then (if t195 < (((rd_T35 x192001_1 x23_1).f0).length:Int) then (impl_Rebalance.l0 k1 l1 (wrap64 (x7_1+1)) (t188.length:Int) (wrap64 (x23_1+1)) t187 (x192001_1.set (x23_1:Int).toNat (⟨(((rd_T35 x192001_1 x23_1).f0).set (t195:Int).toNat t210)⟩:S35))) else (none)) else (impl_Rebalance.l0 k1 l1 x7_1 (t188.length:Int) (wrap64 (x23_1+1)) t187 x192001_1))) else (none))) else (none)) else (none))=some (r1,r2,r3):=by first|(rw [hji27] at H;exact H)|(simp only [hji27] at H ⊢;exact H)
          (try rw [hji27] at A22)
          (try rw [hji27] at A26)
          have hji27w:(IntKind.i64.wrap (t195+1))=ji27:=(i64_w _).trans hji27
          by_cases c28:0≤(ji27)
          ·rw [if_pos c28] at H
           have c28b0:=eq_true c28
           have c28b1:decide (0≤(ji27))=true:=decide_eq_true c28
           clear c28
           by_cases c29:(ji27)≤(((rd_T35 x192001_1 x23_1).f0).length:Int)
           ·rw [if_pos c29] at H
            have c29b0:=eq_true c29
            have c29b1:decide ((ji27)≤(((rd_T35 x192001_1 x23_1).f0).length:Int))=true:=decide_eq_true c29
            clear c29
            obtain ⟨y203,hy203⟩ : ∃ y_:List Int,y_=(((rd_T35 x192001_1 x23_1).f0).drop ((ji27):Int).toNat):=⟨_,rfl⟩
            replace H:(if t200.length+y203.length < 17592186044416 then ((impl_Best.f k1 t187 x192001_1 (t200 ++ y203) l1).bind fun t210=>(if t210 ≥ 0 then (if t195 < (((rd_T35 x192001_1 x23_1).f0).length:Int) then (impl_Rebalance.l0 k1 l1 (wrap64 (x7_1+1)) (t188.length:Int) (wrap64 (x23_1+1)) t187 (x192001_1.set (x23_1:Int).toNat (⟨(((rd_T35 x192001_1 x23_1).f0).set (t195:Int).toNat t210)⟩:S35))) else (none)) else (impl_Rebalance.l0 k1 l1 x7_1 (t188.length:Int) (wrap64 (x23_1+1)) t187 x192001_1))) else (none))=some (r1,r2,r3):=by first|(rw [hy203];with_reducible exact H)|(have H2_:=(Option.bind_some _ _).symm.trans H;rw [hy203];with_reducible exact H2_)|(have H2_:=(Option.bind_some _ _).symm.trans H;with_reducible exact H2_)|with_reducible exact H|(rw [hy203];exact H)|exact H
            have Ny203:=aM hy203
            clear hy203
            by_cases c30:t200.length+y203.length < 17592186044416
            ·rw [if_pos c30] at H
             have LMc30:=aM c30
             clear c30
             obtain ⟨y207,hy207⟩ : ∃ y_:List Int,y_=(t200 ++ y203):=⟨_,rfl⟩
             replace H:((impl_Best.f k1 t187 x192001_1 y207 l1).bind fun t210=>(if t210 ≥ 0 then (if t195 < (((rd_T35 x192001_1 x23_1).f0).length:Int) then (impl_Rebalance.l0 k1 l1 (wrap64 (x7_1+1)) (t188.length:Int) (wrap64 (x23_1+1)) t187 (x192001_1.set (x23_1:Int).toNat (⟨(((rd_T35 x192001_1 x23_1).f0).set (t195:Int).toNat t210)⟩:S35))) else (none)) else (impl_Rebalance.l0 k1 l1 x7_1 (t188.length:Int) (wrap64 (x23_1+1)) t187 x192001_1)))=some (r1,r2,r3):=by first|(rw [hy207];with_reducible exact H)|(have H2_:=(Option.bind_some _ _).symm.trans H;rw [hy207];with_reducible exact H2_)|(have H2_:=(Option.bind_some _ _).symm.trans H;with_reducible exact H2_)|with_reducible exact H|(rw [hy207];exact H)|exact H
             have Ny207:=aM hy207
             clear hy207
             replace H:=Option.bind_eq_some_iff.mp H
             obtain ⟨t210,A310,H⟩:=H
             try dsimp only at H
             have A31:=aM A310
             clear A310
             by_cases c32:t210 ≥ 0
             ·rw [if_pos c32] at H
              have c32b0:decide (0≤t210)=true:=decide_eq_true c32
              clear c32
              by_cases c33:t195 < (((rd_T35 x192001_1 x23_1).f0).length:Int)
              ·rw [if_pos c33] at H
               have c33b0:decide (t195 < (((rd_T35 x192001_1 x23_1).f0).length:Int))=true:=decide_eq_true c33
               clear c33
               obtain ⟨y211,hy211⟩ : ∃ y_:List Int,y_=(((rd_T35 x192001_1 x23_1).f0).set (t195:Int).toNat t210):=⟨_,rfl⟩
               replace H:(impl_Rebalance.l0 k1 l1 (wrap64 (x7_1+1)) (t188.length:Int) (wrap64 (x23_1+1)) t187 (x192001_1.set (x23_1:Int).toNat (⟨y211⟩:S35)))=some (r1,r2,r3):=by first|(rw [hy211];with_reducible exact H)|(have H2_:=(Option.bind_some _ _).symm.trans H;rw [hy211];with_reducible exact H2_)|(have H2_:=(Option.bind_some _ _).symm.trans H;with_reducible exact H2_)|with_reducible exact H|(rw [hy211];exact H)|exact H
               have Ny211:=aM hy211
               clear hy211
               obtain ⟨y213,hy213⟩ : ∃ y_:List (S35),y_=(x192001_1.set (x23_1:Int).toNat (⟨y211⟩:S35)):=⟨_,rfl⟩
               replace H:(impl_Rebalance.l0 k1 l1 (wrap64 (x7_1+1)) (t188.length:Int) (wrap64 (x23_1+1)) t187 y213)=some (r1,r2,r3):=by first|(rw [hy213];with_reducible exact H)|(have H2_:=(Option.bind_some _ _).symm.trans H;rw [hy213];with_reducible exact H2_)|(have H2_:=(Option.bind_some _ _).symm.trans H;with_reducible exact H2_)|with_reducible exact H|(rw [hy213];exact H)|exact H
               have Ny213:=aM hy213
               clear hy213
               have H':=Aside0.mk H
               clear H
               have hnb35:=NB191_185.out
               have hnc35:=NB185_191.out
               have hnb36:=NB191_186.out
               have hnc36:=NB186_191.out
               have hcz37_0:wr.cell? ⟨gb191,0,none⟩=some (.int .i64 t187):=(blk_cell BK191.out 0).trans rfl
               have hcz37_1:wr.cell? ⟨gb191,1,none⟩=some (u192001):=(blk_cell BK191.out 1).trans rfl
               have hfz37_0:=blk_frozen BK191.out 0
               have hfz37_1:=blk_frozen BK191.out 1
               obtain ⟨Ao38,co38,eo38⟩:=Kd.S_slice HO_192001.out
               subst eo38
               have p193:0≤(x23_1:Int):=of_decide_eq_true (by first|(with_reducible assumption)|assumption)
               have q193:x23_1 < (x192001_1.length:Int):=of_decide_eq_true (by first|(with_reducible assumption)|assumption)
               obtain ⟨ad193,A193_0,c193_0,e193,hx193_0,hl193_0,hi193_0⟩:=at_T35 (Kd.S_reads' HO_192001.out).2.2 x23_1 p193 q193
               cases e193
               obtain ⟨ce193,hce193,hMe193,hcc193⟩:=Kd.S_get HO_192001.out z35 x23_1 p193 (by first|exact q193|exact of_decide_eq_true (by first|(with_reducible assumption)|assumption)|(have e_:=(Kd.S_reads' HO_192001.out).1;omega))
               obtain ⟨ve193_0,rfl,ge193_0⟩:=k35_openM hMe193
               have hv193_0:=hcc193 0 _ rfl
               rw [Nat.add_zero,show (k35).sz=1 from rfl,Nat.mul_one] at hv193_0
               replace hv193_0:=Option.some.inj (hv193_0.symm.trans hx193_0)
               rw [hv193_0] at ge193_0
               have HL193_0:=aM (show Kd.R (Kd.int .i64) 3 _ _ _ _ ((rd_T35 x192001_1 x23_1).f0) from ge193_0)
               clear hv193_0 ge193_0
               have HX193_0:=aM hx193_0
               clear hcc193 hce193
               have HR193_0:=aM hi193_0
               have HC193_0:=aM hl193_0
               clear hi193_0 hl193_0
               replace p193:=eq_true p193
               replace q193:=eq_true q193
               try go_wp2_with (first|((with_reducible refine gate_dst (N:=9) rfl ?_);refine box_event ?hg (N:=9) ?hd (cs:=#[.slice none 0 0]) (t:=35) ?hr ?_;(case hd=>rfl);(case hg=>rfl);(case hr=>first|(go_simp;done)|(go_simp;rfl));intro gb194 hg w39 hbox hb;replace HO_192001:=aM (Kd.S_below (Kd.S_elderB (rS HO_192001) gb194 (Nat.le_of_eq hg.symm)) hb);replace HL193_0:=rB HL193_0 hb;replace HR193_0:=aM (Kd.C_below (by repeat ((with_reducible exact HR193_0.out))) hb);replace HX193_0:=xB hb HX193_0;have BK194:=aM (hbox);have GW194:=gS w hg;have GE194:=gS w hg;replace HB:=bs hb;have NB185_194:=nL hg BK185;have NB194_185:=nG hg BK185;replace BK185:=bB BK185 hb;have NB186_194:=nL hg BK186;have NB194_186:=nG hg BK186;replace BK186:=bB BK186 hb;have NB191_194:=nL hg BK191;have NB194_191:=nG hg BK191;replace BK191:=bB BK191 hb;clear hb hbox hg;have hnb40:=NB194_185.out;have hnc40:=NB185_194.out;have hnb41:=NB194_186.out;have hnc41:=NB186_194.out;have hnb42:=NB194_191.out;have hnc42:=NB191_194.out;have hcz43_0:w39.cell? ⟨gb194,0,none⟩=some (.slice none 0 0):=(blk_cell BK194.out 0).trans rfl;have hfz43_0:=blk_frozen BK194.out 0)|((with_reducible refine gate_callee (f:=43) rfl ?_);refine goesL_ (some 33) rfl rfl Try.func43 (by kernel_rfl) rfl #[.agg #[.slice A193_0 ((rd_T35 x192001_1 x23_1).f0).length c193_0],.slice A1 l1.length c1] rfl (by (try simp only [List.map_toArray,List.map_cons,List.map_nil]);first|done|rfl|(simp only [List.length_drop,List.length_take];rfl)) ?_;(with_reducible refine (impl_lost.calls k1 _ _ ((rd_T35 x192001_1 x23_1).f0) _ _ l1 t195 _ ?side1 ?side2 ?side3 ?side4 A22.out).mono ?_);(case side1=>repeat (exact ((Kd.R_reads' (by (with_reducible repeat (first|apply Kd.R_alloc|apply Kd.R_drewN|apply Kd.R_drew));exact (Kd.R_mono (Kd.R_far (p:=⟨gb194,0,none⟩) (Kd.R_types HL193_0.out BK194.out (by decide)) (fun _ hk=>hk.2) (.slice A193_0 ((rd_T35 x192001_1 x23_1).f0).length c193_0)) (fun _ h_=>h_.1)))).2.2)));(case side2=>exact HC193_0.out);(case side3=>exact Kd.C_below HR1.out be);(case side4=>exact HC1.out);rintro e w44 ⟨rfl,hb⟩;refine ⟨_,rfl,?_⟩;replace BK185:=aM (blk_below (g:=gb185) (o:=.cells #[.int .i64 a0_0,.slice A0_1 l0_1.length c0_1] 26 (0,0)) (by (with_reducible repeat (first|refine blk_drewN ?_ _|refine blk_drew ?_|refine blk_alloc ?_ _));refine blk_far ?_ NB185_194.out _;(with_reducible repeat (first|refine blk_drewN ?_ _|refine blk_drew ?_|refine blk_alloc ?_ _));exact BK185.out) hb);replace BK186:=aM (blk_below (g:=gb186) (o:=.cells #[.int .i64 0,.slice none 0 0] 26 (0,0)) (by (with_reducible repeat (first|refine blk_drewN ?_ _|refine blk_drew ?_|refine blk_alloc ?_ _));refine blk_far ?_ NB186_194.out _;(with_reducible repeat (first|refine blk_drewN ?_ _|refine blk_drew ?_|refine blk_alloc ?_ _));exact BK186.out) hb);replace BK191:=aM (blk_below (g:=gb191) (o:=.cells #[.int .i64 t187,.slice (some ad193) x192001_1.length co38] 26 (0,0)) (by (with_reducible repeat (first|refine blk_drewN ?_ _|refine blk_drew ?_|refine blk_alloc ?_ _));refine blk_far ?_ NB191_194.out _;(with_reducible repeat (first|refine blk_drewN ?_ _|refine blk_drew ?_|refine blk_alloc ?_ _));exact BK191.out) hb);replace HR193_0:=aM (Kd.C_below ((Kd.R_reads' (by (with_reducible repeat (first|apply Kd.R_alloc|apply Kd.R_drewN|apply Kd.R_drew));exact (Kd.R_mono (Kd.R_far (p:=⟨gb194,0,none⟩) (Kd.R_types HL193_0.out BK194.out (by decide)) (fun _ hk=>hk.2) (.slice A193_0 ((rd_T35 x192001_1 x23_1).f0).length c193_0)) (fun _ h_=>h_.1)))).2.2) hb);replace HL193_0:=aM (Kd.R_below ((by (with_reducible repeat (first|apply Kd.R_alloc|apply Kd.R_drewN|apply Kd.R_drew));exact (Kd.R_mono (Kd.R_far (p:=⟨gb194,0,none⟩) (Kd.R_types HL193_0.out BK194.out (by decide)) (fun _ hk=>hk.2) (.slice A193_0 ((rd_T35 x192001_1 x23_1).f0).length c193_0)) (fun _ h_=>h_.1)))) hb);replace HX193_0:=aM (pw_cell_below hb ((cell_far (p:=⟨gb194,0,none⟩) (by first|(rw [add_block];exact ((Kd.S_R HO_192001.out).1 _ rfl).2)|(show (Addr.add _ _).block ≠ _;rw [add_block];exact ((Kd.S_R HO_192001.out).1 _ rfl).2)|exact ((Kd.S_R HO_192001.out).1 _ rfl).2) (.slice A193_0 ((rd_T35 x192001_1 x23_1).f0).length c193_0)).trans (HX193_0.out)));replace HO_192001:=aM (Kd.S_below ((by (with_reducible repeat (first|apply Kd.S_alloc|apply Kd.S_drewN|apply Kd.S_drew));exact (Kd.S_mono (Kd.S_far (p:=⟨gb194,0,none⟩) (Kd.S_mono HO_192001.out (fun k_ hk=>(⟨hk,hk.2⟩:_∧k_ ≠ gb194))) (fun _ hk=>hk.2) (.slice A193_0 ((rd_T35 x192001_1 x23_1).f0).length c193_0)) (fun _ h_=>h_.1)))) hb);replace BK194:=aM (blk_below (g:=gb194) (o:=.cells #[.slice A193_0 ((rd_T35 x192001_1 x23_1).f0).length c193_0] 35 (0,0)) (by (with_reducible repeat (first|refine blk_drewN ?_ _|refine blk_drew ?_|refine blk_alloc ?_ _));refine blk_put (cs:=#[.slice none 0 0]) ?_ 0 _ rfl;(with_reducible repeat (first|refine blk_drewN ?_ _|refine blk_drew ?_|refine blk_alloc ?_ _));exact BK194.out) hb);replace HB:=bs hb;(try clear hb)))
               replace HO_192001:=aM (Kd.S_drew HO_192001.out);replace HL193_0:=aM (Kd.R_drew HL193_0.out);replace BK185:=aM (blk_drew BK185.out);replace BK186:=aM (blk_drew BK186.out);replace BK191:=aM (blk_drew BK191.out);replace BK194:=aM (blk_drew BK194.out);replace HR193_0:=aM (Kd.C_drew HR193_0.out);replace HX193_0:=aM (Aid.cell_drew HX193_0.out);replace HB:=aM (below_drew1 HB.out)
               have q46:(t195:Int)≤((((rd_T35 x192001_1 x23_1).f0).length:Int):Int):=of_decide_eq_true (by first|(with_reducible assumption)|assumption)
               obtain ⟨i046,hi046,_,hsz46,_⟩:=info_parts info3
               have hroom46:((rd_T35 x192001_1 x23_1).f0).length≤c193_0:=HC193_0.out
               have hC46:Kd.C (Kd.int .i64) _ A193_0 ((rd_T35 x192001_1 x23_1).f0).length ((rd_T35 x192001_1 x23_1).f0):=(by repeat ((with_reducible exact HR193_0.out)))
               have hcut46:=cut_to (P:=Try.prog) 33 3 .i64 Try.underlying33 hi046 A193_0 ((rd_T35 x192001_1 x23_1).f0).length c193_0 t195 (of_decide_eq_true (by first|(with_reducible assumption)|assumption)) q46 hroom46
               have hr46:=Kd.C_take (m:=(t195:Int).toNat) hC46 (by omega)
               have hy46:y196.length=(t195:Int).toNat:=(by rw [Ny196.out,List.length_take];omega)
               rw [← Ny196.out] at hr46
               rw [← hy46] at hcut46
               have HR199:=aM hr46
               have HC199:=aM (show y196.length≤c193_0 from by omega)
               clear hr46 hC46 hroom46 hi046 hsz46
               have KY46:=aM hy46
               clear hy46
               have KL46:=aM (show (t195:Int).toNat≤((rd_T35 x192001_1 x23_1).f0).length from by omega)
               replace q46:=eq_true q46
               have q47:((ji27):Int)≤((((rd_T35 x192001_1 x23_1).f0).length:Int):Int):=of_decide_eq_true (by first|(with_reducible assumption)|assumption)
               obtain ⟨i047,hi047,_,hsz47,_⟩:=info_parts info3
               have hroom47:((rd_T35 x192001_1 x23_1).f0).length≤c193_0:=HC193_0.out
               have hC47:Kd.C (Kd.int .i64) _ A193_0 ((rd_T35 x192001_1 x23_1).f0).length ((rd_T35 x192001_1 x23_1).f0):=(by repeat ((with_reducible exact HR193_0.out)))
               have q047:(0:Int)≤((ji27):Int):=of_decide_eq_true (by first|(with_reducible assumption)|assumption)
               have hcut47:=cut_from (P:=Try.prog) 33 3 .i64 Try.underlying33 hi047 1 hsz47 A193_0 ((rd_T35 x192001_1 x23_1).f0).length c193_0 (ji27) q047 q47
               have hr47:=Kd.C_drop (m:=((ji27):Int).toNat) (c:=c193_0) hC47 (by omega) hroom47
               obtain ⟨A47,hA47⟩ : ∃ A1,A1=(if c193_0=((ji27):Int).toNat then A193_0 else (A193_0:Option Addr).map (·.add (((ji27):Int).toNat * 1))):=⟨_,rfl⟩
               obtain ⟨c47,hc47⟩ : ∃ c1,c1=c193_0 - ((ji27):Int).toNat:=⟨_,rfl⟩
               have hy47:y203.length=((rd_T35 x192001_1 x23_1).f0).length - ((ji27):Int).toNat:=(by rw [Ny203.out,List.length_drop] <;> omega)
               rw [show ((rd_T35 x192001_1 x23_1).f0).drop ((ji27):Int).toNat=y203 from Ny203.out.symm] at hr47
               replace hr47:Kd.C (Kd.int .i64) _ A47 y203.length y203:=(by rw [hA47];exact hr47)
               rw [← hy47,← hA47,← hc47] at hcut47
               have HR206:=aM hr47
               have HC206:=aM (show y203.length≤c47 from by rw [hy47,hc47];exact Nat.sub_le_sub_right hroom47 _)
               clear hr47 hC47 hroom47 hi047 hsz47 hc47
               have KY47:=aM hy47
               have KA47:=aM hA47
               clear hy47 hA47
               have KL47:=aM (show ((ji27):Int).toNat≤((rd_T35 x192001_1 x23_1).f0).length from by omega)
               replace q47:=eq_true q47
               refine start_ (n:=12) (S:=fun w'=>w'.cell? ⟨gb194,0,none⟩=some (.slice A193_0 ((rd_T35 x192001_1 x23_1).f0).length c193_0)) (ds:=[]) (fl 12 0) (by kernel_rfl) rfl rfl ((blk_cell BK194.out 0).trans rfl) (fun hHeld=>?_);refine with_tabW impl_Rebalance.tab12 impl_Rebalance.bits12 (fun HT_ HW_=>?_)
               generalize w44.drew=w45 at HO_192001 HL193_0 BK185 BK186 BK191 BK194 HR193_0 HX193_0 HB HR199 HR206 hHeld ⊢
               refine pt 0 36 (fl 12 1) HT_ ?_
               refine pt 2 38 (fl 12 5) HT_ ?_
               refine pt 5 41 (fl 12 37) HT_ ?_
               refine pt 7 43 (fl 12 165) HT_ ?_
               refine pt 8 44 (fl 12 421) HT_ ?_
               refine tt 1 37 (fl 12 423) HT_ HW_ hHeld ?_
               refine pt 3 39 (fl 12 431) HT_ ?_
               refine tt 6 42 (fl 12 495) HT_ HW_ hHeld ?_
               refine pt 9 45 (fl 12 1007) HT_ ?_
               refine ot 4 (some 40) (fl 12 1023) HT_ (fun K hK=>?_)
               refine goes_ Try.func44 (by kernel_rfl) rfl #[.slice A193_0 y196.length c193_0] (by rfl) rfl rfl (by (try simp only [List.map_toArray,List.map_cons,List.map_nil]);first|done|rfl|(simp only [List.length_drop,List.length_take];rfl)) ?_
               with_reducible refine (impl_copyInts.calls _ _ y196 t200 _ ?side1 ?side2 A26.out).mono ?_
               (case side1=>repeat (exact (by repeat ((with_reducible exact HR199.out)))))
               (case side2=>exact HC199.out)
               rintro e w48 ⟨v201,rfl,ho0,hb⟩
               refine ⟨_,rfl,?_⟩
               replace HO_192001:=aM (Kd.S_elder' (rS HO_192001) (Kd.R_base ho0) hb);have HO202:=aM (Kd.R_lower (Kd.R_new' ho0 (Kd.R_lt (by (with_reducible repeat (first|apply Kd.R_alloc|apply Kd.R_drewN|apply Kd.R_drew));exact HL193_0.out))) (below_size be));replace HL193_0:=aM (Kd.R_elder' (by (with_reducible repeat (first|apply Kd.R_alloc|apply Kd.R_drewN|apply Kd.R_drew));exact HL193_0.out) (Kd.R_base ho0) hb);replace BK185:=bB BK185 hb;replace BK186:=bB BK186 hb;replace BK191:=bB BK191 hb;replace HX193_0:=xB hb HX193_0;replace BK194:=bB BK194 hb;replace HR206:=aM (Kd.C_below (by repeat ((with_reducible exact HR206.out))) hb);replace HB:=bs hb;clear HR193_0 HR199;(try clear hb);(try clear ho0)
               refine hK.out _ _ ((blk_cell BK194.out 0).trans rfl) (fun hHeld=>?_)
               clear hK K
               refine no 40 ?_
               refine ot 10 (some 46) (fl 12 2047) HT_ (fun K hK=>?_)
               refine Kd.R_append_rows_step (Kd.int .i64) (w0:=w) w.heap.size (by rfl) (.tmp 40) (.tmp 45) 33 3 (.int .i64 0) 8 rfl Try.underlying33 info3 rfl (by decide) (by omega) v201 t200 y203 _ _ _ (fun k_=>some k_ ≠ (.slice A193_0 ((rd_T35 x192001_1 x23_1).f0).length c193_0:Value).ownBlock) (fun _=>False) rfl rfl ?aO ?aR (fun _ _ h=>h) (fun _ h=>h.elim) ?aF ?aB ?aS ?aL ?_
               (case aR=>repeat (exact (by repeat (exact HR206.out))))
               (case aB=>exact be)
               (case aF=>exact (fun k_ hk=>Kd.fresh' (Kd.R_lt (by (with_reducible repeat (first|apply Kd.R_alloc|apply Kd.R_drewN|apply Kd.R_drew));exact HL193_0.out)) k_ hk))
               (case aO=>exact (by (with_reducible repeat (first|apply Kd.R_alloc|apply Kd.R_drewN|apply Kd.R_drew));exact Kd.R_mono HO202.out (fun _ hk=>hk.2)))
               (case aS=>exact (below_size be))
               (case aL=>have:=LMc30.out;omega)
               intro v208 w49 ho hb hg hat
               rw [← Ny207.out] at ho
               replace BK185:=bG BK185 hg (Kd.R_ne HO202.out BK185.out (by decide));replace BK186:=bG BK186 hg (Kd.R_ne HO202.out BK186.out (by decide));replace BK191:=bG BK191 hg (Kd.R_ne HO202.out BK191.out (by decide));replace HL193_0:=aM (Kd.R_after (ok:=(fun k_=>some k_ ≠ (.slice (some ad193) x192001_1.length co38:Value).ownBlock)) (by (with_reducible repeat (first|apply Kd.R_alloc|apply Kd.R_drewN|apply Kd.R_drew));exact Kd.R_mono HL193_0.out (fun _ hk=>⟨hk.1.2,hk.2⟩)) hg hat);replace HX193_0:=aM (Aid.cell_keep hg HX193_0.out (by intro e_;exact Aid.typed_ne (Kd.S_typed HO_192001.out) (Kd.R_typed HO202.out) (by decide) rfl (by rw [add_block] at e_;exact e_.symm)));replace HO_192001:=aM (Kd.S_after (ok:=(fun k_=>k_ ≠ gb194)) (by (with_reducible repeat (first|apply Kd.S_alloc|apply Kd.S_drewN|apply Kd.S_drew));exact Kd.S_mono HO_192001.out (fun _ hk=>⟨hk.1.2,hk.2⟩)) hg hat);replace BK194:=bG BK194 hg (Kd.R_ne HO202.out BK194.out (by decide));replace HB:=aM (hb);have HO209:=aM (ho);clear HR206 HO202;clear ho hb hg hat
               refine hK.out _ _ ((blk_cell BK194.out 0).trans rfl) (fun hHeld=>?_)
               clear hK K
               refine no 46 ?_
               refine pt 11 12 (fl 12 4095) HT_ ?_
               refine done_ (done_of HT_.out (by kernel_rfl)) ?_
               have hcz50_0:w49.cell? ⟨gb191,0,none⟩=some (.int .i64 t187):=(blk_cell BK191.out 0).trans rfl
               have hcz50_1:w49.cell? ⟨gb191,1,none⟩=some (.slice (some ad193) x192001_1.length co38):=(blk_cell BK191.out 1).trans rfl
               have hfz50_0:=blk_frozen BK191.out 0
               have hfz50_1:=blk_frozen BK191.out 1
               obtain ⟨Ao51,co51,eo51⟩:=Kd.R_slice HO209.out
               subst eo51
               try go_wp2_with (first|((with_reducible refine gate_callee (f:=45) rfl ?_);refine goesL_ (some 51) rfl rfl Try.func45 (by kernel_rfl) rfl #[.agg #[.int .i64 t187,.slice (some ad193) x192001_1.length co38],.agg #[.slice Ao51 y207.length co51],.slice A1 l1.length c1] rfl (by (try simp only [List.map_toArray,List.map_cons,List.map_nil]);first|done|rfl|(simp only [List.length_drop,List.length_take];rfl)) ?_;(with_reducible refine (impl_Best.calls k1 t187 _ _ x192001_1 _ _ y207 _ _ l1 t210 _ ?side1 ?side2 ?side3 ?side4 ?side5 ?side6 A31.out).mono ?_);(case side1=>exact sS HO_192001);(case side2=>exact (Kd.S_reads' HO_192001.out).2.1);(case side3=>exact sR HO209);(case side4=>exact (Kd.R_reads' HO209.out).2.1);(case side5=>exact rC HR1);(case side6=>exact HC1.out);rintro e w52 ⟨rfl,hb⟩;refine ⟨_,rfl,?_⟩;replace HO_192001:=sB HO_192001 hb;replace HL193_0:=rB HL193_0 hb;replace BK185:=bB BK185 hb;replace BK186:=bB BK186 hb;replace BK191:=bB BK191 hb;replace HX193_0:=xB hb HX193_0;replace BK194:=bB BK194 hb;replace HB:=bs hb;clear HO209;(try clear hb);have hcz53_0:w52.cell? ⟨gb194,0,none⟩=some (.slice A193_0 ((rd_T35 x192001_1 x23_1).f0).length c193_0):=(blk_cell BK194.out 0).trans rfl;have hfz53_0:=blk_frozen BK194.out 0;have p34:0≤(t195:Int):=of_decide_eq_true (by first|(with_reducible assumption)|assumption);have q34:(t195:Int) < ((((rd_T35 x192001_1 x23_1).f0).length:Int):Int):=of_decide_eq_true (by first|(with_reducible assumption)|assumption);obtain ⟨go34,co34,eo34,gb34,gl34,cl34,HG34⟩:=Kd.R_form HL193_0.out (by omega);(cases eo34);have GB34:=aM gb34;have GG34:=aM HG34;clear gb34 gl34 HG34;obtain ⟨hx34_0,hf34_0⟩:=Kd.R_celln 0 HL193_0.out (t195:Int) p34 q34;replace p34:=eq_true p34;replace q34:=eq_true q34;have hq54:(x23_1:Int) < (x192001_1.length:Int):=(by have h_:(x23_1:Int) < ((x192001_1.length:Int):Int):=of_decide_eq_true (by first|(with_reducible assumption)|assumption);first|exact h_|(have e_:=(Kd.S_reads' HO_192001.out).1;omega)|simpa only [List.length_set,List.length_set] using h_);obtain ⟨oki54,ce54,hcl54,hM54,hcc54,hok54,hbk54⟩:=Kd.S_borrow HO_192001.out z35 (x23_1:Int) (of_decide_eq_true (by first|(with_reducible assumption)|assumption)) hq54;obtain ⟨ve54_0,rfl,ge54_0⟩:=k35_openM hM54;have hv54:=hcc54 0 _ rfl;rw [Nat.add_zero,show (k35).sz=1 from rfl,Nat.mul_one] at hv54;replace hv54:=Option.some.inj (hv54.symm.trans HX193_0.out);subst hv54;clear hcc54 hcl54;replace ge54_0:=(show Kd.R (Kd.int .i64) 3 _ _ _ _ ((rd_T35 x192001_1 x23_1).f0) from ge54_0);have HP54:=Kd.R_putg ge54_0 (t195:Int) t210)|((with_reducible refine gate_store (t:=3) (p:=69) rfl ?_);refine store_event (t:=3) (p:=69) (v:=?vo_w55) (w1:=(w52.setCell ⟨go34,(t195:Int).toNat,none⟩ (.int .i64 t210))) ?hg ?ho ?hn ?hr ?_;(case ho=>rfl);(case hg=>rfl);(case hn=>rfl);(case hr=>first|(go_simp;done)|(go_simp;rfl));intro w55 hw;have hg:w52.grownBy w55 (some go34):=(by rw [hw];exact HP54.2);have hz_:Kd.R (Kd.int .i64) 3 w55 w.heap.size oki54 (.slice (some ⟨go34,0,none⟩) ((rd_T35 x192001_1 x23_1).f0).length c193_0) y211:=(by rw [hw,Ny211.out];exact HP54.1);have hp_:Kd.S k35 35 w55 w.heap.size (fun k_=>some k_ ≠ (.slice Ao51 y207.length co51:Value).ownBlock∧k_ ≠ gb194) (.slice (some ad193) x192001_1.length co38) y213:=(by rw [Ny213.out];exact Kd.S_mono (hbk54 hg (fun k_ e_=>by injection e_ with e_;subst e_;exact ge54_0.1 _ rfl) (k35_mkM _ _ _ (⟨y211⟩:S35) hz_)) (fun _ hk=>by first|exact hk|exact ⟨hk.2,hk.1⟩));have hm_:=Kd.R_mono hz_ hok54;clear HP54 hbk54;replace HO_192001:=aM (hp_);replace BK185:=bG BK185 hg (Kd.R_ne HL193_0.out BK185.out (by decide));replace BK186:=bG BK186 hg (Kd.R_ne HL193_0.out BK186.out (by decide));replace BK191:=bG BK191 hg (Kd.R_ne HL193_0.out BK191.out (by decide));replace HB:=aM ((by rw [hw];exact below_set (HB.out) GB34.out:Below w.heap.size w w55));clear BK194 HL193_0;clear hg hw hp_ hz_ hm_ hok54))
               go_roundg k1
               case measure=>have:=HK1.out;omega
               case rel=>exact ⟨(wrap64 (x7_1+1)),(wrap64 (x23_1+1)),(y213),(.slice (some ad193) x192001_1.length co38),rd_,rd_,H',⟨by have:=HK1.out;omega⟩,⟨by (with_reducible repeat (first|apply Kd.S_alloc|apply Kd.S_drewN|apply Kd.S_drew));exact Kd.S_mono HO_192001.out (fun _ hk=>trivial)⟩,⟨bk BK185⟩,⟨bk BK186⟩,⟨bk BK191⟩,⟨be⟩⟩
              ·rw [if_neg c33] at H
               exact absurd H (by simp)
             ·rw [if_neg c32] at H
              have c32b0:decide (0≤t210)=false:=decide_eq_false c32
              clear c32
              have H':=Aside0.mk H
              clear H
              have hnb56:=NB191_185.out
              have hnc56:=NB185_191.out
              have hnb57:=NB191_186.out
              have hnc57:=NB186_191.out
              have hcz58_0:wr.cell? ⟨gb191,0,none⟩=some (.int .i64 t187):=(blk_cell BK191.out 0).trans rfl
              have hcz58_1:wr.cell? ⟨gb191,1,none⟩=some (u192001):=(blk_cell BK191.out 1).trans rfl
              have hfz58_0:=blk_frozen BK191.out 0
              have hfz58_1:=blk_frozen BK191.out 1
              obtain ⟨Ao59,co59,eo59⟩:=Kd.S_slice HO_192001.out
              subst eo59
              have p193:0≤(x23_1:Int):=of_decide_eq_true (by first|(with_reducible assumption)|assumption)
              have q193:x23_1 < (x192001_1.length:Int):=of_decide_eq_true (by first|(with_reducible assumption)|assumption)
              obtain ⟨ad193,A193_0,c193_0,e193,hx193_0,hl193_0,hi193_0⟩:=at_T35 (Kd.S_reads' HO_192001.out).2.2 x23_1 p193 q193
              cases e193
              obtain ⟨ce193,hce193,hMe193,hcc193⟩:=Kd.S_get HO_192001.out z35 x23_1 p193 (by first|exact q193|exact of_decide_eq_true (by first|(with_reducible assumption)|assumption)|(have e_:=(Kd.S_reads' HO_192001.out).1;omega))
              obtain ⟨ve193_0,rfl,ge193_0⟩:=k35_openM hMe193
              have hv193_0:=hcc193 0 _ rfl
              rw [Nat.add_zero,show (k35).sz=1 from rfl,Nat.mul_one] at hv193_0
              replace hv193_0:=Option.some.inj (hv193_0.symm.trans hx193_0)
              rw [hv193_0] at ge193_0
              have HL193_0:=aM (show Kd.R (Kd.int .i64) 3 _ _ _ _ ((rd_T35 x192001_1 x23_1).f0) from ge193_0)
              clear hv193_0 ge193_0
              have HX193_0:=aM hx193_0
              clear hcc193 hce193
              have HR193_0:=aM hi193_0
              have HC193_0:=aM hl193_0
              clear hi193_0 hl193_0
              replace p193:=eq_true p193
              replace q193:=eq_true q193
              try go_wp2_with (first|((with_reducible refine gate_dst (N:=9) rfl ?_);refine box_event ?hg (N:=9) ?hd (cs:=#[.slice none 0 0]) (t:=35) ?hr ?_;(case hd=>rfl);(case hg=>rfl);(case hr=>first|(go_simp;done)|(go_simp;rfl));intro gb194 hg w60 hbox hb;replace HO_192001:=aM (Kd.S_below (Kd.S_elderB (rS HO_192001) gb194 (Nat.le_of_eq hg.symm)) hb);replace HL193_0:=rB HL193_0 hb;replace HR193_0:=aM (Kd.C_below (by repeat ((with_reducible exact HR193_0.out))) hb);replace HX193_0:=xB hb HX193_0;have BK194:=aM (hbox);have GW194:=gS w hg;have GE194:=gS w hg;replace HB:=bs hb;have NB185_194:=nL hg BK185;have NB194_185:=nG hg BK185;replace BK185:=bB BK185 hb;have NB186_194:=nL hg BK186;have NB194_186:=nG hg BK186;replace BK186:=bB BK186 hb;have NB191_194:=nL hg BK191;have NB194_191:=nG hg BK191;replace BK191:=bB BK191 hb;clear hb hbox hg;have hnb61:=NB194_185.out;have hnc61:=NB185_194.out;have hnb62:=NB194_186.out;have hnc62:=NB186_194.out;have hnb63:=NB194_191.out;have hnc63:=NB191_194.out;have hcz64_0:w60.cell? ⟨gb194,0,none⟩=some (.slice none 0 0):=(blk_cell BK194.out 0).trans rfl;have hfz64_0:=blk_frozen BK194.out 0)|((with_reducible refine gate_callee (f:=43) rfl ?_);refine goesL_ (some 33) rfl rfl Try.func43 (by kernel_rfl) rfl #[.agg #[.slice A193_0 ((rd_T35 x192001_1 x23_1).f0).length c193_0],.slice A1 l1.length c1] rfl (by (try simp only [List.map_toArray,List.map_cons,List.map_nil]);first|done|rfl|(simp only [List.length_drop,List.length_take];rfl)) ?_;(with_reducible refine (impl_lost.calls k1 _ _ ((rd_T35 x192001_1 x23_1).f0) _ _ l1 t195 _ ?side1 ?side2 ?side3 ?side4 A22.out).mono ?_);(case side1=>repeat (exact ((Kd.R_reads' (by (with_reducible repeat (first|apply Kd.R_alloc|apply Kd.R_drewN|apply Kd.R_drew));exact (Kd.R_mono (Kd.R_far (p:=⟨gb194,0,none⟩) (Kd.R_types HL193_0.out BK194.out (by decide)) (fun _ hk=>hk.2) (.slice A193_0 ((rd_T35 x192001_1 x23_1).f0).length c193_0)) (fun _ h_=>h_.1)))).2.2)));(case side2=>exact HC193_0.out);(case side3=>exact Kd.C_below HR1.out be);(case side4=>exact HC1.out);rintro e w65 ⟨rfl,hb⟩;refine ⟨_,rfl,?_⟩;replace BK185:=aM (blk_below (g:=gb185) (o:=.cells #[.int .i64 a0_0,.slice A0_1 l0_1.length c0_1] 26 (0,0)) (by (with_reducible repeat (first|refine blk_drewN ?_ _|refine blk_drew ?_|refine blk_alloc ?_ _));refine blk_far ?_ NB185_194.out _;(with_reducible repeat (first|refine blk_drewN ?_ _|refine blk_drew ?_|refine blk_alloc ?_ _));exact BK185.out) hb);replace BK186:=aM (blk_below (g:=gb186) (o:=.cells #[.int .i64 0,.slice none 0 0] 26 (0,0)) (by (with_reducible repeat (first|refine blk_drewN ?_ _|refine blk_drew ?_|refine blk_alloc ?_ _));refine blk_far ?_ NB186_194.out _;(with_reducible repeat (first|refine blk_drewN ?_ _|refine blk_drew ?_|refine blk_alloc ?_ _));exact BK186.out) hb);replace BK191:=aM (blk_below (g:=gb191) (o:=.cells #[.int .i64 t187,.slice (some ad193) x192001_1.length co59] 26 (0,0)) (by (with_reducible repeat (first|refine blk_drewN ?_ _|refine blk_drew ?_|refine blk_alloc ?_ _));refine blk_far ?_ NB191_194.out _;(with_reducible repeat (first|refine blk_drewN ?_ _|refine blk_drew ?_|refine blk_alloc ?_ _));exact BK191.out) hb);replace HR193_0:=aM (Kd.C_below ((Kd.R_reads' (by (with_reducible repeat (first|apply Kd.R_alloc|apply Kd.R_drewN|apply Kd.R_drew));exact (Kd.R_mono (Kd.R_far (p:=⟨gb194,0,none⟩) (Kd.R_types HL193_0.out BK194.out (by decide)) (fun _ hk=>hk.2) (.slice A193_0 ((rd_T35 x192001_1 x23_1).f0).length c193_0)) (fun _ h_=>h_.1)))).2.2) hb);replace HL193_0:=aM (Kd.R_below ((by (with_reducible repeat (first|apply Kd.R_alloc|apply Kd.R_drewN|apply Kd.R_drew));exact (Kd.R_mono (Kd.R_far (p:=⟨gb194,0,none⟩) (Kd.R_types HL193_0.out BK194.out (by decide)) (fun _ hk=>hk.2) (.slice A193_0 ((rd_T35 x192001_1 x23_1).f0).length c193_0)) (fun _ h_=>h_.1)))) hb);replace HX193_0:=aM (pw_cell_below hb ((cell_far (p:=⟨gb194,0,none⟩) (by first|(rw [add_block];exact ((Kd.S_R HO_192001.out).1 _ rfl).2)|(show (Addr.add _ _).block ≠ _;rw [add_block];exact ((Kd.S_R HO_192001.out).1 _ rfl).2)|exact ((Kd.S_R HO_192001.out).1 _ rfl).2) (.slice A193_0 ((rd_T35 x192001_1 x23_1).f0).length c193_0)).trans (HX193_0.out)));replace HO_192001:=aM (Kd.S_below ((by (with_reducible repeat (first|apply Kd.S_alloc|apply Kd.S_drewN|apply Kd.S_drew));exact (Kd.S_mono (Kd.S_far (p:=⟨gb194,0,none⟩) (Kd.S_mono HO_192001.out (fun k_ hk=>(⟨hk,hk.2⟩:_∧k_ ≠ gb194))) (fun _ hk=>hk.2) (.slice A193_0 ((rd_T35 x192001_1 x23_1).f0).length c193_0)) (fun _ h_=>h_.1)))) hb);replace BK194:=aM (blk_below (g:=gb194) (o:=.cells #[.slice A193_0 ((rd_T35 x192001_1 x23_1).f0).length c193_0] 35 (0,0)) (by (with_reducible repeat (first|refine blk_drewN ?_ _|refine blk_drew ?_|refine blk_alloc ?_ _));refine blk_put (cs:=#[.slice none 0 0]) ?_ 0 _ rfl;(with_reducible repeat (first|refine blk_drewN ?_ _|refine blk_drew ?_|refine blk_alloc ?_ _));exact BK194.out) hb);replace HB:=bs hb;(try clear hb)))
              replace HO_192001:=aM (Kd.S_drew HO_192001.out);replace HL193_0:=aM (Kd.R_drew HL193_0.out);replace BK185:=aM (blk_drew BK185.out);replace BK186:=aM (blk_drew BK186.out);replace BK191:=aM (blk_drew BK191.out);replace BK194:=aM (blk_drew BK194.out);replace HR193_0:=aM (Kd.C_drew HR193_0.out);replace HX193_0:=aM (Aid.cell_drew HX193_0.out);replace HB:=aM (below_drew1 HB.out)
              have q67:(t195:Int)≤((((rd_T35 x192001_1 x23_1).f0).length:Int):Int):=of_decide_eq_true (by first|(with_reducible assumption)|assumption)
              obtain ⟨i067,hi067,_,hsz67,_⟩:=info_parts info3
              have hroom67:((rd_T35 x192001_1 x23_1).f0).length≤c193_0:=HC193_0.out
              have hC67:Kd.C (Kd.int .i64) _ A193_0 ((rd_T35 x192001_1 x23_1).f0).length ((rd_T35 x192001_1 x23_1).f0):=(by repeat ((with_reducible exact HR193_0.out)))
              have hcut67:=cut_to (P:=Try.prog) 33 3 .i64 Try.underlying33 hi067 A193_0 ((rd_T35 x192001_1 x23_1).f0).length c193_0 t195 (of_decide_eq_true (by first|(with_reducible assumption)|assumption)) q67 hroom67
              have hr67:=Kd.C_take (m:=(t195:Int).toNat) hC67 (by omega)
              have hy67:y196.length=(t195:Int).toNat:=(by rw [Ny196.out,List.length_take];omega)
              rw [← Ny196.out] at hr67
              rw [← hy67] at hcut67
              have HR199:=aM hr67
              have HC199:=aM (show y196.length≤c193_0 from by omega)
              clear hr67 hC67 hroom67 hi067 hsz67
              have KY67:=aM hy67
              clear hy67
              have KL67:=aM (show (t195:Int).toNat≤((rd_T35 x192001_1 x23_1).f0).length from by omega)
              replace q67:=eq_true q67
              have q68:((ji27):Int)≤((((rd_T35 x192001_1 x23_1).f0).length:Int):Int):=of_decide_eq_true (by first|(with_reducible assumption)|assumption)
              obtain ⟨i068,hi068,_,hsz68,_⟩:=info_parts info3
              have hroom68:((rd_T35 x192001_1 x23_1).f0).length≤c193_0:=HC193_0.out
              have hC68:Kd.C (Kd.int .i64) _ A193_0 ((rd_T35 x192001_1 x23_1).f0).length ((rd_T35 x192001_1 x23_1).f0):=(by repeat ((with_reducible exact HR193_0.out)))
              have q068:(0:Int)≤((ji27):Int):=of_decide_eq_true (by first|(with_reducible assumption)|assumption)
              have hcut68:=cut_from (P:=Try.prog) 33 3 .i64 Try.underlying33 hi068 1 hsz68 A193_0 ((rd_T35 x192001_1 x23_1).f0).length c193_0 (ji27) q068 q68
              have hr68:=Kd.C_drop (m:=((ji27):Int).toNat) (c:=c193_0) hC68 (by omega) hroom68
              obtain ⟨A68,hA68⟩ : ∃ A1,A1=(if c193_0=((ji27):Int).toNat then A193_0 else (A193_0:Option Addr).map (·.add (((ji27):Int).toNat * 1))):=⟨_,rfl⟩
              obtain ⟨c68,hc68⟩ : ∃ c1,c1=c193_0 - ((ji27):Int).toNat:=⟨_,rfl⟩
              have hy68:y203.length=((rd_T35 x192001_1 x23_1).f0).length - ((ji27):Int).toNat:=(by rw [Ny203.out,List.length_drop] <;> omega)
              rw [show ((rd_T35 x192001_1 x23_1).f0).drop ((ji27):Int).toNat=y203 from Ny203.out.symm] at hr68
              replace hr68:Kd.C (Kd.int .i64) _ A68 y203.length y203:=(by rw [hA68];exact hr68)
              rw [← hy68,← hA68,← hc68] at hcut68
              have HR206:=aM hr68
              have HC206:=aM (show y203.length≤c68 from by rw [hy68,hc68];exact Nat.sub_le_sub_right hroom68 _)
              clear hr68 hC68 hroom68 hi068 hsz68 hc68
              have KY68:=aM hy68
              have KA68:=aM hA68
              clear hy68 hA68
              have KL68:=aM (show ((ji27):Int).toNat≤((rd_T35 x192001_1 x23_1).f0).length from by omega)
              replace q68:=eq_true q68
              refine start_ (n:=12) (S:=fun w'=>w'.cell? ⟨gb194,0,none⟩=some (.slice A193_0 ((rd_T35 x192001_1 x23_1).f0).length c193_0)) (ds:=[]) (fl 12 0) (by kernel_rfl) rfl rfl ((blk_cell BK194.out 0).trans rfl) (fun hHeld=>?_);refine with_tabW impl_Rebalance.tab12 impl_Rebalance.bits12 (fun HT_ HW_=>?_)
              generalize w65.drew=w66 at HO_192001 HL193_0 BK185 BK186 BK191 BK194 HR193_0 HX193_0 HB HR199 HR206 hHeld ⊢
              refine pt 0 36 (fl 12 1) HT_ ?_
              refine pt 2 38 (fl 12 5) HT_ ?_
              refine pt 5 41 (fl 12 37) HT_ ?_
              refine pt 7 43 (fl 12 165) HT_ ?_
              refine pt 8 44 (fl 12 421) HT_ ?_
              refine tt 1 37 (fl 12 423) HT_ HW_ hHeld ?_
              refine pt 3 39 (fl 12 431) HT_ ?_
              refine tt 6 42 (fl 12 495) HT_ HW_ hHeld ?_
              refine pt 9 45 (fl 12 1007) HT_ ?_
              refine ot 4 (some 40) (fl 12 1023) HT_ (fun K hK=>?_)
              refine goes_ Try.func44 (by kernel_rfl) rfl #[.slice A193_0 y196.length c193_0] (by rfl) rfl rfl (by (try simp only [List.map_toArray,List.map_cons,List.map_nil]);first|done|rfl|(simp only [List.length_drop,List.length_take];rfl)) ?_
              with_reducible refine (impl_copyInts.calls _ _ y196 t200 _ ?side1 ?side2 A26.out).mono ?_
              (case side1=>repeat (exact (by repeat ((with_reducible exact HR199.out)))))
              (case side2=>exact HC199.out)
              rintro e w69 ⟨v201,rfl,ho0,hb⟩
              refine ⟨_,rfl,?_⟩
              replace HO_192001:=aM (Kd.S_elder' (rS HO_192001) (Kd.R_base ho0) hb);have HO202:=aM (Kd.R_lower (Kd.R_new' ho0 (Kd.R_lt (by (with_reducible repeat (first|apply Kd.R_alloc|apply Kd.R_drewN|apply Kd.R_drew));exact HL193_0.out))) (below_size be));replace HL193_0:=aM (Kd.R_elder' (by (with_reducible repeat (first|apply Kd.R_alloc|apply Kd.R_drewN|apply Kd.R_drew));exact HL193_0.out) (Kd.R_base ho0) hb);replace BK185:=bB BK185 hb;replace BK186:=bB BK186 hb;replace BK191:=bB BK191 hb;replace BK194:=bB BK194 hb;replace HR206:=aM (Kd.C_below (by repeat ((with_reducible exact HR206.out))) hb);replace HB:=bs hb;clear HR193_0 HX193_0 HR199;(try clear hb);(try clear ho0)
              refine hK.out _ _ ((blk_cell BK194.out 0).trans rfl) (fun hHeld=>?_)
              clear hK K
              refine no 40 ?_
              refine ot 10 (some 46) (fl 12 2047) HT_ (fun K hK=>?_)
              refine Kd.R_append_rows_step (Kd.int .i64) (w0:=w) w.heap.size (by rfl) (.tmp 40) (.tmp 45) 33 3 (.int .i64 0) 8 rfl Try.underlying33 info3 rfl (by decide) (by omega) v201 t200 y203 _ _ _ (fun k_=>some k_ ≠ (.slice A193_0 ((rd_T35 x192001_1 x23_1).f0).length c193_0:Value).ownBlock) (fun _=>False) rfl rfl ?aO ?aR (fun _ _ h=>h) (fun _ h=>h.elim) ?aF ?aB ?aS ?aL ?_
              (case aR=>repeat (exact (by repeat (exact HR206.out))))
              (case aB=>exact be)
              (case aF=>exact (fun k_ hk=>Kd.fresh' (Kd.R_lt (by (with_reducible repeat (first|apply Kd.R_alloc|apply Kd.R_drewN|apply Kd.R_drew));exact HL193_0.out)) k_ hk))
              (case aO=>exact (by (with_reducible repeat (first|apply Kd.R_alloc|apply Kd.R_drewN|apply Kd.R_drew));exact Kd.R_mono HO202.out (fun _ hk=>hk.2)))
              (case aS=>exact (below_size be))
              (case aL=>have:=LMc30.out;omega)
              intro v208 w70 ho hb hg hat
              rw [← Ny207.out] at ho
              replace HO_192001:=aM (Kd.S_after (ok:=(fun k_=>k_ ≠ gb194)) (by (with_reducible repeat (first|apply Kd.S_alloc|apply Kd.S_drewN|apply Kd.S_drew));exact Kd.S_mono HO_192001.out (fun _ hk=>⟨hk.1.2,hk.2⟩)) hg hat);replace BK185:=bG BK185 hg (Kd.R_ne HO202.out BK185.out (by decide));replace BK186:=bG BK186 hg (Kd.R_ne HO202.out BK186.out (by decide));replace BK191:=bG BK191 hg (Kd.R_ne HO202.out BK191.out (by decide));replace BK194:=bG BK194 hg (Kd.R_ne HO202.out BK194.out (by decide));replace HB:=aM (hb);have HO209:=aM (ho);clear HL193_0 HR206 HO202;clear ho hb hg hat
              refine hK.out _ _ ((blk_cell BK194.out 0).trans rfl) (fun hHeld=>?_)
              clear hK K
              refine no 46 ?_
              refine pt 11 12 (fl 12 4095) HT_ ?_
              refine done_ (done_of HT_.out (by kernel_rfl)) ?_
              have hcz71_0:w70.cell? ⟨gb191,0,none⟩=some (.int .i64 t187):=(blk_cell BK191.out 0).trans rfl
              have hcz71_1:w70.cell? ⟨gb191,1,none⟩=some (.slice (some ad193) x192001_1.length co59):=(blk_cell BK191.out 1).trans rfl
              have hfz71_0:=blk_frozen BK191.out 0
              have hfz71_1:=blk_frozen BK191.out 1
              obtain ⟨Ao72,co72,eo72⟩:=Kd.R_slice HO209.out
              subst eo72
              try go_wp2_with ((with_reducible refine gate_callee (f:=45) rfl ?_);refine goesL_ (some 51) rfl rfl Try.func45 (by kernel_rfl) rfl #[.agg #[.int .i64 t187,.slice (some ad193) x192001_1.length co59],.agg #[.slice Ao72 y207.length co72],.slice A1 l1.length c1] rfl (by (try simp only [List.map_toArray,List.map_cons,List.map_nil]);first|done|rfl|(simp only [List.length_drop,List.length_take];rfl)) ?_;(with_reducible refine (impl_Best.calls k1 t187 _ _ x192001_1 _ _ y207 _ _ l1 t210 _ ?side1 ?side2 ?side3 ?side4 ?side5 ?side6 A31.out).mono ?_);(case side1=>exact sS HO_192001);(case side2=>exact (Kd.S_reads' HO_192001.out).2.1);(case side3=>exact sR HO209);(case side4=>exact (Kd.R_reads' HO209.out).2.1);(case side5=>exact rC HR1);(case side6=>exact HC1.out);rintro e w73 ⟨rfl,hb⟩;refine ⟨_,rfl,?_⟩;replace HO_192001:=sB HO_192001 hb;replace BK185:=bB BK185 hb;replace BK186:=bB BK186 hb;replace BK191:=bB BK191 hb;replace HB:=bs hb;clear HO209 BK194;(try clear hb))
              go_roundg k1
              case measure=>have:=HK1.out;omega
              case rel=>exact ⟨(x7_1),(wrap64 (x23_1+1)),(x192001_1),(.slice (some ad193) x192001_1.length co59),rd_,rd_,H',⟨by have:=HK1.out;omega⟩,⟨by (with_reducible repeat (first|apply Kd.S_alloc|apply Kd.S_drewN|apply Kd.S_drew));exact Kd.S_mono HO_192001.out (fun _ hk=>trivial)⟩,⟨bk BK185⟩,⟨bk BK186⟩,⟨bk BK191⟩,⟨be⟩⟩
            ·rw [if_neg c30] at H
             exact absurd H (by simp)
           ·rw [if_neg c29] at H
            exact absurd H (by simp)
          ·rw [if_neg c28] at H
           exact absurd H (by simp)
         ·rw [if_neg c25] at H
          exact absurd H (by simp)
        ·rw [if_neg c24] at H
         exact absurd H (by simp)
       ·rw [if_neg c23] at H
        have c23b0:decide (0≤t195)=false:=decide_eq_false c23
        clear c23
        replace H:=Option.bind_eq_some_iff.mp H
        obtain ⟨⟨t214,t215⟩,A740,H⟩:=H
        try dsimp only at H
        have A74:=aM A740
        clear A740
        by_cases c75:t214 ≥ 0
        ·rw [if_pos c75] at H
         have c75b0:decide (0≤t214)=true:=decide_eq_true c75
         clear c75
         by_cases c76:t215 ≥ 0
         ·rw [if_pos c76] at H
          have c76b0:decide (0≤t215)=true:=decide_eq_true c76
          clear c76
          by_cases c77:0≤t214
          ·rw [if_pos c77] at H
           have c77b0:decide (0≤t214)=true:=decide_eq_true c77
           clear c77
           by_cases c78:t214 < (((rd_T35 x192001_1 x23_1).f0).length:Int)
           ·rw [if_pos c78] at H
            have c78b0:decide (t214 < (((rd_T35 x192001_1 x23_1).f0).length:Int))=true:=decide_eq_true c78
            clear c78
            obtain ⟨y216,hy216⟩ : ∃ y_:List Int,y_=(((rd_T35 x192001_1 x23_1).f0).set (t214:Int).toNat t215):=⟨_,rfl⟩
            replace H:(impl_Rebalance.l0 k1 l1 (wrap64 (x7_1+1)) (t188.length:Int) (wrap64 (x23_1+1)) t187 (x192001_1.set (x23_1:Int).toNat (⟨y216⟩:S35)))=some (r1,r2,r3):=by first|(rw [hy216];with_reducible exact H)|(have H2_:=(Option.bind_some _ _).symm.trans H;rw [hy216];with_reducible exact H2_)|(have H2_:=(Option.bind_some _ _).symm.trans H;with_reducible exact H2_)|with_reducible exact H|(rw [hy216];exact H)|exact H
            have Ny216:=aM hy216
            clear hy216
            obtain ⟨y218,hy218⟩ : ∃ y_:List (S35),y_=(x192001_1.set (x23_1:Int).toNat (⟨y216⟩:S35)):=⟨_,rfl⟩
            replace H:(impl_Rebalance.l0 k1 l1 (wrap64 (x7_1+1)) (t188.length:Int) (wrap64 (x23_1+1)) t187 y218)=some (r1,r2,r3):=by first|(rw [hy218];with_reducible exact H)|(have H2_:=(Option.bind_some _ _).symm.trans H;rw [hy218];with_reducible exact H2_)|(have H2_:=(Option.bind_some _ _).symm.trans H;with_reducible exact H2_)|with_reducible exact H|(rw [hy218];exact H)|exact H
            have Ny218:=aM hy218
            clear hy218
            have H':=Aside0.mk H
            clear H
            have hnb80:=NB191_185.out
            have hnc80:=NB185_191.out
            have hnb81:=NB191_186.out
            have hnc81:=NB186_191.out
            have hcz82_0:wr.cell? ⟨gb191,0,none⟩=some (.int .i64 t187):=(blk_cell BK191.out 0).trans rfl
            have hcz82_1:wr.cell? ⟨gb191,1,none⟩=some (u192001):=(blk_cell BK191.out 1).trans rfl
            have hfz82_0:=blk_frozen BK191.out 0
            have hfz82_1:=blk_frozen BK191.out 1
            obtain ⟨Ao83,co83,eo83⟩:=Kd.S_slice HO_192001.out
            subst eo83
            have p193:0≤(x23_1:Int):=of_decide_eq_true (by first|(with_reducible assumption)|assumption)
            have q193:x23_1 < (x192001_1.length:Int):=of_decide_eq_true (by first|(with_reducible assumption)|assumption)
            obtain ⟨ad193,A193_0,c193_0,e193,hx193_0,hl193_0,hi193_0⟩:=at_T35 (Kd.S_reads' HO_192001.out).2.2 x23_1 p193 q193
            cases e193
            obtain ⟨ce193,hce193,hMe193,hcc193⟩:=Kd.S_get HO_192001.out z35 x23_1 p193 (by first|exact q193|exact of_decide_eq_true (by first|(with_reducible assumption)|assumption)|(have e_:=(Kd.S_reads' HO_192001.out).1;omega))
            obtain ⟨ve193_0,rfl,ge193_0⟩:=k35_openM hMe193
            have hv193_0:=hcc193 0 _ rfl
            rw [Nat.add_zero,show (k35).sz=1 from rfl,Nat.mul_one] at hv193_0
            replace hv193_0:=Option.some.inj (hv193_0.symm.trans hx193_0)
            rw [hv193_0] at ge193_0
            have HL193_0:=aM (show Kd.R (Kd.int .i64) 3 _ _ _ _ ((rd_T35 x192001_1 x23_1).f0) from ge193_0)
            clear hv193_0 ge193_0
            have HX193_0:=aM hx193_0
            clear hcc193 hce193
            have HR193_0:=aM hi193_0
            have HC193_0:=aM hl193_0
            clear hi193_0 hl193_0
            replace p193:=eq_true p193
            replace q193:=eq_true q193
            go_wp2_with (first|((with_reducible refine gate_dst (N:=9) rfl ?_);refine box_event ?hg (N:=9) ?hd (cs:=#[.slice none 0 0]) (t:=35) ?hr ?_;(case hd=>rfl);(case hg=>rfl);(case hr=>first|(go_simp;done)|(go_simp;rfl));intro gb194 hg w84 hbox hb;replace HO_192001:=aM (Kd.S_below (Kd.S_elderB (rS HO_192001) gb194 (Nat.le_of_eq hg.symm)) hb);replace HL193_0:=rB HL193_0 hb;replace HR193_0:=aM (Kd.C_below (by repeat ((with_reducible exact HR193_0.out))) hb);replace HX193_0:=xB hb HX193_0;have BK194:=aM (hbox);have GW194:=gS w hg;have GE194:=gS w hg;replace HB:=bs hb;have NB185_194:=nL hg BK185;have NB194_185:=nG hg BK185;replace BK185:=bB BK185 hb;have NB186_194:=nL hg BK186;have NB194_186:=nG hg BK186;replace BK186:=bB BK186 hb;have NB191_194:=nL hg BK191;have NB194_191:=nG hg BK191;replace BK191:=bB BK191 hb;clear hb hbox hg;have hnb85:=NB194_185.out;have hnc85:=NB185_194.out;have hnb86:=NB194_186.out;have hnc86:=NB186_194.out;have hnb87:=NB194_191.out;have hnc87:=NB191_194.out;have hcz88_0:w84.cell? ⟨gb194,0,none⟩=some (.slice none 0 0):=(blk_cell BK194.out 0).trans rfl;have hfz88_0:=blk_frozen BK194.out 0)|((with_reducible refine gate_callee (f:=43) rfl ?_);refine goesL_ (some 33) rfl rfl Try.func43 (by kernel_rfl) rfl #[.agg #[.slice A193_0 ((rd_T35 x192001_1 x23_1).f0).length c193_0],.slice A1 l1.length c1] rfl (by (try simp only [List.map_toArray,List.map_cons,List.map_nil]);first|done|rfl|(simp only [List.length_drop,List.length_take];rfl)) ?_;(with_reducible refine (impl_lost.calls k1 _ _ ((rd_T35 x192001_1 x23_1).f0) _ _ l1 t195 _ ?side1 ?side2 ?side3 ?side4 A22.out).mono ?_);(case side1=>repeat (exact ((Kd.R_reads' (by (with_reducible repeat (first|apply Kd.R_alloc|apply Kd.R_drewN|apply Kd.R_drew));exact (Kd.R_mono (Kd.R_far (p:=⟨gb194,0,none⟩) (Kd.R_types HL193_0.out BK194.out (by decide)) (fun _ hk=>hk.2) (.slice A193_0 ((rd_T35 x192001_1 x23_1).f0).length c193_0)) (fun _ h_=>h_.1)))).2.2)));(case side2=>exact HC193_0.out);(case side3=>exact Kd.C_below HR1.out be);(case side4=>exact HC1.out);rintro e w89 ⟨rfl,hb⟩;refine ⟨_,rfl,?_⟩;replace BK185:=aM (blk_below (g:=gb185) (o:=.cells #[.int .i64 a0_0,.slice A0_1 l0_1.length c0_1] 26 (0,0)) (by (with_reducible repeat (first|refine blk_drewN ?_ _|refine blk_drew ?_|refine blk_alloc ?_ _));refine blk_far ?_ NB185_194.out _;(with_reducible repeat (first|refine blk_drewN ?_ _|refine blk_drew ?_|refine blk_alloc ?_ _));exact BK185.out) hb);replace BK186:=aM (blk_below (g:=gb186) (o:=.cells #[.int .i64 0,.slice none 0 0] 26 (0,0)) (by (with_reducible repeat (first|refine blk_drewN ?_ _|refine blk_drew ?_|refine blk_alloc ?_ _));refine blk_far ?_ NB186_194.out _;(with_reducible repeat (first|refine blk_drewN ?_ _|refine blk_drew ?_|refine blk_alloc ?_ _));exact BK186.out) hb);replace BK191:=aM (blk_below (g:=gb191) (o:=.cells #[.int .i64 t187,.slice (some ad193) x192001_1.length co83] 26 (0,0)) (by (with_reducible repeat (first|refine blk_drewN ?_ _|refine blk_drew ?_|refine blk_alloc ?_ _));refine blk_far ?_ NB191_194.out _;(with_reducible repeat (first|refine blk_drewN ?_ _|refine blk_drew ?_|refine blk_alloc ?_ _));exact BK191.out) hb);replace HR193_0:=aM (Kd.C_below ((Kd.R_reads' (by (with_reducible repeat (first|apply Kd.R_alloc|apply Kd.R_drewN|apply Kd.R_drew));exact (Kd.R_mono (Kd.R_far (p:=⟨gb194,0,none⟩) (Kd.R_types HL193_0.out BK194.out (by decide)) (fun _ hk=>hk.2) (.slice A193_0 ((rd_T35 x192001_1 x23_1).f0).length c193_0)) (fun _ h_=>h_.1)))).2.2) hb);replace HL193_0:=aM (Kd.R_below ((by (with_reducible repeat (first|apply Kd.R_alloc|apply Kd.R_drewN|apply Kd.R_drew));exact (Kd.R_mono (Kd.R_far (p:=⟨gb194,0,none⟩) (Kd.R_types HL193_0.out BK194.out (by decide)) (fun _ hk=>hk.2) (.slice A193_0 ((rd_T35 x192001_1 x23_1).f0).length c193_0)) (fun _ h_=>h_.1)))) hb);replace HX193_0:=aM (pw_cell_below hb ((cell_far (p:=⟨gb194,0,none⟩) (by first|(rw [add_block];exact ((Kd.S_R HO_192001.out).1 _ rfl).2)|(show (Addr.add _ _).block ≠ _;rw [add_block];exact ((Kd.S_R HO_192001.out).1 _ rfl).2)|exact ((Kd.S_R HO_192001.out).1 _ rfl).2) (.slice A193_0 ((rd_T35 x192001_1 x23_1).f0).length c193_0)).trans (HX193_0.out)));replace HO_192001:=aM (Kd.S_below ((by (with_reducible repeat (first|apply Kd.S_alloc|apply Kd.S_drewN|apply Kd.S_drew));exact (Kd.S_mono (Kd.S_far (p:=⟨gb194,0,none⟩) (Kd.S_mono HO_192001.out (fun k_ hk=>(⟨hk,hk.2⟩:_∧k_ ≠ gb194))) (fun _ hk=>hk.2) (.slice A193_0 ((rd_T35 x192001_1 x23_1).f0).length c193_0)) (fun _ h_=>h_.1)))) hb);replace BK194:=aM (blk_below (g:=gb194) (o:=.cells #[.slice A193_0 ((rd_T35 x192001_1 x23_1).f0).length c193_0] 35 (0,0)) (by (with_reducible repeat (first|refine blk_drewN ?_ _|refine blk_drew ?_|refine blk_alloc ?_ _));refine blk_put (cs:=#[.slice none 0 0]) ?_ 0 _ rfl;(with_reducible repeat (first|refine blk_drewN ?_ _|refine blk_drew ?_|refine blk_alloc ?_ _));exact BK194.out) hb);replace HB:=bs hb;(try clear hb);have hcz90_0:w89.cell? ⟨gb191,0,none⟩=some (.int .i64 t187):=(blk_cell BK191.out 0).trans rfl;have hcz90_1:w89.cell? ⟨gb191,1,none⟩=some (.slice (some ad193) x192001_1.length co83):=(blk_cell BK191.out 1).trans rfl;have hfz90_0:=blk_frozen BK191.out 0;have hfz90_1:=blk_frozen BK191.out 1;have hcz91_0:w89.cell? ⟨gb194,0,none⟩=some (.slice A193_0 ((rd_T35 x192001_1 x23_1).f0).length c193_0):=(blk_cell BK194.out 0).trans rfl;have hfz91_0:=blk_frozen BK194.out 0)|((with_reducible refine gate_callee (f:=46) rfl ?_);refine goesL_ (some 56) rfl rfl Try.func46 (by kernel_rfl) rfl #[.agg #[.int .i64 t187,.slice (some ad193) x192001_1.length co83],.agg #[.slice A193_0 ((rd_T35 x192001_1 x23_1).f0).length c193_0],.slice A1 l1.length c1] rfl (by (try simp only [List.map_toArray,List.map_cons,List.map_nil]);first|done|rfl|(simp only [List.length_drop,List.length_take];rfl)) ?_;(with_reducible refine (impl_heavy.calls k1 t187 _ _ x192001_1 _ _ ((rd_T35 x192001_1 x23_1).f0) _ _ l1 t214 t215 _ ?side1 ?side2 ?side3 ?side4 ?side5 ?side6 A74.out).mono ?_);(case side1=>exact sS HO_192001);(case side2=>exact (Kd.S_reads' HO_192001.out).2.1);(case side3=>repeat (exact (by repeat ((with_reducible exact HR193_0.out)))));(case side4=>exact HC193_0.out);(case side5=>exact rC HR1);(case side6=>exact HC1.out);rintro e w92 ⟨rfl,hb⟩;refine ⟨_,rfl,?_⟩;replace HO_192001:=sB HO_192001 hb;replace HL193_0:=rB HL193_0 hb;replace BK185:=bB BK185 hb;replace BK186:=bB BK186 hb;replace BK191:=bB BK191 hb;replace HX193_0:=xB hb HX193_0;replace BK194:=bB BK194 hb;replace HB:=bs hb;clear HR193_0;(try clear hb);have hcz93_0:w92.cell? ⟨gb194,0,none⟩=some (.slice A193_0 ((rd_T35 x192001_1 x23_1).f0).length c193_0):=(blk_cell BK194.out 0).trans rfl;have hfz93_0:=blk_frozen BK194.out 0;have p79:0≤(t214:Int):=of_decide_eq_true (by first|(with_reducible assumption)|assumption);have q79:(t214:Int) < ((((rd_T35 x192001_1 x23_1).f0).length:Int):Int):=of_decide_eq_true (by first|(with_reducible assumption)|assumption);obtain ⟨go79,co79,eo79,gb79,gl79,cl79,HG79⟩:=Kd.R_form HL193_0.out (by omega);(cases eo79);have GB79:=aM gb79;have GG79:=aM HG79;clear gb79 gl79 HG79;obtain ⟨hx79_0,hf79_0⟩:=Kd.R_celln 0 HL193_0.out (t214:Int) p79 q79;replace p79:=eq_true p79;replace q79:=eq_true q79;replace HO_192001:=aM (Kd.S_mono (ok':=(fun k_=>k_ ≠ gb194)) HO_192001.out (fun k_ hk=>hk.2));have hq94:(x23_1:Int) < (x192001_1.length:Int):=(by have h_:(x23_1:Int) < ((x192001_1.length:Int):Int):=of_decide_eq_true (by first|(with_reducible assumption)|assumption);first|exact h_|(have e_:=(Kd.S_reads' HO_192001.out).1;omega)|simpa only [List.length_set,List.length_set] using h_);obtain ⟨oki94,ce94,hcl94,hM94,hcc94,hok94,hbk94⟩:=Kd.S_borrow HO_192001.out z35 (x23_1:Int) (of_decide_eq_true (by first|(with_reducible assumption)|assumption)) hq94;obtain ⟨ve94_0,rfl,ge94_0⟩:=k35_openM hM94;have hv94:=hcc94 0 _ rfl;rw [Nat.add_zero,show (k35).sz=1 from rfl,Nat.mul_one] at hv94;replace hv94:=Option.some.inj (hv94.symm.trans HX193_0.out);subst hv94;clear hcc94 hcl94;replace ge94_0:=(show Kd.R (Kd.int .i64) 3 _ _ _ _ ((rd_T35 x192001_1 x23_1).f0) from ge94_0);have HP94:=Kd.R_putg ge94_0 (t214:Int) t215)|((with_reducible refine gate_store (t:=3) (p:=69) rfl ?_);refine store_event (t:=3) (p:=69) (v:=?vo_w95) (w1:=(w92.setCell ⟨go79,(t214:Int).toNat,none⟩ (.int .i64 t215))) ?hg ?ho ?hn ?hr ?_;(case ho=>rfl);(case hg=>rfl);(case hn=>rfl);(case hr=>first|(go_simp;done)|(go_simp;rfl));intro w95 hw;have hg:w92.grownBy w95 (some go79):=(by rw [hw];exact HP94.2);have hz_:Kd.R (Kd.int .i64) 3 w95 w.heap.size oki94 (.slice (some ⟨go79,0,none⟩) ((rd_T35 x192001_1 x23_1).f0).length c193_0) y216:=(by rw [hw,Ny216.out];exact HP94.1);have hp_:Kd.S k35 35 w95 w.heap.size (fun k_=>k_ ≠ gb194) (.slice (some ad193) x192001_1.length co83) y218:=(by rw [Ny218.out];exact Kd.S_mono (hbk94 hg (fun k_ e_=>by injection e_ with e_;subst e_;exact ge94_0.1 _ rfl) (k35_mkM _ _ _ (⟨y216⟩:S35) hz_)) (fun _ hk=>by first|exact hk|exact ⟨hk.2,hk.1⟩));have hm_:=Kd.R_mono hz_ hok94;clear HP94 hbk94;replace HO_192001:=aM (hp_);replace BK185:=bG BK185 hg (Kd.R_ne HL193_0.out BK185.out (by decide));replace BK186:=bG BK186 hg (Kd.R_ne HL193_0.out BK186.out (by decide));replace BK191:=bG BK191 hg (Kd.R_ne HL193_0.out BK191.out (by decide));replace HB:=aM ((by rw [hw];exact below_set (HB.out) GB79.out:Below w.heap.size w w95));clear BK194 HL193_0;clear hg hw hp_ hz_ hm_ hok94))
            go_roundg k1
            case measure=>have:=HK1.out;omega
            case rel=>exact ⟨(wrap64 (x7_1+1)),(wrap64 (x23_1+1)),(y218),(.slice (some ad193) x192001_1.length co83),rd_,rd_,H',⟨by have:=HK1.out;omega⟩,⟨by (with_reducible repeat (first|apply Kd.S_alloc|apply Kd.S_drewN|apply Kd.S_drew));exact Kd.S_mono HO_192001.out (fun _ hk=>trivial)⟩,⟨bk BK185⟩,⟨bk BK186⟩,⟨bk BK191⟩,⟨be⟩⟩
           ·rw [if_neg c78] at H
            exact absurd H (by simp)
          ·rw [if_neg c77] at H
           exact absurd H (by simp)
         ·rw [if_neg c76] at H
          have c76b0:decide (0≤t215)=false:=decide_eq_false c76
          clear c76
          have H':=Aside0.mk H
          clear H
          have hnb96:=NB191_185.out
          have hnc96:=NB185_191.out
          have hnb97:=NB191_186.out
          have hnc97:=NB186_191.out
          have hcz98_0:wr.cell? ⟨gb191,0,none⟩=some (.int .i64 t187):=(blk_cell BK191.out 0).trans rfl
          have hcz98_1:wr.cell? ⟨gb191,1,none⟩=some (u192001):=(blk_cell BK191.out 1).trans rfl
          have hfz98_0:=blk_frozen BK191.out 0
          have hfz98_1:=blk_frozen BK191.out 1
          obtain ⟨Ao99,co99,eo99⟩:=Kd.S_slice HO_192001.out
          subst eo99
          have p193:0≤(x23_1:Int):=of_decide_eq_true (by first|(with_reducible assumption)|assumption)
          have q193:x23_1 < (x192001_1.length:Int):=of_decide_eq_true (by first|(with_reducible assumption)|assumption)
          obtain ⟨ad193,A193_0,c193_0,e193,hx193_0,hl193_0,hi193_0⟩:=at_T35 (Kd.S_reads' HO_192001.out).2.2 x23_1 p193 q193
          cases e193
          obtain ⟨ce193,hce193,hMe193,hcc193⟩:=Kd.S_get HO_192001.out z35 x23_1 p193 (by first|exact q193|exact of_decide_eq_true (by first|(with_reducible assumption)|assumption)|(have e_:=(Kd.S_reads' HO_192001.out).1;omega))
          obtain ⟨ve193_0,rfl,ge193_0⟩:=k35_openM hMe193
          have hv193_0:=hcc193 0 _ rfl
          rw [Nat.add_zero,show (k35).sz=1 from rfl,Nat.mul_one] at hv193_0
          replace hv193_0:=Option.some.inj (hv193_0.symm.trans hx193_0)
          rw [hv193_0] at ge193_0
          have HL193_0:=aM (show Kd.R (Kd.int .i64) 3 _ _ _ _ ((rd_T35 x192001_1 x23_1).f0) from ge193_0)
          clear hv193_0 ge193_0
          have HX193_0:=aM hx193_0
          clear hcc193 hce193
          have HR193_0:=aM hi193_0
          have HC193_0:=aM hl193_0
          clear hi193_0 hl193_0
          replace p193:=eq_true p193
          replace q193:=eq_true q193
          go_wp2_with (first|((with_reducible refine gate_dst (N:=9) rfl ?_);refine box_event ?hg (N:=9) ?hd (cs:=#[.slice none 0 0]) (t:=35) ?hr ?_;(case hd=>rfl);(case hg=>rfl);(case hr=>first|(go_simp;done)|(go_simp;rfl));intro gb194 hg w100 hbox hb;replace HO_192001:=aM (Kd.S_below (Kd.S_elderB (rS HO_192001) gb194 (Nat.le_of_eq hg.symm)) hb);replace HL193_0:=rB HL193_0 hb;replace HR193_0:=aM (Kd.C_below (by repeat ((with_reducible exact HR193_0.out))) hb);have BK194:=aM (hbox);have GW194:=gS w hg;have GE194:=gS w hg;replace HB:=bs hb;have NB185_194:=nL hg BK185;have NB194_185:=nG hg BK185;replace BK185:=bB BK185 hb;have NB186_194:=nL hg BK186;have NB194_186:=nG hg BK186;replace BK186:=bB BK186 hb;have NB191_194:=nL hg BK191;have NB194_191:=nG hg BK191;replace BK191:=bB BK191 hb;clear HX193_0;clear hb hbox hg;have hnb101:=NB194_185.out;have hnc101:=NB185_194.out;have hnb102:=NB194_186.out;have hnc102:=NB186_194.out;have hnb103:=NB194_191.out;have hnc103:=NB191_194.out;have hcz104_0:w100.cell? ⟨gb194,0,none⟩=some (.slice none 0 0):=(blk_cell BK194.out 0).trans rfl;have hfz104_0:=blk_frozen BK194.out 0)|((with_reducible refine gate_callee (f:=43) rfl ?_);refine goesL_ (some 33) rfl rfl Try.func43 (by kernel_rfl) rfl #[.agg #[.slice A193_0 ((rd_T35 x192001_1 x23_1).f0).length c193_0],.slice A1 l1.length c1] rfl (by (try simp only [List.map_toArray,List.map_cons,List.map_nil]);first|done|rfl|(simp only [List.length_drop,List.length_take];rfl)) ?_;(with_reducible refine (impl_lost.calls k1 _ _ ((rd_T35 x192001_1 x23_1).f0) _ _ l1 t195 _ ?side1 ?side2 ?side3 ?side4 A22.out).mono ?_);(case side1=>repeat (exact ((Kd.R_reads' (by (with_reducible repeat (first|apply Kd.R_alloc|apply Kd.R_drewN|apply Kd.R_drew));exact (Kd.R_mono (Kd.R_far (p:=⟨gb194,0,none⟩) (Kd.R_types HL193_0.out BK194.out (by decide)) (fun _ hk=>hk.2) (.slice A193_0 ((rd_T35 x192001_1 x23_1).f0).length c193_0)) (fun _ h_=>h_.1)))).2.2)));(case side2=>exact HC193_0.out);(case side3=>exact Kd.C_below HR1.out be);(case side4=>exact HC1.out);rintro e w105 ⟨rfl,hb⟩;refine ⟨_,rfl,?_⟩;replace HO_192001:=aM (Kd.S_below ((by (with_reducible repeat (first|apply Kd.S_alloc|apply Kd.S_drewN|apply Kd.S_drew));exact (Kd.S_mono (Kd.S_far (p:=⟨gb194,0,none⟩) (Kd.S_mono HO_192001.out (fun k_ hk=>(⟨hk,hk.2⟩:_∧k_ ≠ gb194))) (fun _ hk=>hk.2) (.slice A193_0 ((rd_T35 x192001_1 x23_1).f0).length c193_0)) (fun _ h_=>h_.1)))) hb);replace BK185:=aM (blk_below (g:=gb185) (o:=.cells #[.int .i64 a0_0,.slice A0_1 l0_1.length c0_1] 26 (0,0)) (by (with_reducible repeat (first|refine blk_drewN ?_ _|refine blk_drew ?_|refine blk_alloc ?_ _));refine blk_far ?_ NB185_194.out _;(with_reducible repeat (first|refine blk_drewN ?_ _|refine blk_drew ?_|refine blk_alloc ?_ _));exact BK185.out) hb);replace BK186:=aM (blk_below (g:=gb186) (o:=.cells #[.int .i64 0,.slice none 0 0] 26 (0,0)) (by (with_reducible repeat (first|refine blk_drewN ?_ _|refine blk_drew ?_|refine blk_alloc ?_ _));refine blk_far ?_ NB186_194.out _;(with_reducible repeat (first|refine blk_drewN ?_ _|refine blk_drew ?_|refine blk_alloc ?_ _));exact BK186.out) hb);replace BK191:=aM (blk_below (g:=gb191) (o:=.cells #[.int .i64 t187,.slice (some ad193) x192001_1.length co99] 26 (0,0)) (by (with_reducible repeat (first|refine blk_drewN ?_ _|refine blk_drew ?_|refine blk_alloc ?_ _));refine blk_far ?_ NB191_194.out _;(with_reducible repeat (first|refine blk_drewN ?_ _|refine blk_drew ?_|refine blk_alloc ?_ _));exact BK191.out) hb);replace HR193_0:=aM (Kd.C_below ((Kd.R_reads' (by (with_reducible repeat (first|apply Kd.R_alloc|apply Kd.R_drewN|apply Kd.R_drew));exact (Kd.R_mono (Kd.R_far (p:=⟨gb194,0,none⟩) (Kd.R_types HL193_0.out BK194.out (by decide)) (fun _ hk=>hk.2) (.slice A193_0 ((rd_T35 x192001_1 x23_1).f0).length c193_0)) (fun _ h_=>h_.1)))).2.2) hb);replace BK194:=aM (blk_below (g:=gb194) (o:=.cells #[.slice A193_0 ((rd_T35 x192001_1 x23_1).f0).length c193_0] 35 (0,0)) (by (with_reducible repeat (first|refine blk_drewN ?_ _|refine blk_drew ?_|refine blk_alloc ?_ _));refine blk_put (cs:=#[.slice none 0 0]) ?_ 0 _ rfl;(with_reducible repeat (first|refine blk_drewN ?_ _|refine blk_drew ?_|refine blk_alloc ?_ _));exact BK194.out) hb);replace HB:=bs hb;clear HL193_0;(try clear hb);have hcz106_0:w105.cell? ⟨gb191,0,none⟩=some (.int .i64 t187):=(blk_cell BK191.out 0).trans rfl;have hcz106_1:w105.cell? ⟨gb191,1,none⟩=some (.slice (some ad193) x192001_1.length co99):=(blk_cell BK191.out 1).trans rfl;have hfz106_0:=blk_frozen BK191.out 0;have hfz106_1:=blk_frozen BK191.out 1;have hcz107_0:w105.cell? ⟨gb194,0,none⟩=some (.slice A193_0 ((rd_T35 x192001_1 x23_1).f0).length c193_0):=(blk_cell BK194.out 0).trans rfl;have hfz107_0:=blk_frozen BK194.out 0)|((with_reducible refine gate_callee (f:=46) rfl ?_);refine goesL_ (some 56) rfl rfl Try.func46 (by kernel_rfl) rfl #[.agg #[.int .i64 t187,.slice (some ad193) x192001_1.length co99],.agg #[.slice A193_0 ((rd_T35 x192001_1 x23_1).f0).length c193_0],.slice A1 l1.length c1] rfl (by (try simp only [List.map_toArray,List.map_cons,List.map_nil]);first|done|rfl|(simp only [List.length_drop,List.length_take];rfl)) ?_;(with_reducible refine (impl_heavy.calls k1 t187 _ _ x192001_1 _ _ ((rd_T35 x192001_1 x23_1).f0) _ _ l1 t214 t215 _ ?side1 ?side2 ?side3 ?side4 ?side5 ?side6 A74.out).mono ?_);(case side1=>exact sS HO_192001);(case side2=>exact (Kd.S_reads' HO_192001.out).2.1);(case side3=>repeat (exact (by repeat ((with_reducible exact HR193_0.out)))));(case side4=>exact HC193_0.out);(case side5=>exact rC HR1);(case side6=>exact HC1.out);rintro e w108 ⟨rfl,hb⟩;refine ⟨_,rfl,?_⟩;replace HO_192001:=sB HO_192001 hb;replace BK185:=bB BK185 hb;replace BK186:=bB BK186 hb;replace BK191:=bB BK191 hb;replace HB:=bs hb;clear HR193_0 BK194;(try clear hb)))
          go_roundg k1
          case measure=>have:=HK1.out;omega
          case rel=>exact ⟨(x7_1),(wrap64 (x23_1+1)),(x192001_1),(.slice (some ad193) x192001_1.length co99),rd_,rd_,H',⟨by have:=HK1.out;omega⟩,⟨by (with_reducible repeat (first|apply Kd.S_alloc|apply Kd.S_drewN|apply Kd.S_drew));exact Kd.S_mono HO_192001.out (fun _ hk=>trivial)⟩,⟨bk BK185⟩,⟨bk BK186⟩,⟨bk BK191⟩,⟨be⟩⟩
        ·rw [if_neg c75] at H
         have c75b0:decide (0≤t214)=false:=decide_eq_false c75
         clear c75
         have H':=Aside0.mk H
         clear H
         have hnb109:=NB191_185.out
         have hnc109:=NB185_191.out
         have hnb110:=NB191_186.out
         have hnc110:=NB186_191.out
         have hcz111_0:wr.cell? ⟨gb191,0,none⟩=some (.int .i64 t187):=(blk_cell BK191.out 0).trans rfl
         have hcz111_1:wr.cell? ⟨gb191,1,none⟩=some (u192001):=(blk_cell BK191.out 1).trans rfl
         have hfz111_0:=blk_frozen BK191.out 0
         have hfz111_1:=blk_frozen BK191.out 1
         obtain ⟨Ao112,co112,eo112⟩:=Kd.S_slice HO_192001.out
         subst eo112
         have p193:0≤(x23_1:Int):=of_decide_eq_true (by first|(with_reducible assumption)|assumption)
         have q193:x23_1 < (x192001_1.length:Int):=of_decide_eq_true (by first|(with_reducible assumption)|assumption)
         obtain ⟨ad193,A193_0,c193_0,e193,hx193_0,hl193_0,hi193_0⟩:=at_T35 (Kd.S_reads' HO_192001.out).2.2 x23_1 p193 q193
         cases e193
         obtain ⟨ce193,hce193,hMe193,hcc193⟩:=Kd.S_get HO_192001.out z35 x23_1 p193 (by first|exact q193|exact of_decide_eq_true (by first|(with_reducible assumption)|assumption)|(have e_:=(Kd.S_reads' HO_192001.out).1;omega))
         obtain ⟨ve193_0,rfl,ge193_0⟩:=k35_openM hMe193
         have hv193_0:=hcc193 0 _ rfl
         rw [Nat.add_zero,show (k35).sz=1 from rfl,Nat.mul_one] at hv193_0
         replace hv193_0:=Option.some.inj (hv193_0.symm.trans hx193_0)
         rw [hv193_0] at ge193_0
         have HL193_0:=aM (show Kd.R (Kd.int .i64) 3 _ _ _ _ ((rd_T35 x192001_1 x23_1).f0) from ge193_0)
         clear hv193_0 ge193_0
         have HX193_0:=aM hx193_0
         clear hcc193 hce193
         have HR193_0:=aM hi193_0
         have HC193_0:=aM hl193_0
         clear hi193_0 hl193_0
         replace p193:=eq_true p193
         replace q193:=eq_true q193
         go_wp2_with (first|((with_reducible refine gate_dst (N:=9) rfl ?_);refine box_event ?hg (N:=9) ?hd (cs:=#[.slice none 0 0]) (t:=35) ?hr ?_;(case hd=>rfl);(case hg=>rfl);(case hr=>first|(go_simp;done)|(go_simp;rfl));intro gb194 hg w113 hbox hb;replace HO_192001:=aM (Kd.S_below (Kd.S_elderB (rS HO_192001) gb194 (Nat.le_of_eq hg.symm)) hb);replace HL193_0:=rB HL193_0 hb;replace HR193_0:=aM (Kd.C_below (by repeat ((with_reducible exact HR193_0.out))) hb);have BK194:=aM (hbox);have GW194:=gS w hg;have GE194:=gS w hg;replace HB:=bs hb;have NB185_194:=nL hg BK185;have NB194_185:=nG hg BK185;replace BK185:=bB BK185 hb;have NB186_194:=nL hg BK186;have NB194_186:=nG hg BK186;replace BK186:=bB BK186 hb;have NB191_194:=nL hg BK191;have NB194_191:=nG hg BK191;replace BK191:=bB BK191 hb;clear HX193_0;clear hb hbox hg;have hnb114:=NB194_185.out;have hnc114:=NB185_194.out;have hnb115:=NB194_186.out;have hnc115:=NB186_194.out;have hnb116:=NB194_191.out;have hnc116:=NB191_194.out;have hcz117_0:w113.cell? ⟨gb194,0,none⟩=some (.slice none 0 0):=(blk_cell BK194.out 0).trans rfl;have hfz117_0:=blk_frozen BK194.out 0)|((with_reducible refine gate_callee (f:=43) rfl ?_);refine goesL_ (some 33) rfl rfl Try.func43 (by kernel_rfl) rfl #[.agg #[.slice A193_0 ((rd_T35 x192001_1 x23_1).f0).length c193_0],.slice A1 l1.length c1] rfl (by (try simp only [List.map_toArray,List.map_cons,List.map_nil]);first|done|rfl|(simp only [List.length_drop,List.length_take];rfl)) ?_;(with_reducible refine (impl_lost.calls k1 _ _ ((rd_T35 x192001_1 x23_1).f0) _ _ l1 t195 _ ?side1 ?side2 ?side3 ?side4 A22.out).mono ?_);(case side1=>repeat (exact ((Kd.R_reads' (by (with_reducible repeat (first|apply Kd.R_alloc|apply Kd.R_drewN|apply Kd.R_drew));exact (Kd.R_mono (Kd.R_far (p:=⟨gb194,0,none⟩) (Kd.R_types HL193_0.out BK194.out (by decide)) (fun _ hk=>hk.2) (.slice A193_0 ((rd_T35 x192001_1 x23_1).f0).length c193_0)) (fun _ h_=>h_.1)))).2.2)));(case side2=>exact HC193_0.out);(case side3=>exact Kd.C_below HR1.out be);(case side4=>exact HC1.out);rintro e w118 ⟨rfl,hb⟩;refine ⟨_,rfl,?_⟩;replace HO_192001:=aM (Kd.S_below ((by (with_reducible repeat (first|apply Kd.S_alloc|apply Kd.S_drewN|apply Kd.S_drew));exact (Kd.S_mono (Kd.S_far (p:=⟨gb194,0,none⟩) (Kd.S_mono HO_192001.out (fun k_ hk=>(⟨hk,hk.2⟩:_∧k_ ≠ gb194))) (fun _ hk=>hk.2) (.slice A193_0 ((rd_T35 x192001_1 x23_1).f0).length c193_0)) (fun _ h_=>h_.1)))) hb);replace BK185:=aM (blk_below (g:=gb185) (o:=.cells #[.int .i64 a0_0,.slice A0_1 l0_1.length c0_1] 26 (0,0)) (by (with_reducible repeat (first|refine blk_drewN ?_ _|refine blk_drew ?_|refine blk_alloc ?_ _));refine blk_far ?_ NB185_194.out _;(with_reducible repeat (first|refine blk_drewN ?_ _|refine blk_drew ?_|refine blk_alloc ?_ _));exact BK185.out) hb);replace BK186:=aM (blk_below (g:=gb186) (o:=.cells #[.int .i64 0,.slice none 0 0] 26 (0,0)) (by (with_reducible repeat (first|refine blk_drewN ?_ _|refine blk_drew ?_|refine blk_alloc ?_ _));refine blk_far ?_ NB186_194.out _;(with_reducible repeat (first|refine blk_drewN ?_ _|refine blk_drew ?_|refine blk_alloc ?_ _));exact BK186.out) hb);replace BK191:=aM (blk_below (g:=gb191) (o:=.cells #[.int .i64 t187,.slice (some ad193) x192001_1.length co112] 26 (0,0)) (by (with_reducible repeat (first|refine blk_drewN ?_ _|refine blk_drew ?_|refine blk_alloc ?_ _));refine blk_far ?_ NB191_194.out _;(with_reducible repeat (first|refine blk_drewN ?_ _|refine blk_drew ?_|refine blk_alloc ?_ _));exact BK191.out) hb);replace HR193_0:=aM (Kd.C_below ((Kd.R_reads' (by (with_reducible repeat (first|apply Kd.R_alloc|apply Kd.R_drewN|apply Kd.R_drew));exact (Kd.R_mono (Kd.R_far (p:=⟨gb194,0,none⟩) (Kd.R_types HL193_0.out BK194.out (by decide)) (fun _ hk=>hk.2) (.slice A193_0 ((rd_T35 x192001_1 x23_1).f0).length c193_0)) (fun _ h_=>h_.1)))).2.2) hb);replace BK194:=aM (blk_below (g:=gb194) (o:=.cells #[.slice A193_0 ((rd_T35 x192001_1 x23_1).f0).length c193_0] 35 (0,0)) (by (with_reducible repeat (first|refine blk_drewN ?_ _|refine blk_drew ?_|refine blk_alloc ?_ _));refine blk_put (cs:=#[.slice none 0 0]) ?_ 0 _ rfl;(with_reducible repeat (first|refine blk_drewN ?_ _|refine blk_drew ?_|refine blk_alloc ?_ _));exact BK194.out) hb);replace HB:=bs hb;clear HL193_0;(try clear hb);have hcz119_0:w118.cell? ⟨gb191,0,none⟩=some (.int .i64 t187):=(blk_cell BK191.out 0).trans rfl;have hcz119_1:w118.cell? ⟨gb191,1,none⟩=some (.slice (some ad193) x192001_1.length co112):=(blk_cell BK191.out 1).trans rfl;have hfz119_0:=blk_frozen BK191.out 0;have hfz119_1:=blk_frozen BK191.out 1;have hcz120_0:w118.cell? ⟨gb194,0,none⟩=some (.slice A193_0 ((rd_T35 x192001_1 x23_1).f0).length c193_0):=(blk_cell BK194.out 0).trans rfl;have hfz120_0:=blk_frozen BK194.out 0)|((with_reducible refine gate_callee (f:=46) rfl ?_);refine goesL_ (some 56) rfl rfl Try.func46 (by kernel_rfl) rfl #[.agg #[.int .i64 t187,.slice (some ad193) x192001_1.length co112],.agg #[.slice A193_0 ((rd_T35 x192001_1 x23_1).f0).length c193_0],.slice A1 l1.length c1] rfl (by (try simp only [List.map_toArray,List.map_cons,List.map_nil]);first|done|rfl|(simp only [List.length_drop,List.length_take];rfl)) ?_;(with_reducible refine (impl_heavy.calls k1 t187 _ _ x192001_1 _ _ ((rd_T35 x192001_1 x23_1).f0) _ _ l1 t214 t215 _ ?side1 ?side2 ?side3 ?side4 ?side5 ?side6 A74.out).mono ?_);(case side1=>exact sS HO_192001);(case side2=>exact (Kd.S_reads' HO_192001.out).2.1);(case side3=>repeat (exact (by repeat ((with_reducible exact HR193_0.out)))));(case side4=>exact HC193_0.out);(case side5=>exact rC HR1);(case side6=>exact HC1.out);rintro e w121 ⟨rfl,hb⟩;refine ⟨_,rfl,?_⟩;replace HO_192001:=sB HO_192001 hb;replace BK185:=bB BK185 hb;replace BK186:=bB BK186 hb;replace BK191:=bB BK191 hb;replace HB:=bs hb;clear HR193_0 BK194;(try clear hb)))
         go_roundg k1
         case measure=>have:=HK1.out;omega
         case rel=>exact ⟨(x7_1),(wrap64 (x23_1+1)),(x192001_1),(.slice (some ad193) x192001_1.length co112),rd_,rd_,H',⟨by have:=HK1.out;omega⟩,⟨by (with_reducible repeat (first|apply Kd.S_alloc|apply Kd.S_drewN|apply Kd.S_drew));exact Kd.S_mono HO_192001.out (fun _ hk=>trivial)⟩,⟨bk BK185⟩,⟨bk BK186⟩,⟨bk BK191⟩,⟨be⟩⟩
      ·rw [if_neg c21] at H
       exact absurd H (by simp)
     ·rw [if_neg c20] at H
      exact absurd H (by simp)
    ·rw [if_neg c19] at H
     have c19b0:decide (x23_1 < (t188.length:Int))=false:=decide_eq_false c19
     clear c19
     simp only [Option.some.injEq,Prod.mk.injEq] at H
     obtain ⟨rfl,rfl,rfl⟩:=H
     have hnb122:=NB191_185.out
     have hnc122:=NB185_191.out
     have hnb123:=NB191_186.out
     have hnc123:=NB186_191.out
     have hcz124_0:wr.cell? ⟨gb191,0,none⟩=some (.int .i64 t187):=(blk_cell BK191.out 0).trans rfl
     have hcz124_1:wr.cell? ⟨gb191,1,none⟩=some (u192001):=(blk_cell BK191.out 1).trans rfl
     have hfz124_0:=blk_frozen BK191.out 0
     have hfz124_1:=blk_frozen BK191.out 1
     have hnb125:=NB186_185.out
     have hnc125:=NB185_186.out
     have hcz126_0:wr.cell? ⟨gb186,0,none⟩=some (.int .i64 0):=(blk_cell BK186.out 0).trans rfl
     have hcz126_1:wr.cell? ⟨gb186,1,none⟩=some (.slice none 0 0):=(blk_cell BK186.out 1).trans rfl
     have hfz126_0:=blk_frozen BK186.out 0
     have hfz126_1:=blk_frozen BK186.out 1
     obtain ⟨Ao127,co127,eo127⟩:=Kd.S_slice HO_192001.out
     subst eo127
     go_wp2
     refine bodyPost_ret (results_ct rfl _ _ gb186 26 #[.int .i64 t187,.slice Ao127 x192001_1.length co127] (0,0) _ rfl (by (with_reducible repeat (first|refine blk_drewN ?_ _|refine blk_drew ?_|refine blk_alloc ?_ _));refine blk_put (cs:=#[.int .i64 t187,.slice none 0 0]) ?_ 1 _ rfl;(with_reducible repeat (first|refine blk_drewN ?_ _|refine blk_drew ?_|refine blk_alloc ?_ _));refine blk_put (cs:=#[.int .i64 0,.slice none 0 0]) ?_ 0 _ rfl;(with_reducible repeat (first|refine blk_drewN ?_ _|refine blk_drew ?_|refine blk_alloc ?_ _));exact BK186.out) Try.underlying26 rfl (by kernel_rfl)) rfl ?_
     exact ⟨_,rz,by (with_reducible repeat (first|apply Kd.S_alloc|apply Kd.S_drewN|apply Kd.S_drew));exact Kd.S_mono (Kd.S_far (p:=⟨gb186,1,none⟩) (Kd.S_far (p:=⟨gb186,0,none⟩) (Kd.S_types HO_192001.out BK186.out (by decide)) (fun _ hk=>hk.2) (.int .i64 t187)) (fun _ hk=>hk.2) (.slice Ao127 x192001_1.length co127)) (fun _ hk=>trivial),be⟩
 ·replace c5:=Bool.eq_false_iff.mpr c5
  subst c5
  replace H:=(if_neg (show ¬ (false=true) by decide)).symm.trans H
  simp only [Option.some.injEq,Prod.mk.injEq] at H
  obtain ⟨rfl,rfl,rfl⟩:=H
  go_enter Try.func10,Try.ntmps10
  go_wp2_with (first|((with_reducible refine gate_dst (N:=2) rfl ?_);refine box_event ?hg (N:=2) ?hd (cs:=#[.int .i64 a0_0,.slice A0_1 l0_1.length c0_1]) (t:=26) ?hr ?_;(case hd=>rfl);(case hg=>rfl);(case hr=>first|(go_simp;done)|(go_simp;rfl));intro gb185 hg w128 hbox hb;have BK185:=aM (hbox);have GW185:=gS w hg;have GE185:=gS w hg;replace HB:=bs hb;clear hb hbox hg)|((with_reducible refine gate_dst (N:=4) rfl ?_);refine box_event ?hg (N:=4) ?hd (cs:=#[.int .i64 0,.slice none 0 0]) (t:=26) ?hr ?_;(case hd=>rfl);(case hg=>rfl);(case hr=>first|(go_simp;done)|(go_simp;rfl));intro gb186 hg w129 hbox hb;have BK186:=aM (hbox);have GW186:=gS w hg;have GE186:=gS w hg;replace HB:=bs hb;have NB185_186:=nL hg BK185;have NB186_185:=nG hg BK185;replace BK185:=bB BK185 hb;clear hb hbox hg;have hnb130:=NB185_186.out;have hnc130:=NB186_185.out;have hcz131_0:w129.cell? ⟨gb185,0,none⟩=some (.int .i64 a0_0):=(blk_cell BK185.out 0).trans rfl;have hcz131_1:w129.cell? ⟨gb185,1,none⟩=some (.slice A0_1 l0_1.length c0_1):=(blk_cell BK185.out 1).trans rfl;have hfz131_0:=blk_frozen BK185.out 0;have hfz131_1:=blk_frozen BK185.out 1)|((with_reducible refine gate_callee (f:=41) rfl ?_);refine goesL_ (some 14) rfl rfl Try.func41 (by kernel_rfl) rfl #[.agg #[.int .i64 a0_0,.slice A0_1 l0_1.length c0_1]] rfl (by (try simp only [List.map_toArray,List.map_cons,List.map_nil]);first|done|rfl|(simp only [List.length_drop,List.length_take];rfl)) ?_;(with_reducible refine (impl_copyRing.calls k a0_0 _ _ l0_1 t187 t188 _ ?side1 ?side2 A3.out).mono ?_);(case side1=>exact rC HR0_1);(case side2=>exact HC0_1.out);rintro e w132 ⟨v189,rfl,ho0,hb⟩;refine ⟨_,rfl,?_⟩;have HO190:=aM (Kd.S_lower ho0 (below_size be));replace BK185:=bB BK185 hb;replace BK186:=bB BK186 hb;replace HB:=bs hb;(try clear hb);(try clear ho0))|((with_reducible refine gate_dst (N:=6) rfl ?_);refine box_event ?hg (N:=6) ?hd (cs:=#[.int .i64 0,.slice none 0 0]) (t:=26) ?hr ?_;(case hd=>rfl);(case hg=>rfl);(case hr=>first|(go_simp;done)|(go_simp;rfl));intro gb191 hg w133 hbox hb;replace HO190:=sB HO190 hb;have BK191:=aM (hbox);have GW191:=gS w hg;have GE191:=gS w hg;replace HB:=bs hb;have NB185_191:=nL hg BK185;have NB191_185:=nG hg BK185;replace BK185:=bB BK185 hb;have NB186_191:=nL hg BK186;have NB191_186:=nG hg BK186;replace BK186:=bB BK186 hb;clear hb hbox hg;have hnb134:=NB191_185.out;have hnc134:=NB185_191.out;have hnb135:=NB191_186.out;have hnc135:=NB186_191.out;have hcz136_0:w133.cell? ⟨gb191,0,none⟩=some (.int .i64 0):=(blk_cell BK191.out 0).trans rfl;have hcz136_1:w133.cell? ⟨gb191,1,none⟩=some (.slice none 0 0):=(blk_cell BK191.out 1).trans rfl;have hfz136_0:=blk_frozen BK191.out 0;have hfz136_1:=blk_frozen BK191.out 1;obtain ⟨Ao137,co137,eo137⟩:=Kd.S_slice HO190.out;subst eo137;have hcz138_0:w133.cell? ⟨gb185,0,none⟩=some (.int .i64 a0_0):=(blk_cell BK185.out 0).trans rfl;have hcz138_1:w133.cell? ⟨gb185,1,none⟩=some (.slice A0_1 l0_1.length c0_1):=(blk_cell BK185.out 1).trans rfl;have hfz138_0:=blk_frozen BK185.out 0;have hfz138_1:=blk_frozen BK185.out 1)|((with_reducible refine gate_callee (f:=42) rfl ?_);refine goesL_ (some 17) rfl rfl Try.func42 (by kernel_rfl) rfl #[.agg #[.int .i64 a0_0,.slice A0_1 l0_1.length c0_1],.slice A1 l1.length c1] rfl (by (try simp only [List.map_toArray,List.map_cons,List.map_nil]);first|done|rfl|(simp only [List.length_drop,List.length_take];rfl)) ?_;(with_reducible refine (impl_canMove.calls k a0_0 _ _ l0_1 _ _ l1 false _ ?side1 ?side2 ?side3 ?side4 A4.out).mono ?_);(case side1=>exact Kd.C_below HR0_1.out be);(case side2=>exact HC0_1.out);(case side3=>exact Kd.C_below HR1.out be);(case side4=>exact HC1.out);rintro e w139 ⟨rfl,hb⟩;refine ⟨_,rfl,?_⟩;replace HO190:=aM (Kd.S_below ((by (with_reducible repeat (first|apply Kd.S_alloc|apply Kd.S_drewN|apply Kd.S_drew));exact (Kd.S_mono (Kd.S_far (p:=⟨gb191,1,none⟩) (Kd.S_far (p:=⟨gb191,0,none⟩) (Kd.S_types HO190.out BK191.out (by decide)) (fun _ hk=>hk.2) (.int .i64 t187)) (fun _ hk=>hk.2) (.slice Ao137 t188.length co137)) (fun _ h_=>h_.1)))) hb);replace BK186:=aM (blk_below (g:=gb186) (o:=.cells #[.int .i64 0,.slice none 0 0] 26 (0,0)) (by (with_reducible repeat (first|refine blk_drewN ?_ _|refine blk_drew ?_|refine blk_alloc ?_ _));refine blk_far ?_ NB186_191.out _;(with_reducible repeat (first|refine blk_drewN ?_ _|refine blk_drew ?_|refine blk_alloc ?_ _));refine blk_far ?_ NB186_191.out _;(with_reducible repeat (first|refine blk_drewN ?_ _|refine blk_drew ?_|refine blk_alloc ?_ _));exact BK186.out) hb);replace BK191:=aM (blk_below (g:=gb191) (o:=.cells #[.int .i64 t187,.slice Ao137 t188.length co137] 26 (0,0)) (by (with_reducible repeat (first|refine blk_drewN ?_ _|refine blk_drew ?_|refine blk_alloc ?_ _));refine blk_put (cs:=#[.int .i64 t187,.slice none 0 0]) ?_ 1 _ rfl;(with_reducible repeat (first|refine blk_drewN ?_ _|refine blk_drew ?_|refine blk_alloc ?_ _));refine blk_put (cs:=#[.int .i64 0,.slice none 0 0]) ?_ 0 _ rfl;(with_reducible repeat (first|refine blk_drewN ?_ _|refine blk_drew ?_|refine blk_alloc ?_ _));exact BK191.out) hb);replace HB:=bs hb;clear BK185;(try clear hb);have hcz140_0:w139.cell? ⟨gb191,0,none⟩=some (.int .i64 t187):=(blk_cell BK191.out 0).trans rfl;have hcz140_1:w139.cell? ⟨gb191,1,none⟩=some (.slice Ao137 t188.length co137):=(blk_cell BK191.out 1).trans rfl;have hfz140_0:=blk_frozen BK191.out 0;have hfz140_1:=blk_frozen BK191.out 1;have hcz141_0:w139.cell? ⟨gb186,0,none⟩=some (.int .i64 0):=(blk_cell BK186.out 0).trans rfl;have hcz141_1:w139.cell? ⟨gb186,1,none⟩=some (.slice none 0 0):=(blk_cell BK186.out 1).trans rfl;have hfz141_0:=blk_frozen BK186.out 0;have hfz141_1:=blk_frozen BK186.out 1))
  refine bodyPost_ret (results_ct rfl _ _ gb186 26 #[.int .i64 t187,.slice Ao137 t188.length co137] (0,0) _ rfl (by (with_reducible repeat (first|refine blk_drewN ?_ _|refine blk_drew ?_|refine blk_alloc ?_ _));refine blk_put (cs:=#[.int .i64 t187,.slice none 0 0]) ?_ 1 _ rfl;(with_reducible repeat (first|refine blk_drewN ?_ _|refine blk_drew ?_|refine blk_alloc ?_ _));refine blk_put (cs:=#[.int .i64 0,.slice none 0 0]) ?_ 0 _ rfl;(with_reducible repeat (first|refine blk_drewN ?_ _|refine blk_drew ?_|refine blk_alloc ?_ _));exact BK186.out) Try.underlying26 rfl (by kernel_rfl)) rfl ?_
  exact ⟨_,rz,by (with_reducible repeat (first|apply Kd.S_alloc|apply Kd.S_drewN|apply Kd.S_drew));exact Kd.S_mono (Kd.S_far (p:=⟨gb186,1,none⟩) (Kd.S_far (p:=⟨gb186,0,none⟩) (Kd.S_types HO190.out BK186.out (by decide)) (fun _ hk=>hk.2) (.int .i64 t187)) (fun _ hk=>hk.2) (.slice Ao137 t188.length co137)) (fun _ hk=>trivial),be⟩
def spec_l5Copy.l0:Nat→Int→Int→List (S35)→Int→List (S35)→Option (Int × (List (S35)))
 | 0,_,_,_,_,_=>none
 | k+1,x4,x222000,x222001,x224000,x224001=>if x4 < (x222001.length:Int) then ((some (([]:List Int):List Int)).bind fun y224=>(if 0≤x4 then (if y224.length+((rd_T35 x222001 x4).f0).length < 17592186044416 then (if x224001.length < 5864062014805 then (spec_l5Copy.l0 k (wrap64 (x4+1)) x222000 x222001 x224000 (x224001 ++ [(⟨(y224 ++ ((rd_T35 x222001 x4).f0))⟩:S35)])) else (none)) else (none)) else (none))) else (some (x224000,x224001))
def spec_l5Copy.f (k:Nat) (a0_0:Int) (l0_1:List (S35)):Option (Int × (List (S35))):=spec_l5Copy.l0 k 0 a0_0 l0_1 a0_0 ([]:List (S35))
def spec_l5Copy.T5:Bool × List (List Nat × List Nat):=(true,[([],[]),([0],[0]),([],[]),([],[]),([3],[3]),([],[]),([4,5],[4,5]),([6],[6]),([7],[7]),([2,8],[2,8]),([9],[9]),([10],[10]),([1,11,9],[1,11]),([0,1,2,3,4,5,6,7,8,9,10,11,12],[]),([13,12,12,0,1,2,3,4,5,6,7,8,9,10,11,12],[12,13])])
def spec_l5Copy.B5:List Nat:=[0,1,0,0,8,0,56,120,248,508,1020,2044,4095,8191,16383]
theorem spec_l5Copy.tab5:rtab .any (opsOf Try.f47 5)=spec_l5Copy.T5:=by kernel_rfl
theorem spec_l5Copy.bits5:waitsOk spec_l5Copy.T5.2 spec_l5Copy.B5=true:=by kernel_rfl
set_option maxHeartbeats 8000000 in
set_option maxRecDepth 100000 in
theorem spec_l5Copy.calls (k:Nat) (a0_0:Int) (A0_1:Option Addr) (c0_1:Nat) (l0_1:List (S35)) (r1:Int) (r2:List (S35)) (w:World) (hr0_1:Kd.C k35 w A0_1 l0_1.length l0_1) (hc0_1:l0_1.length≤c0_1) (h:spec_l5Copy.f k a0_0 l0_1=some (r1,r2)) :
  Calls Try.prog 47 #[.agg #[.int .i64 a0_0,.slice A0_1 l0_1.length c0_1]] w fun e w'=>∃ v1_:Value,e = .returned (.agg #[.int .i64 r1,v1_])∧Kd.S k35 35 w' w.heap.size (fun _=>True) v1_ r2∧Below w.heap.size w w':=by
 have hu26:=Try.underlying26
 have hu35:=Try.underlying35
 have HR0_1:=aM hr0_1
 have HC0_1:=aM hc0_1
 clear hr0_1 hc0_1
 have HB:=aM (Below.refl w.heap.size w)
 have H:(spec_l5Copy.l0 k 0 a0_0 l0_1 a0_0 ([]:List (S35)))=some (r1,r2):=h
 clear h
 have H':=Aside0.mk H
 clear H
 go_enter Try.func47,Try.ntmps47
 go_wp2_with (first|((with_reducible refine gate_dst (N:=1) rfl ?_);refine box_event ?hg (N:=1) ?hd (cs:=#[.int .i64 a0_0,.slice A0_1 l0_1.length c0_1]) (t:=26) ?hr ?_;(case hd=>rfl);(case hg=>rfl);(case hr=>first|(go_simp;done)|(go_simp;rfl));intro gb221 hg w2 hbox hb;have BK221:=aM (hbox);have GW221:=gS w hg;have GE221:=gS w hg;replace HB:=bs hb;clear hb hbox hg)|((with_reducible refine gate_dst (N:=2) rfl ?_);refine box_event ?hg (N:=2) ?hd (cs:=#[.int .i64 0,.slice none 0 0]) (t:=26) ?hr ?_;(case hd=>rfl);(case hg=>rfl);(case hr=>first|(go_simp;done)|(go_simp;rfl));intro gb222 hg w3 hbox hb;have BK222:=aM (hbox);have GW222:=gS w hg;have GE222:=gS w hg;replace HB:=bs hb;have NB221_222:=nL hg BK221;have NB222_221:=nG hg BK221;replace BK221:=bB BK221 hb;clear hb hbox hg;have hnb4:=NB221_222.out;have hnc4:=NB222_221.out;have hcz5_0:w3.cell? ⟨gb221,0,none⟩=some (.int .i64 a0_0):=(blk_cell BK221.out 0).trans rfl;have hcz5_1:w3.cell? ⟨gb221,1,none⟩=some (.slice A0_1 l0_1.length c0_1):=(blk_cell BK221.out 1).trans rfl;have hfz5_0:=blk_frozen BK221.out 0;have hfz5_1:=blk_frozen BK221.out 1)|((with_reducible refine gate_dst (N:=3) rfl ?_);refine box_event ?hg (N:=3) ?hd (cs:=#[.int .i64 0,.slice none 0 0]) (t:=26) ?hr ?_;(case hd=>rfl);(case hg=>rfl);(case hr=>first|(go_simp;done)|(go_simp;rfl));intro gb223 hg w6 hbox hb;have BK223:=aM (hbox);have GW223:=gS w hg;have GE223:=gS w hg;replace HB:=bs hb;have NB221_223:=nL hg BK221;have NB223_221:=nG hg BK221;replace BK221:=bB BK221 hb;have NB222_223:=nL hg BK222;have NB223_222:=nG hg BK222;replace BK222:=bB BK222 hb;clear hb hbox hg;have hnb7:=NB223_221.out;have hnc7:=NB221_223.out;have hnb8:=NB223_222.out;have hnc8:=NB222_223.out;have hcz9_0:w6.cell? ⟨gb223,0,none⟩=some (.int .i64 0):=(blk_cell BK223.out 0).trans rfl;have hcz9_1:w6.cell? ⟨gb223,1,none⟩=some (.slice none 0 0):=(blk_cell BK223.out 1).trans rfl;have hfz9_0:=blk_frozen BK223.out 0;have hfz9_1:=blk_frozen BK223.out 1))
 go_loopg [4] k (fun kq v4 w'=>∃ (x4_1:Int) (x224001_1:List (S35)) (u224001:Value),v4 = .int .i64 x4_1∧Aside0 (spec_l5Copy.l0 kq x4_1 a0_0 l0_1 a0_0 x224001_1=some (r1,r2))∧Aside0 (kq≤k)∧Aside0 (Kd.S k35 35 w' w.heap.size (fun _=>True) u224001 x224001_1)∧Aside0 (w'.heap[gb221]?=some (.cells #[.int .i64 a0_0,(.slice A0_1 l0_1.length c0_1)] 26 (0,0)))∧Aside0 (w'.heap[gb222]?=some (.cells #[.int .i64 0,(.slice none 0 0)] 26 (0,0)))∧Aside0 (w'.heap[gb223]?=some (.cells #[.int .i64 a0_0,u224001] 26 (0,0)))∧Aside0 (Below w.heap.size w w'))
 case atStart=>exact ⟨(0),(([]:List (S35))),(.slice none 0 0),rd_,H',⟨Nat.le_refl _⟩,⟨by first|exact Kd.S_nil _ _ _ _ _|exact Kd.N_nil _ _ _ _ _|exact Kd.V_nil _ _ _ _ _|exact Kd.Q_nil _ _ _ _ _|exact Kd.R_nil _ _ _ _ _⟩,⟨by (with_reducible repeat (first|refine blk_drewN ?_ _|refine blk_drew ?_|refine blk_alloc ?_ _));refine blk_far ?_ NB221_223.out _;(with_reducible repeat (first|refine blk_drewN ?_ _|refine blk_drew ?_|refine blk_alloc ?_ _));refine blk_far ?_ NB221_223.out _;(with_reducible repeat (first|refine blk_drewN ?_ _|refine blk_drew ?_|refine blk_alloc ?_ _));exact BK221.out⟩,⟨by (with_reducible repeat (first|refine blk_drewN ?_ _|refine blk_drew ?_|refine blk_alloc ?_ _));refine blk_far ?_ NB222_223.out _;(with_reducible repeat (first|refine blk_drewN ?_ _|refine blk_drew ?_|refine blk_alloc ?_ _));refine blk_far ?_ NB222_223.out _;(with_reducible repeat (first|refine blk_drewN ?_ _|refine blk_drew ?_|refine blk_alloc ?_ _));exact BK222.out⟩,⟨by (with_reducible repeat (first|refine blk_drewN ?_ _|refine blk_drew ?_|refine blk_alloc ?_ _));refine blk_put (cs:=#[.int .i64 a0_0,.slice none 0 0]) ?_ 1 _ rfl;(with_reducible repeat (first|refine blk_drewN ?_ _|refine blk_drew ?_|refine blk_alloc ?_ _));refine blk_put (cs:=#[.int .i64 0,.slice none 0 0]) ?_ 0 _ rfl;(with_reducible repeat (first|refine blk_drewN ?_ _|refine blk_drew ?_|refine blk_alloc ?_ _));exact BK223.out⟩,⟨be⟩⟩
 case round=>
  clear H'
  try clear hcz5_0
  try clear hcz5_1
  try clear hcz9_0
  try clear hcz9_1
  try clear hfz5_0
  try clear hfz5_1
  try clear hfz9_0
  try clear hfz9_1
  obtain ⟨x4_1,x224001_1,u224001,rfl,HA,HK1,HO_224001,BK221,BK222,BK223,HB⟩:=hrel
  cases gk with
  | zero=>exact absurd HA.out (by simp [spec_l5Copy.l0])
  | succ k1=>
   have H:=HA.out
   clear HA
   simp only [spec_l5Copy.l0] at H
   by_cases c10:x4_1 < (l0_1.length:Int)
   ·rw [if_pos c10] at H
    have c10b0:decide (x4_1 < (l0_1.length:Int))=true:=decide_eq_true c10
    clear c10
    obtain ⟨y224,hy224⟩ : ∃ y_:List Int,y_=(([]:List Int)):=⟨_,rfl⟩
    replace H:(if 0≤x4_1 then (if y224.length+((rd_T35 l0_1 x4_1).f0).length < 17592186044416 then (if x224001_1.length < 5864062014805 then (spec_l5Copy.l0 k1 (wrap64 (x4_1+1)) a0_0 l0_1 a0_0 (x224001_1 ++ [(⟨(y224 ++ ((rd_T35 l0_1 x4_1).f0))⟩:S35)])) else (none)) else (none)) else (none))=some (r1,r2):=by first|(rw [hy224];with_reducible exact H)|(have H2_:=(Option.bind_some _ _).symm.trans H;rw [hy224];with_reducible exact H2_)|(have H2_:=(Option.bind_some _ _).symm.trans H;with_reducible exact H2_)|with_reducible exact H|(rw [hy224];exact H)|exact H
    have Ny224:=aM hy224
    clear hy224
    by_cases c11:0≤x4_1
    ·rw [if_pos c11] at H
     have c11b0:decide (0≤x4_1)=true:=decide_eq_true c11
     clear c11
     by_cases c12:y224.length+((rd_T35 l0_1 x4_1).f0).length < 17592186044416
     ·rw [if_pos c12] at H
      have LMc12:=aM c12
      clear c12
      obtain ⟨y228,hy228⟩ : ∃ y_:List Int,y_=(y224 ++ ((rd_T35 l0_1 x4_1).f0)):=⟨_,rfl⟩
      replace H:(if x224001_1.length < 5864062014805 then (spec_l5Copy.l0 k1 (wrap64 (x4_1+1)) a0_0 l0_1 a0_0 (x224001_1 ++ [(⟨y228⟩:S35)])) else (none))=some (r1,r2):=by first|(rw [hy228];with_reducible exact H)|(have H2_:=(Option.bind_some _ _).symm.trans H;rw [hy228];with_reducible exact H2_)|(have H2_:=(Option.bind_some _ _).symm.trans H;with_reducible exact H2_)|with_reducible exact H|(rw [hy228];exact H)|exact H
      have Ny228:=aM hy228
      clear hy228
      by_cases c13:x224001_1.length < 5864062014805
      ·rw [if_pos c13] at H
       have LMc13:=aM c13
       clear c13
       obtain ⟨y231,hy231⟩ : ∃ y_:List (S35),y_=(x224001_1 ++ [(⟨y228⟩:S35)]):=⟨_,rfl⟩
       replace H:(spec_l5Copy.l0 k1 (wrap64 (x4_1+1)) a0_0 l0_1 a0_0 y231)=some (r1,r2):=by first|(rw [hy231];with_reducible exact H)|(have H2_:=(Option.bind_some _ _).symm.trans H;rw [hy231];with_reducible exact H2_)|(have H2_:=(Option.bind_some _ _).symm.trans H;with_reducible exact H2_)|with_reducible exact H|(rw [hy231];exact H)|exact H
       have Ny231:=aM hy231
       clear hy231
       have H':=Aside0.mk H
       clear H
       have hnb14:=NB221_222.out
       have hnc14:=NB222_221.out
       have hnb15:=NB221_223.out
       have hnc15:=NB223_221.out
       have hcz16_0:wr.cell? ⟨gb221,0,none⟩=some (.int .i64 a0_0):=(blk_cell BK221.out 0).trans rfl
       have hcz16_1:wr.cell? ⟨gb221,1,none⟩=some (.slice A0_1 l0_1.length c0_1):=(blk_cell BK221.out 1).trans rfl
       have hfz16_0:=blk_frozen BK221.out 0
       have hfz16_1:=blk_frozen BK221.out 1
       try go_wp2
       replace HO_224001:=aM (Kd.S_drew HO_224001.out);replace BK221:=aM (blk_drew BK221.out);replace BK222:=aM (blk_drew BK222.out);replace BK223:=aM (blk_drew BK223.out);replace HB:=aM (below_drew1 HB.out)
       have p227:0≤(x4_1:Int):=of_decide_eq_true (by first|(with_reducible assumption)|assumption)
       have q227:x4_1 < (l0_1.length:Int):=of_decide_eq_true (by first|(with_reducible assumption)|assumption)
       obtain ⟨ad227,A227_0,c227_0,e227,hx227_0,hl227_0,hi227_0⟩:=at_T35 HR0_1.out x4_1 p227 q227
       have hw227_0:=hx227_0
       cases e227
       replace hx227_0:=(HB.out.cell (World.block_lt_of_cell? w _ hx227_0)).trans hx227_0
       have HR227_0:=aM hi227_0
       have HC227_0:=aM hl227_0
       clear hi227_0 hl227_0
       replace p227:=eq_true p227
       replace q227:=eq_true q227
       refine start_ (n:=15) (S:=fun w'=>w'.cell? ⟨gb223,0,none⟩=some (.int .i64 a0_0)∧w'.cell? ⟨gb223,1,none⟩=some (u224001)∧w'.cell? ⟨gb221,0,none⟩=some (.int .i64 a0_0)∧w'.cell? ⟨gb221,1,none⟩=some (.slice (some ad227) l0_1.length c0_1)∧w'.cell? (ad227.add (x4_1).toNat)=some (.slice A227_0 ((rd_T35 l0_1 x4_1).f0).length c227_0)) (ds:=[14]) (fl 15 0) (by kernel_rfl) rfl rfl ⟨(blk_cell BK223.out 0).trans rfl,(blk_cell BK223.out 1).trans rfl,(blk_cell BK221.out 0).trans rfl,(blk_cell BK221.out 1).trans rfl,((HB.out.cell (World.block_lt_of_cell? w _ hw227_0)).trans hw227_0)⟩ (fun hHeld=>?_);refine with_tabW spec_l5Copy.tab5 spec_l5Copy.bits5 (fun HT_ HW_=>?_)
       generalize wr.drew=w17 at HO_224001 BK221 BK222 BK223 HB HR227_0 hx227_0 hHeld ⊢
       refine pt 0 15 (fl 15 1) HT_ ?_
       refine pt 3 18 (fl 15 9) HT_ ?_
       refine pt 5 20 (fl 15 41) HT_ ?_
       refine tt 1 16 (fl 15 43) HT_ HW_ hHeld ?_
       refine tt 4 19 (fl 15 59) HT_ HW_ hHeld ?_
       refine pt 6 21 (fl 15 123) HT_ ?_
       refine pt 7 22 (fl 15 251) HT_ ?_
       refine tt 8 23 (fl 15 507) HT_ HW_ hHeld ?_
       refine ot 2 (some 17) (fl 15 511) HT_ (fun K hK=>?_)
       refine Kd.R_lit_step (Kd.int .i64) _ 3 ?hg (N:=17) ?hd (xs:=([]:List Int)) (inner:=[]) (ok:=fun _=>True) (okp:=fun _=>True) ?hr ?hp (fun _ hk=>hk) trivial (Below.refl _ _) (Nat.le_refl _) (by simp) ?_;(case hd=>rfl);(case hg=>rfl);(case hr=>first|(go_simp;done)|(go_simp;rfl));(case hp=>exact (Reps.none _ _))
       intro v225 w18 ho19 hb hg_ hnew_
       clear hg_ hnew_
       (rw [← Ny224.out] at ho19)
       replace HO_224001:=aM (Kd.S_elder' (rS HO_224001) (Kd.R_base ho19) hb);have HO226:=aM (Kd.R_lower ho19 (below_size be));replace BK221:=bB BK221 hb;replace BK222:=bB BK222 hb;replace BK223:=bB BK223 hb;replace HB:=bs hb;clear hb ho19
       refine hK.out _ _ ⟨(blk_cell BK223.out 0).trans rfl,(blk_cell BK223.out 1).trans rfl,(blk_cell BK221.out 0).trans rfl,(blk_cell BK221.out 1).trans rfl,((HB.out.cell (World.block_lt_of_cell? w _ hw227_0)).trans hw227_0)⟩ (fun hHeld=>?_)
       clear hK K
       refine no 17 ?_
       refine ot 9 (some 24) (fl 15 1023) HT_ (fun K hK=>?_)
       refine Kd.R_append_rows_step (Kd.int .i64) (w0:=w) w.heap.size (by rfl) (.tmp 17) (.tmp 23) 33 3 (.int .i64 0) 8 rfl Try.underlying33 info3 rfl (by decide) (by omega) v225 y224 ((rd_T35 l0_1 x4_1).f0) _ _ _ (fun _=>True) (fun _=>False) rfl rfl ?aO ?aR (fun _ _ h=>h) (fun _ h=>h.elim) ?aF ?aB ?aS ?aL ?_
       (case aR=>exact rC HR227_0)
       (case aB=>exact be)
       (case aF=>exact (fun _ _=>trivial))
       (case aO=>exact (rR HO226))
       (case aS=>exact (below_size be))
       (case aL=>have:=LMc12.out;omega)
       intro v229 w20 ho hb hg hat
       rw [← Ny228.out] at ho
       replace HO_224001:=aM (Kd.S_after (ok:=(fun _=>True)) (rS HO_224001) hg hat);replace BK221:=bG BK221 hg (Kd.R_ne HO226.out BK221.out (by decide));replace BK222:=bG BK222 hg (Kd.R_ne HO226.out BK222.out (by decide));replace BK223:=bG BK223 hg (Kd.R_ne HO226.out BK223.out (by decide));replace HB:=aM (hb);have HO230:=aM (ho);clear HO226;clear ho hb hg hat
       obtain ⟨Ao21,co21,eo21⟩:=Kd.R_slice HO230.out
       (subst eo21)
       refine hK.out _ _ ⟨(blk_cell BK223.out 0).trans rfl,(blk_cell BK223.out 1).trans rfl,(blk_cell BK221.out 0).trans rfl,(blk_cell BK221.out 1).trans rfl,((HB.out.cell (World.block_lt_of_cell? w _ hw227_0)).trans hw227_0)⟩ (fun hHeld=>?_)
       clear hK K
       refine no 24 ?_
       refine pt 10 25 (fl 15 2047) HT_ ?_
       refine ot 11 (some 26) (fl 15 4095) HT_ (fun K hK=>?_)
       refine value_ (w1:=?_) (v:=?_) (by rfl) rfl ?_ ?_
       rotate_left 2
       ·go_simp
        constructor
        ·rfl
        ·rfl
       refine hK.out _ _ ⟨(blk_cell (blk_alloc BK223.out _) 0).trans rfl,(blk_cell (blk_alloc BK223.out _) 1).trans rfl,(blk_cell (blk_alloc BK221.out _) 0).trans rfl,(blk_cell (blk_alloc BK221.out _) 1).trans rfl,(World.cell?_alloc_lt _ _ _ (World.block_lt_of_cell? _ _ (((HB.out.cell (World.block_lt_of_cell? w _ hw227_0)).trans hw227_0)))).trans (((HB.out.cell (World.block_lt_of_cell? w _ hw227_0)).trans hw227_0))⟩ (fun hHeld=>?_)
       clear hK K
       refine no 26 ?_
       refine ot 12 (some 27) (fl 15 8191) HT_ (fun K hK=>?_)
       refine Kd.S_append_step k35 (w0:=w) w.heap.size (by rfl) (.tmp 16) (.tmp 26) 24 35 (.agg #[(.slice none 0 0)]) 24 rfl Try.underlying24 info35 rfl (by decide) (by omega) u224001 x224001_1 (⟨y228⟩:S35) [.slice Ao21 y228.length co21] (fun _=>True) (fun k_=>some k_=(.slice Ao21 y228.length co21:Value).ownBlock) rfl rfl ?aP (fun k_ hk_=>((Kd.R_mono (ok':=fun k_=>((fun _=>True)) k_∧some k_ ≠ (u224001:Value).ownBlock) (Kd.R_apart' (HO230.out) (Kd.S_typed HO_224001.out) (by decide)) (fun k_ hk=>⟨trivial,hk.2⟩))).1 k_ hk_.symm) ?aF ?aO ?aB ?aS ?aL ?_
       (case aP=>exact k35_mkM _ _ _ (⟨y228⟩:S35) (Kd.R_mono (Kd.R_tight rfl (Kd.R_mono (ok':=fun k_=>((fun _=>True)) k_∧some k_ ≠ (u224001:Value).ownBlock) (Kd.R_apart' (HO230.out) (Kd.S_typed HO_224001.out) (by decide)) (fun k_ hk=>⟨trivial,hk.2⟩))) (fun _ h_=>h_)))
       (case aB=>exact be)
       (case aF=>exact (fun _ _=>trivial))
       (case aO=>exact (by (with_reducible repeat (first|apply Kd.S_alloc|apply Kd.S_drewN|apply Kd.S_drew));exact Kd.S_mono HO_224001.out (fun k_ hk=>⟨trivial,fun e_=>hk.2 e_⟩)))
       (case aS=>exact (below_size be))
       (case aL=>have:=LMc13.out;omega)
       intro v232 w22 ho hb hg hat
       rw [← Ny231.out] at ho
       replace BK221:=bG BK221 hg (Kd.S_ne HO_224001.out BK221.out (by decide));replace BK222:=bG BK222 hg (Kd.S_ne HO_224001.out BK222.out (by decide));replace BK223:=bG BK223 hg (Kd.S_ne HO_224001.out BK223.out (by decide));replace HB:=aM (hb);have HO233:=aM (ho);clear HO_224001 HO230;clear ho hb hg hat
       obtain ⟨Ao23,co23,eo23⟩:=Kd.S_slice HO233.out
       (subst eo23)
       refine hK.out _ _ ⟨(blk_cell BK223.out 0).trans rfl,(blk_cell BK223.out 1).trans rfl,(blk_cell BK221.out 0).trans rfl,(blk_cell BK221.out 1).trans rfl,((HB.out.cell (World.block_lt_of_cell? w _ hw227_0)).trans hw227_0)⟩ (fun hHeld=>?_)
       clear hK K
       refine no 27 ?_
       refine pt 13 28 (fl 15 16383) HT_ ?_
       refine last_ (i:=14) (N:=none) (fl 15 32767) rfl rfl (one_of HT_.out (by kernel_rfl)) (by decide) (fun K hK=>?_)
       have hs24:w22.cell? ⟨gb223,1,none⟩=some (u224001):=(blk_cell BK223.out 1).trans rfl
       have hfs24:=blk_frozen BK223.out 1
       have hns24_0:=NB221_223.out
       have hns24_1:=NB222_223.out
       have hms24_0:=NB223_221.out
       have hms24_1:=NB223_222.out
       refine skip_ (w1:=?_) (by rfl) rfl ?_ ?_
       rotate_left
       ·go_simp
        rfl
       refine hK.out _ _ ?_
       clear hK K
       refine done_ (done_of HT_.out (by kernel_rfl)) ?_
       try go_wp2
       go_roundg k1
       case measure=>have:=HK1.out;omega
       case rel=>exact ⟨(wrap64 (x4_1+1)),(y231),(.slice Ao23 y231.length co23),rd_,H',⟨by have:=HK1.out;omega⟩,⟨by (with_reducible repeat (first|apply Kd.S_alloc|apply Kd.S_drewN|apply Kd.S_drew));exact Kd.S_mono (Kd.S_far (p:=⟨gb223,1,none⟩) (Kd.S_types HO233.out BK223.out (by decide)) (fun _ hk=>hk.2) (.slice Ao23 y231.length co23)) (fun _ hk=>trivial)⟩,⟨by (with_reducible repeat (first|refine blk_drewN ?_ _|refine blk_drew ?_|refine blk_alloc ?_ _));refine blk_far ?_ NB221_223.out _;(with_reducible repeat (first|refine blk_drewN ?_ _|refine blk_drew ?_|refine blk_alloc ?_ _));exact BK221.out⟩,⟨by (with_reducible repeat (first|refine blk_drewN ?_ _|refine blk_drew ?_|refine blk_alloc ?_ _));refine blk_far ?_ NB222_223.out _;(with_reducible repeat (first|refine blk_drewN ?_ _|refine blk_drew ?_|refine blk_alloc ?_ _));exact BK222.out⟩,⟨by (with_reducible repeat (first|refine blk_drewN ?_ _|refine blk_drew ?_|refine blk_alloc ?_ _));refine blk_put (cs:=#[.int .i64 a0_0,u224001]) ?_ 1 _ rfl;(with_reducible repeat (first|refine blk_drewN ?_ _|refine blk_drew ?_|refine blk_alloc ?_ _));exact BK223.out⟩,⟨be⟩⟩
      ·rw [if_neg c13] at H
       exact absurd H (by simp)
     ·rw [if_neg c12] at H
      exact absurd H (by simp)
    ·rw [if_neg c11] at H
     exact absurd H (by simp)
   ·rw [if_neg c10] at H
    have c10b0:decide (x4_1 < (l0_1.length:Int))=false:=decide_eq_false c10
    clear c10
    simp only [Option.some.injEq,Prod.mk.injEq] at H
    obtain ⟨rfl,rfl⟩:=H
    have hnb25:=NB221_222.out
    have hnc25:=NB222_221.out
    have hnb26:=NB221_223.out
    have hnc26:=NB223_221.out
    have hcz27_0:wr.cell? ⟨gb221,0,none⟩=some (.int .i64 a0_0):=(blk_cell BK221.out 0).trans rfl
    have hcz27_1:wr.cell? ⟨gb221,1,none⟩=some (.slice A0_1 l0_1.length c0_1):=(blk_cell BK221.out 1).trans rfl
    have hfz27_0:=blk_frozen BK221.out 0
    have hfz27_1:=blk_frozen BK221.out 1
    have hnb28:=NB223_222.out
    have hnc28:=NB222_223.out
    have hcz29_0:wr.cell? ⟨gb223,0,none⟩=some (.int .i64 a0_0):=(blk_cell BK223.out 0).trans rfl
    have hcz29_1:wr.cell? ⟨gb223,1,none⟩=some (u224001):=(blk_cell BK223.out 1).trans rfl
    have hfz29_0:=blk_frozen BK223.out 0
    have hfz29_1:=blk_frozen BK223.out 1
    have hcz30_0:wr.cell? ⟨gb222,0,none⟩=some (.int .i64 0):=(blk_cell BK222.out 0).trans rfl
    have hcz30_1:wr.cell? ⟨gb222,1,none⟩=some (.slice none 0 0):=(blk_cell BK222.out 1).trans rfl
    have hfz30_0:=blk_frozen BK222.out 0
    have hfz30_1:=blk_frozen BK222.out 1
    obtain ⟨Ao31,co31,eo31⟩:=Kd.S_slice HO_224001.out
    subst eo31
    go_wp2
    refine bodyPost_ret (results_cell_row rfl _ _ gb222 26 #[.int .i64 a0_0,.slice Ao31 x224001_1.length co31] (0,0) _ rfl (by (with_reducible repeat (first|refine blk_drewN ?_ _|refine blk_drew ?_|refine blk_alloc ?_ _));refine blk_put (cs:=#[.int .i64 a0_0,.slice none 0 0]) ?_ 1 _ rfl;(with_reducible repeat (first|refine blk_drewN ?_ _|refine blk_drew ?_|refine blk_alloc ?_ _));refine blk_put (cs:=#[.int .i64 0,.slice none 0 0]) ?_ 0 _ rfl;(with_reducible repeat (first|refine blk_drewN ?_ _|refine blk_drew ?_|refine blk_alloc ?_ _));exact BK222.out) Try.underlying26 rfl (by kernel_rfl)) rfl ?_
    exact ⟨_,rz,by (with_reducible repeat (first|apply Kd.S_alloc|apply Kd.S_drewN|apply Kd.S_drew));exact Kd.S_mono (Kd.S_far (p:=⟨gb222,1,none⟩) (Kd.S_far (p:=⟨gb222,0,none⟩) (Kd.S_types HO_224001.out BK222.out (by decide)) (fun _ hk=>hk.2) (.int .i64 a0_0)) (fun _ hk=>hk.2) (.slice Ao31 x224001_1.length co31)) (fun _ hk=>trivial),be⟩
end Go.Proofs.Ytpbjbfimnfghkaa.PFnExactRebalance
