/- Trimmed by a program of this session (trim.py). Not trusted: Lean checks it. -/
import Derived.Test.YtpbjbfimnfghkaaTXRebalancePFnExactRebalancex0
import Derived.Test.YtpbjbfimnfghkaaTXRebalancePFnExactRebalancex2
namespace Go.Proofs.Ytpbjbfimnfghkaa.PFnExactRebalance
open Go.RowKit Go.Proofs.YtpbjbfimnfghkaaW.PrintWords Go.Proofs.YtpbjbfimnfghkaaW.PrintLast Go.Proofs.YtpbjbfimnfghkaaW.PrintMore Go.Proofs.Ytpbjbfimnfghkaa.St
attribute [local go_sem] max2_int min2_int max_two min_two max_three min_three max_four min_four
set_option linter.unusedVariables false
set_option linter.unusedSimpArgs false
mutual
def impl_LoadOf.l0:Nat→Int→Int→List (S35)→Int→Int→Option (Int)
 | 0,_,_,_,_,_=>none
 | k+1,x1,x5,x11,x12,x13=>if x13 < x12 then (if 0≤x13 then (if x13 < (x11.length:Int) then (impl_LoadOf.l1 k x1 x5 x11 x12 x13 ((rd_T35 x11 x13).f0) (((rd_T35 x11 x13).f0).length:Int) 0) else (none)) else (none)) else (some x5)
def impl_LoadOf.l1:Nat→Int→Int→List (S35)→Int→Int→List Int→Int→Int→Option (Int)
 | 0,_,_,_,_,_,_,_,_=>none
 | k+1,x1,x5,x11,x12,x13,x18,x19,x20=>if x20 < x19 then (if 0≤x20 then (if x20 < (x18.length:Int) then (if (rd x18 x20)=x1 then (impl_LoadOf.l1 k x1 (wrap64 (x5+1)) x11 x12 x13 x18 x19 (wrap64 (x20+1))) else (impl_LoadOf.l1 k x1 x5 x11 x12 x13 x18 x19 (wrap64 (x20+1)))) else (none)) else (none)) else (impl_LoadOf.l0 k x1 x5 x11 x12 (wrap64 (x13+1)))
end
def impl_LoadOf.f (k:Nat) (a0_0:Int) (l0_1:List (S35)) (a1:Int):Option (Int):=impl_LoadOf.l0 k a1 0 l0_1 (l0_1.length:Int) 0
set_option maxHeartbeats 8000000 in
set_option maxRecDepth 100000 in
theorem impl_LoadOf.calls (k:Nat) (a0_0:Int) (A0_1:Option Addr) (c0_1:Nat) (l0_1:List (S35)) (a1:Int) (r:Int) (w:World) (hr0_1:Kd.C k35 w A0_1 l0_1.length l0_1) (hc0_1:l0_1.length≤c0_1) (h:impl_LoadOf.f k a0_0 l0_1 a1=some r) :
  Calls Try.prog 35 #[.agg #[.int .i64 a0_0,.slice A0_1 l0_1.length c0_1],.int .i64 a1] w fun e w'=>e = .returned (.int .i64 r)∧Below w.heap.size w w':=by
 have hu26:=Try.underlying26
 have hu35:=Try.underlying35
 have HR0_1:=aM hr0_1
 have HC0_1:=aM hc0_1
 clear hr0_1 hc0_1
 have HB:=aM (Below.refl w.heap.size w)
 have H:(impl_LoadOf.l0 k a1 0 l0_1 (l0_1.length:Int) 0)=some r:=h
 clear h
 have H':=Aside0.mk H
 clear H
 go_enter Try.func35,Try.ntmps35
 go_wp2_with ((with_reducible refine gate_dst (N:=2) rfl ?_);refine box_event ?hg (N:=2) ?hd (cs:=#[.int .i64 a0_0,.slice A0_1 l0_1.length c0_1]) (t:=26) ?hr ?_;(case hd=>rfl);(case hg=>rfl);(case hr=>first|(go_simp;done)|(go_simp;rfl));intro gb143 hg w3 hbox hb;have BK143:=aM (hbox);have GW143:=gS w hg;have GE143:=gS w hg;replace HB:=bs hb;clear hb hbox hg;have hcz4_0:w3.cell? ⟨gb143,0,none⟩=some (.int .i64 a0_0):=(blk_cell BK143.out 0).trans rfl;have hcz4_1:w3.cell? ⟨gb143,1,none⟩=some (.slice A0_1 l0_1.length c0_1):=(blk_cell BK143.out 1).trans rfl;have hfz4_0:=blk_frozen BK143.out 0;have hfz4_1:=blk_frozen BK143.out 1)
 go_loopg [5,13] k (fun kq v5 v13 w'=>∃ (x5_1:Int) (x13_1:Int),v5 = .int .i64 x5_1∧v13 = .int .i64 x13_1∧Aside0 (impl_LoadOf.l0 kq a1 x5_1 l0_1 (l0_1.length:Int) x13_1=some r)∧Aside0 (kq≤k)∧Aside0 (w'.heap[gb143]?=some (.cells #[.int .i64 a0_0,(.slice A0_1 l0_1.length c0_1)] 26 (0,0)))∧Aside0 (Below w.heap.size w w'))
 case atStart=>exact ⟨(0),(0),rd_,rd_,H',⟨Nat.le_refl _⟩,⟨bk BK143⟩,⟨be⟩⟩
 case round=>
  clear H'
  try clear hcz4_0
  try clear hcz4_1
  try clear hfz4_0
  try clear hfz4_1
  obtain ⟨x5_1,x13_1,rfl,rfl,HA,HK1,BK143,HB⟩:=hrel
  cases gk with
  | zero=>exact absurd HA.out (by simp [impl_LoadOf.l0])
  | succ k1=>
   have H:=HA.out
   clear HA
   simp only [impl_LoadOf.l0] at H
   by_cases c5:x13_1 < (l0_1.length:Int)
   ·rw [if_pos c5] at H
    have c5b0:decide (x13_1 < (l0_1.length:Int))=true:=decide_eq_true c5
    clear c5
    by_cases c6:0≤x13_1
    ·rw [if_pos c6] at H
     have c6b0:decide (0≤x13_1)=true:=decide_eq_true c6
     clear c6
     by_cases c7:x13_1 < (l0_1.length:Int)
     ·rw [if_pos c7] at H
      have c7b0:decide (x13_1 < (l0_1.length:Int))=true:=decide_eq_true c7
      clear c7
      have H':=Aside0.mk H
      clear H
      have p144:0≤(x13_1:Int):=of_decide_eq_true (by first|(with_reducible assumption)|assumption)
      have q144:x13_1 < (l0_1.length:Int):=of_decide_eq_true (by first|(with_reducible assumption)|assumption)
      obtain ⟨ad144,A144_0,c144_0,e144,hx144_0,hl144_0,hi144_0⟩:=at_T35 HR0_1.out x13_1 p144 q144
      cases e144
      replace hx144_0:=(HB.out.cell (World.block_lt_of_cell? w _ hx144_0)).trans hx144_0
      have HR144_0:=aM hi144_0
      have HC144_0:=aM hl144_0
      clear hi144_0 hl144_0
      replace p144:=eq_true p144
      replace q144:=eq_true q144
      go_wp2_with ((with_reducible refine gate_dst (N:=7) rfl ?_);refine box_event ?hg (N:=7) ?hd (cs:=#[.slice none 0 0]) (t:=35) ?hr ?_;(case hd=>rfl);(case hg=>rfl);(case hr=>first|(go_simp;done)|(go_simp;rfl));intro gb145 hg w8 hbox hb;have BK145:=aM (hbox);have GW145:=gS w hg;have GE145:=gS w hg;replace HB:=bs hb;have NB143_145:=nL hg BK143;have NB145_143:=nG hg BK143;replace BK143:=bB BK143 hb;clear hb hbox hg;have hnb9:=NB145_143.out;have hnc9:=NB143_145.out;have hcz10_0:w8.cell? ⟨gb145,0,none⟩=some (.slice none 0 0):=(blk_cell BK145.out 0).trans rfl;have hfz10_0:=blk_frozen BK145.out 0)
      go_loopg [5,20] k1 (fun kq v5 v20 w'=>∃ (x5_2:Int) (x20_2:Int),v5 = .int .i64 x5_2∧v20 = .int .i64 x20_2∧Aside0 (impl_LoadOf.l1 kq a1 x5_2 l0_1 (l0_1.length:Int) x13_1 ((rd_T35 l0_1 x13_1).f0) (((rd_T35 l0_1 x13_1).f0).length:Int) x20_2=some r)∧Aside0 (kq≤k1)∧Aside0 (w'.heap[gb143]?=some (.cells #[.int .i64 a0_0,(.slice (some ad144) l0_1.length c0_1)] 26 (0,0)))∧Aside0 (w'.heap[gb145]?=some (.cells #[(.slice A144_0 ((rd_T35 l0_1 x13_1).f0).length c144_0)] 35 (0,0)))∧Aside0 (Below w.heap.size w w'))
      case atStart=>exact ⟨(x5_1),(0),rd_,rd_,H',⟨Nat.le_refl _⟩,⟨by (with_reducible repeat (first|refine blk_drewN ?_ _|refine blk_drew ?_|refine blk_alloc ?_ _));refine blk_far ?_ NB143_145.out _;(with_reducible repeat (first|refine blk_drewN ?_ _|refine blk_drew ?_|refine blk_alloc ?_ _));exact BK143.out⟩,⟨by (with_reducible repeat (first|refine blk_drewN ?_ _|refine blk_drew ?_|refine blk_alloc ?_ _));refine blk_put (cs:=#[.slice none 0 0]) ?_ 0 _ rfl;(with_reducible repeat (first|refine blk_drewN ?_ _|refine blk_drew ?_|refine blk_alloc ?_ _));exact BK145.out⟩,⟨be⟩⟩
      case round=>
       clear H'
       try clear c5b0
       try clear c6b0
       try clear c7b0
       try clear hcz10_0
       try clear hfz10_0
       try clear hx144_0
       try clear p144
       try clear q144
       obtain ⟨x5_2,x20_2,rfl,rfl,HA,HK2,BK143,BK145,HB⟩:=hrel
       cases gk with
       | zero=>exact absurd HA.out (by simp [impl_LoadOf.l1])
       | succ k2=>
        have H:=HA.out
        clear HA
        simp only [impl_LoadOf.l1] at H
        by_cases c11:x20_2 < (((rd_T35 l0_1 x13_1).f0).length:Int)
        ·rw [if_pos c11] at H
         have c11b0:decide (x20_2 < (((rd_T35 l0_1 x13_1).f0).length:Int))=true:=decide_eq_true c11
         clear c11
         by_cases c12:0≤x20_2
         ·rw [if_pos c12] at H
          have c12b0:decide (0≤x20_2)=true:=decide_eq_true c12
          clear c12
          by_cases c13:x20_2 < (((rd_T35 l0_1 x13_1).f0).length:Int)
          ·rw [if_pos c13] at H
           have c13b0:decide (x20_2 < (((rd_T35 l0_1 x13_1).f0).length:Int))=true:=decide_eq_true c13
           clear c13
           by_cases c14:(rd ((rd_T35 l0_1 x13_1).f0) x20_2)=a1
           ·rw [if_pos c14] at H
            have c14b0:((rd ((rd_T35 l0_1 x13_1).f0) x20_2) == a1)=true:=beq_iff_eq.mpr c14
            have c14b1:((rd ((rd_T35 l0_1 x13_1).f0) x20_2) != a1)=false:=bne_eq_false_iff_eq.mpr c14
            clear c14
            have H':=Aside0.mk H
            clear H
            have p146:0≤(x20_2:Int):=of_decide_eq_true (by first|(with_reducible assumption)|assumption)
            have q146:x20_2 < (((rd_T35 l0_1 x13_1).f0).length:Int):=of_decide_eq_true (by first|(with_reducible assumption)|assumption)
            obtain ⟨ad146,e146,hx146_0⟩:=Kd.at_int HR144_0.out x20_2 p146 q146
            cases e146
            replace hx146_0:=(HB.out.cell (World.block_lt_of_cell? w _ hx146_0)).trans hx146_0
            replace p146:=eq_true p146
            replace q146:=eq_true q146
            go_wp2
            go_roundg k2
            case measure=>have:=HK1.out;have:=HK2.out;omega
            case rel=>exact ⟨(wrap64 (x5_2+1)),(wrap64 (x20_2+1)),rd_,rd_,H',⟨by have:=HK1.out;have:=HK2.out;omega⟩,⟨bk BK143⟩,⟨bk BK145⟩,⟨be⟩⟩
           ·rw [if_neg c14] at H
            have c14b0:((rd ((rd_T35 l0_1 x13_1).f0) x20_2) == a1)=false:=beq_eq_false_iff_ne.mpr c14
            have c14b1:((rd ((rd_T35 l0_1 x13_1).f0) x20_2) != a1)=true:=bne_iff_ne.mpr c14
            have H':=Aside0.mk H
            clear H
            have p146:0≤(x20_2:Int):=of_decide_eq_true (by first|(with_reducible assumption)|assumption)
            have q146:x20_2 < (((rd_T35 l0_1 x13_1).f0).length:Int):=of_decide_eq_true (by first|(with_reducible assumption)|assumption)
            obtain ⟨ad146,e146,hx146_0⟩:=Kd.at_int HR144_0.out x20_2 p146 q146
            cases e146
            replace hx146_0:=(HB.out.cell (World.block_lt_of_cell? w _ hx146_0)).trans hx146_0
            replace p146:=eq_true p146
            replace q146:=eq_true q146
            go_wp2
            go_roundg k2
            case measure=>have:=HK1.out;have:=HK2.out;omega
            case rel=>exact ⟨(x5_2),(wrap64 (x20_2+1)),rd_,rd_,H',⟨by have:=HK1.out;have:=HK2.out;omega⟩,⟨bk BK143⟩,⟨bk BK145⟩,⟨be⟩⟩
          ·rw [if_neg c13] at H
           exact absurd H (by simp)
         ·rw [if_neg c12] at H
          exact absurd H (by simp)
        ·rw [if_neg c11] at H
         have c11b0:decide (x20_2 < (((rd_T35 l0_1 x13_1).f0).length:Int))=false:=decide_eq_false c11
         clear c11
         have H':=Aside0.mk H
         clear H
         go_wp2
         go_roundg k2
         case measure=>have:=HK1.out;have:=HK2.out;omega
         case rel=>exact ⟨(x5_2),(wrap64 (x13_1+1)),rd_,rd_,H',⟨by have:=HK1.out;have:=HK2.out;omega⟩,⟨bk BK143⟩,⟨be⟩⟩
     ·rw [if_neg c7] at H
      exact absurd H (by simp)
    ·rw [if_neg c6] at H
     exact absurd H (by simp)
   ·rw [if_neg c5] at H
    have c5b0:decide (x13_1 < (l0_1.length:Int))=false:=decide_eq_false c5
    clear c5
    obtain rfl:=Option.some.inj H
    go_wp2
    go_ret
    exact ⟨rz,be⟩
def impl_zonesIn.l0:Nat→List (S61)→List Int→List Int→Int→Int→Option (List Int)
 | 0,_,_,_,_,_=>none
 | k+1,x1,x5,x10,x11,x12=>if x12 < x11 then (if 0≤x12 then (if x12 < (x10.length:Int) then ((impl_DevAt.f k x1 (rd x10 x12)).bind fun bt148=>(if bt148.2.2.2=true then ((impl_hasInt.f k x5 bt148.2.1).bind fun t153=>(if t153=true then (impl_zonesIn.l0 k x1 x5 x10 x11 (wrap64 (x12+1))) else (if x5.length < 17592186044416 then (impl_zonesIn.l0 k x1 (x5 ++ [bt148.2.1]) x10 x11 (wrap64 (x12+1))) else (none)))) else (impl_zonesIn.l0 k x1 x5 x10 x11 (wrap64 (x12+1))))) else (none)) else (none)) else (some x5)
def impl_zonesIn.f (k:Nat) (l0:List Int) (l1:List (S61)):Option (List Int):=impl_zonesIn.l0 k l1 ([]:List Int) l0 (l0.length:Int) 0
set_option maxHeartbeats 8000000 in
set_option maxRecDepth 100000 in
theorem impl_zonesIn.calls (k:Nat) (A0:Option Addr) (c0:Nat) (l0:List Int) (A1:Option Addr) (c1:Nat) (l1:List (S61)) (r:List Int) (w:World) (hr0:Kd.C (Kd.int .i64) w A0 l0.length l0) (hc0:l0.length≤c0) (hr1:Kd.C k61 w A1 l1.length l1) (hc1:l1.length≤c1) (h:impl_zonesIn.f k l0 l1=some r) :
  Calls Try.prog 72 #[.slice A0 l0.length c0,.slice A1 l1.length c1] w fun e w'=>∃ v0_:Value,e = .returned (v0_)∧Kd.R (Kd.int .i64) 3 w' w.heap.size (fun _=>True) v0_ r∧Below w.heap.size w w':=by
 have hu61:=Try.underlying61
 have HR0:=aM hr0
 have HC0:=aM hc0
 clear hr0 hc0
 have HR1:=aM hr1
 have HC1:=aM hc1
 clear hr1 hc1
 have HB:=aM (Below.refl w.heap.size w)
 have H:(impl_zonesIn.l0 k l1 ([]:List Int) l0 (l0.length:Int) 0)=some r:=h
 clear h
 have H':=Aside0.mk H
 clear H
 go_enter Try.func72,Try.ntmps72
 go_wp2
 go_loopg [5,12] k (fun kq v5 v12 w'=>∃ (x5_1:List Int) (x12_1:Int),v12 = .int .i64 x12_1∧Aside0 (impl_zonesIn.l0 kq l1 x5_1 l0 (l0.length:Int) x12_1=some r)∧Aside0 (kq≤k)∧Aside0 (Kd.R (Kd.int .i64) 3 w' w.heap.size (fun _=>True) v5 x5_1)∧Aside0 (Below w.heap.size w w'))
 case atStart=>exact ⟨(([]:List Int)),(0),rd_,H',⟨Nat.le_refl _⟩,⟨by first|exact Kd.R_nil _ _ _ _ _|exact Kd.N_nil _ _ _ _ _|exact Kd.V_nil _ _ _ _ _|exact Kd.Q_nil _ _ _ _ _|exact Kd.S_nil _ _ _ _ _⟩,⟨be⟩⟩
 case round=>
  clear H'
  obtain ⟨x5_1,x12_1,rfl,HA,HK1,HO_5,HB⟩:=hrel
  cases gk with
  | zero=>exact absurd HA.out (by simp [impl_zonesIn.l0])
  | succ k1=>
   have H:=HA.out
   clear HA
   simp only [impl_zonesIn.l0] at H
   by_cases c3:x12_1 < (l0.length:Int)
   ·rw [if_pos c3] at H
    have c3b0:decide (x12_1 < (l0.length:Int))=true:=decide_eq_true c3
    clear c3
    by_cases c4:0≤x12_1
    ·rw [if_pos c4] at H
     have c4b0:decide (0≤x12_1)=true:=decide_eq_true c4
     clear c4
     by_cases c5:x12_1 < (l0.length:Int)
     ·rw [if_pos c5] at H
      have c5b0:decide (x12_1 < (l0.length:Int))=true:=decide_eq_true c5
      clear c5
      replace H:=Option.bind_eq_some_iff.mp H
      obtain ⟨⟨t148,t149,t150,t151⟩,A60,H⟩:=H
      try dsimp only at H
      have A6:=aM A60
      clear A60
      by_cases c7:t151=true
      ·subst c7
       rw [if_pos rfl] at H
       replace H:=Option.bind_eq_some_iff.mp H
       obtain ⟨t153,A80,H⟩:=H
       try dsimp only at H
       have A8:=aM A80
       clear A80
       by_cases c9:t153=true
       ·subst c9
        rw [if_pos rfl] at H
        have H':=Aside0.mk H
        clear H
        have p147:0≤(x12_1:Int):=of_decide_eq_true (by first|(with_reducible assumption)|assumption)
        have q147:x12_1 < (l0.length:Int):=of_decide_eq_true (by first|(with_reducible assumption)|assumption)
        obtain ⟨ad147,e147,hx147_0⟩:=Kd.at_int HR0.out x12_1 p147 q147
        cases e147
        replace hx147_0:=(HB.out.cell (World.block_lt_of_cell? w _ hx147_0)).trans hx147_0
        replace p147:=eq_true p147
        replace q147:=eq_true q147
        go_wp2_with (first|((with_reducible refine gate_callee (f:=60) rfl ?_);refine goesL_ (some 19) rfl rfl Try.func60 (by kernel_rfl) rfl #[.slice A1 l1.length c1,.int .i64 (rd l0 x12_1)] rfl (by (try simp only [List.map_toArray,List.map_cons,List.map_nil]);first|done|rfl|(simp only [List.length_drop,List.length_take];rfl)) ?_;(with_reducible refine (impl_DevAt.calls k1 _ _ l1 (rd l0 x12_1) t148 t149 t150 true _ ?side1 ?side2 A6.out).mono ?_);(case side1=>exact rC HR1);(case side2=>exact HC1.out);rintro e w10 ⟨rfl,hb⟩;refine ⟨_,rfl,?_⟩;replace HO_5:=rB HO_5 hb;replace HB:=bs hb;(try clear hb))|((with_reducible refine gate_dst (N:=8) rfl ?_);refine box_event ?hg (N:=8) ?hd (cs:=#[.int .i64 0,.int .i64 0,.int .i64 0]) (t:=61) ?hr ?_;(case hd=>rfl);(case hg=>rfl);(case hr=>first|(go_simp;done)|(go_simp;rfl));intro gb152 hg w11 hbox hb;replace HO_5:=rB HO_5 hb;have BK152:=aM (hbox);have GW152:=gS w hg;have GE152:=gS w hg;replace HB:=bs hb;clear hb hbox hg;have hcz12_0:w11.cell? ⟨gb152,0,none⟩=some (.int .i64 0):=(blk_cell BK152.out 0).trans rfl;have hcz12_1:w11.cell? ⟨gb152,1,none⟩=some (.int .i64 0):=(blk_cell BK152.out 1).trans rfl;have hcz12_2:w11.cell? ⟨gb152,2,none⟩=some (.int .i64 0):=(blk_cell BK152.out 2).trans rfl;have hfz12_0:=blk_frozen BK152.out 0;have hfz12_1:=blk_frozen BK152.out 1;have hfz12_2:=blk_frozen BK152.out 2;obtain ⟨Ao13,co13,eo13⟩:=Kd.R_slice HO_5.out;subst eo13)|(go_at_call 52;(with_reducible refine (impl_hasInt.calls k1 _ _ x5_1 t149 true _ ?side1 ?side2 A8.out).mono ?_);(case side1=>refine (Kd.R_reads' (e:=3) (base:=w.heap.size) (ok:=fun k_=>True) (n:=x5_1.length) (c:=co13) ?_).2.2;exact (by (with_reducible repeat (first|apply Kd.R_alloc|apply Kd.R_drewN|apply Kd.R_drew));exact (Kd.R_mono (Kd.R_far (p:=⟨gb152,2,none⟩) (Kd.R_far (p:=⟨gb152,1,none⟩) (Kd.R_far (p:=⟨gb152,0,none⟩) (Kd.R_types HO_5.out BK152.out (by decide)) (fun _ hk=>hk.2) (.int .i64 t148)) (fun _ hk=>hk.2) (.int .i64 t149)) (fun _ hk=>hk.2) (.int .i64 t150)) (fun _ h_=>h_.1))));(case side2=>exact (Kd.R_reads' HO_5.out).2.1);rintro e w' ⟨rfl,⟨nd,rfl⟩⟩))
        go_roundg k1
        case measure=>have:=HK1.out;omega
        case rel=>exact ⟨(x5_1),(wrap64 (x12_1+1)),rd_,H',⟨by have:=HK1.out;omega⟩,⟨by (with_reducible repeat (apply Kd.R_drewN));exact Kd.R_mono (Kd.R_far (p:=⟨gb152,2,none⟩) (Kd.R_far (p:=⟨gb152,1,none⟩) (Kd.R_far (p:=⟨gb152,0,none⟩) (Kd.R_types HO_5.out BK152.out (by decide)) (fun _ hk=>hk.2) (.int .i64 t148)) (fun _ hk=>hk.2) (.int .i64 t149)) (fun _ hk=>hk.2) (.int .i64 t150)) (fun _ hk=>trivial)⟩,⟨be⟩⟩
       ·replace c9:=Bool.eq_false_iff.mpr c9
        subst c9
        replace H:=(if_neg (show ¬ (false=true) by decide)).symm.trans H
        by_cases c14:x5_1.length < 17592186044416
        ·rw [if_pos c14] at H
         have LMc14:=aM c14
         clear c14
         obtain ⟨y154,hy154⟩ : ∃ y_:List Int,y_=(x5_1 ++ [t149]):=⟨_,rfl⟩
         replace H:(impl_zonesIn.l0 k1 l1 y154 l0 (l0.length:Int) (wrap64 (x12_1+1)))=some r:=by first|(rw [hy154];with_reducible exact H)|(have H2_:=(Option.bind_some _ _).symm.trans H;rw [hy154];with_reducible exact H2_)|(have H2_:=(Option.bind_some _ _).symm.trans H;with_reducible exact H2_)|with_reducible exact H|(rw [hy154];exact H)|exact H
         have Ny154:=aM hy154
         clear hy154
         have H':=Aside0.mk H
         clear H
         have p147:0≤(x12_1:Int):=of_decide_eq_true (by first|(with_reducible assumption)|assumption)
         have q147:x12_1 < (l0.length:Int):=of_decide_eq_true (by first|(with_reducible assumption)|assumption)
         obtain ⟨ad147,e147,hx147_0⟩:=Kd.at_int HR0.out x12_1 p147 q147
         cases e147
         replace hx147_0:=(HB.out.cell (World.block_lt_of_cell? w _ hx147_0)).trans hx147_0
         replace p147:=eq_true p147
         replace q147:=eq_true q147
         go_wp2_with (first|((with_reducible refine gate_callee (f:=60) rfl ?_);refine goesL_ (some 19) rfl rfl Try.func60 (by kernel_rfl) rfl #[.slice A1 l1.length c1,.int .i64 (rd l0 x12_1)] rfl (by (try simp only [List.map_toArray,List.map_cons,List.map_nil]);first|done|rfl|(simp only [List.length_drop,List.length_take];rfl)) ?_;(with_reducible refine (impl_DevAt.calls k1 _ _ l1 (rd l0 x12_1) t148 t149 t150 true _ ?side1 ?side2 A6.out).mono ?_);(case side1=>exact rC HR1);(case side2=>exact HC1.out);rintro e w15 ⟨rfl,hb⟩;refine ⟨_,rfl,?_⟩;replace HO_5:=rB HO_5 hb;replace HB:=bs hb;(try clear hb))|((with_reducible refine gate_dst (N:=8) rfl ?_);refine box_event ?hg (N:=8) ?hd (cs:=#[.int .i64 0,.int .i64 0,.int .i64 0]) (t:=61) ?hr ?_;(case hd=>rfl);(case hg=>rfl);(case hr=>first|(go_simp;done)|(go_simp;rfl));intro gb152 hg w16 hbox hb;replace HO_5:=rB HO_5 hb;have BK152:=aM (hbox);have GW152:=gS w hg;have GE152:=gS w hg;replace HB:=bs hb;clear hb hbox hg;have hcz17_0:w16.cell? ⟨gb152,0,none⟩=some (.int .i64 0):=(blk_cell BK152.out 0).trans rfl;have hcz17_1:w16.cell? ⟨gb152,1,none⟩=some (.int .i64 0):=(blk_cell BK152.out 1).trans rfl;have hcz17_2:w16.cell? ⟨gb152,2,none⟩=some (.int .i64 0):=(blk_cell BK152.out 2).trans rfl;have hfz17_0:=blk_frozen BK152.out 0;have hfz17_1:=blk_frozen BK152.out 1;have hfz17_2:=blk_frozen BK152.out 2;obtain ⟨Ao18,co18,eo18⟩:=Kd.R_slice HO_5.out;subst eo18)|(go_at_call 52;(with_reducible refine (impl_hasInt.calls k1 _ _ x5_1 t149 false _ ?side1 ?side2 A8.out).mono ?_);(case side1=>refine (Kd.R_reads' (e:=3) (base:=w.heap.size) (ok:=fun k_=>True) (n:=x5_1.length) (c:=co18) ?_).2.2;exact (by (with_reducible repeat (first|apply Kd.R_alloc|apply Kd.R_drewN|apply Kd.R_drew));exact (Kd.R_mono (Kd.R_far (p:=⟨gb152,2,none⟩) (Kd.R_far (p:=⟨gb152,1,none⟩) (Kd.R_far (p:=⟨gb152,0,none⟩) (Kd.R_types HO_5.out BK152.out (by decide)) (fun _ hk=>hk.2) (.int .i64 t148)) (fun _ hk=>hk.2) (.int .i64 t149)) (fun _ hk=>hk.2) (.int .i64 t150)) (fun _ h_=>h_.1))));(case side2=>exact (Kd.R_reads' HO_5.out).2.1);rintro e w' ⟨rfl,⟨nd,rfl⟩⟩)|((with_reducible refine gate_builtin (b:=.append) (xs:=#[.tmp 30,.tmp 33]) rfl ?_);at_builtin;refine Kd.R_append (Kd.int .i64) (w0:=w) w.heap.size rfl (.tmp 30) (.tmp 33) 33 3 (.int .i64 0) 8 rfl Try.underlying33 info3 rfl (by decide) (by omega) (.slice Ao18 x5_1.length co18) x5_1 t149 [.int .i64 t149] (fun _=>True) (fun _=>False) rfl (by first|(go_simp;done)|(go_simp;rfl)) ?aP (fun _ hk=>hk.elim) ?aF ?aO ?aB ?aS ?aL ?_;(case aP=>exact rfl);(case aB=>exact be);(case aF=>exact (fun _ _=>trivial));(case aO=>exact (by (with_reducible repeat (apply Kd.R_drewN));exact Kd.R_mono (Kd.R_far (p:=⟨gb152,2,none⟩) (Kd.R_far (p:=⟨gb152,1,none⟩) (Kd.R_far (p:=⟨gb152,0,none⟩) (Kd.R_types HO_5.out BK152.out (by decide)) (fun _ hk=>hk.2) (.int .i64 t148)) (fun _ hk=>hk.2) (.int .i64 t149)) (fun _ hk=>hk.2) (.int .i64 t150)) (fun _ hk=>trivial)));(case aS=>exact (below_size be));(case aL=>have:=LMc14.out;omega);intro v155 w19 ho hb hg hat;rw [← Ny154.out] at ho;replace HB:=aM (hb);have HO156:=aM (ho);clear BK152 HO_5;clear ho hb hg hat))
         go_roundg k1
         case measure=>have:=HK1.out;omega
         case rel=>exact ⟨(y154),(wrap64 (x12_1+1)),rd_,H',⟨by have:=HK1.out;omega⟩,⟨rR HO156⟩,⟨be⟩⟩
        ·rw [if_neg c14] at H
         exact absurd H (by simp)
      ·replace c7:=Bool.eq_false_iff.mpr c7
       subst c7
       replace H:=(if_neg (show ¬ (false=true) by decide)).symm.trans H
       have H':=Aside0.mk H
       clear H
       have p147:0≤(x12_1:Int):=of_decide_eq_true (by first|(with_reducible assumption)|assumption)
       have q147:x12_1 < (l0.length:Int):=of_decide_eq_true (by first|(with_reducible assumption)|assumption)
       obtain ⟨ad147,e147,hx147_0⟩:=Kd.at_int HR0.out x12_1 p147 q147
       cases e147
       replace hx147_0:=(HB.out.cell (World.block_lt_of_cell? w _ hx147_0)).trans hx147_0
       replace p147:=eq_true p147
       replace q147:=eq_true q147
       go_wp2_with (first|((with_reducible refine gate_callee (f:=60) rfl ?_);refine goesL_ (some 19) rfl rfl Try.func60 (by kernel_rfl) rfl #[.slice A1 l1.length c1,.int .i64 (rd l0 x12_1)] rfl (by (try simp only [List.map_toArray,List.map_cons,List.map_nil]);first|done|rfl|(simp only [List.length_drop,List.length_take];rfl)) ?_;(with_reducible refine (impl_DevAt.calls k1 _ _ l1 (rd l0 x12_1) t148 t149 t150 false _ ?side1 ?side2 A6.out).mono ?_);(case side1=>exact rC HR1);(case side2=>exact HC1.out);rintro e w20 ⟨rfl,hb⟩;refine ⟨_,rfl,?_⟩;replace HO_5:=rB HO_5 hb;replace HB:=bs hb;(try clear hb))|((with_reducible refine gate_dst (N:=8) rfl ?_);refine box_event ?hg (N:=8) ?hd (cs:=#[.int .i64 0,.int .i64 0,.int .i64 0]) (t:=61) ?hr ?_;(case hd=>rfl);(case hg=>rfl);(case hr=>first|(go_simp;done)|(go_simp;rfl));intro gb152 hg w21 hbox hb;replace HO_5:=rB HO_5 hb;have BK152:=aM (hbox);have GW152:=gS w hg;have GE152:=gS w hg;replace HB:=bs hb;clear hb hbox hg;have hcz22_0:w21.cell? ⟨gb152,0,none⟩=some (.int .i64 0):=(blk_cell BK152.out 0).trans rfl;have hcz22_1:w21.cell? ⟨gb152,1,none⟩=some (.int .i64 0):=(blk_cell BK152.out 1).trans rfl;have hcz22_2:w21.cell? ⟨gb152,2,none⟩=some (.int .i64 0):=(blk_cell BK152.out 2).trans rfl;have hfz22_0:=blk_frozen BK152.out 0;have hfz22_1:=blk_frozen BK152.out 1;have hfz22_2:=blk_frozen BK152.out 2))
       go_roundg k1
       case measure=>have:=HK1.out;omega
       case rel=>exact ⟨(x5_1),(wrap64 (x12_1+1)),rd_,H',⟨by have:=HK1.out;omega⟩,⟨by (with_reducible repeat (first|apply Kd.R_alloc|apply Kd.R_drewN|apply Kd.R_drew));exact Kd.R_mono (Kd.R_far (p:=⟨gb152,2,none⟩) (Kd.R_far (p:=⟨gb152,1,none⟩) (Kd.R_far (p:=⟨gb152,0,none⟩) (Kd.R_types HO_5.out BK152.out (by decide)) (fun _ hk=>hk.2) (.int .i64 t148)) (fun _ hk=>hk.2) (.int .i64 t149)) (fun _ hk=>hk.2) (.int .i64 t150)) (fun _ hk=>trivial)⟩,⟨be⟩⟩
     ·rw [if_neg c5] at H
      exact absurd H (by simp)
    ·rw [if_neg c4] at H
     exact absurd H (by simp)
   ·rw [if_neg c3] at H
    have c3b0:decide (x12_1 < (l0.length:Int))=false:=decide_eq_false c3
    clear c3
    obtain rfl:=Option.some.inj H
    go_wp2
    go_ret
    exact ⟨_,rz,rR HO_5,be⟩
end Go.Proofs.Ytpbjbfimnfghkaa.PFnExactRebalance
