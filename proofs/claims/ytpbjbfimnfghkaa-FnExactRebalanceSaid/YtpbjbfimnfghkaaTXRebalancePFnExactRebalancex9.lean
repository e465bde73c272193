/- Trimmed by a program of this session (trim.py). Not trusted: Lean checks it. -/
import Derived.Test.YtpbjbfimnfghkaaTXRebalancePFnExactRebalancex0
namespace Go.Proofs.Ytpbjbfimnfghkaa.PFnExactRebalance
open Go.RowKit Go.Proofs.YtpbjbfimnfghkaaW.PrintWords Go.Proofs.YtpbjbfimnfghkaaW.PrintLast Go.Proofs.YtpbjbfimnfghkaaW.PrintMore Go.Proofs.Ytpbjbfimnfghkaa.St
attribute [local go_sem] max2_int min2_int max_two min_two max_three min_three max_four min_four
set_option linter.unusedVariables false
set_option linter.unusedSimpArgs false
mutual
def spec_LoadOf.l0:Nat→Int→Int→Int→Int→List (S35)→Option (Int)
 | 0,_,_,_,_,_=>none
 | k+1,x1,x5,x6,x276000,x276001=>if x6 < (x276001.length:Int) then (spec_LoadOf.l1 k x1 x5 x6 0 x276000 x276001) else (some x5)
def spec_LoadOf.l1:Nat→Int→Int→Int→Int→Int→List (S35)→Option (Int)
 | 0,_,_,_,_,_,_=>none
 | k+1,x1,x5,x6,x7,x276000,x276001=>if 0≤x6 then (if x6 < (x276001.length:Int) then (if x7 < (((rd_T35 x276001 x6).f0).length:Int) then (if 0≤x7 then (if (rd ((rd_T35 x276001 x6).f0) x7)=x1 then (spec_LoadOf.l1 k x1 (wrap64 (x5+1)) x6 (wrap64 (x7+1)) x276000 x276001) else (spec_LoadOf.l1 k x1 x5 x6 (wrap64 (x7+1)) x276000 x276001)) else (none)) else (spec_LoadOf.l0 k x1 x5 (wrap64 (x6+1)) x276000 x276001)) else (none)) else (none)
end
def spec_LoadOf.f (k:Nat) (a0_0:Int) (l0_1:List (S35)) (a1:Int):Option (Int):=spec_LoadOf.l0 k a1 0 0 a0_0 l0_1
set_option maxHeartbeats 8000000 in
set_option maxRecDepth 100000 in
theorem spec_LoadOf.calls (k:Nat) (a0_0:Int) (A0_1:Option Addr) (c0_1:Nat) (l0_1:List (S35)) (a1:Int) (r:Int) (w:World) (hr0_1:Kd.C k35 w A0_1 l0_1.length l0_1) (hc0_1:l0_1.length≤c0_1) (h:spec_LoadOf.f k a0_0 l0_1 a1=some r) :
  Calls Try.prog 76 #[.agg #[.int .i64 a0_0,.slice A0_1 l0_1.length c0_1],.int .i64 a1] w fun e w'=>e = .returned (.int .i64 r)∧Below w.heap.size w w':=by
 have hu26:=Try.underlying26
 have HR0_1:=aM hr0_1
 have HC0_1:=aM hc0_1
 clear hr0_1 hc0_1
 have HB:=aM (Below.refl w.heap.size w)
 have H:(spec_LoadOf.l0 k a1 0 0 a0_0 l0_1)=some r:=h
 clear h
 have H':=Aside0.mk H
 clear H
 go_enter Try.func76,Try.ntmps76
 go_wp2_with ((with_reducible refine gate_dst (N:=2) rfl ?_);refine box_event ?hg (N:=2) ?hd (cs:=#[.int .i64 a0_0,.slice A0_1 l0_1.length c0_1]) (t:=26) ?hr ?_;(case hd=>rfl);(case hg=>rfl);(case hr=>first|(go_simp;done)|(go_simp;rfl));intro gb275 hg w3 hbox hb;have BK275:=aM (hbox);have GW275:=gS w hg;have GE275:=gS w hg;replace HB:=bs hb;clear hb hbox hg)
 go_loopg [5,6] k (fun kq v5 v6 w'=>∃ (x5_1:Int) (x6_1:Int),v5 = .int .i64 x5_1∧v6 = .int .i64 x6_1∧Aside0 (spec_LoadOf.l0 kq a1 x5_1 x6_1 a0_0 l0_1=some r)∧Aside0 (kq≤k)∧Aside0 (w'.heap[gb275]?=some (.cells #[.int .i64 a0_0,(.slice A0_1 l0_1.length c0_1)] 26 (0,0)))∧Aside0 (Below w.heap.size w w'))
 case atStart=>exact ⟨(0),(0),rd_,rd_,H',⟨Nat.le_refl _⟩,⟨bk BK275⟩,⟨be⟩⟩
 case round=>
  clear H'
  obtain ⟨x5_1,x6_1,rfl,rfl,HA,HK1,BK275,HB⟩:=hrel
  cases gk with
  | zero=>exact absurd HA.out (by simp [spec_LoadOf.l0])
  | succ k1=>
   have H:=HA.out
   clear HA
   simp only [spec_LoadOf.l0] at H
   by_cases c4:x6_1 < (l0_1.length:Int)
   ·rw [if_pos c4] at H
    have c4b0:decide (x6_1 < (l0_1.length:Int))=true:=decide_eq_true c4
    clear c4
    have H':=Aside0.mk H
    clear H
    have hcz5_0:wr.cell? ⟨gb275,0,none⟩=some (.int .i64 a0_0):=(blk_cell BK275.out 0).trans rfl
    have hcz5_1:wr.cell? ⟨gb275,1,none⟩=some (.slice A0_1 l0_1.length c0_1):=(blk_cell BK275.out 1).trans rfl
    have hfz5_0:=blk_frozen BK275.out 0
    have hfz5_1:=blk_frozen BK275.out 1
    go_wp2
    go_loopg [5,7] k1 (fun kq v5 v7 w'=>∃ (x5_2:Int) (x7_2:Int),v5 = .int .i64 x5_2∧v7 = .int .i64 x7_2∧Aside0 (spec_LoadOf.l1 kq a1 x5_2 x6_1 x7_2 a0_0 l0_1=some r)∧Aside0 (kq≤k1)∧Aside0 (w'.heap[gb275]?=some (.cells #[.int .i64 a0_0,(.slice A0_1 l0_1.length c0_1)] 26 (0,0)))∧Aside0 (Below w.heap.size w w'))
    case atStart=>exact ⟨(x5_1),(0),rd_,rd_,H',⟨Nat.le_refl _⟩,⟨bk BK275⟩,⟨be⟩⟩
    case round=>
     clear H'
     try clear c4b0
     try clear hcz5_0
     try clear hcz5_1
     try clear hfz5_0
     try clear hfz5_1
     obtain ⟨x5_2,x7_2,rfl,rfl,HA,HK2,BK275,HB⟩:=hrel
     cases gk with
     | zero=>exact absurd HA.out (by simp [spec_LoadOf.l1])
     | succ k2=>
      have H:=HA.out
      clear HA
      simp only [spec_LoadOf.l1] at H
      by_cases c6:0≤x6_1
      ·rw [if_pos c6] at H
       have c6b0:decide (0≤x6_1)=true:=decide_eq_true c6
       clear c6
       by_cases c7:x6_1 < (l0_1.length:Int)
       ·rw [if_pos c7] at H
        have c7b0:decide (x6_1 < (l0_1.length:Int))=true:=decide_eq_true c7
        clear c7
        by_cases c8:x7_2 < (((rd_T35 l0_1 x6_1).f0).length:Int)
        ·rw [if_pos c8] at H
         have c8b0:decide (x7_2 < (((rd_T35 l0_1 x6_1).f0).length:Int))=true:=decide_eq_true c8
         clear c8
         by_cases c9:0≤x7_2
         ·rw [if_pos c9] at H
          have c9b0:decide (0≤x7_2)=true:=decide_eq_true c9
          clear c9
          by_cases c10:(rd ((rd_T35 l0_1 x6_1).f0) x7_2)=a1
          ·rw [if_pos c10] at H
           have c10b0:((rd ((rd_T35 l0_1 x6_1).f0) x7_2) == a1)=true:=beq_iff_eq.mpr c10
           have c10b1:((rd ((rd_T35 l0_1 x6_1).f0) x7_2) != a1)=false:=bne_eq_false_iff_eq.mpr c10
           clear c10
           have H':=Aside0.mk H
           clear H
           have hcz11_0:wr.cell? ⟨gb275,0,none⟩=some (.int .i64 a0_0):=(blk_cell BK275.out 0).trans rfl
           have hcz11_1:wr.cell? ⟨gb275,1,none⟩=some (.slice A0_1 l0_1.length c0_1):=(blk_cell BK275.out 1).trans rfl
           have hfz11_0:=blk_frozen BK275.out 0
           have hfz11_1:=blk_frozen BK275.out 1
           have p276:0≤(x6_1:Int):=of_decide_eq_true (by first|(with_reducible assumption)|assumption)
           have q276:x6_1 < (l0_1.length:Int):=of_decide_eq_true (by first|(with_reducible assumption)|assumption)
           obtain ⟨ad276,A276_0,c276_0,e276,hx276_0,hl276_0,hi276_0⟩:=at_T35 HR0_1.out x6_1 p276 q276
           cases e276
           replace hx276_0:=(HB.out.cell (World.block_lt_of_cell? w _ hx276_0)).trans hx276_0
           have HR276_0:=aM hi276_0
           have HC276_0:=aM hl276_0
           clear hi276_0 hl276_0
           replace p276:=eq_true p276
           replace q276:=eq_true q276
           have p277:0≤(x6_1:Int):=of_decide_eq_true (by first|(with_reducible assumption)|assumption)
           have q277:x6_1 < (l0_1.length:Int):=of_decide_eq_true (by first|(with_reducible assumption)|assumption)
           obtain ⟨ad277,A277_0,c277_0,e277,hx277_0,hl277_0,hi277_0⟩:=at_T35 HR0_1.out x6_1 p277 q277
           obtain rfl:ad276=ad277:=(by injection e277)
           replace hx277_0:=(HB.out.cell (World.block_lt_of_cell? w _ hx277_0)).trans hx277_0
           have HR277_0:=aM hi277_0
           have HC277_0:=aM hl277_0
           clear hi277_0 hl277_0
           replace p277:=eq_true p277
           replace q277:=eq_true q277
           have ea_:=Option.some.inj (hx276_0.symm.trans hx277_0)
           injection ea_ with ea_ en_ ec_
           subst ea_
           subst ec_
           clear en_
           have p278:0≤(x7_2:Int):=of_decide_eq_true (by first|(with_reducible assumption)|assumption)
           have q278:x7_2 < (((rd_T35 l0_1 x6_1).f0).length:Int):=of_decide_eq_true (by first|(with_reducible assumption)|assumption)
           obtain ⟨ad278,e278,hx278_0⟩:=Kd.at_int HR277_0.out x7_2 p278 q278
           cases e278
           replace hx278_0:=(HB.out.cell (World.block_lt_of_cell? w _ hx278_0)).trans hx278_0
           replace p278:=eq_true p278
           replace q278:=eq_true q278
           go_wp2
           go_roundg k2
           case measure=>have:=HK1.out;have:=HK2.out;omega
           case rel=>exact ⟨(wrap64 (x5_2+1)),(wrap64 (x7_2+1)),rd_,rd_,H',⟨by have:=HK1.out;have:=HK2.out;omega⟩,⟨bk BK275⟩,⟨be⟩⟩
          ·rw [if_neg c10] at H
           have c10b0:((rd ((rd_T35 l0_1 x6_1).f0) x7_2) == a1)=false:=beq_eq_false_iff_ne.mpr c10
           have c10b1:((rd ((rd_T35 l0_1 x6_1).f0) x7_2) != a1)=true:=bne_iff_ne.mpr c10
           have H':=Aside0.mk H
           clear H
           have hcz12_0:wr.cell? ⟨gb275,0,none⟩=some (.int .i64 a0_0):=(blk_cell BK275.out 0).trans rfl
           have hcz12_1:wr.cell? ⟨gb275,1,none⟩=some (.slice A0_1 l0_1.length c0_1):=(blk_cell BK275.out 1).trans rfl
           have hfz12_0:=blk_frozen BK275.out 0
           have hfz12_1:=blk_frozen BK275.out 1
           have p276:0≤(x6_1:Int):=of_decide_eq_true (by first|(with_reducible assumption)|assumption)
           have q276:x6_1 < (l0_1.length:Int):=of_decide_eq_true (by first|(with_reducible assumption)|assumption)
           obtain ⟨ad276,A276_0,c276_0,e276,hx276_0,hl276_0,hi276_0⟩:=at_T35 HR0_1.out x6_1 p276 q276
           cases e276
           replace hx276_0:=(HB.out.cell (World.block_lt_of_cell? w _ hx276_0)).trans hx276_0
           have HR276_0:=aM hi276_0
           have HC276_0:=aM hl276_0
           clear hi276_0 hl276_0
           replace p276:=eq_true p276
           replace q276:=eq_true q276
           have p277:0≤(x6_1:Int):=of_decide_eq_true (by first|(with_reducible assumption)|assumption)
           have q277:x6_1 < (l0_1.length:Int):=of_decide_eq_true (by first|(with_reducible assumption)|assumption)
           obtain ⟨ad277,A277_0,c277_0,e277,hx277_0,hl277_0,hi277_0⟩:=at_T35 HR0_1.out x6_1 p277 q277
           obtain rfl:ad276=ad277:=(by injection e277)
           replace hx277_0:=(HB.out.cell (World.block_lt_of_cell? w _ hx277_0)).trans hx277_0
           have HR277_0:=aM hi277_0
           have HC277_0:=aM hl277_0
           clear hi277_0 hl277_0
           replace p277:=eq_true p277
           replace q277:=eq_true q277
           have ea_:=Option.some.inj (hx276_0.symm.trans hx277_0)
           injection ea_ with ea_ en_ ec_
           subst ea_
           subst ec_
           clear en_
           have p278:0≤(x7_2:Int):=of_decide_eq_true (by first|(with_reducible assumption)|assumption)
           have q278:x7_2 < (((rd_T35 l0_1 x6_1).f0).length:Int):=of_decide_eq_true (by first|(with_reducible assumption)|assumption)
           obtain ⟨ad278,e278,hx278_0⟩:=Kd.at_int HR277_0.out x7_2 p278 q278
           cases e278
           replace hx278_0:=(HB.out.cell (World.block_lt_of_cell? w _ hx278_0)).trans hx278_0
           replace p278:=eq_true p278
           replace q278:=eq_true q278
           go_wp2
           go_roundg k2
           case measure=>have:=HK1.out;have:=HK2.out;omega
           case rel=>exact ⟨(x5_2),(wrap64 (x7_2+1)),rd_,rd_,H',⟨by have:=HK1.out;have:=HK2.out;omega⟩,⟨bk BK275⟩,⟨be⟩⟩
         ·rw [if_neg c9] at H
          exact absurd H (by simp)
        ·rw [if_neg c8] at H
         have c8b0:decide (x7_2 < (((rd_T35 l0_1 x6_1).f0).length:Int))=false:=decide_eq_false c8
         clear c8
         have H':=Aside0.mk H
         clear H
         have hcz13_0:wr.cell? ⟨gb275,0,none⟩=some (.int .i64 a0_0):=(blk_cell BK275.out 0).trans rfl
         have hcz13_1:wr.cell? ⟨gb275,1,none⟩=some (.slice A0_1 l0_1.length c0_1):=(blk_cell BK275.out 1).trans rfl
         have hfz13_0:=blk_frozen BK275.out 0
         have hfz13_1:=blk_frozen BK275.out 1
         have p276:0≤(x6_1:Int):=of_decide_eq_true (by first|(with_reducible assumption)|assumption)
         have q276:x6_1 < (l0_1.length:Int):=of_decide_eq_true (by first|(with_reducible assumption)|assumption)
         obtain ⟨ad276,A276_0,c276_0,e276,hx276_0,hl276_0,hi276_0⟩:=at_T35 HR0_1.out x6_1 p276 q276
         cases e276
         replace hx276_0:=(HB.out.cell (World.block_lt_of_cell? w _ hx276_0)).trans hx276_0
         have HR276_0:=aM hi276_0
         have HC276_0:=aM hl276_0
         clear hi276_0 hl276_0
         replace p276:=eq_true p276
         replace q276:=eq_true q276
         go_wp2
         go_roundg k2
         case measure=>have:=HK1.out;have:=HK2.out;omega
         case rel=>exact ⟨(x5_2),(wrap64 (x6_1+1)),rd_,rd_,H',⟨by have:=HK1.out;have:=HK2.out;omega⟩,⟨bk BK275⟩,⟨be⟩⟩
       ·rw [if_neg c7] at H
        exact absurd H (by simp)
      ·rw [if_neg c6] at H
       exact absurd H (by simp)
   ·rw [if_neg c4] at H
    have c4b0:decide (x6_1 < (l0_1.length:Int))=false:=decide_eq_false c4
    clear c4
    obtain rfl:=Option.some.inj H
    have hcz14_0:wr.cell? ⟨gb275,0,none⟩=some (.int .i64 a0_0):=(blk_cell BK275.out 0).trans rfl
    have hcz14_1:wr.cell? ⟨gb275,1,none⟩=some (.slice A0_1 l0_1.length c0_1):=(blk_cell BK275.out 1).trans rfl
    have hfz14_0:=blk_frozen BK275.out 0
    have hfz14_1:=blk_frozen BK275.out 1
    go_wp2
    go_ret
    exact ⟨rz,be⟩
end Go.Proofs.Ytpbjbfimnfghkaa.PFnExactRebalance
