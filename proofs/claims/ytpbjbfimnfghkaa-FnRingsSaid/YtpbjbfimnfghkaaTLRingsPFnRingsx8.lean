/- Trimmed by a program of this session (trim.py). Not trusted: Lean checks it. -/
import Derived.Test.YtpbjbfimnfghkaaTLRingsPFnRingsx0
import Derived.Test.YtpbjbfimnfghkaaTLRingsPFnRingsx7
namespace Go.Proofs.Ytpbjbfimnfghkaa.PFnRings
open Go.RowKit Go.Proofs.YtpbjbfimnfghkaaW.PrintWords Go.Proofs.YtpbjbfimnfghkaaW.PrintLast Go.Proofs.YtpbjbfimnfghkaaW.PrintMore Go.Proofs.Ytpbjbfimnfghkaa.St
attribute [local go_sem] max2_int min2_int max_two min_two max_three min_three max_four min_four
set_option linter.unusedVariables false
set_option linter.unusedSimpArgs false
def spec_DevAt.l0:Nat→List (S61)→Int→Int→Option (Int × Int × Int × Bool)
 | 0,_,_,_=>none
 | k+1,x0,x1,x6=>if x6 < (x0.length:Int) then (if 0≤x6 then (if ((rd_T61 x0 x6).f0)=x1 then (some ((rd_T61 x0 x6).f0,(rd_T61 x0 x6).f1,(rd_T61 x0 x6).f2,true)) else (spec_DevAt.l0 k x0 x1 (wrap64 (x6+1)))) else (none)) else (some (0,0,0,false))
def spec_DevAt.f (k:Nat) (l0:List (S61)) (a1:Int):Option (Int × Int × Int × Bool):=spec_DevAt.l0 k l0 a1 0
set_option maxHeartbeats 8000000 in
set_option maxRecDepth 100000 in
theorem spec_DevAt.calls (k:Nat) (A0:Option Addr) (c0:Nat) (l0:List (S61)) (a1:Int) (r1:Int) (r2:Int) (r3:Int) (r4:Bool) (w:World) (hr0:Kd.C k61 w A0 l0.length l0) (hc0:l0.length≤c0) (h:spec_DevAt.f k l0 a1=some (r1,r2,r3,r4)) :
  Calls Try.prog 56 #[.slice A0 l0.length c0,.int .i64 a1] w fun e w'=>e = .returned (.tuple #[.agg #[.int .i64 r1,.int .i64 r2,.int .i64 r3],.bool r4])∧Below w.heap.size w w':=by
 have hu61:=Try.underlying61
 have HR0:=Aside0.mk hr0
 have HC0:=Aside0.mk hc0
 clear hr0 hc0
 have HB:=Aside0.mk (Below.refl w.heap.size w)
 have H:(spec_DevAt.l0 k l0 a1 0)=some (r1,r2,r3,r4):=h
 clear h
 have H':=Aside0.mk H
 clear H
 go_enter Try.func56,Try.ntmps56
 go_wp2_with (first|((with_reducible refine gate_dst (N:=4) rfl ?_);refine box_event ?hg (N:=4) ?hd (cs:=#[.int .i64 0,.int .i64 0,.int .i64 0]) (t:=61) ?hr ?_;(case hd=>rfl);(case hg=>rfl);(case hr=>first|(go_simp;done)|(go_simp;rfl));intro gb288 hg w3 hbox hb;have n0_:=bs hb;have n1_:=Aside0.mk (hbox);have n2_:=Aside0.mk ((by rw [hg];exact (below_size be):w.heap.size≤gb288));have n3_:=Aside0.mk ((by rw [hg];exact (below_size be):w.heap.size≤gb288));clear HB;have HB:=n0_;have BK288:=n1_;have GW288:=n2_;have GE288:=n3_;clear n0_ n1_ n2_ n3_;clear hb hbox hg))
 go_loopg [6] k (fun kq v6 w'=>∃ (x6_1:Int) (x289000_1:Int) (x289001_1:Int) (x289002_1:Int),v6 = .int .i64 x6_1∧Aside0 (spec_DevAt.l0 kq l0 a1 x6_1=some (r1,r2,r3,r4))∧Aside0 (kq≤k)∧Aside0 (w'.heap[gb288]?=some (.cells #[.int .i64 x289000_1,.int .i64 x289001_1,.int .i64 x289002_1] 61 (0,0)))∧Aside0 (Below w.heap.size w w'))
 case atStart=>exact ⟨(0),(0),(0),(0),rd_,H',⟨Nat.le_refl _⟩,⟨bk BK288⟩,⟨be⟩⟩
 case round=>
  clear H'
  try clear p2
  obtain ⟨x6_1,x289000_1,x289001_1,x289002_1,rfl,HA,HK1,BK288,HB⟩:=hrel
  cases gk with
  | zero=>exact absurd HA.out (by simp [spec_DevAt.l0])
  | succ k1=>
   have H:=HA.out
   clear HA
   simp only [spec_DevAt.l0] at H
   by_cases c4:x6_1 < (l0.length:Int)
   ·rw [if_pos c4] at H
    have c4b0:decide (x6_1 < (l0.length:Int))=true:=decide_eq_true c4
    clear c4
    by_cases c5:0≤x6_1
    ·rw [if_pos c5] at H
     have c5b0:decide (0≤x6_1)=true:=decide_eq_true c5
     clear c5
     by_cases c6:((rd_T61 l0 x6_1).f0)=a1
     ·rw [if_pos c6] at H
      have c6b0:(((rd_T61 l0 x6_1).f0) == a1)=true:=beq_iff_eq.mpr c6
      have c6b1:(((rd_T61 l0 x6_1).f0) != a1)=false:=bne_eq_false_iff_eq.mpr c6
      clear c6
      simp only [Option.some.injEq,Prod.mk.injEq] at H
      obtain ⟨rfl,rfl,rfl,rfl⟩:=H
      have p289:0≤(x6_1:Int):=of_decide_eq_true (by first|(with_reducible assumption)|assumption)
      have q289:x6_1 < (l0.length:Int):=of_decide_eq_true (by first|(with_reducible assumption)|assumption)
      obtain ⟨ad289,e289,hx289_0,hx289_1,hx289_2⟩:=at_T61 HR0.out x6_1 p289 q289
      cases e289
      replace hx289_0:=(HB.out.cell (World.block_lt_of_cell? w _ hx289_0)).trans hx289_0
      replace hx289_1:=(HB.out.cell (World.block_lt_of_cell? w _ hx289_1)).trans hx289_1
      replace hx289_2:=(HB.out.cell (World.block_lt_of_cell? w _ hx289_2)).trans hx289_2
      replace p289:=eq_true p289
      replace q289:=eq_true q289
      have p290:0≤(x6_1:Int):=of_decide_eq_true (by first|(with_reducible assumption)|assumption)
      have q290:x6_1 < (l0.length:Int):=of_decide_eq_true (by first|(with_reducible assumption)|assumption)
      obtain ⟨ad290,e290,hx290_0,hx290_1,hx290_2⟩:=at_T61 HR0.out x6_1 p290 q290
      obtain rfl:ad289=ad290:=(by injection e290)
      replace hx290_0:=(HB.out.cell (World.block_lt_of_cell? w _ hx290_0)).trans hx290_0
      replace hx290_1:=(HB.out.cell (World.block_lt_of_cell? w _ hx290_1)).trans hx290_1
      replace hx290_2:=(HB.out.cell (World.block_lt_of_cell? w _ hx290_2)).trans hx290_2
      replace p290:=eq_true p290
      replace q290:=eq_true q290
      have hcz7_0:wr.cell? ⟨gb288,0,none⟩=some (.int .i64 x289000_1):=(blk_cell BK288.out 0).trans rfl
      have hcz7_1:wr.cell? ⟨gb288,1,none⟩=some (.int .i64 x289001_1):=(blk_cell BK288.out 1).trans rfl
      have hcz7_2:wr.cell? ⟨gb288,2,none⟩=some (.int .i64 x289002_1):=(blk_cell BK288.out 2).trans rfl
      have hfz7_0:=blk_frozen BK288.out 0
      have hfz7_1:=blk_frozen BK288.out 1
      have hfz7_2:=blk_frozen BK288.out 2
      go_wp2
      refine bodyPost_ret (results_ct rfl _ _ gb288 61 #[.int .i64 ((rd_T61 l0 x6_1).f0),.int .i64 ((rd_T61 l0 x6_1).f1),.int .i64 ((rd_T61 l0 x6_1).f2)] (0,0) _ rfl (by (with_reducible repeat (first|refine blk_drewN ?_ _|refine blk_drew ?_|refine blk_alloc ?_ _));refine blk_put (cs:=#[.int .i64 ((rd_T61 l0 x6_1).f0),.int .i64 ((rd_T61 l0 x6_1).f1),.int .i64 x289002_1]) ?_ 2 _ rfl;(with_reducible repeat (first|refine blk_drewN ?_ _|refine blk_drew ?_|refine blk_alloc ?_ _));refine blk_put (cs:=#[.int .i64 ((rd_T61 l0 x6_1).f0),.int .i64 x289001_1,.int .i64 x289002_1]) ?_ 1 _ rfl;(with_reducible repeat (first|refine blk_drewN ?_ _|refine blk_drew ?_|refine blk_alloc ?_ _));refine blk_put (cs:=#[.int .i64 x289000_1,.int .i64 x289001_1,.int .i64 x289002_1]) ?_ 0 _ rfl;(with_reducible repeat (first|refine blk_drewN ?_ _|refine blk_drew ?_|refine blk_alloc ?_ _));exact BK288.out) Try.underlying61 rfl (by kernel_rfl)) rfl ?_
      exact ⟨rz,be⟩
     ·rw [if_neg c6] at H
      have c6b0:(((rd_T61 l0 x6_1).f0) == a1)=false:=beq_eq_false_iff_ne.mpr c6
      have c6b1:(((rd_T61 l0 x6_1).f0) != a1)=true:=bne_iff_ne.mpr c6
      have H':=Aside0.mk H
      clear H
      have p289:0≤(x6_1:Int):=of_decide_eq_true (by first|(with_reducible assumption)|assumption)
      have q289:x6_1 < (l0.length:Int):=of_decide_eq_true (by first|(with_reducible assumption)|assumption)
      obtain ⟨ad289,e289,hx289_0,hx289_1,hx289_2⟩:=at_T61 HR0.out x6_1 p289 q289
      cases e289
      replace hx289_0:=(HB.out.cell (World.block_lt_of_cell? w _ hx289_0)).trans hx289_0
      replace hx289_1:=(HB.out.cell (World.block_lt_of_cell? w _ hx289_1)).trans hx289_1
      replace hx289_2:=(HB.out.cell (World.block_lt_of_cell? w _ hx289_2)).trans hx289_2
      replace p289:=eq_true p289
      replace q289:=eq_true q289
      go_wp2
      go_roundg k1
      case measure=>have:=HK1.out;omega
      case rel=>exact ⟨(wrap64 (x6_1+1)),(x289000_1),(x289001_1),(x289002_1),rd_,H',⟨by have:=HK1.out;omega⟩,⟨bk BK288⟩,⟨be⟩⟩
    ·rw [if_neg c5] at H
     exact absurd H (by simp)
   ·rw [if_neg c4] at H
    have c4b0:decide (x6_1 < (l0.length:Int))=false:=decide_eq_false c4
    clear c4
    simp only [Option.some.injEq,Prod.mk.injEq] at H
    obtain ⟨rfl,rfl,rfl,rfl⟩:=H
    have hcz8_0:wr.cell? ⟨gb288,0,none⟩=some (.int .i64 x289000_1):=(blk_cell BK288.out 0).trans rfl
    have hcz8_1:wr.cell? ⟨gb288,1,none⟩=some (.int .i64 x289001_1):=(blk_cell BK288.out 1).trans rfl
    have hcz8_2:wr.cell? ⟨gb288,2,none⟩=some (.int .i64 x289002_1):=(blk_cell BK288.out 2).trans rfl
    have hfz8_0:=blk_frozen BK288.out 0
    have hfz8_1:=blk_frozen BK288.out 1
    have hfz8_2:=blk_frozen BK288.out 2
    go_wp2
    refine bodyPost_ret (results_ct rfl _ _ gb288 61 #[.int .i64 0,.int .i64 0,.int .i64 0] (0,0) _ rfl (by (with_reducible repeat (first|refine blk_drewN ?_ _|refine blk_drew ?_|refine blk_alloc ?_ _));refine blk_put (cs:=#[.int .i64 0,.int .i64 0,.int .i64 x289002_1]) ?_ 2 _ rfl;(with_reducible repeat (first|refine blk_drewN ?_ _|refine blk_drew ?_|refine blk_alloc ?_ _));refine blk_put (cs:=#[.int .i64 0,.int .i64 x289001_1,.int .i64 x289002_1]) ?_ 1 _ rfl;(with_reducible repeat (first|refine blk_drewN ?_ _|refine blk_drew ?_|refine blk_alloc ?_ _));refine blk_put (cs:=#[.int .i64 x289000_1,.int .i64 x289001_1,.int .i64 x289002_1]) ?_ 0 _ rfl;(with_reducible repeat (first|refine blk_drewN ?_ _|refine blk_drew ?_|refine blk_alloc ?_ _));exact BK288.out) Try.underlying61 rfl (by kernel_rfl)) rfl ?_
    exact ⟨rz,be⟩
def spec_l5Zones.l0:Nat→List Int→List (S61)→List Int→Int→Option (List Int)
 | 0,_,_,_,_=>none
 | k+1,x0,x1,x5,x6=>if x6 < (x0.length:Int) then (if 0≤x6 then ((spec_DevAt.f k x1 (rd x0 x6)).bind fun bt295=>(if bt295.2.2.2=true then ((spec_l4Has.f k x5 bt295.2.1).bind fun t300=>(if t300=true then (spec_l5Zones.l0 k x0 x1 x5 (wrap64 (x6+1))) else (if x5.length < 17592186044416 then (spec_l5Zones.l0 k x0 x1 (x5 ++ [bt295.2.1]) (wrap64 (x6+1))) else (none)))) else (spec_l5Zones.l0 k x0 x1 x5 (wrap64 (x6+1))))) else (none)) else (some x5)
def spec_l5Zones.f (k:Nat) (l0:List Int) (l1:List (S61)):Option (List Int):=spec_l5Zones.l0 k l0 l1 (([]:List Int)) 0
set_option maxHeartbeats 8000000 in
set_option maxRecDepth 100000 in
theorem spec_l5Zones.calls (k:Nat) (A0:Option Addr) (c0:Nat) (l0:List Int) (A1:Option Addr) (c1:Nat) (l1:List (S61)) (r:List Int) (w:World) (hr0:Kd.C (Kd.int .i64) w A0 l0.length l0) (hc0:l0.length≤c0) (hr1:Kd.C k61 w A1 l1.length l1) (hc1:l1.length≤c1) (h:spec_l5Zones.f k l0 l1=some r) :
  Calls Try.prog 75 #[.slice A0 l0.length c0,.slice A1 l1.length c1] w fun e w'=>∃ v0_:Value,e = .returned (v0_)∧Kd.R (Kd.int .i64) 3 w' w.heap.size (fun _=>True) v0_ r∧Below w.heap.size w w':=by
 have hu61:=Try.underlying61
 have HR0:=Aside0.mk hr0
 have HC0:=Aside0.mk hc0
 clear hr0 hc0
 have HR1:=Aside0.mk hr1
 have HC1:=Aside0.mk hc1
 clear hr1 hc1
 have HB:=Aside0.mk (Below.refl w.heap.size w)
 have H:(spec_l5Zones.l0 k l0 l1 (([]:List Int)) 0)=some r:=h
 clear h
 obtain ⟨y291,hy291⟩ : ∃ y_:List Int,y_=(([]:List Int)):=⟨_,rfl⟩
 replace H:(spec_l5Zones.l0 k l0 l1 y291 0)=some r:=by first|(rw [hy291];with_reducible exact H)|(have H2_:=(Option.bind_some _ _).symm.trans H;rw [hy291];with_reducible exact H2_)|(have H2_:=(Option.bind_some _ _).symm.trans H;with_reducible exact H2_)|with_reducible exact H|(rw [hy291];exact H)|exact H
 have Ny291:=Aside0.mk hy291
 clear hy291
 have H':=Aside0.mk H
 clear H
 go_enter Try.func75,Try.ntmps75
 go_wp2_with (first|((with_reducible refine gate_dst (N:=9) rfl ?_);refine Kd.R_lit (Kd.int .i64) _ 3 ?hg (N:=9) ?hd (xs:=([]:List Int)) (inner:=[]) (ok:=fun _=>True) (okp:=fun _=>True) ?hr ?hp (fun _ hk=>hk) trivial (Below.refl _ _) (Nat.le_refl _) (by simp) ?_;(case hd=>rfl);(case hg=>rfl);(case hr=>first|(go_simp;done)|(go_simp;rfl));(case hp=>exact (Reps.none _ _));intro v292 w3 ho4 hb hg_ hnew_;clear hg_ hnew_;(first|rw [← Ny291.out] at ho4|(simp only [Int.reduceToNat] at ho4;rw [← Ny291.out] at ho4));have n0_:=Aside0.mk (Kd.R_lower ho4 (below_size be));have n1_:=bs hb;clear HB;have HO293:=n0_;have HB:=n1_;clear n0_ n1_;clear hb ho4))
 go_loopg [5,6] k (fun kq v5 v6 w'=>∃ (x5_1:List Int) (x6_1:Int),v6 = .int .i64 x6_1∧Aside0 (spec_l5Zones.l0 kq l0 l1 x5_1 x6_1=some r)∧Aside0 (kq≤k)∧Aside0 (Kd.R (Kd.int .i64) 3 w' w.heap.size (fun _=>True) v5 x5_1)∧Aside0 (Below w.heap.size w w'))
 case atStart=>exact ⟨(y291),(0),rd_,H',⟨Nat.le_refl _⟩,⟨rR HO293⟩,⟨be⟩⟩
 case round=>
  clear H'
  try clear c1
  try clear p2
  obtain ⟨x5_1,x6_1,rfl,HA,HK1,HO_5,HB⟩:=hrel
  cases gk with
  | zero=>exact absurd HA.out (by simp [spec_l5Zones.l0])
  | succ k1=>
   have H:=HA.out
   clear HA
   simp only [spec_l5Zones.l0] at H
   by_cases c5:x6_1 < (l0.length:Int)
   ·rw [if_pos c5] at H
    have c5b0:decide (x6_1 < (l0.length:Int))=true:=decide_eq_true c5
    clear c5
    by_cases c6:0≤x6_1
    ·rw [if_pos c6] at H
     have c6b0:decide (0≤x6_1)=true:=decide_eq_true c6
     clear c6
     replace H:=Option.bind_eq_some_iff.mp H
     obtain ⟨⟨t295,t296,t297,t298⟩,A70,H⟩:=H
     try dsimp only at H
     have A7:=Aside0.mk A70
     clear A70
     by_cases c8:t298=true
     ·subst c8
      rw [if_pos rfl] at H
      replace H:=Option.bind_eq_some_iff.mp H
      obtain ⟨t300,A90,H⟩:=H
      try dsimp only at H
      have A9:=Aside0.mk A90
      clear A90
      by_cases c10:t300=true
      ·subst c10
       rw [if_pos rfl] at H
       have H':=Aside0.mk H
       clear H
       have p294:0≤(x6_1:Int):=of_decide_eq_true (by first|(with_reducible assumption)|assumption)
       have q294:x6_1 < (l0.length:Int):=of_decide_eq_true (by first|(with_reducible assumption)|assumption)
       obtain ⟨ad294,e294,hx294_0⟩:=Kd.at_int HR0.out x6_1 p294 q294
       cases e294
       replace hx294_0:=(HB.out.cell (World.block_lt_of_cell? w _ hx294_0)).trans hx294_0
       replace p294:=eq_true p294
       replace q294:=eq_true q294
       go_wp2_with (first|((with_reducible refine gate_callee (f:=56) rfl ?_);refine goesL_ (some 22) rfl rfl Try.func56 (by kernel_rfl) rfl #[.slice A1 l1.length c1,.int .i64 (rd l0 x6_1)] rfl (by (try simp only [List.map_toArray,List.map_cons,List.map_nil]);first|done|rfl|(simp only [List.length_drop,List.length_take];rfl)) ?_;(with_reducible refine (spec_DevAt.calls k1 _ _ l1 (rd l0 x6_1) t295 t296 t297 true _ ?side1 ?side2 A7.out).mono ?_);(case side1=>exact rC HR1);(case side2=>exact HC1.out);rintro e w11 ⟨rfl,hb⟩;refine ⟨_,rfl,?_⟩;have n0_:=Aside0.mk (Kd.R_below ((rR HO_5)) hb);have n1_:=bs hb;clear HO_5;clear HB;have HO_5:=n0_;have HB:=n1_;clear n0_ n1_;(try clear hb);(try clear hb2);(try clear hk);(try clear hi))|((with_reducible refine gate_dst (N:=7) rfl ?_);refine box_event ?hg (N:=7) ?hd (cs:=#[.int .i64 0,.int .i64 0,.int .i64 0]) (t:=61) ?hr ?_;(case hd=>rfl);(case hg=>rfl);(case hr=>first|(go_simp;done)|(go_simp;rfl));intro gb299 hg w12 hbox hb;have n0_:=Aside0.mk (Kd.R_below (rR HO_5) hb);have n1_:=bs hb;have n2_:=Aside0.mk (hbox);have n3_:=Aside0.mk ((by rw [hg];exact (below_size be):w.heap.size≤gb299));have n4_:=Aside0.mk ((by rw [hg];exact (below_size be):w.heap.size≤gb299));clear HO_5;clear HB;have HO_5:=n0_;have HB:=n1_;have BK299:=n2_;have GW299:=n3_;have GE299:=n4_;clear n0_ n1_ n2_ n3_ n4_;clear hb hbox hg;have hcz13_0:w12.cell? ⟨gb299,0,none⟩=some (.int .i64 0):=(blk_cell BK299.out 0).trans rfl;have hcz13_1:w12.cell? ⟨gb299,1,none⟩=some (.int .i64 0):=(blk_cell BK299.out 1).trans rfl;have hcz13_2:w12.cell? ⟨gb299,2,none⟩=some (.int .i64 0):=(blk_cell BK299.out 2).trans rfl;have hfz13_0:=blk_frozen BK299.out 0;have hfz13_1:=blk_frozen BK299.out 1;have hfz13_2:=blk_frozen BK299.out 2;obtain ⟨Ao14,co14,eo14⟩:=Kd.R_slice HO_5.out;subst eo14)|(go_at_call 68;(with_reducible refine (spec_l4Has.calls k1 _ _ x5_1 t296 true _ ?side1 ?side2 A9.out).mono ?_);(case side1=>refine (Kd.R_reads' (e:=3) (base:=w.heap.size) (ok:=fun k_=>True) (n:=x5_1.length) (c:=co14) ?_).2.2;exact (by (with_reducible repeat (first|apply Kd.R_alloc|apply Kd.R_drewN|apply Kd.R_drew));exact (Kd.R_mono (Kd.R_far (p:=⟨gb299,2,none⟩) (Kd.R_far (p:=⟨gb299,1,none⟩) (Kd.R_far (p:=⟨gb299,0,none⟩) (Kd.R_types HO_5.out BK299.out (by decide)) (fun _ hk=>hk.2) (.int .i64 t295)) (fun _ hk=>hk.2) (.int .i64 t296)) (fun _ hk=>hk.2) (.int .i64 t297)) (fun _ h_=>h_.1))));(case side2=>exact (Kd.R_reads' HO_5.out).2.1);rintro e w' ⟨rfl,⟨nd,rfl⟩⟩))
       go_roundg k1
       case measure=>have:=HK1.out;omega
       case rel=>exact ⟨(x5_1),(wrap64 (x6_1+1)),rd_,H',⟨by have:=HK1.out;omega⟩,⟨by (with_reducible repeat (first|apply Kd.R_alloc|apply Kd.R_drewN|apply Kd.R_drew));exact Kd.R_mono (Kd.R_far (p:=⟨gb299,2,none⟩) (Kd.R_far (p:=⟨gb299,1,none⟩) (Kd.R_far (p:=⟨gb299,0,none⟩) (Kd.R_types HO_5.out BK299.out (by decide)) (fun _ hk=>hk.2) (.int .i64 t295)) (fun _ hk=>hk.2) (.int .i64 t296)) (fun _ hk=>hk.2) (.int .i64 t297)) (fun _ hk=>trivial)⟩,⟨be⟩⟩
      ·replace c10:=Bool.eq_false_iff.mpr c10
       subst c10
       have H1:(if x5_1.length < 17592186044416 then (spec_l5Zones.l0 k1 l0 l1 (x5_1 ++ [t296]) (wrap64 (x6_1+1))) else (none))=some r:=by rw [if_neg (show ¬ (false=true) by decide)] at H;exact H
       clear H
       have H:=H1
       clear H1
       by_cases c15:x5_1.length < 17592186044416
       ·rw [if_pos c15] at H
        have LMc15:=Aside0.mk c15
        clear c15
        obtain ⟨y301,hy301⟩ : ∃ y_:List Int,y_=(x5_1 ++ [t296]):=⟨_,rfl⟩
        replace H:(spec_l5Zones.l0 k1 l0 l1 y301 (wrap64 (x6_1+1)))=some r:=by first|(rw [hy301];with_reducible exact H)|(have H2_:=(Option.bind_some _ _).symm.trans H;rw [hy301];with_reducible exact H2_)|(have H2_:=(Option.bind_some _ _).symm.trans H;with_reducible exact H2_)|with_reducible exact H|(rw [hy301];exact H)|exact H
        have Ny301:=Aside0.mk hy301
        clear hy301
        have H':=Aside0.mk H
        clear H
        have p294:0≤(x6_1:Int):=of_decide_eq_true (by first|(with_reducible assumption)|assumption)
        have q294:x6_1 < (l0.length:Int):=of_decide_eq_true (by first|(with_reducible assumption)|assumption)
        obtain ⟨ad294,e294,hx294_0⟩:=Kd.at_int HR0.out x6_1 p294 q294
        cases e294
        replace hx294_0:=(HB.out.cell (World.block_lt_of_cell? w _ hx294_0)).trans hx294_0
        replace p294:=eq_true p294
        replace q294:=eq_true q294
        go_wp2_with (first|((with_reducible refine gate_callee (f:=56) rfl ?_);refine goesL_ (some 22) rfl rfl Try.func56 (by kernel_rfl) rfl #[.slice A1 l1.length c1,.int .i64 (rd l0 x6_1)] rfl (by (try simp only [List.map_toArray,List.map_cons,List.map_nil]);first|done|rfl|(simp only [List.length_drop,List.length_take];rfl)) ?_;(with_reducible refine (spec_DevAt.calls k1 _ _ l1 (rd l0 x6_1) t295 t296 t297 true _ ?side1 ?side2 A7.out).mono ?_);(case side1=>exact rC HR1);(case side2=>exact HC1.out);rintro e w16 ⟨rfl,hb⟩;refine ⟨_,rfl,?_⟩;have n0_:=Aside0.mk (Kd.R_below ((rR HO_5)) hb);have n1_:=bs hb;clear HO_5;clear HB;have HO_5:=n0_;have HB:=n1_;clear n0_ n1_;(try clear hb);(try clear hb2);(try clear hk);(try clear hi))|((with_reducible refine gate_dst (N:=7) rfl ?_);refine box_event ?hg (N:=7) ?hd (cs:=#[.int .i64 0,.int .i64 0,.int .i64 0]) (t:=61) ?hr ?_;(case hd=>rfl);(case hg=>rfl);(case hr=>first|(go_simp;done)|(go_simp;rfl));intro gb299 hg w17 hbox hb;have n0_:=Aside0.mk (Kd.R_below (rR HO_5) hb);have n1_:=bs hb;have n2_:=Aside0.mk (hbox);have n3_:=Aside0.mk ((by rw [hg];exact (below_size be):w.heap.size≤gb299));have n4_:=Aside0.mk ((by rw [hg];exact (below_size be):w.heap.size≤gb299));clear HO_5;clear HB;have HO_5:=n0_;have HB:=n1_;have BK299:=n2_;have GW299:=n3_;have GE299:=n4_;clear n0_ n1_ n2_ n3_ n4_;clear hb hbox hg;have hcz18_0:w17.cell? ⟨gb299,0,none⟩=some (.int .i64 0):=(blk_cell BK299.out 0).trans rfl;have hcz18_1:w17.cell? ⟨gb299,1,none⟩=some (.int .i64 0):=(blk_cell BK299.out 1).trans rfl;have hcz18_2:w17.cell? ⟨gb299,2,none⟩=some (.int .i64 0):=(blk_cell BK299.out 2).trans rfl;have hfz18_0:=blk_frozen BK299.out 0;have hfz18_1:=blk_frozen BK299.out 1;have hfz18_2:=blk_frozen BK299.out 2;obtain ⟨Ao19,co19,eo19⟩:=Kd.R_slice HO_5.out;subst eo19)|(go_at_call 68;(with_reducible refine (spec_l4Has.calls k1 _ _ x5_1 t296 false _ ?side1 ?side2 A9.out).mono ?_);(case side1=>refine (Kd.R_reads' (e:=3) (base:=w.heap.size) (ok:=fun k_=>True) (n:=x5_1.length) (c:=co19) ?_).2.2;exact (by (with_reducible repeat (first|apply Kd.R_alloc|apply Kd.R_drewN|apply Kd.R_drew));exact (Kd.R_mono (Kd.R_far (p:=⟨gb299,2,none⟩) (Kd.R_far (p:=⟨gb299,1,none⟩) (Kd.R_far (p:=⟨gb299,0,none⟩) (Kd.R_types HO_5.out BK299.out (by decide)) (fun _ hk=>hk.2) (.int .i64 t295)) (fun _ hk=>hk.2) (.int .i64 t296)) (fun _ hk=>hk.2) (.int .i64 t297)) (fun _ h_=>h_.1))));(case side2=>exact (Kd.R_reads' HO_5.out).2.1);rintro e w' ⟨rfl,⟨nd,rfl⟩⟩)|((with_reducible refine gate_builtin (b:=.append) (xs:=#[.tmp 33,.tmp 36]) rfl ?_);at_builtin;refine Kd.R_append (Kd.int .i64) (w0:=w) w.heap.size rfl (.tmp 33) (.tmp 36) 33 3 (.int .i64 0) 8 rfl Try.underlying33 info3 rfl (by decide) (by omega) (.slice Ao19 x5_1.length co19) x5_1 t296 [.int .i64 t296] (fun _=>True) (fun _=>False) rfl (by first|(go_simp;done)|(go_simp;rfl)) ?aP (fun _ hk=>hk.elim) ?aF ?aO ?aB ?aS ?aL ?_;(case aP=>exact rfl);(case aB=>exact be);(case aF=>exact (fun _ _=>trivial));(case aO=>exact (by (with_reducible repeat (first|apply Kd.R_alloc|apply Kd.R_drewN|apply Kd.R_drew));exact Kd.R_mono (Kd.R_far (p:=⟨gb299,2,none⟩) (Kd.R_far (p:=⟨gb299,1,none⟩) (Kd.R_far (p:=⟨gb299,0,none⟩) (Kd.R_types HO_5.out BK299.out (by decide)) (fun _ hk=>hk.2) (.int .i64 t295)) (fun _ hk=>hk.2) (.int .i64 t296)) (fun _ hk=>hk.2) (.int .i64 t297)) (fun _ hk=>trivial)));(case aS=>exact (below_size be));(case aL=>have:=LMc15.out;omega);intro v302 w20 ho hb hg hat;rw [← Ny301.out] at ho;have n0_:=Aside0.mk (blk_grown (g:=gb299) (o:=.cells #[.int .i64 t295,.int .i64 t296,.int .i64 t297] 61 (0,0)) (by (with_reducible repeat (first|refine blk_drewN ?_ _|refine blk_drew ?_|refine blk_alloc ?_ _));refine blk_put (cs:=#[.int .i64 t295,.int .i64 t296,.int .i64 0]) ?_ 2 _ rfl;(with_reducible repeat (first|refine blk_drewN ?_ _|refine blk_drew ?_|refine blk_alloc ?_ _));refine blk_put (cs:=#[.int .i64 t295,.int .i64 0,.int .i64 0]) ?_ 1 _ rfl;(with_reducible repeat (first|refine blk_drewN ?_ _|refine blk_drew ?_|refine blk_alloc ?_ _));refine blk_put (cs:=#[.int .i64 0,.int .i64 0,.int .i64 0]) ?_ 0 _ rfl;(with_reducible repeat (first|refine blk_drewN ?_ _|refine blk_drew ?_|refine blk_alloc ?_ _));exact BK299.out) hg (Kd.R_ne HO_5.out BK299.out (by decide)));have n1_:=Aside0.mk (hb);have n2_:=Aside0.mk (ho);clear BK299;clear HB;clear HO_5;have BK299:=n0_;have HB:=n1_;have HO303:=n2_;clear n0_ n1_ n2_;clear ho hb hg hat))
        go_roundg k1
        case measure=>have:=HK1.out;omega
        case rel=>exact ⟨(y301),(wrap64 (x6_1+1)),rd_,H',⟨by have:=HK1.out;omega⟩,⟨rR HO303⟩,⟨be⟩⟩
       ·rw [if_neg c15] at H
        exact absurd H (by simp)
     ·replace c8:=Bool.eq_false_iff.mpr c8
      subst c8
      have H1:(spec_l5Zones.l0 k1 l0 l1 x5_1 (wrap64 (x6_1+1)))=some r:=by rw [if_neg (show ¬ (false=true) by decide)] at H;exact H
      clear H
      have H:=H1
      clear H1
      have H':=Aside0.mk H
      clear H
      have p294:0≤(x6_1:Int):=of_decide_eq_true (by first|(with_reducible assumption)|assumption)
      have q294:x6_1 < (l0.length:Int):=of_decide_eq_true (by first|(with_reducible assumption)|assumption)
      obtain ⟨ad294,e294,hx294_0⟩:=Kd.at_int HR0.out x6_1 p294 q294
      cases e294
      replace hx294_0:=(HB.out.cell (World.block_lt_of_cell? w _ hx294_0)).trans hx294_0
      replace p294:=eq_true p294
      replace q294:=eq_true q294
      go_wp2_with (first|((with_reducible refine gate_callee (f:=56) rfl ?_);refine goesL_ (some 22) rfl rfl Try.func56 (by kernel_rfl) rfl #[.slice A1 l1.length c1,.int .i64 (rd l0 x6_1)] rfl (by (try simp only [List.map_toArray,List.map_cons,List.map_nil]);first|done|rfl|(simp only [List.length_drop,List.length_take];rfl)) ?_;(with_reducible refine (spec_DevAt.calls k1 _ _ l1 (rd l0 x6_1) t295 t296 t297 false _ ?side1 ?side2 A7.out).mono ?_);(case side1=>exact rC HR1);(case side2=>exact HC1.out);rintro e w21 ⟨rfl,hb⟩;refine ⟨_,rfl,?_⟩;have n0_:=Aside0.mk (Kd.R_below ((rR HO_5)) hb);have n1_:=bs hb;clear HO_5;clear HB;have HO_5:=n0_;have HB:=n1_;clear n0_ n1_;(try clear hb);(try clear hb2);(try clear hk);(try clear hi))|((with_reducible refine gate_dst (N:=7) rfl ?_);refine box_event ?hg (N:=7) ?hd (cs:=#[.int .i64 0,.int .i64 0,.int .i64 0]) (t:=61) ?hr ?_;(case hd=>rfl);(case hg=>rfl);(case hr=>first|(go_simp;done)|(go_simp;rfl));intro gb299 hg w22 hbox hb;have n0_:=Aside0.mk (Kd.R_below (rR HO_5) hb);have n1_:=bs hb;have n2_:=Aside0.mk (hbox);have n3_:=Aside0.mk ((by rw [hg];exact (below_size be):w.heap.size≤gb299));have n4_:=Aside0.mk ((by rw [hg];exact (below_size be):w.heap.size≤gb299));clear HO_5;clear HB;have HO_5:=n0_;have HB:=n1_;have BK299:=n2_;have GW299:=n3_;have GE299:=n4_;clear n0_ n1_ n2_ n3_ n4_;clear hb hbox hg;have hcz23_0:w22.cell? ⟨gb299,0,none⟩=some (.int .i64 0):=(blk_cell BK299.out 0).trans rfl;have hcz23_1:w22.cell? ⟨gb299,1,none⟩=some (.int .i64 0):=(blk_cell BK299.out 1).trans rfl;have hcz23_2:w22.cell? ⟨gb299,2,none⟩=some (.int .i64 0):=(blk_cell BK299.out 2).trans rfl;have hfz23_0:=blk_frozen BK299.out 0;have hfz23_1:=blk_frozen BK299.out 1;have hfz23_2:=blk_frozen BK299.out 2))
      go_roundg k1
      case measure=>have:=HK1.out;omega
      case rel=>exact ⟨(x5_1),(wrap64 (x6_1+1)),rd_,H',⟨by have:=HK1.out;omega⟩,⟨by (with_reducible repeat (first|apply Kd.R_alloc|apply Kd.R_drewN|apply Kd.R_drew));exact Kd.R_mono (Kd.R_far (p:=⟨gb299,2,none⟩) (Kd.R_far (p:=⟨gb299,1,none⟩) (Kd.R_far (p:=⟨gb299,0,none⟩) (Kd.R_types HO_5.out BK299.out (by decide)) (fun _ hk=>hk.2) (.int .i64 t295)) (fun _ hk=>hk.2) (.int .i64 t296)) (fun _ hk=>hk.2) (.int .i64 t297)) (fun _ hk=>trivial)⟩,⟨be⟩⟩
    ·rw [if_neg c6] at H
     exact absurd H (by simp)
   ·rw [if_neg c5] at H
    have c5b0:decide (x6_1 < (l0.length:Int))=false:=decide_eq_false c5
    clear c5
    obtain rfl:=Option.some.inj H
    go_wp2
    go_ret
    exact ⟨_,rz,rR HO_5,be⟩
mutual
def spec_LoadOf.l0:Nat→Int→Int→Int→Int→List (S35)→Option (Int)
 | 0,_,_,_,_,_=>none
 | k+1,x1,x5,x6,x305000,x305001=>if x6 < (x305001.length:Int) then (spec_LoadOf.l1 k x1 x5 x6 0 x305000 x305001) else (some x5)
def spec_LoadOf.l1:Nat→Int→Int→Int→Int→Int→List (S35)→Option (Int)
 | 0,_,_,_,_,_,_=>none
 | k+1,x1,x5,x6,x7,x305000,x305001=>if 0≤x6 then (if x6 < (x305001.length:Int) then (if x7 < (((rd_T35 x305001 x6).f0).length:Int) then (if 0≤x7 then (if (rd ((rd_T35 x305001 x6).f0) x7)=x1 then (spec_LoadOf.l1 k x1 (wrap64 (x5+1)) x6 (wrap64 (x7+1)) x305000 x305001) else (spec_LoadOf.l1 k x1 x5 x6 (wrap64 (x7+1)) x305000 x305001)) else (none)) else (spec_LoadOf.l0 k x1 x5 (wrap64 (x6+1)) x305000 x305001)) else (none)) else (none)
end
def spec_LoadOf.f (k:Nat) (a0_0:Int) (l0_1:List (S35)) (a1:Int):Option (Int):=spec_LoadOf.l0 k a1 0 0 a0_0 l0_1
set_option maxHeartbeats 8000000 in
set_option maxRecDepth 100000 in
theorem spec_LoadOf.calls (k:Nat) (a0_0:Int) (A0_1:Option Addr) (c0_1:Nat) (l0_1:List (S35)) (a1:Int) (r:Int) (w:World) (hr0_1:Kd.C k35 w A0_1 l0_1.length l0_1) (hc0_1:l0_1.length≤c0_1) (h:spec_LoadOf.f k a0_0 l0_1 a1=some r) :
  Calls Try.prog 76 #[.agg #[.int .i64 a0_0,.slice A0_1 l0_1.length c0_1],.int .i64 a1] w fun e w'=>e = .returned (.int .i64 r)∧Below w.heap.size w w':=by
 have hu26:=Try.underlying26
 have HR0_1:=Aside0.mk hr0_1
 have HC0_1:=Aside0.mk hc0_1
 clear hr0_1 hc0_1
 have HB:=Aside0.mk (Below.refl w.heap.size w)
 have H:(spec_LoadOf.l0 k a1 0 0 a0_0 l0_1)=some r:=h
 clear h
 have H':=Aside0.mk H
 clear H
 go_enter Try.func76,Try.ntmps76
 go_wp2_with (first|((with_reducible refine gate_dst (N:=2) rfl ?_);refine box_event ?hg (N:=2) ?hd (cs:=#[.int .i64 a0_0,.slice A0_1 l0_1.length c0_1]) (t:=26) ?hr ?_;(case hd=>rfl);(case hg=>rfl);(case hr=>first|(go_simp;done)|(go_simp;rfl));intro gb304 hg w3 hbox hb;have n0_:=bs hb;have n1_:=Aside0.mk (hbox);have n2_:=Aside0.mk ((by rw [hg];exact (below_size be):w.heap.size≤gb304));have n3_:=Aside0.mk ((by rw [hg];exact (below_size be):w.heap.size≤gb304));clear HB;have HB:=n0_;have BK304:=n1_;have GW304:=n2_;have GE304:=n3_;clear n0_ n1_ n2_ n3_;clear hb hbox hg))
 go_loopg [5,6] k (fun kq v5 v6 w'=>∃ (x5_1:Int) (x6_1:Int),v5 = .int .i64 x5_1∧v6 = .int .i64 x6_1∧Aside0 (spec_LoadOf.l0 kq a1 x5_1 x6_1 a0_0 l0_1=some r)∧Aside0 (kq≤k)∧Aside0 (w'.heap[gb304]?=some (.cells #[.int .i64 a0_0,(.slice A0_1 l0_1.length c0_1)] 26 (0,0)))∧Aside0 (Below w.heap.size w w'))
 case atStart=>exact ⟨(0),(0),rd_,rd_,H',⟨Nat.le_refl _⟩,⟨bk BK304⟩,⟨be⟩⟩
 case round=>
  clear H'
  try clear p2
  obtain ⟨x5_1,x6_1,rfl,rfl,HA,HK1,BK304,HB⟩:=hrel
  cases gk with
  | zero=>exact absurd HA.out (by simp [spec_LoadOf.l0])
  | succ k1=>
   have H:=HA.out
   clear HA
   simp only [spec_LoadOf.l0] at H
   by_cases c4:x6_1 < (l0_1.length:Int)
   ·rw [if_pos c4] at H
    have c4b0:decide (x6_1 < (l0_1.length:Int))=true:=decide_eq_true c4
    clear c4
    have H':=Aside0.mk H
    clear H
    have hcz5_0:wr.cell? ⟨gb304,0,none⟩=some (.int .i64 a0_0):=(blk_cell BK304.out 0).trans rfl
    have hcz5_1:wr.cell? ⟨gb304,1,none⟩=some (.slice A0_1 l0_1.length c0_1):=(blk_cell BK304.out 1).trans rfl
    have hfz5_0:=blk_frozen BK304.out 0
    have hfz5_1:=blk_frozen BK304.out 1
    go_wp2
    go_loopg [5,7] k1 (fun kq v5 v7 w'=>∃ (x5_2:Int) (x7_2:Int),v5 = .int .i64 x5_2∧v7 = .int .i64 x7_2∧Aside0 (spec_LoadOf.l1 kq a1 x5_2 x6_1 x7_2 a0_0 l0_1=some r)∧Aside0 (kq≤k1)∧Aside0 (w'.heap[gb304]?=some (.cells #[.int .i64 a0_0,(.slice A0_1 l0_1.length c0_1)] 26 (0,0)))∧Aside0 (Below w.heap.size w w'))
    case atStart=>exact ⟨(x5_1),(0),rd_,rd_,H',⟨Nat.le_refl _⟩,⟨bk BK304⟩,⟨be⟩⟩
    case round=>
     clear H'
     try clear p2
     try clear c4
     try clear c4b0
     try clear hcz5_0
     try clear hcz5_1
     try clear hfz5_0
     try clear hfz5_1
     try clear p2
     obtain ⟨x5_2,x7_2,rfl,rfl,HA,HK2,BK304,HB⟩:=hrel
     cases gk with
     | zero=>exact absurd HA.out (by simp [spec_LoadOf.l1])
     | succ k2=>
      have H:=HA.out
      clear HA
      simp only [spec_LoadOf.l1] at H
      by_cases c6:0≤x6_1
      ·rw [if_pos c6] at H
       have c6b0:decide (0≤x6_1)=true:=decide_eq_true c6
       clear c6
       by_cases c7:x6_1 < (l0_1.length:Int)
       ·rw [if_pos c7] at H
        have c7b0:decide (x6_1 < (l0_1.length:Int))=true:=decide_eq_true c7
        clear c7
        by_cases c8:x7_2 < (((rd_T35 l0_1 x6_1).f0).length:Int)
        ·rw [if_pos c8] at H
         have c8b0:decide (x7_2 < (((rd_T35 l0_1 x6_1).f0).length:Int))=true:=decide_eq_true c8
         clear c8
         by_cases c9:0≤x7_2
         ·rw [if_pos c9] at H
          have c9b0:decide (0≤x7_2)=true:=decide_eq_true c9
          clear c9
          by_cases c10:(rd ((rd_T35 l0_1 x6_1).f0) x7_2)=a1
          ·rw [if_pos c10] at H
           have c10b0:((rd ((rd_T35 l0_1 x6_1).f0) x7_2) == a1)=true:=beq_iff_eq.mpr c10
           have c10b1:((rd ((rd_T35 l0_1 x6_1).f0) x7_2) != a1)=false:=bne_eq_false_iff_eq.mpr c10
           clear c10
           have H':=Aside0.mk H
           clear H
           have hcz11_0:wr.cell? ⟨gb304,0,none⟩=some (.int .i64 a0_0):=(blk_cell BK304.out 0).trans rfl
           have hcz11_1:wr.cell? ⟨gb304,1,none⟩=some (.slice A0_1 l0_1.length c0_1):=(blk_cell BK304.out 1).trans rfl
           have hfz11_0:=blk_frozen BK304.out 0
           have hfz11_1:=blk_frozen BK304.out 1
           have p305:0≤(x6_1:Int):=of_decide_eq_true (by first|(with_reducible assumption)|assumption)
           have q305:x6_1 < (l0_1.length:Int):=of_decide_eq_true (by first|(with_reducible assumption)|assumption)
           obtain ⟨ad305,A305_0,c305_0,e305,hx305_0,hl305_0,hi305_0⟩:=at_T35 HR0_1.out x6_1 p305 q305
           cases e305
           replace hx305_0:=(HB.out.cell (World.block_lt_of_cell? w _ hx305_0)).trans hx305_0
           have HR305_0:=Aside0.mk hi305_0
           have HC305_0:=Aside0.mk hl305_0
           clear hi305_0 hl305_0
           replace p305:=eq_true p305
           replace q305:=eq_true q305
           have p306:0≤(x6_1:Int):=of_decide_eq_true (by first|(with_reducible assumption)|assumption)
           have q306:x6_1 < (l0_1.length:Int):=of_decide_eq_true (by first|(with_reducible assumption)|assumption)
           obtain ⟨ad306,A306_0,c306_0,e306,hx306_0,hl306_0,hi306_0⟩:=at_T35 HR0_1.out x6_1 p306 q306
           obtain rfl:ad305=ad306:=(by injection e306)
           replace hx306_0:=(HB.out.cell (World.block_lt_of_cell? w _ hx306_0)).trans hx306_0
           have HR306_0:=Aside0.mk hi306_0
           have HC306_0:=Aside0.mk hl306_0
           clear hi306_0 hl306_0
           replace p306:=eq_true p306
           replace q306:=eq_true q306
           have ea_:=Option.some.inj (hx305_0.symm.trans hx306_0)
           injection ea_ with ea_ en_ ec_
           subst ea_
           subst ec_
           clear en_
           have p307:0≤(x7_2:Int):=of_decide_eq_true (by first|(with_reducible assumption)|assumption)
           have q307:x7_2 < (((rd_T35 l0_1 x6_1).f0).length:Int):=of_decide_eq_true (by first|(with_reducible assumption)|assumption)
           obtain ⟨ad307,e307,hx307_0⟩:=Kd.at_int HR306_0.out x7_2 p307 q307
           cases e307
           replace hx307_0:=(HB.out.cell (World.block_lt_of_cell? w _ hx307_0)).trans hx307_0
           replace p307:=eq_true p307
           replace q307:=eq_true q307
           go_wp2
           go_roundg k2
           case measure=>have:=HK1.out;have:=HK2.out;omega
           case rel=>exact ⟨(wrap64 (x5_2+1)),(wrap64 (x7_2+1)),rd_,rd_,H',⟨by have:=HK1.out;have:=HK2.out;omega⟩,⟨bk BK304⟩,⟨be⟩⟩
          ·rw [if_neg c10] at H
           have c10b0:((rd ((rd_T35 l0_1 x6_1).f0) x7_2) == a1)=false:=beq_eq_false_iff_ne.mpr c10
           have c10b1:((rd ((rd_T35 l0_1 x6_1).f0) x7_2) != a1)=true:=bne_iff_ne.mpr c10
           have H':=Aside0.mk H
           clear H
           have hcz12_0:wr.cell? ⟨gb304,0,none⟩=some (.int .i64 a0_0):=(blk_cell BK304.out 0).trans rfl
           have hcz12_1:wr.cell? ⟨gb304,1,none⟩=some (.slice A0_1 l0_1.length c0_1):=(blk_cell BK304.out 1).trans rfl
           have hfz12_0:=blk_frozen BK304.out 0
           have hfz12_1:=blk_frozen BK304.out 1
           have p305:0≤(x6_1:Int):=of_decide_eq_true (by first|(with_reducible assumption)|assumption)
           have q305:x6_1 < (l0_1.length:Int):=of_decide_eq_true (by first|(with_reducible assumption)|assumption)
           obtain ⟨ad305,A305_0,c305_0,e305,hx305_0,hl305_0,hi305_0⟩:=at_T35 HR0_1.out x6_1 p305 q305
           cases e305
           replace hx305_0:=(HB.out.cell (World.block_lt_of_cell? w _ hx305_0)).trans hx305_0
           have HR305_0:=Aside0.mk hi305_0
           have HC305_0:=Aside0.mk hl305_0
           clear hi305_0 hl305_0
           replace p305:=eq_true p305
           replace q305:=eq_true q305
           have p306:0≤(x6_1:Int):=of_decide_eq_true (by first|(with_reducible assumption)|assumption)
           have q306:x6_1 < (l0_1.length:Int):=of_decide_eq_true (by first|(with_reducible assumption)|assumption)
           obtain ⟨ad306,A306_0,c306_0,e306,hx306_0,hl306_0,hi306_0⟩:=at_T35 HR0_1.out x6_1 p306 q306
           obtain rfl:ad305=ad306:=(by injection e306)
           replace hx306_0:=(HB.out.cell (World.block_lt_of_cell? w _ hx306_0)).trans hx306_0
           have HR306_0:=Aside0.mk hi306_0
           have HC306_0:=Aside0.mk hl306_0
           clear hi306_0 hl306_0
           replace p306:=eq_true p306
           replace q306:=eq_true q306
           have ea_:=Option.some.inj (hx305_0.symm.trans hx306_0)
           injection ea_ with ea_ en_ ec_
           subst ea_
           subst ec_
           clear en_
           have p307:0≤(x7_2:Int):=of_decide_eq_true (by first|(with_reducible assumption)|assumption)
           have q307:x7_2 < (((rd_T35 l0_1 x6_1).f0).length:Int):=of_decide_eq_true (by first|(with_reducible assumption)|assumption)
           obtain ⟨ad307,e307,hx307_0⟩:=Kd.at_int HR306_0.out x7_2 p307 q307
           cases e307
           replace hx307_0:=(HB.out.cell (World.block_lt_of_cell? w _ hx307_0)).trans hx307_0
           replace p307:=eq_true p307
           replace q307:=eq_true q307
           go_wp2
           go_roundg k2
           case measure=>have:=HK1.out;have:=HK2.out;omega
           case rel=>exact ⟨(x5_2),(wrap64 (x7_2+1)),rd_,rd_,H',⟨by have:=HK1.out;have:=HK2.out;omega⟩,⟨bk BK304⟩,⟨be⟩⟩
         ·rw [if_neg c9] at H
          exact absurd H (by simp)
        ·rw [if_neg c8] at H
         have c8b0:decide (x7_2 < (((rd_T35 l0_1 x6_1).f0).length:Int))=false:=decide_eq_false c8
         clear c8
         have H':=Aside0.mk H
         clear H
         have hcz13_0:wr.cell? ⟨gb304,0,none⟩=some (.int .i64 a0_0):=(blk_cell BK304.out 0).trans rfl
         have hcz13_1:wr.cell? ⟨gb304,1,none⟩=some (.slice A0_1 l0_1.length c0_1):=(blk_cell BK304.out 1).trans rfl
         have hfz13_0:=blk_frozen BK304.out 0
         have hfz13_1:=blk_frozen BK304.out 1
         have p305:0≤(x6_1:Int):=of_decide_eq_true (by first|(with_reducible assumption)|assumption)
         have q305:x6_1 < (l0_1.length:Int):=of_decide_eq_true (by first|(with_reducible assumption)|assumption)
         obtain ⟨ad305,A305_0,c305_0,e305,hx305_0,hl305_0,hi305_0⟩:=at_T35 HR0_1.out x6_1 p305 q305
         cases e305
         replace hx305_0:=(HB.out.cell (World.block_lt_of_cell? w _ hx305_0)).trans hx305_0
         have HR305_0:=Aside0.mk hi305_0
         have HC305_0:=Aside0.mk hl305_0
         clear hi305_0 hl305_0
         replace p305:=eq_true p305
         replace q305:=eq_true q305
         go_wp2
         go_roundg k2
         case measure=>have:=HK1.out;have:=HK2.out;omega
         case rel=>exact ⟨(x5_2),(wrap64 (x6_1+1)),rd_,rd_,H',⟨by have:=HK1.out;have:=HK2.out;omega⟩,⟨bk BK304⟩,⟨be⟩⟩
       ·rw [if_neg c7] at H
        exact absurd H (by simp)
      ·rw [if_neg c6] at H
       exact absurd H (by simp)
   ·rw [if_neg c4] at H
    have c4b0:decide (x6_1 < (l0_1.length:Int))=false:=decide_eq_false c4
    clear c4
    obtain rfl:=Option.some.inj H
    have hcz14_0:wr.cell? ⟨gb304,0,none⟩=some (.int .i64 a0_0):=(blk_cell BK304.out 0).trans rfl
    have hcz14_1:wr.cell? ⟨gb304,1,none⟩=some (.slice A0_1 l0_1.length c0_1):=(blk_cell BK304.out 1).trans rfl
    have hfz14_0:=blk_frozen BK304.out 0
    have hfz14_1:=blk_frozen BK304.out 1
    go_wp2
    go_ret
    exact ⟨rz,be⟩
end Go.Proofs.Ytpbjbfimnfghkaa.PFnRings
