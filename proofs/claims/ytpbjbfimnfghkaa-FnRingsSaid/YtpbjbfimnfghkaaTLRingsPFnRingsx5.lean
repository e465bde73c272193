/- Trimmed by a program of this session (trim.py). Not trusted: Lean checks it. -/
import Derived.Test.YtpbjbfimnfghkaaTLRingsPFnRingsx0
import Derived.Test.YtpbjbfimnfghkaaTLRingsPFnRingsx1
import Derived.Test.YtpbjbfimnfghkaaTLRingsPFnRingsx4
namespace Go.Proofs.Ytpbjbfimnfghkaa.PFnRings
open Go.RowKit Go.Proofs.YtpbjbfimnfghkaaW.PrintWords Go.Proofs.YtpbjbfimnfghkaaW.PrintLast Go.Proofs.YtpbjbfimnfghkaaW.PrintMore Go.Proofs.Ytpbjbfimnfghkaa.St
attribute [local go_sem] max2_int min2_int max_two min_two max_three min_three max_four min_four
set_option linter.unusedVariables false
set_option linter.unusedSimpArgs false
def impl_Best.l0:Nat→List Int→Int→Bool→List (S61)→Int→Int→Int→List (S35)→List Int→Int→Int→Int→Option (Int)
 | 0,_,_,_,_,_,_,_,_,_,_,_,_=>none
 | k+1,x7,x9,x10,x23,x24,x25,x253000,x253001,x254000,x259000,x259001,x259002=>if x25 < x24 then (if 0≤x25 then (if x25 < (x23.length:Int) then ((impl_hasInt.f k x254000 ((rd_T61 x23 x25).f0)).bind fun t261=>(if t261=true then (impl_Best.l0 k x7 x9 x10 x23 x24 (wrap64 (x25+1)) x253000 x253001 x254000 x259000 x259001 x259002) else ((impl_LoadOf.f k x253000 x253001 ((rd_T61 x23 x25).f0)).bind fun t262=>((impl_hasInt.f k x7 ((rd_T61 x23 x25).f1)).bind fun t263=>(if x259000 < 0 then (impl_Best.l0 k x7 (wrap64 (t262+1)) (!t263) x23 x24 (wrap64 (x25+1)) x253000 x253001 x254000 ((rd_T61 x23 x25).f0) ((rd_T61 x23 x25).f1) ((rd_T61 x23 x25).f2)) else (if t263=true then (if ((!t263) == x10)=true then (if (wrap64 ((wrap64 (t262+1)) * x259002)) < (wrap64 (x9 * ((rd_T61 x23 x25).f2))) then (impl_Best.l0 k x7 (wrap64 (t262+1)) (!t263) x23 x24 (wrap64 (x25+1)) x253000 x253001 x254000 ((rd_T61 x23 x25).f0) ((rd_T61 x23 x25).f1) ((rd_T61 x23 x25).f2)) else (impl_Best.l0 k x7 x9 x10 x23 x24 (wrap64 (x25+1)) x253000 x253001 x254000 x259000 x259001 x259002)) else (impl_Best.l0 k x7 x9 x10 x23 x24 (wrap64 (x25+1)) x253000 x253001 x254000 x259000 x259001 x259002)) else (if x10=true then (if ((!t263) == x10)=true then (if (wrap64 ((wrap64 (t262+1)) * x259002)) < (wrap64 (x9 * ((rd_T61 x23 x25).f2))) then (impl_Best.l0 k x7 (wrap64 (t262+1)) (!t263) x23 x24 (wrap64 (x25+1)) x253000 x253001 x254000 ((rd_T61 x23 x25).f0) ((rd_T61 x23 x25).f1) ((rd_T61 x23 x25).f2)) else (impl_Best.l0 k x7 x9 x10 x23 x24 (wrap64 (x25+1)) x253000 x253001 x254000 x259000 x259001 x259002)) else (impl_Best.l0 k x7 x9 x10 x23 x24 (wrap64 (x25+1)) x253000 x253001 x254000 x259000 x259001 x259002)) else (impl_Best.l0 k x7 (wrap64 (t262+1)) (!t263) x23 x24 (wrap64 (x25+1)) x253000 x253001 x254000 ((rd_T61 x23 x25).f0) ((rd_T61 x23 x25).f1) ((rd_T61 x23 x25).f2))))))))) else (none)) else (none)) else (some x259000)
def impl_Best.f (k:Nat) (a0_0:Int) (l0_1:List (S35)) (l1_0:List Int) (l2:List (S61)):Option (Int):=(impl_DevsOk.f k l2).bind fun t254=>(if t254=true then ((impl_zonesIn.f k l1_0 l2).bind fun t255=>(impl_Best.l0 k t255 0 false l2 (l2.length:Int) 0 a0_0 l0_1 l1_0 (-1) 0 0)) else (some (-1)))
def impl_Best.T9:Bool × List (List Nat × List Nat):=(true,[([],[]),([],[]),([1],[1]),([0,2],[0,2]),([3],[3]),([],[]),([],[]),([6],[6]),([5,7,3],[5,7]),([8],[8]),([4,8,0,1,2,3,4],[4]),([9,10,0,1,2,3,4,5,6,7,8,9,10],[9])])
def impl_Best.B9:List Nat:=[0,0,2,7,15,0,0,64,239,495,511,2047]
theorem impl_Best.tab9:rtab .any (opsOf Try.f45 9)=impl_Best.T9:=by kernel_rfl
theorem impl_Best.bits9:waitsOk impl_Best.T9.2 impl_Best.B9=true:=by kernel_rfl
set_option maxHeartbeats 8000000 in
set_option maxRecDepth 100000 in
theorem impl_Best.calls (k:Nat) (a0_0:Int) (A0_1:Option Addr) (c0_1:Nat) (l0_1:List (S35)) (A1_0:Option Addr) (c1_0:Nat) (l1_0:List Int) (A2:Option Addr) (c2:Nat) (l2:List (S61)) (r:Int) (w:World) (hr0_1:Kd.C k35 w A0_1 l0_1.length l0_1) (hc0_1:l0_1.length≤c0_1) (hr1_0:Kd.C (Kd.int .i64) w A1_0 l1_0.length l1_0) (hc1_0:l1_0.length≤c1_0) (hr2:Kd.C k61 w A2 l2.length l2) (hc2:l2.length≤c2) (h:impl_Best.f k a0_0 l0_1 l1_0 l2=some r) :
  Calls Try.prog 45 #[.agg #[.int .i64 a0_0,.slice A0_1 l0_1.length c0_1],.agg #[.slice A1_0 l1_0.length c1_0],.slice A2 l2.length c2] w fun e w'=>e = .returned (.int .i64 r)∧Below w.heap.size w w':=by
 have hu26:=Try.underlying26
 have hu35:=Try.underlying35
 have hu61:=Try.underlying61
 have HR0_1:=Aside0.mk hr0_1
 have HC0_1:=Aside0.mk hc0_1
 clear hr0_1 hc0_1
 have HR1_0:=Aside0.mk hr1_0
 have HC1_0:=Aside0.mk hc1_0
 clear hr1_0 hc1_0
 have HR2:=Aside0.mk hr2
 have HC2:=Aside0.mk hc2
 clear hr2 hc2
 have HB:=Aside0.mk (Below.refl w.heap.size w)
 have H:((impl_DevsOk.f k l2).bind fun t254=>(if t254=true then ((impl_zonesIn.f k l1_0 l2).bind fun t255=>(impl_Best.l0 k t255 0 false l2 (l2.length:Int) 0 a0_0 l0_1 l1_0 (-1) 0 0)) else (some (-1))))=some r:=h
 clear h
 replace H:=Option.bind_eq_some_iff.mp H
 obtain ⟨t254,A40,H⟩:=H
 try dsimp only at H
 have A4:=Aside0.mk A40
 clear A40
 by_cases c5:t254=true
 ·subst c5
  rw [if_pos rfl] at H
  replace H:=Option.bind_eq_some_iff.mp H
  obtain ⟨t255,A60,H⟩:=H
  try dsimp only at H
  have A6:=Aside0.mk A60
  clear A60
  have H':=Aside0.mk H
  clear H
  go_enter Try.func45,Try.ntmps45
  go_wp2_with (first|((with_reducible refine gate_dst (N:=3) rfl ?_);refine box_event ?hg (N:=3) ?hd (cs:=#[.int .i64 a0_0,.slice A0_1 l0_1.length c0_1]) (t:=26) ?hr ?_;(case hd=>rfl);(case hg=>rfl);(case hr=>first|(go_simp;done)|(go_simp;rfl));intro gb252 hg w7 hbox hb;have n0_:=bs hb;have n1_:=Aside0.mk (hbox);have n2_:=Aside0.mk ((by rw [hg];exact (below_size be):w.heap.size≤gb252));have n3_:=Aside0.mk ((by rw [hg];exact (below_size be):w.heap.size≤gb252));clear HB;have HB:=n0_;have BK252:=n1_;have GW252:=n2_;have GE252:=n3_;clear n0_ n1_ n2_ n3_;clear hb hbox hg)|((with_reducible refine gate_dst (N:=4) rfl ?_);refine box_event ?hg (N:=4) ?hd (cs:=#[.slice A1_0 l1_0.length c1_0]) (t:=35) ?hr ?_;(case hd=>rfl);(case hg=>rfl);(case hr=>first|(go_simp;done)|(go_simp;rfl));intro gb253 hg w8 hbox hb;have n0_:=Aside0.mk (blk_below (g:=gb252) (o:=.cells #[.int .i64 a0_0,.slice A0_1 l0_1.length c0_1] 26 (0,0)) (bk BK252) hb);have n1_:=bs hb;have n2_:=Aside0.mk (hbox);have n3_:=Aside0.mk ((by rw [hg];exact (below_size be):w.heap.size≤gb253));have n4_:=Aside0.mk ((by rw [hg];exact (below_size be):w.heap.size≤gb253));have n5_:=Aside0.mk ((by rw [hg];exact Nat.ne_of_lt (blk_lt (g:=gb252) (o:=.cells #[.int .i64 a0_0,.slice A0_1 l0_1.length c0_1] 26 (0,0)) (bk BK252)):gb252 ≠ gb253));have n6_:=Aside0.mk ((by rw [hg];exact Nat.ne_of_gt (blk_lt (g:=gb252) (o:=.cells #[.int .i64 a0_0,.slice A0_1 l0_1.length c0_1] 26 (0,0)) (bk BK252)):gb253 ≠ gb252));clear BK252;clear HB;have BK252:=n0_;have HB:=n1_;have BK253:=n2_;have GW253:=n3_;have GE253:=n4_;have NB252_253:=n5_;have NB253_252:=n6_;clear n0_ n1_ n2_ n3_ n4_ n5_ n6_;clear hb hbox hg)|((with_reducible refine gate_callee (f:=57) rfl ?_);refine goesL_ (some 16) rfl rfl Try.func57 (by kernel_rfl) rfl #[.slice A2 l2.length c2] rfl (by (try simp only [List.map_toArray,List.map_cons,List.map_nil]);first|done|rfl|(simp only [List.length_drop,List.length_take];rfl)) ?_;(with_reducible refine (impl_DevsOk.calls k _ _ l2 true _ ?side1 ?side2 A4.out).mono ?_);(case side1=>exact rC HR2);(case side2=>exact HC2.out);rintro e w9 ⟨rfl,hb⟩;refine ⟨_,rfl,?_⟩;have n0_:=Aside0.mk (blk_below (g:=gb252) (o:=.cells #[.int .i64 a0_0,.slice A0_1 l0_1.length c0_1] 26 (0,0)) (bk BK252) hb);have n1_:=Aside0.mk (blk_below (g:=gb253) (o:=.cells #[.slice A1_0 l1_0.length c1_0] 35 (0,0)) (bk BK253) hb);have n2_:=bs hb;clear BK252;clear BK253;clear HB;have BK252:=n0_;have BK253:=n1_;have HB:=n2_;clear n0_ n1_ n2_;(try clear hb);(try clear hb2);(try clear hk);(try clear hi);have hnb10:=NB253_252.out;have hnc10:=NB252_253.out;have hcz11_0:w9.cell? ⟨gb253,0,none⟩=some (.slice A1_0 l1_0.length c1_0):=(blk_cell BK253.out 0).trans rfl;have hfz11_0:=blk_frozen BK253.out 0)|((with_reducible refine gate_callee (f:=72) rfl ?_);refine goesL_ (some 21) rfl rfl Try.func72 (by kernel_rfl) rfl #[.slice A1_0 l1_0.length c1_0,.slice A2 l2.length c2] rfl (by (try simp only [List.map_toArray,List.map_cons,List.map_nil]);first|done|rfl|(simp only [List.length_drop,List.length_take];rfl)) ?_;(with_reducible refine (impl_zonesIn.calls k _ _ l1_0 _ _ l2 t255 _ ?side1 ?side2 ?side3 ?side4 A6.out).mono ?_);(case side1=>exact rC HR1_0);(case side2=>exact HC1_0.out);(case side3=>exact rC HR2);(case side4=>exact HC2.out);rintro e w12 ⟨v256,rfl,ho0,hb⟩;refine ⟨_,rfl,?_⟩;have n0_:=Aside0.mk (Kd.R_lower ho0 (below_size be));have n1_:=Aside0.mk (blk_below (g:=gb252) (o:=.cells #[.int .i64 a0_0,.slice A0_1 l0_1.length c0_1] 26 (0,0)) (bk BK252) hb);have n2_:=Aside0.mk (blk_below (g:=gb253) (o:=.cells #[.slice A1_0 l1_0.length c1_0] 35 (0,0)) (bk BK253) hb);have n3_:=bs hb;clear BK252;clear BK253;clear HB;have HO257:=n0_;have BK252:=n1_;have BK253:=n2_;have HB:=n3_;clear n0_ n1_ n2_ n3_;(try clear hb);(try clear hb2);(try clear hk);(try clear hi);(try clear ho0))|((with_reducible refine gate_dst (N:=8) rfl ?_);refine box_event ?hg (N:=8) ?hd (cs:=#[.int .i64 0,.int .i64 0,.int .i64 0]) (t:=61) ?hr ?_;(case hd=>rfl);(case hg=>rfl);(case hr=>first|(go_simp;done)|(go_simp;rfl));intro gb258 hg w13 hbox hb;have n0_:=Aside0.mk (Kd.R_below (rR HO257) hb);have n1_:=Aside0.mk (blk_below (g:=gb252) (o:=.cells #[.int .i64 a0_0,.slice A0_1 l0_1.length c0_1] 26 (0,0)) (bk BK252) hb);have n2_:=Aside0.mk (blk_below (g:=gb253) (o:=.cells #[.slice A1_0 l1_0.length c1_0] 35 (0,0)) (bk BK253) hb);have n3_:=bs hb;have n4_:=Aside0.mk (hbox);have n5_:=Aside0.mk ((by rw [hg];exact (below_size be):w.heap.size≤gb258));have n6_:=Aside0.mk ((by rw [hg];exact (below_size be):w.heap.size≤gb258));have n7_:=Aside0.mk ((by rw [hg];exact Nat.ne_of_lt (blk_lt (g:=gb252) (o:=.cells #[.int .i64 a0_0,.slice A0_1 l0_1.length c0_1] 26 (0,0)) (bk BK252)):gb252 ≠ gb258));have n8_:=Aside0.mk ((by rw [hg];exact Nat.ne_of_gt (blk_lt (g:=gb252) (o:=.cells #[.int .i64 a0_0,.slice A0_1 l0_1.length c0_1] 26 (0,0)) (bk BK252)):gb258 ≠ gb252));have n9_:=Aside0.mk ((by rw [hg];exact Nat.ne_of_lt (blk_lt (g:=gb253) (o:=.cells #[.slice A1_0 l1_0.length c1_0] 35 (0,0)) (bk BK253)):gb253 ≠ gb258));have n10_:=Aside0.mk ((by rw [hg];exact Nat.ne_of_gt (blk_lt (g:=gb253) (o:=.cells #[.slice A1_0 l1_0.length c1_0] 35 (0,0)) (bk BK253)):gb258 ≠ gb253));clear HO257;clear BK252;clear BK253;clear HB;have HO257:=n0_;have BK252:=n1_;have BK253:=n2_;have HB:=n3_;have BK258:=n4_;have GW258:=n5_;have GE258:=n6_;have NB252_258:=n7_;have NB258_252:=n8_;have NB253_258:=n9_;have NB258_253:=n10_;clear n0_ n1_ n2_ n3_ n4_ n5_ n6_ n7_ n8_ n9_ n10_;clear hb hbox hg;have hnb14:=NB258_252.out;have hnc14:=NB252_258.out;have hnb15:=NB258_253.out;have hnc15:=NB253_258.out;have hcz16_0:w13.cell? ⟨gb258,0,none⟩=some (.int .i64 0):=(blk_cell BK258.out 0).trans rfl;have hcz16_1:w13.cell? ⟨gb258,1,none⟩=some (.int .i64 0):=(blk_cell BK258.out 1).trans rfl;have hcz16_2:w13.cell? ⟨gb258,2,none⟩=some (.int .i64 0):=(blk_cell BK258.out 2).trans rfl;have hfz16_0:=blk_frozen BK258.out 0;have hfz16_1:=blk_frozen BK258.out 1;have hfz16_2:=blk_frozen BK258.out 2))
  go_loopg [9,10,25] k (fun kq v9 v10 v25 w'=>∃ (x9_1:Int) (x10_1:Bool) (x25_1:Int) (x259000_1:Int) (x259001_1:Int) (x259002_1:Int),v9 = .int .i64 x9_1∧v10 = .bool x10_1∧v25 = .int .i64 x25_1∧Aside0 (impl_Best.l0 kq t255 x9_1 x10_1 l2 (l2.length:Int) x25_1 a0_0 l0_1 l1_0 x259000_1 x259001_1 x259002_1=some r)∧Aside0 (kq≤k)∧Aside0 (Kd.R (Kd.int .i64) 3 w' w.heap.size (fun _=>True) v256 t255)∧Aside0 (w'.heap[gb252]?=some (.cells #[.int .i64 a0_0,(.slice A0_1 l0_1.length c0_1)] 26 (0,0)))∧Aside0 (w'.heap[gb253]?=some (.cells #[(.slice A1_0 l1_0.length c1_0)] 35 (0,0)))∧Aside0 (w'.heap[gb258]?=some (.cells #[.int .i64 x259000_1,.int .i64 x259001_1,.int .i64 x259002_1] 61 (0,0)))∧Aside0 (Below w.heap.size w w'))
  case atStart=>exact ⟨(0),(false),(0),((-1)),(0),(0),rd_,rd_,rd_,H',⟨Nat.le_refl _⟩,⟨by (with_reducible repeat (first|apply Kd.R_alloc|apply Kd.R_drewN|apply Kd.R_drew));exact Kd.R_mono (Kd.R_far (p:=⟨gb258,2,none⟩) (Kd.R_far (p:=⟨gb258,1,none⟩) (Kd.R_far (p:=⟨gb258,0,none⟩) (Kd.R_types HO257.out BK258.out (by decide)) (fun _ hk=>hk.2) (.int .i64 (-1))) (fun _ hk=>hk.2) (.int .i64 0)) (fun _ hk=>hk.2) (.int .i64 0)) (fun _ hk=>trivial)⟩,⟨by (with_reducible repeat (first|refine blk_drewN ?_ _|refine blk_drew ?_|refine blk_alloc ?_ _));refine blk_far ?_ NB252_258.out _;(with_reducible repeat (first|refine blk_drewN ?_ _|refine blk_drew ?_|refine blk_alloc ?_ _));refine blk_far ?_ NB252_258.out _;(with_reducible repeat (first|refine blk_drewN ?_ _|refine blk_drew ?_|refine blk_alloc ?_ _));refine blk_far ?_ NB252_258.out _;(with_reducible repeat (first|refine blk_drewN ?_ _|refine blk_drew ?_|refine blk_alloc ?_ _));exact BK252.out⟩,⟨by (with_reducible repeat (first|refine blk_drewN ?_ _|refine blk_drew ?_|refine blk_alloc ?_ _));refine blk_far ?_ NB253_258.out _;(with_reducible repeat (first|refine blk_drewN ?_ _|refine blk_drew ?_|refine blk_alloc ?_ _));refine blk_far ?_ NB253_258.out _;(with_reducible repeat (first|refine blk_drewN ?_ _|refine blk_drew ?_|refine blk_alloc ?_ _));refine blk_far ?_ NB253_258.out _;(with_reducible repeat (first|refine blk_drewN ?_ _|refine blk_drew ?_|refine blk_alloc ?_ _));exact BK253.out⟩,⟨by (with_reducible repeat (first|refine blk_drewN ?_ _|refine blk_drew ?_|refine blk_alloc ?_ _));refine blk_put (cs:=#[.int .i64 (-1),.int .i64 0,.int .i64 0]) ?_ 2 _ rfl;(with_reducible repeat (first|refine blk_drewN ?_ _|refine blk_drew ?_|refine blk_alloc ?_ _));refine blk_put (cs:=#[.int .i64 (-1),.int .i64 0,.int .i64 0]) ?_ 1 _ rfl;(with_reducible repeat (first|refine blk_drewN ?_ _|refine blk_drew ?_|refine blk_alloc ?_ _));refine blk_put (cs:=#[.int .i64 0,.int .i64 0,.int .i64 0]) ?_ 0 _ rfl;(with_reducible repeat (first|refine blk_drewN ?_ _|refine blk_drew ?_|refine blk_alloc ?_ _));exact BK258.out⟩,⟨be⟩⟩
  case round=>
   clear H'
   try clear c1
   try clear c2
   try clear p2
   try clear c4
   try clear c5
   try clear c7
   try clear c10
   try clear c14
   try clear c15
   try clear hcz11_0
   try clear hcz16_0
   try clear hcz16_1
   try clear hcz16_2
   try clear hfz11_0
   try clear hfz16_0
   try clear hfz16_1
   try clear hfz16_2
   obtain ⟨x9_1,x10_1,x25_1,x259000_1,x259001_1,x259002_1,rfl,rfl,rfl,HA,HK1,HO_7,BK252,BK253,BK258,HB⟩:=hrel
   cases gk with
   | zero=>exact absurd HA.out (by simp [impl_Best.l0])
   | succ k1=>
    have H:=HA.out
    clear HA
    simp only [impl_Best.l0] at H
    by_cases c17:x25_1 < (l2.length:Int)
    ·rw [if_pos c17] at H
     have c17b0:decide (x25_1 < (l2.length:Int))=true:=decide_eq_true c17
     clear c17
     by_cases c18:0≤x25_1
     ·rw [if_pos c18] at H
      have c18b0:decide (0≤x25_1)=true:=decide_eq_true c18
      clear c18
      by_cases c19:x25_1 < (l2.length:Int)
      ·rw [if_pos c19] at H
       have c19b0:decide (x25_1 < (l2.length:Int))=true:=decide_eq_true c19
       clear c19
       replace H:=Option.bind_eq_some_iff.mp H
       obtain ⟨t261,A200,H⟩:=H
       try dsimp only at H
       have A20:=Aside0.mk A200
       clear A200
       by_cases c21:t261=true
       ·subst c21
        rw [if_pos rfl] at H
        have H':=Aside0.mk H
        clear H
        have p259:0≤(x25_1:Int):=of_decide_eq_true (by first|(with_reducible assumption)|assumption)
        have q259:x25_1 < (l2.length:Int):=of_decide_eq_true (by first|(with_reducible assumption)|assumption)
        obtain ⟨ad259,e259,hx259_0,hx259_1,hx259_2⟩:=at_T61 HR2.out x25_1 p259 q259
        cases e259
        replace hx259_0:=(HB.out.cell (World.block_lt_of_cell? w _ hx259_0)).trans hx259_0
        replace hx259_1:=(HB.out.cell (World.block_lt_of_cell? w _ hx259_1)).trans hx259_1
        replace hx259_2:=(HB.out.cell (World.block_lt_of_cell? w _ hx259_2)).trans hx259_2
        replace p259:=eq_true p259
        replace q259:=eq_true q259
        go_wp2_with (first|((with_reducible refine gate_dst (N:=12) rfl ?_);refine box_event ?hg (N:=12) ?hd (cs:=#[.int .i64 0,.int .i64 0,.int .i64 0]) (t:=61) ?hr ?_;(case hd=>rfl);(case hg=>rfl);(case hr=>first|(go_simp;done)|(go_simp;rfl));intro gb260 hg w22 hbox hb;have n0_:=Aside0.mk (Kd.R_below (rR HO_7) hb);have n1_:=Aside0.mk (blk_below (g:=gb252) (o:=.cells #[.int .i64 a0_0,.slice A0_1 l0_1.length c0_1] 26 (0,0)) (bk BK252) hb);have n2_:=Aside0.mk (blk_below (g:=gb253) (o:=.cells #[.slice A1_0 l1_0.length c1_0] 35 (0,0)) (bk BK253) hb);have n3_:=Aside0.mk (blk_below (g:=gb258) (o:=.cells #[.int .i64 x259000_1,.int .i64 x259001_1,.int .i64 x259002_1] 61 (0,0)) (bk BK258) hb);have n4_:=bs hb;have n5_:=Aside0.mk (hbox);have n6_:=Aside0.mk ((by rw [hg];exact (below_size be):w.heap.size≤gb260));have n7_:=Aside0.mk ((by rw [hg];exact (below_size be):w.heap.size≤gb260));have n8_:=Aside0.mk ((by rw [hg];exact Nat.ne_of_lt (blk_lt (g:=gb252) (o:=.cells #[.int .i64 a0_0,.slice A0_1 l0_1.length c0_1] 26 (0,0)) (bk BK252)):gb252 ≠ gb260));have n9_:=Aside0.mk ((by rw [hg];exact Nat.ne_of_gt (blk_lt (g:=gb252) (o:=.cells #[.int .i64 a0_0,.slice A0_1 l0_1.length c0_1] 26 (0,0)) (bk BK252)):gb260 ≠ gb252));have n10_:=Aside0.mk ((by rw [hg];exact Nat.ne_of_lt (blk_lt (g:=gb253) (o:=.cells #[.slice A1_0 l1_0.length c1_0] 35 (0,0)) (bk BK253)):gb253 ≠ gb260));have n11_:=Aside0.mk ((by rw [hg];exact Nat.ne_of_gt (blk_lt (g:=gb253) (o:=.cells #[.slice A1_0 l1_0.length c1_0] 35 (0,0)) (bk BK253)):gb260 ≠ gb253));have n12_:=Aside0.mk ((by rw [hg];exact Nat.ne_of_lt (blk_lt (g:=gb258) (o:=.cells #[.int .i64 x259000_1,.int .i64 x259001_1,.int .i64 x259002_1] 61 (0,0)) (bk BK258)):gb258 ≠ gb260));have n13_:=Aside0.mk ((by rw [hg];exact Nat.ne_of_gt (blk_lt (g:=gb258) (o:=.cells #[.int .i64 x259000_1,.int .i64 x259001_1,.int .i64 x259002_1] 61 (0,0)) (bk BK258)):gb260 ≠ gb258));clear HO_7;clear BK252;clear BK253;clear BK258;clear HB;have HO_7:=n0_;have BK252:=n1_;have BK253:=n2_;have BK258:=n3_;have HB:=n4_;have BK260:=n5_;have GW260:=n6_;have GE260:=n7_;have NB252_260:=n8_;have NB260_252:=n9_;have NB253_260:=n10_;have NB260_253:=n11_;have NB258_260:=n12_;have NB260_258:=n13_;clear n0_ n1_ n2_ n3_ n4_ n5_ n6_ n7_ n8_ n9_ n10_ n11_ n12_ n13_;clear hb hbox hg;have hnb23:=NB260_252.out;have hnc23:=NB252_260.out;have hnb24:=NB260_253.out;have hnc24:=NB253_260.out;have hnb25:=NB260_258.out;have hnc25:=NB258_260.out;have hcz26_0:w22.cell? ⟨gb260,0,none⟩=some (.int .i64 0):=(blk_cell BK260.out 0).trans rfl;have hcz26_1:w22.cell? ⟨gb260,1,none⟩=some (.int .i64 0):=(blk_cell BK260.out 1).trans rfl;have hcz26_2:w22.cell? ⟨gb260,2,none⟩=some (.int .i64 0):=(blk_cell BK260.out 2).trans rfl;have hfz26_0:=blk_frozen BK260.out 0;have hfz26_1:=blk_frozen BK260.out 1;have hfz26_2:=blk_frozen BK260.out 2;have hnb27:=NB253_252.out;have hnc27:=NB252_253.out;have hnb28:=NB253_258.out;have hnc28:=NB258_253.out;have hcz29_0:w22.cell? ⟨gb253,0,none⟩=some (.slice A1_0 l1_0.length c1_0):=(blk_cell BK253.out 0).trans rfl;have hfz29_0:=blk_frozen BK253.out 0)|((with_reducible refine gate_callee (f:=52) rfl ?_);refine goesL_ (some 33) rfl rfl Try.func52 (by kernel_rfl) rfl #[.slice A1_0 l1_0.length c1_0,.int .i64 ((rd_T61 l2 x25_1).f0)] rfl (by (try simp only [List.map_toArray,List.map_cons,List.map_nil]);first|done|rfl|(simp only [List.length_drop,List.length_take];rfl)) ?_;(with_reducible refine (impl_hasInt.calls k1 _ _ l1_0 ((rd_T61 l2 x25_1).f0) true _ ?side1 ?side2 A20.out).mono ?_);(case side1=>exact Kd.C_below HR1_0.out be);(case side2=>exact HC1_0.out);rintro e w' ⟨rfl,⟨nd,rfl⟩⟩;refine ⟨_,rfl,?_⟩))
        go_roundg k1
        case measure=>have:=HK1.out;omega
        case rel=>exact ⟨(x9_1),(x10_1),(wrap64 (x25_1+1)),(x259000_1),(x259001_1),(x259002_1),rd_,rd_,rd_,H',⟨by have:=HK1.out;omega⟩,⟨by (with_reducible repeat (first|apply Kd.R_alloc|apply Kd.R_drewN|apply Kd.R_drew));exact Kd.R_mono (Kd.R_far (p:=⟨gb260,2,none⟩) (Kd.R_far (p:=⟨gb260,1,none⟩) (Kd.R_far (p:=⟨gb260,0,none⟩) (Kd.R_types HO_7.out BK260.out (by decide)) (fun _ hk=>hk.2) (.int .i64 ((rd_T61 l2 x25_1).f0))) (fun _ hk=>hk.2) (.int .i64 ((rd_T61 l2 x25_1).f1))) (fun _ hk=>hk.2) (.int .i64 ((rd_T61 l2 x25_1).f2))) (fun _ hk=>trivial)⟩,⟨by (with_reducible repeat (first|refine blk_drewN ?_ _|refine blk_drew ?_|refine blk_alloc ?_ _));refine blk_far ?_ NB252_260.out _;(with_reducible repeat (first|refine blk_drewN ?_ _|refine blk_drew ?_|refine blk_alloc ?_ _));refine blk_far ?_ NB252_260.out _;(with_reducible repeat (first|refine blk_drewN ?_ _|refine blk_drew ?_|refine blk_alloc ?_ _));refine blk_far ?_ NB252_260.out _;(with_reducible repeat (first|refine blk_drewN ?_ _|refine blk_drew ?_|refine blk_alloc ?_ _));exact BK252.out⟩,⟨by (with_reducible repeat (first|refine blk_drewN ?_ _|refine blk_drew ?_|refine blk_alloc ?_ _));refine blk_far ?_ NB253_260.out _;(with_reducible repeat (first|refine blk_drewN ?_ _|refine blk_drew ?_|refine blk_alloc ?_ _));refine blk_far ?_ NB253_260.out _;(with_reducible repeat (first|refine blk_drewN ?_ _|refine blk_drew ?_|refine blk_alloc ?_ _));refine blk_far ?_ NB253_260.out _;(with_reducible repeat (first|refine blk_drewN ?_ _|refine blk_drew ?_|refine blk_alloc ?_ _));exact BK253.out⟩,⟨by (with_reducible repeat (first|refine blk_drewN ?_ _|refine blk_drew ?_|refine blk_alloc ?_ _));refine blk_far ?_ NB258_260.out _;(with_reducible repeat (first|refine blk_drewN ?_ _|refine blk_drew ?_|refine blk_alloc ?_ _));refine blk_far ?_ NB258_260.out _;(with_reducible repeat (first|refine blk_drewN ?_ _|refine blk_drew ?_|refine blk_alloc ?_ _));refine blk_far ?_ NB258_260.out _;(with_reducible repeat (first|refine blk_drewN ?_ _|refine blk_drew ?_|refine blk_alloc ?_ _));exact BK258.out⟩,⟨be⟩⟩
       ·replace c21:=Bool.eq_false_iff.mpr c21
        subst c21
        have H1:((impl_LoadOf.f k1 a0_0 l0_1 ((rd_T61 l2 x25_1).f0)).bind fun t262=>((impl_hasInt.f k1 t255 ((rd_T61 l2 x25_1).f1)).bind fun t263=>(if x259000_1 < 0 then (impl_Best.l0 k1 t255 (wrap64 (t262+1)) (!t263) l2 (l2.length:Int) (wrap64 (x25_1+1)) a0_0 l0_1 l1_0 ((rd_T61 l2 x25_1).f0) ((rd_T61 l2 x25_1).f1) ((rd_T61 l2 x25_1).f2)) else (if t263=true then (if ((!t263) == x10_1)=true then (if (wrap64 ((wrap64 (t262+1)) * x259002_1)) < (wrap64 (x9_1 * ((rd_T61 l2 x25_1).f2))) then (impl_Best.l0 k1 t255 (wrap64 (t262+1)) (!t263) l2 (l2.length:Int) (wrap64 (x25_1+1)) a0_0 l0_1 l1_0 ((rd_T61 l2 x25_1).f0) ((rd_T61 l2 x25_1).f1) ((rd_T61 l2 x25_1).f2)) else (impl_Best.l0 k1 t255 x9_1 x10_1 l2 (l2.length:Int) (wrap64 (x25_1+1)) a0_0 l0_1 l1_0 x259000_1 x259001_1 x259002_1)) else (impl_Best.l0 k1 t255 x9_1 x10_1 l2 (l2.length:Int) (wrap64 (x25_1+1)) a0_0 l0_1 l1_0 x259000_1 x259001_1 x259002_1)) else (if x10_1=true then (if ((!t263) == x10_1)=true then (if (wrap64 ((wrap64 (t262+1)) * x259002_1)) < (wrap64 (x9_1 * ((rd_T61 l2 x25_1).f2))) then (impl_Best.l0 k1 t255 (wrap64 (t262+1)) (!t263) l2 (l2.length:Int) (wrap64 (x25_1+1)) a0_0 l0_1 l1_0 ((rd_T61 l2 x25_1).f0) ((rd_T61 l2 x25_1).f1) ((rd_T61 l2 x25_1).f2)) else (impl_Best.l0 k1 t255 x9_1 x10_1 l2 (l2.length:Int) (wrap64 (x25_1+1)) a0_0 l0_1 l1_0 x259000_1 x259001_1 x259002_1)) else (impl_Best.l0 k1 t255 x9_1 x10_1 l2 (l2.length:Int) (wrap64 (x25_1+1)) a0_0 l0_1 l1_0 x259000_1 x259001_1 x259002_1)) else (impl_Best.l0 k1 t255 (wrap64 (t262+1)) (!t263) l2 (l2.length:Int) (wrap64 (x25_1+1)) a0_0 l0_1 l1_0 ((rd_T61 l2 x25_1).f0) ((rd_T61 l2 x25_1).f1) ((rd_T61 l2 x25_1).f2)))))))=some r:=by rw [if_neg (show ¬ (false=true) by decide)] at H;exact H
        clear H
        have H:=H1
        clear H1
        replace H:=Option.bind_eq_some_iff.mp H
        obtain ⟨t262,A300,H⟩:=H
        try dsimp only at H
        have A30:=Aside0.mk A300
        clear A300
        replace H:=Option.bind_eq_some_iff.mp H
        obtain ⟨t263,A310,H⟩:=H
        try dsimp only at H
        have A31:=Aside0.mk A310
        clear A310
        by_cases c32:x259000_1 < 0
        ·rw [if_pos c32] at H
         have c32b0:decide (x259000_1 < 0)=true:=decide_eq_true c32
         clear c32
         have H':=Aside0.mk H
         clear H
         have p259:0≤(x25_1:Int):=of_decide_eq_true (by first|(with_reducible assumption)|assumption)
         have q259:x25_1 < (l2.length:Int):=of_decide_eq_true (by first|(with_reducible assumption)|assumption)
         obtain ⟨ad259,e259,hx259_0,hx259_1,hx259_2⟩:=at_T61 HR2.out x25_1 p259 q259
         cases e259
         replace hx259_0:=(HB.out.cell (World.block_lt_of_cell? w _ hx259_0)).trans hx259_0
         replace hx259_1:=(HB.out.cell (World.block_lt_of_cell? w _ hx259_1)).trans hx259_1
         replace hx259_2:=(HB.out.cell (World.block_lt_of_cell? w _ hx259_2)).trans hx259_2
         replace p259:=eq_true p259
         replace q259:=eq_true q259
         try go_wp2_with (first|((with_reducible refine gate_dst (N:=12) rfl ?_);refine box_event ?hg (N:=12) ?hd (cs:=#[.int .i64 0,.int .i64 0,.int .i64 0]) (t:=61) ?hr ?_;(case hd=>rfl);(case hg=>rfl);(case hr=>first|(go_simp;done)|(go_simp;rfl));intro gb260 hg w33 hbox hb;have n0_:=Aside0.mk (Kd.R_below (rR HO_7) hb);have n1_:=Aside0.mk (blk_below (g:=gb252) (o:=.cells #[.int .i64 a0_0,.slice A0_1 l0_1.length c0_1] 26 (0,0)) (bk BK252) hb);have n2_:=Aside0.mk (blk_below (g:=gb253) (o:=.cells #[.slice A1_0 l1_0.length c1_0] 35 (0,0)) (bk BK253) hb);have n3_:=Aside0.mk (blk_below (g:=gb258) (o:=.cells #[.int .i64 x259000_1,.int .i64 x259001_1,.int .i64 x259002_1] 61 (0,0)) (bk BK258) hb);have n4_:=bs hb;have n5_:=Aside0.mk (hbox);have n6_:=Aside0.mk ((by rw [hg];exact (below_size be):w.heap.size≤gb260));have n7_:=Aside0.mk ((by rw [hg];exact (below_size be):w.heap.size≤gb260));have n8_:=Aside0.mk ((by rw [hg];exact Nat.ne_of_lt (blk_lt (g:=gb252) (o:=.cells #[.int .i64 a0_0,.slice A0_1 l0_1.length c0_1] 26 (0,0)) (bk BK252)):gb252 ≠ gb260));have n9_:=Aside0.mk ((by rw [hg];exact Nat.ne_of_gt (blk_lt (g:=gb252) (o:=.cells #[.int .i64 a0_0,.slice A0_1 l0_1.length c0_1] 26 (0,0)) (bk BK252)):gb260 ≠ gb252));have n10_:=Aside0.mk ((by rw [hg];exact Nat.ne_of_lt (blk_lt (g:=gb253) (o:=.cells #[.slice A1_0 l1_0.length c1_0] 35 (0,0)) (bk BK253)):gb253 ≠ gb260));have n11_:=Aside0.mk ((by rw [hg];exact Nat.ne_of_gt (blk_lt (g:=gb253) (o:=.cells #[.slice A1_0 l1_0.length c1_0] 35 (0,0)) (bk BK253)):gb260 ≠ gb253));have n12_:=Aside0.mk ((by rw [hg];exact Nat.ne_of_lt (blk_lt (g:=gb258) (o:=.cells #[.int .i64 x259000_1,.int .i64 x259001_1,.int .i64 x259002_1] 61 (0,0)) (bk BK258)):gb258 ≠ gb260));have n13_:=Aside0.mk ((by rw [hg];exact Nat.ne_of_gt (blk_lt (g:=gb258) (o:=.cells #[.int .i64 x259000_1,.int .i64 x259001_1,.int .i64 x259002_1] 61 (0,0)) (bk BK258)):gb260 ≠ gb258));clear HO_7;clear BK252;clear BK253;clear BK258;clear HB;have HO_7:=n0_;have BK252:=n1_;have BK253:=n2_;have BK258:=n3_;have HB:=n4_;have BK260:=n5_;have GW260:=n6_;have GE260:=n7_;have NB252_260:=n8_;have NB260_252:=n9_;have NB253_260:=n10_;have NB260_253:=n11_;have NB258_260:=n12_;have NB260_258:=n13_;clear n0_ n1_ n2_ n3_ n4_ n5_ n6_ n7_ n8_ n9_ n10_ n11_ n12_ n13_;clear hb hbox hg;have hnb34:=NB260_252.out;have hnc34:=NB252_260.out;have hnb35:=NB260_253.out;have hnc35:=NB253_260.out;have hnb36:=NB260_258.out;have hnc36:=NB258_260.out;have hcz37_0:w33.cell? ⟨gb260,0,none⟩=some (.int .i64 0):=(blk_cell BK260.out 0).trans rfl;have hcz37_1:w33.cell? ⟨gb260,1,none⟩=some (.int .i64 0):=(blk_cell BK260.out 1).trans rfl;have hcz37_2:w33.cell? ⟨gb260,2,none⟩=some (.int .i64 0):=(blk_cell BK260.out 2).trans rfl;have hfz37_0:=blk_frozen BK260.out 0;have hfz37_1:=blk_frozen BK260.out 1;have hfz37_2:=blk_frozen BK260.out 2;have hnb38:=NB253_252.out;have hnc38:=NB252_253.out;have hnb39:=NB253_258.out;have hnc39:=NB258_253.out;have hcz40_0:w33.cell? ⟨gb253,0,none⟩=some (.slice A1_0 l1_0.length c1_0):=(blk_cell BK253.out 0).trans rfl;have hfz40_0:=blk_frozen BK253.out 0)|((with_reducible refine gate_callee (f:=52) rfl ?_);refine goesL_ (some 33) rfl rfl Try.func52 (by kernel_rfl) rfl #[.slice A1_0 l1_0.length c1_0,.int .i64 ((rd_T61 l2 x25_1).f0)] rfl (by (try simp only [List.map_toArray,List.map_cons,List.map_nil]);first|done|rfl|(simp only [List.length_drop,List.length_take];rfl)) ?_;(with_reducible refine (impl_hasInt.calls k1 _ _ l1_0 ((rd_T61 l2 x25_1).f0) false _ ?side1 ?side2 A20.out).mono ?_);(case side1=>exact Kd.C_below HR1_0.out be);(case side2=>exact HC1_0.out);rintro e w' ⟨rfl,⟨nd,rfl⟩⟩;refine ⟨_,rfl,?_⟩))
         have n0_:Aside0 (Kd.R (Kd.int .i64) 3 (((w33.setCell ⟨gb260,0,none⟩ (.int .i64 ((rd_T61 l2 x25_1).f0))).setCell ⟨gb260,1,none⟩ (.int .i64 ((rd_T61 l2 x25_1).f1))).setCell ⟨gb260,2,none⟩ (.int .i64 ((rd_T61 l2 x25_1).f2))) w.heap.size (fun _=>True) v256 t255):=⟨by (with_reducible repeat (first|apply Kd.R_alloc|apply Kd.R_drewN|apply Kd.R_drew));exact Kd.R_mono (Kd.R_far (p:=⟨gb260,2,none⟩) (Kd.R_far (p:=⟨gb260,1,none⟩) (Kd.R_far (p:=⟨gb260,0,none⟩) (Kd.R_types HO_7.out BK260.out (by decide)) (fun _ hk=>hk.2) (.int .i64 ((rd_T61 l2 x25_1).f0))) (fun _ hk=>hk.2) (.int .i64 ((rd_T61 l2 x25_1).f1))) (fun _ hk=>hk.2) (.int .i64 ((rd_T61 l2 x25_1).f2))) (fun _ hk=>trivial)⟩
         have n1_:Aside0 ((((w33.setCell ⟨gb260,0,none⟩ (.int .i64 ((rd_T61 l2 x25_1).f0))).setCell ⟨gb260,1,none⟩ (.int .i64 ((rd_T61 l2 x25_1).f1))).setCell ⟨gb260,2,none⟩ (.int .i64 ((rd_T61 l2 x25_1).f2))).heap[gb252]?=some (.cells #[.int .i64 a0_0,.slice A0_1 l0_1.length c0_1] 26 (0,0))):=⟨by (with_reducible repeat (first|refine blk_drewN ?_ _|refine blk_drew ?_|refine blk_alloc ?_ _));refine blk_far ?_ NB252_260.out _;(with_reducible repeat (first|refine blk_drewN ?_ _|refine blk_drew ?_|refine blk_alloc ?_ _));refine blk_far ?_ NB252_260.out _;(with_reducible repeat (first|refine blk_drewN ?_ _|refine blk_drew ?_|refine blk_alloc ?_ _));refine blk_far ?_ NB252_260.out _;(with_reducible repeat (first|refine blk_drewN ?_ _|refine blk_drew ?_|refine blk_alloc ?_ _));exact BK252.out⟩
         have n2_:Aside0 ((((w33.setCell ⟨gb260,0,none⟩ (.int .i64 ((rd_T61 l2 x25_1).f0))).setCell ⟨gb260,1,none⟩ (.int .i64 ((rd_T61 l2 x25_1).f1))).setCell ⟨gb260,2,none⟩ (.int .i64 ((rd_T61 l2 x25_1).f2))).heap[gb253]?=some (.cells #[.slice A1_0 l1_0.length c1_0] 35 (0,0))):=⟨by (with_reducible repeat (first|refine blk_drewN ?_ _|refine blk_drew ?_|refine blk_alloc ?_ _));refine blk_far ?_ NB253_260.out _;(with_reducible repeat (first|refine blk_drewN ?_ _|refine blk_drew ?_|refine blk_alloc ?_ _));refine blk_far ?_ NB253_260.out _;(with_reducible repeat (first|refine blk_drewN ?_ _|refine blk_drew ?_|refine blk_alloc ?_ _));refine blk_far ?_ NB253_260.out _;(with_reducible repeat (first|refine blk_drewN ?_ _|refine blk_drew ?_|refine blk_alloc ?_ _));exact BK253.out⟩
         have n3_:Aside0 ((((w33.setCell ⟨gb260,0,none⟩ (.int .i64 ((rd_T61 l2 x25_1).f0))).setCell ⟨gb260,1,none⟩ (.int .i64 ((rd_T61 l2 x25_1).f1))).setCell ⟨gb260,2,none⟩ (.int .i64 ((rd_T61 l2 x25_1).f2))).heap[gb258]?=some (.cells #[.int .i64 x259000_1,.int .i64 x259001_1,.int .i64 x259002_1] 61 (0,0))):=⟨by (with_reducible repeat (first|refine blk_drewN ?_ _|refine blk_drew ?_|refine blk_alloc ?_ _));refine blk_far ?_ NB258_260.out _;(with_reducible repeat (first|refine blk_drewN ?_ _|refine blk_drew ?_|refine blk_alloc ?_ _));refine blk_far ?_ NB258_260.out _;(with_reducible repeat (first|refine blk_drewN ?_ _|refine blk_drew ?_|refine blk_alloc ?_ _));refine blk_far ?_ NB258_260.out _;(with_reducible repeat (first|refine blk_drewN ?_ _|refine blk_drew ?_|refine blk_alloc ?_ _));exact BK258.out⟩
         have n4_:Aside0 ((((w33.setCell ⟨gb260,0,none⟩ (.int .i64 ((rd_T61 l2 x25_1).f0))).setCell ⟨gb260,1,none⟩ (.int .i64 ((rd_T61 l2 x25_1).f1))).setCell ⟨gb260,2,none⟩ (.int .i64 ((rd_T61 l2 x25_1).f2))).heap[gb260]?=some (.cells #[.int .i64 ((rd_T61 l2 x25_1).f0),.int .i64 ((rd_T61 l2 x25_1).f1),.int .i64 ((rd_T61 l2 x25_1).f2)] 61 (0,0))):=⟨by (with_reducible repeat (first|refine blk_drewN ?_ _|refine blk_drew ?_|refine blk_alloc ?_ _));refine blk_put (cs:=#[.int .i64 ((rd_T61 l2 x25_1).f0),.int .i64 ((rd_T61 l2 x25_1).f1),.int .i64 0]) ?_ 2 _ rfl;(with_reducible repeat (first|refine blk_drewN ?_ _|refine blk_drew ?_|refine blk_alloc ?_ _));refine blk_put (cs:=#[.int .i64 ((rd_T61 l2 x25_1).f0),.int .i64 0,.int .i64 0]) ?_ 1 _ rfl;(with_reducible repeat (first|refine blk_drewN ?_ _|refine blk_drew ?_|refine blk_alloc ?_ _));refine blk_put (cs:=#[.int .i64 0,.int .i64 0,.int .i64 0]) ?_ 0 _ rfl;(with_reducible repeat (first|refine blk_drewN ?_ _|refine blk_drew ?_|refine blk_alloc ?_ _));exact BK260.out⟩
         have n5_:Aside0 (Below w.heap.size w (((w33.setCell ⟨gb260,0,none⟩ (.int .i64 ((rd_T61 l2 x25_1).f0))).setCell ⟨gb260,1,none⟩ (.int .i64 ((rd_T61 l2 x25_1).f1))).setCell ⟨gb260,2,none⟩ (.int .i64 ((rd_T61 l2 x25_1).f2)))):=⟨be⟩
         (try clear HO_7)
         (try clear BK252)
         (try clear BK253)
         (try clear BK258)
         (try clear BK260)
         (try clear HB)
         generalize (((w33.setCell ⟨gb260,0,none⟩ (.int .i64 ((rd_T61 l2 x25_1).f0))).setCell ⟨gb260,1,none⟩ (.int .i64 ((rd_T61 l2 x25_1).f1))).setCell ⟨gb260,2,none⟩ (.int .i64 ((rd_T61 l2 x25_1).f2)))=w41 at n0_ n1_ n2_ n3_ n4_ n5_ ⊢
         have HO_7:=n0_
         have BK252:=n1_
         have BK253:=n2_
         have BK258:=n3_
         have BK260:=n4_
         have HB:=n5_
         clear n0_ n1_ n2_ n3_ n4_ n5_
         (try (rw [drewN_self w41];generalize hq_:World.drewN w41 _=w41;have n0_:Aside0 (Kd.R (Kd.int .i64) 3 w41 w.heap.size (fun _=>True) v256 t255):=⟨by rw [← hq_];exact (rR HO_7)⟩;have n1_:Aside0 (w41.heap[gb252]?=some (.cells #[.int .i64 a0_0,.slice A0_1 l0_1.length c0_1] 26 (0,0))):=⟨by rw [← hq_];exact (bk BK252)⟩;have n2_:Aside0 (w41.heap[gb253]?=some (.cells #[.slice A1_0 l1_0.length c1_0] 35 (0,0))):=⟨by rw [← hq_];exact (bk BK253)⟩;have n3_:Aside0 (w41.heap[gb258]?=some (.cells #[.int .i64 x259000_1,.int .i64 x259001_1,.int .i64 x259002_1] 61 (0,0))):=⟨by rw [← hq_];exact (bk BK258)⟩;have n4_:Aside0 (w41.heap[gb260]?=some (.cells #[.int .i64 ((rd_T61 l2 x25_1).f0),.int .i64 ((rd_T61 l2 x25_1).f1),.int .i64 ((rd_T61 l2 x25_1).f2)] 61 (0,0))):=⟨by rw [← hq_];exact (bk BK260)⟩;have n5_:Aside0 (Below w.heap.size w w41):=⟨by rw [← hq_];exact be⟩;clear HO_7 BK252 BK253 BK258 BK260 HB hq_;have HO_7:=n0_;have BK252:=n1_;have BK253:=n2_;have BK258:=n3_;have BK260:=n4_;have HB:=n5_;clear n0_ n1_ n2_ n3_ n4_ n5_))
         have n0_:=Aside0.mk (Kd.R_drew HO_7.out)
         have n1_:=Aside0.mk (blk_drew BK252.out)
         have n2_:=Aside0.mk (blk_drew BK253.out)
         have n3_:=Aside0.mk (blk_drew BK258.out)
         have n4_:=Aside0.mk (blk_drew BK260.out)
         have n5_:=Aside0.mk (below_drew1 HB.out)
         clear HO_7
         clear BK252
         clear BK253
         clear BK258
         clear BK260
         clear HB
         have HO_7:=n0_
         have BK252:=n1_
         have BK253:=n2_
         have BK258:=n3_
         have BK260:=n4_
         have HB:=n5_
         clear n0_ n1_ n2_ n3_ n4_ n5_
         refine start_ (n:=12) (S:=fun w'=>w'.cell? ⟨gb252,0,none⟩=some (.int .i64 a0_0)∧w'.cell? ⟨gb252,1,none⟩=some (.slice A0_1 l0_1.length c0_1)∧w'.cell? ⟨gb260,0,none⟩=some (.int .i64 ((rd_T61 l2 x25_1).f0))∧w'.cell? ⟨gb260,1,none⟩=some (.int .i64 ((rd_T61 l2 x25_1).f1))∧w'.cell? ⟨gb260,2,none⟩=some (.int .i64 ((rd_T61 l2 x25_1).f2))) (ds:=[]) (fl 12 0) (by kernel_rfl) rfl rfl ⟨(blk_cell BK252.out 0).trans rfl,(blk_cell BK252.out 1).trans rfl,(blk_cell BK260.out 0).trans rfl,(blk_cell BK260.out 1).trans rfl,(blk_cell BK260.out 2).trans rfl⟩ (fun hHeld=>?_);refine with_tabW impl_Best.tab9 impl_Best.bits9 (fun HT_ HW_=>?_)
         generalize w41.drew=w42 at HO_7 BK252 BK253 BK258 BK260 HB hHeld ⊢
         refine pt 1 35 (fl 12 2) HT_ ?_
         refine pt 5 39 (fl 12 34) HT_ ?_
         refine pt 6 40 (fl 12 98) HT_ ?_
         refine tt 0 34 (fl 12 99) HT_ HW_ hHeld ?_
         refine tt 2 36 (fl 12 103) HT_ HW_ hHeld ?_
         refine tt 7 41 (fl 12 231) HT_ HW_ hHeld ?_
         refine ot 3 (some 37) (fl 12 239) HT_ (fun K hK=>?_)
         refine goes_ Try.func35 (by kernel_rfl) rfl #[.agg #[.int .i64 a0_0,.slice A0_1 l0_1.length c0_1],.int .i64 ((rd_T61 l2 x25_1).f0)] (by rfl) rfl rfl (by (try simp only [List.map_toArray,List.map_cons,List.map_nil]);first|done|rfl|(simp only [List.length_drop,List.length_take];rfl)) ?_
         with_reducible refine (impl_LoadOf.calls k1 a0_0 _ _ l0_1 ((rd_T61 l2 x25_1).f0) t262 _ ?side1 ?side2 A30.out).mono ?_
         (case side1=>exact rC HR0_1)
         (case side2=>exact HC0_1.out)
         rintro e w43 ⟨rfl,hb⟩
         refine ⟨_,rfl,?_⟩
         have n0_:=Aside0.mk (Kd.R_below ((rR HO_7)) hb)
         have n1_:=Aside0.mk (blk_below (g:=gb252) (o:=.cells #[.int .i64 a0_0,.slice A0_1 l0_1.length c0_1] 26 (0,0)) (bk BK252) hb)
         have n2_:=Aside0.mk (blk_below (g:=gb253) (o:=.cells #[.slice A1_0 l1_0.length c1_0] 35 (0,0)) (bk BK253) hb)
         have n3_:=Aside0.mk (blk_below (g:=gb258) (o:=.cells #[.int .i64 x259000_1,.int .i64 x259001_1,.int .i64 x259002_1] 61 (0,0)) (bk BK258) hb)
         have n4_:=Aside0.mk (blk_below (g:=gb260) (o:=.cells #[.int .i64 ((rd_T61 l2 x25_1).f0),.int .i64 ((rd_T61 l2 x25_1).f1),.int .i64 ((rd_T61 l2 x25_1).f2)] 61 (0,0)) (bk BK260) hb)
         have n5_:=bs hb
         clear HO_7
         clear BK252
         clear BK253
         clear BK258
         clear BK260
         clear HB
         have HO_7:=n0_
         have BK252:=n1_
         have BK253:=n2_
         have BK258:=n3_
         have BK260:=n4_
         have HB:=n5_
         clear n0_ n1_ n2_ n3_ n4_ n5_
         (try clear hb)
         (try clear hb2)
         (try clear hk)
         (try clear hi)
         obtain ⟨Ao44,co44,eo44⟩:=Kd.R_slice HO_7.out
         (first|subst eo44|(injection eo44 with f1_ f2_ f3_;have f4_:=f1_.symm;have f5_:=f3_.symm;clear f1_ f2_ f3_;subst f4_;subst f5_))
         refine hK.out _ _ ⟨(blk_cell BK252.out 0).trans rfl,(blk_cell BK252.out 1).trans rfl,(blk_cell BK260.out 0).trans rfl,(blk_cell BK260.out 1).trans rfl,(blk_cell BK260.out 2).trans rfl⟩ (fun hHeld=>?_)
         clear hK K
         refine no 37 ?_
         refine pt 4 38 (fl 12 255) HT_ ?_
         refine ot 8 (some 42) (fl 12 511) HT_ (fun K hK=>?_)
         refine goes_ Try.func52 (by kernel_rfl) rfl #[.slice Ao44 t255.length co44,.int .i64 ((rd_T61 l2 x25_1).f1)] (by rfl) rfl rfl (by (try simp only [List.map_toArray,List.map_cons,List.map_nil]);first|done|rfl|(simp only [List.length_drop,List.length_take];rfl)) ?_
         with_reducible refine (impl_hasInt.calls k1 _ _ t255 ((rd_T61 l2 x25_1).f1) t263 _ ?side1 ?side2 A31.out).mono ?_
         (case side1=>exact sR HO_7)
         (case side2=>exact (Kd.R_reads' HO_7.out).2.1)
         rintro e w' ⟨rfl,⟨nd,rfl⟩⟩
         refine ⟨_,rfl,?_⟩
         refine hK.out _ _ ⟨(blk_cell BK252.out 0).trans rfl,(blk_cell BK252.out 1).trans rfl,(blk_cell BK260.out 0).trans rfl,(blk_cell BK260.out 1).trans rfl,(blk_cell BK260.out 2).trans rfl⟩ (fun hHeld=>?_)
         clear hK K
         refine no 42 ?_
         refine pt 9 43 (fl 12 1023) HT_ ?_
         refine pt 10 13 (fl 12 2047) HT_ ?_
         refine pt 11 14 (fl 12 4095) HT_ ?_
         refine done_ (done_of HT_.out (by kernel_rfl)) ?_
         have hnb45:=NB258_252.out
         have hnc45:=NB252_258.out
         have hcz46_0:w43.cell? ⟨gb258,0,none⟩=some (.int .i64 x259000_1):=(blk_cell BK258.out 0).trans rfl
         have hcz46_1:w43.cell? ⟨gb258,1,none⟩=some (.int .i64 x259001_1):=(blk_cell BK258.out 1).trans rfl
         have hcz46_2:w43.cell? ⟨gb258,2,none⟩=some (.int .i64 x259002_1):=(blk_cell BK258.out 2).trans rfl
         have hfz46_0:=blk_frozen BK258.out 0
         have hfz46_1:=blk_frozen BK258.out 1
         have hfz46_2:=blk_frozen BK258.out 2
         have hcz47_0:w43.cell? ⟨gb260,0,none⟩=some (.int .i64 ((rd_T61 l2 x25_1).f0)):=(blk_cell BK260.out 0).trans rfl
         have hcz47_1:w43.cell? ⟨gb260,1,none⟩=some (.int .i64 ((rd_T61 l2 x25_1).f1)):=(blk_cell BK260.out 1).trans rfl
         have hcz47_2:w43.cell? ⟨gb260,2,none⟩=some (.int .i64 ((rd_T61 l2 x25_1).f2)):=(blk_cell BK260.out 2).trans rfl
         have hfz47_0:=blk_frozen BK260.out 0
         have hfz47_1:=blk_frozen BK260.out 1
         have hfz47_2:=blk_frozen BK260.out 2
         try go_wp2
         go_roundg k1
         case measure=>have:=HK1.out;omega
         case rel=>exact ⟨(wrap64 (t262+1)),(!t263),(wrap64 (x25_1+1)),((rd_T61 l2 x25_1).f0),((rd_T61 l2 x25_1).f1),((rd_T61 l2 x25_1).f2),rd_,rd_,rd_,H',⟨by have:=HK1.out;omega⟩,⟨by (with_reducible repeat (first|apply Kd.R_alloc|apply Kd.R_drewN|apply Kd.R_drew));exact Kd.R_mono (Kd.R_far (p:=⟨gb258,2,none⟩) (Kd.R_far (p:=⟨gb258,1,none⟩) (Kd.R_far (p:=⟨gb258,0,none⟩) (Kd.R_types HO_7.out BK258.out (by decide)) (fun _ hk=>hk.2) (.int .i64 ((rd_T61 l2 x25_1).f0))) (fun _ hk=>hk.2) (.int .i64 ((rd_T61 l2 x25_1).f1))) (fun _ hk=>hk.2) (.int .i64 ((rd_T61 l2 x25_1).f2))) (fun _ hk=>trivial)⟩,⟨by (with_reducible repeat (first|refine blk_drewN ?_ _|refine blk_drew ?_|refine blk_alloc ?_ _));refine blk_far ?_ NB252_258.out _;(with_reducible repeat (first|refine blk_drewN ?_ _|refine blk_drew ?_|refine blk_alloc ?_ _));refine blk_far ?_ NB252_258.out _;(with_reducible repeat (first|refine blk_drewN ?_ _|refine blk_drew ?_|refine blk_alloc ?_ _));refine blk_far ?_ NB252_258.out _;(with_reducible repeat (first|refine blk_drewN ?_ _|refine blk_drew ?_|refine blk_alloc ?_ _));exact BK252.out⟩,⟨by (with_reducible repeat (first|refine blk_drewN ?_ _|refine blk_drew ?_|refine blk_alloc ?_ _));refine blk_far ?_ NB253_258.out _;(with_reducible repeat (first|refine blk_drewN ?_ _|refine blk_drew ?_|refine blk_alloc ?_ _));refine blk_far ?_ NB253_258.out _;(with_reducible repeat (first|refine blk_drewN ?_ _|refine blk_drew ?_|refine blk_alloc ?_ _));refine blk_far ?_ NB253_258.out _;(with_reducible repeat (first|refine blk_drewN ?_ _|refine blk_drew ?_|refine blk_alloc ?_ _));exact BK253.out⟩,⟨by (with_reducible repeat (first|refine blk_drewN ?_ _|refine blk_drew ?_|refine blk_alloc ?_ _));refine blk_put (cs:=#[.int .i64 ((rd_T61 l2 x25_1).f0),.int .i64 ((rd_T61 l2 x25_1).f1),.int .i64 x259002_1]) ?_ 2 _ rfl;(with_reducible repeat (first|refine blk_drewN ?_ _|refine blk_drew ?_|refine blk_alloc ?_ _));refine blk_put (cs:=#[.int .i64 ((rd_T61 l2 x25_1).f0),.int .i64 x259001_1,.int .i64 x259002_1]) ?_ 1 _ rfl;(with_reducible repeat (first|refine blk_drewN ?_ _|refine blk_drew ?_|refine blk_alloc ?_ _));refine blk_put (cs:=#[.int .i64 x259000_1,.int .i64 x259001_1,.int .i64 x259002_1]) ?_ 0 _ rfl;(with_reducible repeat (first|refine blk_drewN ?_ _|refine blk_drew ?_|refine blk_alloc ?_ _));exact BK258.out⟩,⟨be⟩⟩
        ·rw [if_neg c32] at H
         have c32b0:decide (x259000_1 < 0)=false:=decide_eq_false c32
         clear c32
         by_cases c48:t263=true
         ·subst c48
          rw [if_pos rfl] at H
          by_cases c49:((!true) == x10_1)=true
          ·rw [if_pos c49] at H
           have qc49:x10_1=false:=by simpa using c49
           clear c49
           subst qc49
           by_cases c50:(wrap64 ((wrap64 (t262+1)) * x259002_1)) < (wrap64 (x9_1 * ((rd_T61 l2 x25_1).f2)))
           ·rw [if_pos c50] at H
            have c50b0:decide ((wrap64 ((wrap64 (t262+1)) * x259002_1)) < (wrap64 (x9_1 * ((rd_T61 l2 x25_1).f2))))=true:=decide_eq_true c50
            clear c50
            have H':=Aside0.mk H
            clear H
            have p259:0≤(x25_1:Int):=of_decide_eq_true (by first|(with_reducible assumption)|assumption)
            have q259:x25_1 < (l2.length:Int):=of_decide_eq_true (by first|(with_reducible assumption)|assumption)
            obtain ⟨ad259,e259,hx259_0,hx259_1,hx259_2⟩:=at_T61 HR2.out x25_1 p259 q259
            cases e259
            replace hx259_0:=(HB.out.cell (World.block_lt_of_cell? w _ hx259_0)).trans hx259_0
            replace hx259_1:=(HB.out.cell (World.block_lt_of_cell? w _ hx259_1)).trans hx259_1
            replace hx259_2:=(HB.out.cell (World.block_lt_of_cell? w _ hx259_2)).trans hx259_2
            replace p259:=eq_true p259
            replace q259:=eq_true q259
            try go_wp2_with (first|((with_reducible refine gate_dst (N:=12) rfl ?_);refine box_event ?hg (N:=12) ?hd (cs:=#[.int .i64 0,.int .i64 0,.int .i64 0]) (t:=61) ?hr ?_;(case hd=>rfl);(case hg=>rfl);(case hr=>first|(go_simp;done)|(go_simp;rfl));intro gb260 hg w51 hbox hb;have n0_:=Aside0.mk (Kd.R_below (rR HO_7) hb);have n1_:=Aside0.mk (blk_below (g:=gb252) (o:=.cells #[.int .i64 a0_0,.slice A0_1 l0_1.length c0_1] 26 (0,0)) (bk BK252) hb);have n2_:=Aside0.mk (blk_below (g:=gb253) (o:=.cells #[.slice A1_0 l1_0.length c1_0] 35 (0,0)) (bk BK253) hb);have n3_:=Aside0.mk (blk_below (g:=gb258) (o:=.cells #[.int .i64 x259000_1,.int .i64 x259001_1,.int .i64 x259002_1] 61 (0,0)) (bk BK258) hb);have n4_:=bs hb;have n5_:=Aside0.mk (hbox);have n6_:=Aside0.mk ((by rw [hg];exact (below_size be):w.heap.size≤gb260));have n7_:=Aside0.mk ((by rw [hg];exact (below_size be):w.heap.size≤gb260));have n8_:=Aside0.mk ((by rw [hg];exact Nat.ne_of_lt (blk_lt (g:=gb252) (o:=.cells #[.int .i64 a0_0,.slice A0_1 l0_1.length c0_1] 26 (0,0)) (bk BK252)):gb252 ≠ gb260));have n9_:=Aside0.mk ((by rw [hg];exact Nat.ne_of_gt (blk_lt (g:=gb252) (o:=.cells #[.int .i64 a0_0,.slice A0_1 l0_1.length c0_1] 26 (0,0)) (bk BK252)):gb260 ≠ gb252));have n10_:=Aside0.mk ((by rw [hg];exact Nat.ne_of_lt (blk_lt (g:=gb253) (o:=.cells #[.slice A1_0 l1_0.length c1_0] 35 (0,0)) (bk BK253)):gb253 ≠ gb260));have n11_:=Aside0.mk ((by rw [hg];exact Nat.ne_of_gt (blk_lt (g:=gb253) (o:=.cells #[.slice A1_0 l1_0.length c1_0] 35 (0,0)) (bk BK253)):gb260 ≠ gb253));have n12_:=Aside0.mk ((by rw [hg];exact Nat.ne_of_lt (blk_lt (g:=gb258) (o:=.cells #[.int .i64 x259000_1,.int .i64 x259001_1,.int .i64 x259002_1] 61 (0,0)) (bk BK258)):gb258 ≠ gb260));have n13_:=Aside0.mk ((by rw [hg];exact Nat.ne_of_gt (blk_lt (g:=gb258) (o:=.cells #[.int .i64 x259000_1,.int .i64 x259001_1,.int .i64 x259002_1] 61 (0,0)) (bk BK258)):gb260 ≠ gb258));clear HO_7;clear BK252;clear BK253;clear BK258;clear HB;have HO_7:=n0_;have BK252:=n1_;have BK253:=n2_;have BK258:=n3_;have HB:=n4_;have BK260:=n5_;have GW260:=n6_;have GE260:=n7_;have NB252_260:=n8_;have NB260_252:=n9_;have NB253_260:=n10_;have NB260_253:=n11_;have NB258_260:=n12_;have NB260_258:=n13_;clear n0_ n1_ n2_ n3_ n4_ n5_ n6_ n7_ n8_ n9_ n10_ n11_ n12_ n13_;clear hb hbox hg;have hnb52:=NB260_252.out;have hnc52:=NB252_260.out;have hnb53:=NB260_253.out;have hnc53:=NB253_260.out;have hnb54:=NB260_258.out;have hnc54:=NB258_260.out;have hcz55_0:w51.cell? ⟨gb260,0,none⟩=some (.int .i64 0):=(blk_cell BK260.out 0).trans rfl;have hcz55_1:w51.cell? ⟨gb260,1,none⟩=some (.int .i64 0):=(blk_cell BK260.out 1).trans rfl;have hcz55_2:w51.cell? ⟨gb260,2,none⟩=some (.int .i64 0):=(blk_cell BK260.out 2).trans rfl;have hfz55_0:=blk_frozen BK260.out 0;have hfz55_1:=blk_frozen BK260.out 1;have hfz55_2:=blk_frozen BK260.out 2;have hnb56:=NB253_252.out;have hnc56:=NB252_253.out;have hnb57:=NB253_258.out;have hnc57:=NB258_253.out;have hcz58_0:w51.cell? ⟨gb253,0,none⟩=some (.slice A1_0 l1_0.length c1_0):=(blk_cell BK253.out 0).trans rfl;have hfz58_0:=blk_frozen BK253.out 0)|((with_reducible refine gate_callee (f:=52) rfl ?_);refine goesL_ (some 33) rfl rfl Try.func52 (by kernel_rfl) rfl #[.slice A1_0 l1_0.length c1_0,.int .i64 ((rd_T61 l2 x25_1).f0)] rfl (by (try simp only [List.map_toArray,List.map_cons,List.map_nil]);first|done|rfl|(simp only [List.length_drop,List.length_take];rfl)) ?_;(with_reducible refine (impl_hasInt.calls k1 _ _ l1_0 ((rd_T61 l2 x25_1).f0) false _ ?side1 ?side2 A20.out).mono ?_);(case side1=>exact Kd.C_below HR1_0.out be);(case side2=>exact HC1_0.out);rintro e w' ⟨rfl,⟨nd,rfl⟩⟩;refine ⟨_,rfl,?_⟩))
            have n0_:Aside0 (Kd.R (Kd.int .i64) 3 (((w51.setCell ⟨gb260,0,none⟩ (.int .i64 ((rd_T61 l2 x25_1).f0))).setCell ⟨gb260,1,none⟩ (.int .i64 ((rd_T61 l2 x25_1).f1))).setCell ⟨gb260,2,none⟩ (.int .i64 ((rd_T61 l2 x25_1).f2))) w.heap.size (fun _=>True) v256 t255):=⟨by (with_reducible repeat (first|apply Kd.R_alloc|apply Kd.R_drewN|apply Kd.R_drew));exact Kd.R_mono (Kd.R_far (p:=⟨gb260,2,none⟩) (Kd.R_far (p:=⟨gb260,1,none⟩) (Kd.R_far (p:=⟨gb260,0,none⟩) (Kd.R_types HO_7.out BK260.out (by decide)) (fun _ hk=>hk.2) (.int .i64 ((rd_T61 l2 x25_1).f0))) (fun _ hk=>hk.2) (.int .i64 ((rd_T61 l2 x25_1).f1))) (fun _ hk=>hk.2) (.int .i64 ((rd_T61 l2 x25_1).f2))) (fun _ hk=>trivial)⟩
            have n1_:Aside0 ((((w51.setCell ⟨gb260,0,none⟩ (.int .i64 ((rd_T61 l2 x25_1).f0))).setCell ⟨gb260,1,none⟩ (.int .i64 ((rd_T61 l2 x25_1).f1))).setCell ⟨gb260,2,none⟩ (.int .i64 ((rd_T61 l2 x25_1).f2))).heap[gb252]?=some (.cells #[.int .i64 a0_0,.slice A0_1 l0_1.length c0_1] 26 (0,0))):=⟨by (with_reducible repeat (first|refine blk_drewN ?_ _|refine blk_drew ?_|refine blk_alloc ?_ _));refine blk_far ?_ NB252_260.out _;(with_reducible repeat (first|refine blk_drewN ?_ _|refine blk_drew ?_|refine blk_alloc ?_ _));refine blk_far ?_ NB252_260.out _;(with_reducible repeat (first|refine blk_drewN ?_ _|refine blk_drew ?_|refine blk_alloc ?_ _));refine blk_far ?_ NB252_260.out _;(with_reducible repeat (first|refine blk_drewN ?_ _|refine blk_drew ?_|refine blk_alloc ?_ _));exact BK252.out⟩
            have n2_:Aside0 ((((w51.setCell ⟨gb260,0,none⟩ (.int .i64 ((rd_T61 l2 x25_1).f0))).setCell ⟨gb260,1,none⟩ (.int .i64 ((rd_T61 l2 x25_1).f1))).setCell ⟨gb260,2,none⟩ (.int .i64 ((rd_T61 l2 x25_1).f2))).heap[gb253]?=some (.cells #[.slice A1_0 l1_0.length c1_0] 35 (0,0))):=⟨by (with_reducible repeat (first|refine blk_drewN ?_ _|refine blk_drew ?_|refine blk_alloc ?_ _));refine blk_far ?_ NB253_260.out _;(with_reducible repeat (first|refine blk_drewN ?_ _|refine blk_drew ?_|refine blk_alloc ?_ _));refine blk_far ?_ NB253_260.out _;(with_reducible repeat (first|refine blk_drewN ?_ _|refine blk_drew ?_|refine blk_alloc ?_ _));refine blk_far ?_ NB253_260.out _;(with_reducible repeat (first|refine blk_drewN ?_ _|refine blk_drew ?_|refine blk_alloc ?_ _));exact BK253.out⟩
            have n3_:Aside0 ((((w51.setCell ⟨gb260,0,none⟩ (.int .i64 ((rd_T61 l2 x25_1).f0))).setCell ⟨gb260,1,none⟩ (.int .i64 ((rd_T61 l2 x25_1).f1))).setCell ⟨gb260,2,none⟩ (.int .i64 ((rd_T61 l2 x25_1).f2))).heap[gb258]?=some (.cells #[.int .i64 x259000_1,.int .i64 x259001_1,.int .i64 x259002_1] 61 (0,0))):=⟨by (with_reducible repeat (first|refine blk_drewN ?_ _|refine blk_drew ?_|refine blk_alloc ?_ _));refine blk_far ?_ NB258_260.out _;(with_reducible repeat (first|refine blk_drewN ?_ _|refine blk_drew ?_|refine blk_alloc ?_ _));refine blk_far ?_ NB258_260.out _;(with_reducible repeat (first|refine blk_drewN ?_ _|refine blk_drew ?_|refine blk_alloc ?_ _));refine blk_far ?_ NB258_260.out _;(with_reducible repeat (first|refine blk_drewN ?_ _|refine blk_drew ?_|refine blk_alloc ?_ _));exact BK258.out⟩
            have n4_:Aside0 ((((w51.setCell ⟨gb260,0,none⟩ (.int .i64 ((rd_T61 l2 x25_1).f0))).setCell ⟨gb260,1,none⟩ (.int .i64 ((rd_T61 l2 x25_1).f1))).setCell ⟨gb260,2,none⟩ (.int .i64 ((rd_T61 l2 x25_1).f2))).heap[gb260]?=some (.cells #[.int .i64 ((rd_T61 l2 x25_1).f0),.int .i64 ((rd_T61 l2 x25_1).f1),.int .i64 ((rd_T61 l2 x25_1).f2)] 61 (0,0))):=⟨by (with_reducible repeat (first|refine blk_drewN ?_ _|refine blk_drew ?_|refine blk_alloc ?_ _));refine blk_put (cs:=#[.int .i64 ((rd_T61 l2 x25_1).f0),.int .i64 ((rd_T61 l2 x25_1).f1),.int .i64 0]) ?_ 2 _ rfl;(with_reducible repeat (first|refine blk_drewN ?_ _|refine blk_drew ?_|refine blk_alloc ?_ _));refine blk_put (cs:=#[.int .i64 ((rd_T61 l2 x25_1).f0),.int .i64 0,.int .i64 0]) ?_ 1 _ rfl;(with_reducible repeat (first|refine blk_drewN ?_ _|refine blk_drew ?_|refine blk_alloc ?_ _));refine blk_put (cs:=#[.int .i64 0,.int .i64 0,.int .i64 0]) ?_ 0 _ rfl;(with_reducible repeat (first|refine blk_drewN ?_ _|refine blk_drew ?_|refine blk_alloc ?_ _));exact BK260.out⟩
            have n5_:Aside0 (Below w.heap.size w (((w51.setCell ⟨gb260,0,none⟩ (.int .i64 ((rd_T61 l2 x25_1).f0))).setCell ⟨gb260,1,none⟩ (.int .i64 ((rd_T61 l2 x25_1).f1))).setCell ⟨gb260,2,none⟩ (.int .i64 ((rd_T61 l2 x25_1).f2)))):=⟨be⟩
            (try clear HO_7)
            (try clear BK252)
            (try clear BK253)
            (try clear BK258)
            (try clear BK260)
            (try clear HB)
            generalize (((w51.setCell ⟨gb260,0,none⟩ (.int .i64 ((rd_T61 l2 x25_1).f0))).setCell ⟨gb260,1,none⟩ (.int .i64 ((rd_T61 l2 x25_1).f1))).setCell ⟨gb260,2,none⟩ (.int .i64 ((rd_T61 l2 x25_1).f2)))=w59 at n0_ n1_ n2_ n3_ n4_ n5_ ⊢
            have HO_7:=n0_
            have BK252:=n1_
            have BK253:=n2_
            have BK258:=n3_
            have BK260:=n4_
            have HB:=n5_
            clear n0_ n1_ n2_ n3_ n4_ n5_
            (try (rw [drewN_self w59];generalize hq_:World.drewN w59 _=w59;have n0_:Aside0 (Kd.R (Kd.int .i64) 3 w59 w.heap.size (fun _=>True) v256 t255):=⟨by rw [← hq_];exact (rR HO_7)⟩;have n1_:Aside0 (w59.heap[gb252]?=some (.cells #[.int .i64 a0_0,.slice A0_1 l0_1.length c0_1] 26 (0,0))):=⟨by rw [← hq_];exact (bk BK252)⟩;have n2_:Aside0 (w59.heap[gb253]?=some (.cells #[.slice A1_0 l1_0.length c1_0] 35 (0,0))):=⟨by rw [← hq_];exact (bk BK253)⟩;have n3_:Aside0 (w59.heap[gb258]?=some (.cells #[.int .i64 x259000_1,.int .i64 x259001_1,.int .i64 x259002_1] 61 (0,0))):=⟨by rw [← hq_];exact (bk BK258)⟩;have n4_:Aside0 (w59.heap[gb260]?=some (.cells #[.int .i64 ((rd_T61 l2 x25_1).f0),.int .i64 ((rd_T61 l2 x25_1).f1),.int .i64 ((rd_T61 l2 x25_1).f2)] 61 (0,0))):=⟨by rw [← hq_];exact (bk BK260)⟩;have n5_:Aside0 (Below w.heap.size w w59):=⟨by rw [← hq_];exact be⟩;clear HO_7 BK252 BK253 BK258 BK260 HB hq_;have HO_7:=n0_;have BK252:=n1_;have BK253:=n2_;have BK258:=n3_;have BK260:=n4_;have HB:=n5_;clear n0_ n1_ n2_ n3_ n4_ n5_))
            have n0_:=Aside0.mk (Kd.R_drew HO_7.out)
            have n1_:=Aside0.mk (blk_drew BK252.out)
            have n2_:=Aside0.mk (blk_drew BK253.out)
            have n3_:=Aside0.mk (blk_drew BK258.out)
            have n4_:=Aside0.mk (blk_drew BK260.out)
            have n5_:=Aside0.mk (below_drew1 HB.out)
            clear HO_7
            clear BK252
            clear BK253
            clear BK258
            clear BK260
            clear HB
            have HO_7:=n0_
            have BK252:=n1_
            have BK253:=n2_
            have BK258:=n3_
            have BK260:=n4_
            have HB:=n5_
            clear n0_ n1_ n2_ n3_ n4_ n5_
            refine start_ (n:=12) (S:=fun w'=>w'.cell? ⟨gb252,0,none⟩=some (.int .i64 a0_0)∧w'.cell? ⟨gb252,1,none⟩=some (.slice A0_1 l0_1.length c0_1)∧w'.cell? ⟨gb260,0,none⟩=some (.int .i64 ((rd_T61 l2 x25_1).f0))∧w'.cell? ⟨gb260,1,none⟩=some (.int .i64 ((rd_T61 l2 x25_1).f1))∧w'.cell? ⟨gb260,2,none⟩=some (.int .i64 ((rd_T61 l2 x25_1).f2))) (ds:=[]) (fl 12 0) (by kernel_rfl) rfl rfl ⟨(blk_cell BK252.out 0).trans rfl,(blk_cell BK252.out 1).trans rfl,(blk_cell BK260.out 0).trans rfl,(blk_cell BK260.out 1).trans rfl,(blk_cell BK260.out 2).trans rfl⟩ (fun hHeld=>?_);refine with_tabW impl_Best.tab9 impl_Best.bits9 (fun HT_ HW_=>?_)
            generalize w59.drew=w60 at HO_7 BK252 BK253 BK258 BK260 HB hHeld ⊢
            refine pt 1 35 (fl 12 2) HT_ ?_
            refine pt 5 39 (fl 12 34) HT_ ?_
            refine pt 6 40 (fl 12 98) HT_ ?_
            refine tt 0 34 (fl 12 99) HT_ HW_ hHeld ?_
            refine tt 2 36 (fl 12 103) HT_ HW_ hHeld ?_
            refine tt 7 41 (fl 12 231) HT_ HW_ hHeld ?_
            refine ot 3 (some 37) (fl 12 239) HT_ (fun K hK=>?_)
            refine goes_ Try.func35 (by kernel_rfl) rfl #[.agg #[.int .i64 a0_0,.slice A0_1 l0_1.length c0_1],.int .i64 ((rd_T61 l2 x25_1).f0)] (by rfl) rfl rfl (by (try simp only [List.map_toArray,List.map_cons,List.map_nil]);first|done|rfl|(simp only [List.length_drop,List.length_take];rfl)) ?_
            with_reducible refine (impl_LoadOf.calls k1 a0_0 _ _ l0_1 ((rd_T61 l2 x25_1).f0) t262 _ ?side1 ?side2 A30.out).mono ?_
            (case side1=>exact rC HR0_1)
            (case side2=>exact HC0_1.out)
            rintro e w61 ⟨rfl,hb⟩
            refine ⟨_,rfl,?_⟩
            have n0_:=Aside0.mk (Kd.R_below ((rR HO_7)) hb)
            have n1_:=Aside0.mk (blk_below (g:=gb252) (o:=.cells #[.int .i64 a0_0,.slice A0_1 l0_1.length c0_1] 26 (0,0)) (bk BK252) hb)
            have n2_:=Aside0.mk (blk_below (g:=gb253) (o:=.cells #[.slice A1_0 l1_0.length c1_0] 35 (0,0)) (bk BK253) hb)
            have n3_:=Aside0.mk (blk_below (g:=gb258) (o:=.cells #[.int .i64 x259000_1,.int .i64 x259001_1,.int .i64 x259002_1] 61 (0,0)) (bk BK258) hb)
            have n4_:=Aside0.mk (blk_below (g:=gb260) (o:=.cells #[.int .i64 ((rd_T61 l2 x25_1).f0),.int .i64 ((rd_T61 l2 x25_1).f1),.int .i64 ((rd_T61 l2 x25_1).f2)] 61 (0,0)) (bk BK260) hb)
            have n5_:=bs hb
            clear HO_7
            clear BK252
            clear BK253
            clear BK258
            clear BK260
            clear HB
            have HO_7:=n0_
            have BK252:=n1_
            have BK253:=n2_
            have BK258:=n3_
            have BK260:=n4_
            have HB:=n5_
            clear n0_ n1_ n2_ n3_ n4_ n5_
            (try clear hb)
            (try clear hb2)
            (try clear hk)
            (try clear hi)
            obtain ⟨Ao62,co62,eo62⟩:=Kd.R_slice HO_7.out
            (first|subst eo62|(injection eo62 with f1_ f2_ f3_;have f4_:=f1_.symm;have f5_:=f3_.symm;clear f1_ f2_ f3_;subst f4_;subst f5_))
            refine hK.out _ _ ⟨(blk_cell BK252.out 0).trans rfl,(blk_cell BK252.out 1).trans rfl,(blk_cell BK260.out 0).trans rfl,(blk_cell BK260.out 1).trans rfl,(blk_cell BK260.out 2).trans rfl⟩ (fun hHeld=>?_)
            clear hK K
            refine no 37 ?_
            refine pt 4 38 (fl 12 255) HT_ ?_
            refine ot 8 (some 42) (fl 12 511) HT_ (fun K hK=>?_)
            refine goes_ Try.func52 (by kernel_rfl) rfl #[.slice Ao62 t255.length co62,.int .i64 ((rd_T61 l2 x25_1).f1)] (by rfl) rfl rfl (by (try simp only [List.map_toArray,List.map_cons,List.map_nil]);first|done|rfl|(simp only [List.length_drop,List.length_take];rfl)) ?_
            with_reducible refine (impl_hasInt.calls k1 _ _ t255 ((rd_T61 l2 x25_1).f1) true _ ?side1 ?side2 A31.out).mono ?_
            (case side1=>exact sR HO_7)
            (case side2=>exact (Kd.R_reads' HO_7.out).2.1)
            rintro e w' ⟨rfl,⟨nd,rfl⟩⟩
            refine ⟨_,rfl,?_⟩
            refine hK.out _ _ ⟨(blk_cell BK252.out 0).trans rfl,(blk_cell BK252.out 1).trans rfl,(blk_cell BK260.out 0).trans rfl,(blk_cell BK260.out 1).trans rfl,(blk_cell BK260.out 2).trans rfl⟩ (fun hHeld=>?_)
            clear hK K
            refine no 42 ?_
            refine pt 9 43 (fl 12 1023) HT_ ?_
            refine pt 10 13 (fl 12 2047) HT_ ?_
            refine pt 11 14 (fl 12 4095) HT_ ?_
            refine done_ (done_of HT_.out (by kernel_rfl)) ?_
            have hnb63:=NB258_252.out
            have hnc63:=NB252_258.out
            have hcz64_0:w61.cell? ⟨gb258,0,none⟩=some (.int .i64 x259000_1):=(blk_cell BK258.out 0).trans rfl
            have hcz64_1:w61.cell? ⟨gb258,1,none⟩=some (.int .i64 x259001_1):=(blk_cell BK258.out 1).trans rfl
            have hcz64_2:w61.cell? ⟨gb258,2,none⟩=some (.int .i64 x259002_1):=(blk_cell BK258.out 2).trans rfl
            have hfz64_0:=blk_frozen BK258.out 0
            have hfz64_1:=blk_frozen BK258.out 1
            have hfz64_2:=blk_frozen BK258.out 2
            have hcz65_0:w61.cell? ⟨gb260,0,none⟩=some (.int .i64 ((rd_T61 l2 x25_1).f0)):=(blk_cell BK260.out 0).trans rfl
            have hcz65_1:w61.cell? ⟨gb260,1,none⟩=some (.int .i64 ((rd_T61 l2 x25_1).f1)):=(blk_cell BK260.out 1).trans rfl
            have hcz65_2:w61.cell? ⟨gb260,2,none⟩=some (.int .i64 ((rd_T61 l2 x25_1).f2)):=(blk_cell BK260.out 2).trans rfl
            have hfz65_0:=blk_frozen BK260.out 0
            have hfz65_1:=blk_frozen BK260.out 1
            have hfz65_2:=blk_frozen BK260.out 2
            try go_wp2
            go_roundg k1
            case measure=>have:=HK1.out;omega
            case rel=>exact ⟨(wrap64 (t262+1)),(!true),(wrap64 (x25_1+1)),((rd_T61 l2 x25_1).f0),((rd_T61 l2 x25_1).f1),((rd_T61 l2 x25_1).f2),rd_,rd_,rd_,H',⟨by have:=HK1.out;omega⟩,⟨by (with_reducible repeat (first|apply Kd.R_alloc|apply Kd.R_drewN|apply Kd.R_drew));exact Kd.R_mono (Kd.R_far (p:=⟨gb258,2,none⟩) (Kd.R_far (p:=⟨gb258,1,none⟩) (Kd.R_far (p:=⟨gb258,0,none⟩) (Kd.R_types HO_7.out BK258.out (by decide)) (fun _ hk=>hk.2) (.int .i64 ((rd_T61 l2 x25_1).f0))) (fun _ hk=>hk.2) (.int .i64 ((rd_T61 l2 x25_1).f1))) (fun _ hk=>hk.2) (.int .i64 ((rd_T61 l2 x25_1).f2))) (fun _ hk=>trivial)⟩,⟨by (with_reducible repeat (first|refine blk_drewN ?_ _|refine blk_drew ?_|refine blk_alloc ?_ _));refine blk_far ?_ NB252_258.out _;(with_reducible repeat (first|refine blk_drewN ?_ _|refine blk_drew ?_|refine blk_alloc ?_ _));refine blk_far ?_ NB252_258.out _;(with_reducible repeat (first|refine blk_drewN ?_ _|refine blk_drew ?_|refine blk_alloc ?_ _));refine blk_far ?_ NB252_258.out _;(with_reducible repeat (first|refine blk_drewN ?_ _|refine blk_drew ?_|refine blk_alloc ?_ _));exact BK252.out⟩,⟨by (with_reducible repeat (first|refine blk_drewN ?_ _|refine blk_drew ?_|refine blk_alloc ?_ _));refine blk_far ?_ NB253_258.out _;(with_reducible repeat (first|refine blk_drewN ?_ _|refine blk_drew ?_|refine blk_alloc ?_ _));refine blk_far ?_ NB253_258.out _;(with_reducible repeat (first|refine blk_drewN ?_ _|refine blk_drew ?_|refine blk_alloc ?_ _));refine blk_far ?_ NB253_258.out _;(with_reducible repeat (first|refine blk_drewN ?_ _|refine blk_drew ?_|refine blk_alloc ?_ _));exact BK253.out⟩,⟨by (with_reducible repeat (first|refine blk_drewN ?_ _|refine blk_drew ?_|refine blk_alloc ?_ _));refine blk_put (cs:=#[.int .i64 ((rd_T61 l2 x25_1).f0),.int .i64 ((rd_T61 l2 x25_1).f1),.int .i64 x259002_1]) ?_ 2 _ rfl;(with_reducible repeat (first|refine blk_drewN ?_ _|refine blk_drew ?_|refine blk_alloc ?_ _));refine blk_put (cs:=#[.int .i64 ((rd_T61 l2 x25_1).f0),.int .i64 x259001_1,.int .i64 x259002_1]) ?_ 1 _ rfl;(with_reducible repeat (first|refine blk_drewN ?_ _|refine blk_drew ?_|refine blk_alloc ?_ _));refine blk_put (cs:=#[.int .i64 x259000_1,.int .i64 x259001_1,.int .i64 x259002_1]) ?_ 0 _ rfl;(with_reducible repeat (first|refine blk_drewN ?_ _|refine blk_drew ?_|refine blk_alloc ?_ _));exact BK258.out⟩,⟨be⟩⟩
           ·rw [if_neg c50] at H
            have c50b0:decide ((wrap64 ((wrap64 (t262+1)) * x259002_1)) < (wrap64 (x9_1 * ((rd_T61 l2 x25_1).f2))))=false:=decide_eq_false c50
            clear c50
            have H':=Aside0.mk H
            clear H
            have p259:0≤(x25_1:Int):=of_decide_eq_true (by first|(with_reducible assumption)|assumption)
            have q259:x25_1 < (l2.length:Int):=of_decide_eq_true (by first|(with_reducible assumption)|assumption)
            obtain ⟨ad259,e259,hx259_0,hx259_1,hx259_2⟩:=at_T61 HR2.out x25_1 p259 q259
            cases e259
            replace hx259_0:=(HB.out.cell (World.block_lt_of_cell? w _ hx259_0)).trans hx259_0
            replace hx259_1:=(HB.out.cell (World.block_lt_of_cell? w _ hx259_1)).trans hx259_1
            replace hx259_2:=(HB.out.cell (World.block_lt_of_cell? w _ hx259_2)).trans hx259_2
            replace p259:=eq_true p259
            replace q259:=eq_true q259
            try go_wp2_with (first|((with_reducible refine gate_dst (N:=12) rfl ?_);refine box_event ?hg (N:=12) ?hd (cs:=#[.int .i64 0,.int .i64 0,.int .i64 0]) (t:=61) ?hr ?_;(case hd=>rfl);(case hg=>rfl);(case hr=>first|(go_simp;done)|(go_simp;rfl));intro gb260 hg w66 hbox hb;have n0_:=Aside0.mk (Kd.R_below (rR HO_7) hb);have n1_:=Aside0.mk (blk_below (g:=gb252) (o:=.cells #[.int .i64 a0_0,.slice A0_1 l0_1.length c0_1] 26 (0,0)) (bk BK252) hb);have n2_:=Aside0.mk (blk_below (g:=gb253) (o:=.cells #[.slice A1_0 l1_0.length c1_0] 35 (0,0)) (bk BK253) hb);have n3_:=Aside0.mk (blk_below (g:=gb258) (o:=.cells #[.int .i64 x259000_1,.int .i64 x259001_1,.int .i64 x259002_1] 61 (0,0)) (bk BK258) hb);have n4_:=bs hb;have n5_:=Aside0.mk (hbox);have n6_:=Aside0.mk ((by rw [hg];exact (below_size be):w.heap.size≤gb260));have n7_:=Aside0.mk ((by rw [hg];exact (below_size be):w.heap.size≤gb260));have n8_:=Aside0.mk ((by rw [hg];exact Nat.ne_of_lt (blk_lt (g:=gb252) (o:=.cells #[.int .i64 a0_0,.slice A0_1 l0_1.length c0_1] 26 (0,0)) (bk BK252)):gb252 ≠ gb260));have n9_:=Aside0.mk ((by rw [hg];exact Nat.ne_of_gt (blk_lt (g:=gb252) (o:=.cells #[.int .i64 a0_0,.slice A0_1 l0_1.length c0_1] 26 (0,0)) (bk BK252)):gb260 ≠ gb252));have n10_:=Aside0.mk ((by rw [hg];exact Nat.ne_of_lt (blk_lt (g:=gb253) (o:=.cells #[.slice A1_0 l1_0.length c1_0] 35 (0,0)) (bk BK253)):gb253 ≠ gb260));have n11_:=Aside0.mk ((by rw [hg];exact Nat.ne_of_gt (blk_lt (g:=gb253) (o:=.cells #[.slice A1_0 l1_0.length c1_0] 35 (0,0)) (bk BK253)):gb260 ≠ gb253));have n12_:=Aside0.mk ((by rw [hg];exact Nat.ne_of_lt (blk_lt (g:=gb258) (o:=.cells #[.int .i64 x259000_1,.int .i64 x259001_1,.int .i64 x259002_1] 61 (0,0)) (bk BK258)):gb258 ≠ gb260));have n13_:=Aside0.mk ((by rw [hg];exact Nat.ne_of_gt (blk_lt (g:=gb258) (o:=.cells #[.int .i64 x259000_1,.int .i64 x259001_1,.int .i64 x259002_1] 61 (0,0)) (bk BK258)):gb260 ≠ gb258));clear HO_7;clear BK252;clear BK253;clear BK258;clear HB;have HO_7:=n0_;have BK252:=n1_;have BK253:=n2_;have BK258:=n3_;have HB:=n4_;have BK260:=n5_;have GW260:=n6_;have GE260:=n7_;have NB252_260:=n8_;have NB260_252:=n9_;have NB253_260:=n10_;have NB260_253:=n11_;have NB258_260:=n12_;have NB260_258:=n13_;clear n0_ n1_ n2_ n3_ n4_ n5_ n6_ n7_ n8_ n9_ n10_ n11_ n12_ n13_;clear hb hbox hg;have hnb67:=NB260_252.out;have hnc67:=NB252_260.out;have hnb68:=NB260_253.out;have hnc68:=NB253_260.out;have hnb69:=NB260_258.out;have hnc69:=NB258_260.out;have hcz70_0:w66.cell? ⟨gb260,0,none⟩=some (.int .i64 0):=(blk_cell BK260.out 0).trans rfl;have hcz70_1:w66.cell? ⟨gb260,1,none⟩=some (.int .i64 0):=(blk_cell BK260.out 1).trans rfl;have hcz70_2:w66.cell? ⟨gb260,2,none⟩=some (.int .i64 0):=(blk_cell BK260.out 2).trans rfl;have hfz70_0:=blk_frozen BK260.out 0;have hfz70_1:=blk_frozen BK260.out 1;have hfz70_2:=blk_frozen BK260.out 2;have hnb71:=NB253_252.out;have hnc71:=NB252_253.out;have hnb72:=NB253_258.out;have hnc72:=NB258_253.out;have hcz73_0:w66.cell? ⟨gb253,0,none⟩=some (.slice A1_0 l1_0.length c1_0):=(blk_cell BK253.out 0).trans rfl;have hfz73_0:=blk_frozen BK253.out 0)|((with_reducible refine gate_callee (f:=52) rfl ?_);refine goesL_ (some 33) rfl rfl Try.func52 (by kernel_rfl) rfl #[.slice A1_0 l1_0.length c1_0,.int .i64 ((rd_T61 l2 x25_1).f0)] rfl (by (try simp only [List.map_toArray,List.map_cons,List.map_nil]);first|done|rfl|(simp only [List.length_drop,List.length_take];rfl)) ?_;(with_reducible refine (impl_hasInt.calls k1 _ _ l1_0 ((rd_T61 l2 x25_1).f0) false _ ?side1 ?side2 A20.out).mono ?_);(case side1=>exact Kd.C_below HR1_0.out be);(case side2=>exact HC1_0.out);rintro e w' ⟨rfl,⟨nd,rfl⟩⟩;refine ⟨_,rfl,?_⟩))
            have n0_:Aside0 (Kd.R (Kd.int .i64) 3 (((w66.setCell ⟨gb260,0,none⟩ (.int .i64 ((rd_T61 l2 x25_1).f0))).setCell ⟨gb260,1,none⟩ (.int .i64 ((rd_T61 l2 x25_1).f1))).setCell ⟨gb260,2,none⟩ (.int .i64 ((rd_T61 l2 x25_1).f2))) w.heap.size (fun _=>True) v256 t255):=⟨by (with_reducible repeat (first|apply Kd.R_alloc|apply Kd.R_drewN|apply Kd.R_drew));exact Kd.R_mono (Kd.R_far (p:=⟨gb260,2,none⟩) (Kd.R_far (p:=⟨gb260,1,none⟩) (Kd.R_far (p:=⟨gb260,0,none⟩) (Kd.R_types HO_7.out BK260.out (by decide)) (fun _ hk=>hk.2) (.int .i64 ((rd_T61 l2 x25_1).f0))) (fun _ hk=>hk.2) (.int .i64 ((rd_T61 l2 x25_1).f1))) (fun _ hk=>hk.2) (.int .i64 ((rd_T61 l2 x25_1).f2))) (fun _ hk=>trivial)⟩
            have n1_:Aside0 ((((w66.setCell ⟨gb260,0,none⟩ (.int .i64 ((rd_T61 l2 x25_1).f0))).setCell ⟨gb260,1,none⟩ (.int .i64 ((rd_T61 l2 x25_1).f1))).setCell ⟨gb260,2,none⟩ (.int .i64 ((rd_T61 l2 x25_1).f2))).heap[gb252]?=some (.cells #[.int .i64 a0_0,.slice A0_1 l0_1.length c0_1] 26 (0,0))):=⟨by (with_reducible repeat (first|refine blk_drewN ?_ _|refine blk_drew ?_|refine blk_alloc ?_ _));refine blk_far ?_ NB252_260.out _;(with_reducible repeat (first|refine blk_drewN ?_ _|refine blk_drew ?_|refine blk_alloc ?_ _));refine blk_far ?_ NB252_260.out _;(with_reducible repeat (first|refine blk_drewN ?_ _|refine blk_drew ?_|refine blk_alloc ?_ _));refine blk_far ?_ NB252_260.out _;(with_reducible repeat (first|refine blk_drewN ?_ _|refine blk_drew ?_|refine blk_alloc ?_ _));exact BK252.out⟩
            have n2_:Aside0 ((((w66.setCell ⟨gb260,0,none⟩ (.int .i64 ((rd_T61 l2 x25_1).f0))).setCell ⟨gb260,1,none⟩ (.int .i64 ((rd_T61 l2 x25_1).f1))).setCell ⟨gb260,2,none⟩ (.int .i64 ((rd_T61 l2 x25_1).f2))).heap[gb253]?=some (.cells #[.slice A1_0 l1_0.length c1_0] 35 (0,0))):=⟨by (with_reducible repeat (first|refine blk_drewN ?_ _|refine blk_drew ?_|refine blk_alloc ?_ _));refine blk_far ?_ NB253_260.out _;(with_reducible repeat (first|refine blk_drewN ?_ _|refine blk_drew ?_|refine blk_alloc ?_ _));refine blk_far ?_ NB253_260.out _;(with_reducible repeat (first|refine blk_drewN ?_ _|refine blk_drew ?_|refine blk_alloc ?_ _));refine blk_far ?_ NB253_260.out _;(with_reducible repeat (first|refine blk_drewN ?_ _|refine blk_drew ?_|refine blk_alloc ?_ _));exact BK253.out⟩
            have n3_:Aside0 ((((w66.setCell ⟨gb260,0,none⟩ (.int .i64 ((rd_T61 l2 x25_1).f0))).setCell ⟨gb260,1,none⟩ (.int .i64 ((rd_T61 l2 x25_1).f1))).setCell ⟨gb260,2,none⟩ (.int .i64 ((rd_T61 l2 x25_1).f2))).heap[gb258]?=some (.cells #[.int .i64 x259000_1,.int .i64 x259001_1,.int .i64 x259002_1] 61 (0,0))):=⟨by (with_reducible repeat (first|refine blk_drewN ?_ _|refine blk_drew ?_|refine blk_alloc ?_ _));refine blk_far ?_ NB258_260.out _;(with_reducible repeat (first|refine blk_drewN ?_ _|refine blk_drew ?_|refine blk_alloc ?_ _));refine blk_far ?_ NB258_260.out _;(with_reducible repeat (first|refine blk_drewN ?_ _|refine blk_drew ?_|refine blk_alloc ?_ _));refine blk_far ?_ NB258_260.out _;(with_reducible repeat (first|refine blk_drewN ?_ _|refine blk_drew ?_|refine blk_alloc ?_ _));exact BK258.out⟩
            have n4_:Aside0 ((((w66.setCell ⟨gb260,0,none⟩ (.int .i64 ((rd_T61 l2 x25_1).f0))).setCell ⟨gb260,1,none⟩ (.int .i64 ((rd_T61 l2 x25_1).f1))).setCell ⟨gb260,2,none⟩ (.int .i64 ((rd_T61 l2 x25_1).f2))).heap[gb260]?=some (.cells #[.int .i64 ((rd_T61 l2 x25_1).f0),.int .i64 ((rd_T61 l2 x25_1).f1),.int .i64 ((rd_T61 l2 x25_1).f2)] 61 (0,0))):=⟨by (with_reducible repeat (first|refine blk_drewN ?_ _|refine blk_drew ?_|refine blk_alloc ?_ _));refine blk_put (cs:=#[.int .i64 ((rd_T61 l2 x25_1).f0),.int .i64 ((rd_T61 l2 x25_1).f1),.int .i64 0]) ?_ 2 _ rfl;(with_reducible repeat (first|refine blk_drewN ?_ _|refine blk_drew ?_|refine blk_alloc ?_ _));refine blk_put (cs:=#[.int .i64 ((rd_T61 l2 x25_1).f0),.int .i64 0,.int .i64 0]) ?_ 1 _ rfl;(with_reducible repeat (first|refine blk_drewN ?_ _|refine blk_drew ?_|refine blk_alloc ?_ _));refine blk_put (cs:=#[.int .i64 0,.int .i64 0,.int .i64 0]) ?_ 0 _ rfl;(with_reducible repeat (first|refine blk_drewN ?_ _|refine blk_drew ?_|refine blk_alloc ?_ _));exact BK260.out⟩
            have n5_:Aside0 (Below w.heap.size w (((w66.setCell ⟨gb260,0,none⟩ (.int .i64 ((rd_T61 l2 x25_1).f0))).setCell ⟨gb260,1,none⟩ (.int .i64 ((rd_T61 l2 x25_1).f1))).setCell ⟨gb260,2,none⟩ (.int .i64 ((rd_T61 l2 x25_1).f2)))):=⟨be⟩
            (try clear HO_7)
            (try clear BK252)
            (try clear BK253)
            (try clear BK258)
            (try clear BK260)
            (try clear HB)
            generalize (((w66.setCell ⟨gb260,0,none⟩ (.int .i64 ((rd_T61 l2 x25_1).f0))).setCell ⟨gb260,1,none⟩ (.int .i64 ((rd_T61 l2 x25_1).f1))).setCell ⟨gb260,2,none⟩ (.int .i64 ((rd_T61 l2 x25_1).f2)))=w74 at n0_ n1_ n2_ n3_ n4_ n5_ ⊢
            have HO_7:=n0_
            have BK252:=n1_
            have BK253:=n2_
            have BK258:=n3_
            have BK260:=n4_
            have HB:=n5_
            clear n0_ n1_ n2_ n3_ n4_ n5_
            (try (rw [drewN_self w74];generalize hq_:World.drewN w74 _=w74;have n0_:Aside0 (Kd.R (Kd.int .i64) 3 w74 w.heap.size (fun _=>True) v256 t255):=⟨by rw [← hq_];exact (rR HO_7)⟩;have n1_:Aside0 (w74.heap[gb252]?=some (.cells #[.int .i64 a0_0,.slice A0_1 l0_1.length c0_1] 26 (0,0))):=⟨by rw [← hq_];exact (bk BK252)⟩;have n2_:Aside0 (w74.heap[gb253]?=some (.cells #[.slice A1_0 l1_0.length c1_0] 35 (0,0))):=⟨by rw [← hq_];exact (bk BK253)⟩;have n3_:Aside0 (w74.heap[gb258]?=some (.cells #[.int .i64 x259000_1,.int .i64 x259001_1,.int .i64 x259002_1] 61 (0,0))):=⟨by rw [← hq_];exact (bk BK258)⟩;have n4_:Aside0 (w74.heap[gb260]?=some (.cells #[.int .i64 ((rd_T61 l2 x25_1).f0),.int .i64 ((rd_T61 l2 x25_1).f1),.int .i64 ((rd_T61 l2 x25_1).f2)] 61 (0,0))):=⟨by rw [← hq_];exact (bk BK260)⟩;have n5_:Aside0 (Below w.heap.size w w74):=⟨by rw [← hq_];exact be⟩;clear HO_7 BK252 BK253 BK258 BK260 HB hq_;have HO_7:=n0_;have BK252:=n1_;have BK253:=n2_;have BK258:=n3_;have BK260:=n4_;have HB:=n5_;clear n0_ n1_ n2_ n3_ n4_ n5_))
            have n0_:=Aside0.mk (Kd.R_drew HO_7.out)
            have n1_:=Aside0.mk (blk_drew BK252.out)
            have n2_:=Aside0.mk (blk_drew BK253.out)
            have n3_:=Aside0.mk (blk_drew BK258.out)
            have n4_:=Aside0.mk (blk_drew BK260.out)
            have n5_:=Aside0.mk (below_drew1 HB.out)
            clear HO_7
            clear BK252
            clear BK253
            clear BK258
            clear BK260
            clear HB
            have HO_7:=n0_
            have BK252:=n1_
            have BK253:=n2_
            have BK258:=n3_
            have BK260:=n4_
            have HB:=n5_
            clear n0_ n1_ n2_ n3_ n4_ n5_
            refine start_ (n:=12) (S:=fun w'=>w'.cell? ⟨gb252,0,none⟩=some (.int .i64 a0_0)∧w'.cell? ⟨gb252,1,none⟩=some (.slice A0_1 l0_1.length c0_1)∧w'.cell? ⟨gb260,0,none⟩=some (.int .i64 ((rd_T61 l2 x25_1).f0))∧w'.cell? ⟨gb260,1,none⟩=some (.int .i64 ((rd_T61 l2 x25_1).f1))∧w'.cell? ⟨gb260,2,none⟩=some (.int .i64 ((rd_T61 l2 x25_1).f2))) (ds:=[]) (fl 12 0) (by kernel_rfl) rfl rfl ⟨(blk_cell BK252.out 0).trans rfl,(blk_cell BK252.out 1).trans rfl,(blk_cell BK260.out 0).trans rfl,(blk_cell BK260.out 1).trans rfl,(blk_cell BK260.out 2).trans rfl⟩ (fun hHeld=>?_);refine with_tabW impl_Best.tab9 impl_Best.bits9 (fun HT_ HW_=>?_)
            generalize w74.drew=w75 at HO_7 BK252 BK253 BK258 BK260 HB hHeld ⊢
            refine pt 1 35 (fl 12 2) HT_ ?_
            refine pt 5 39 (fl 12 34) HT_ ?_
            refine pt 6 40 (fl 12 98) HT_ ?_
            refine tt 0 34 (fl 12 99) HT_ HW_ hHeld ?_
            refine tt 2 36 (fl 12 103) HT_ HW_ hHeld ?_
            refine tt 7 41 (fl 12 231) HT_ HW_ hHeld ?_
            refine ot 3 (some 37) (fl 12 239) HT_ (fun K hK=>?_)
            refine goes_ Try.func35 (by kernel_rfl) rfl #[.agg #[.int .i64 a0_0,.slice A0_1 l0_1.length c0_1],.int .i64 ((rd_T61 l2 x25_1).f0)] (by rfl) rfl rfl (by (try simp only [List.map_toArray,List.map_cons,List.map_nil]);first|done|rfl|(simp only [List.length_drop,List.length_take];rfl)) ?_
            with_reducible refine (impl_LoadOf.calls k1 a0_0 _ _ l0_1 ((rd_T61 l2 x25_1).f0) t262 _ ?side1 ?side2 A30.out).mono ?_
            (case side1=>exact rC HR0_1)
            (case side2=>exact HC0_1.out)
            rintro e w76 ⟨rfl,hb⟩
            refine ⟨_,rfl,?_⟩
            have n0_:=Aside0.mk (Kd.R_below ((rR HO_7)) hb)
            have n1_:=Aside0.mk (blk_below (g:=gb252) (o:=.cells #[.int .i64 a0_0,.slice A0_1 l0_1.length c0_1] 26 (0,0)) (bk BK252) hb)
            have n2_:=Aside0.mk (blk_below (g:=gb253) (o:=.cells #[.slice A1_0 l1_0.length c1_0] 35 (0,0)) (bk BK253) hb)
            have n3_:=Aside0.mk (blk_below (g:=gb258) (o:=.cells #[.int .i64 x259000_1,.int .i64 x259001_1,.int .i64 x259002_1] 61 (0,0)) (bk BK258) hb)
            have n4_:=Aside0.mk (blk_below (g:=gb260) (o:=.cells #[.int .i64 ((rd_T61 l2 x25_1).f0),.int .i64 ((rd_T61 l2 x25_1).f1),.int .i64 ((rd_T61 l2 x25_1).f2)] 61 (0,0)) (bk BK260) hb)
            have n5_:=bs hb
            clear HO_7
            clear BK252
            clear BK253
            clear BK258
            clear BK260
            clear HB
            have HO_7:=n0_
            have BK252:=n1_
            have BK253:=n2_
            have BK258:=n3_
            have BK260:=n4_
            have HB:=n5_
            clear n0_ n1_ n2_ n3_ n4_ n5_
            (try clear hb)
            (try clear hb2)
            (try clear hk)
            (try clear hi)
            obtain ⟨Ao77,co77,eo77⟩:=Kd.R_slice HO_7.out
            (first|subst eo77|(injection eo77 with f1_ f2_ f3_;have f4_:=f1_.symm;have f5_:=f3_.symm;clear f1_ f2_ f3_;subst f4_;subst f5_))
            refine hK.out _ _ ⟨(blk_cell BK252.out 0).trans rfl,(blk_cell BK252.out 1).trans rfl,(blk_cell BK260.out 0).trans rfl,(blk_cell BK260.out 1).trans rfl,(blk_cell BK260.out 2).trans rfl⟩ (fun hHeld=>?_)
            clear hK K
            refine no 37 ?_
            refine pt 4 38 (fl 12 255) HT_ ?_
            refine ot 8 (some 42) (fl 12 511) HT_ (fun K hK=>?_)
            refine goes_ Try.func52 (by kernel_rfl) rfl #[.slice Ao77 t255.length co77,.int .i64 ((rd_T61 l2 x25_1).f1)] (by rfl) rfl rfl (by (try simp only [List.map_toArray,List.map_cons,List.map_nil]);first|done|rfl|(simp only [List.length_drop,List.length_take];rfl)) ?_
            with_reducible refine (impl_hasInt.calls k1 _ _ t255 ((rd_T61 l2 x25_1).f1) true _ ?side1 ?side2 A31.out).mono ?_
            (case side1=>exact sR HO_7)
            (case side2=>exact (Kd.R_reads' HO_7.out).2.1)
            rintro e w' ⟨rfl,⟨nd,rfl⟩⟩
            refine ⟨_,rfl,?_⟩
            refine hK.out _ _ ⟨(blk_cell BK252.out 0).trans rfl,(blk_cell BK252.out 1).trans rfl,(blk_cell BK260.out 0).trans rfl,(blk_cell BK260.out 1).trans rfl,(blk_cell BK260.out 2).trans rfl⟩ (fun hHeld=>?_)
            clear hK K
            refine no 42 ?_
            refine pt 9 43 (fl 12 1023) HT_ ?_
            refine pt 10 13 (fl 12 2047) HT_ ?_
            refine pt 11 14 (fl 12 4095) HT_ ?_
            refine done_ (done_of HT_.out (by kernel_rfl)) ?_
            have hnb78:=NB258_252.out
            have hnc78:=NB252_258.out
            have hcz79_0:w76.cell? ⟨gb258,0,none⟩=some (.int .i64 x259000_1):=(blk_cell BK258.out 0).trans rfl
            have hcz79_1:w76.cell? ⟨gb258,1,none⟩=some (.int .i64 x259001_1):=(blk_cell BK258.out 1).trans rfl
            have hcz79_2:w76.cell? ⟨gb258,2,none⟩=some (.int .i64 x259002_1):=(blk_cell BK258.out 2).trans rfl
            have hfz79_0:=blk_frozen BK258.out 0
            have hfz79_1:=blk_frozen BK258.out 1
            have hfz79_2:=blk_frozen BK258.out 2
            have hcz80_0:w76.cell? ⟨gb260,0,none⟩=some (.int .i64 ((rd_T61 l2 x25_1).f0)):=(blk_cell BK260.out 0).trans rfl
            have hcz80_1:w76.cell? ⟨gb260,1,none⟩=some (.int .i64 ((rd_T61 l2 x25_1).f1)):=(blk_cell BK260.out 1).trans rfl
            have hcz80_2:w76.cell? ⟨gb260,2,none⟩=some (.int .i64 ((rd_T61 l2 x25_1).f2)):=(blk_cell BK260.out 2).trans rfl
            have hfz80_0:=blk_frozen BK260.out 0
            have hfz80_1:=blk_frozen BK260.out 1
            have hfz80_2:=blk_frozen BK260.out 2
            try go_wp2
            go_roundg k1
            case measure=>have:=HK1.out;omega
            case rel=>exact ⟨(x9_1),(false),(wrap64 (x25_1+1)),(x259000_1),(x259001_1),(x259002_1),rd_,rd_,rd_,H',⟨by have:=HK1.out;omega⟩,⟨rR HO_7⟩,⟨bk BK252⟩,⟨bk BK253⟩,⟨bk BK258⟩,⟨be⟩⟩
          ·rw [if_neg c49] at H
           have qc49:x10_1=true:=by simpa using c49
           clear c49
           subst qc49
           have H':=Aside0.mk H
           clear H
           have p259:0≤(x25_1:Int):=of_decide_eq_true (by first|(with_reducible assumption)|assumption)
           have q259:x25_1 < (l2.length:Int):=of_decide_eq_true (by first|(with_reducible assumption)|assumption)
           obtain ⟨ad259,e259,hx259_0,hx259_1,hx259_2⟩:=at_T61 HR2.out x25_1 p259 q259
           cases e259
           replace hx259_0:=(HB.out.cell (World.block_lt_of_cell? w _ hx259_0)).trans hx259_0
           replace hx259_1:=(HB.out.cell (World.block_lt_of_cell? w _ hx259_1)).trans hx259_1
           replace hx259_2:=(HB.out.cell (World.block_lt_of_cell? w _ hx259_2)).trans hx259_2
           replace p259:=eq_true p259
           replace q259:=eq_true q259
           try go_wp2_with (first|((with_reducible refine gate_dst (N:=12) rfl ?_);refine box_event ?hg (N:=12) ?hd (cs:=#[.int .i64 0,.int .i64 0,.int .i64 0]) (t:=61) ?hr ?_;(case hd=>rfl);(case hg=>rfl);(case hr=>first|(go_simp;done)|(go_simp;rfl));intro gb260 hg w81 hbox hb;have n0_:=Aside0.mk (Kd.R_below (rR HO_7) hb);have n1_:=Aside0.mk (blk_below (g:=gb252) (o:=.cells #[.int .i64 a0_0,.slice A0_1 l0_1.length c0_1] 26 (0,0)) (bk BK252) hb);have n2_:=Aside0.mk (blk_below (g:=gb253) (o:=.cells #[.slice A1_0 l1_0.length c1_0] 35 (0,0)) (bk BK253) hb);have n3_:=Aside0.mk (blk_below (g:=gb258) (o:=.cells #[.int .i64 x259000_1,.int .i64 x259001_1,.int .i64 x259002_1] 61 (0,0)) (bk BK258) hb);have n4_:=bs hb;have n5_:=Aside0.mk (hbox);have n6_:=Aside0.mk ((by rw [hg];exact (below_size be):w.heap.size≤gb260));have n7_:=Aside0.mk ((by rw [hg];exact (below_size be):w.heap.size≤gb260));have n8_:=Aside0.mk ((by rw [hg];exact Nat.ne_of_lt (blk_lt (g:=gb252) (o:=.cells #[.int .i64 a0_0,.slice A0_1 l0_1.length c0_1] 26 (0,0)) (bk BK252)):gb252 ≠ gb260));have n9_:=Aside0.mk ((by rw [hg];exact Nat.ne_of_gt (blk_lt (g:=gb252) (o:=.cells #[.int .i64 a0_0,.slice A0_1 l0_1.length c0_1] 26 (0,0)) (bk BK252)):gb260 ≠ gb252));have n10_:=Aside0.mk ((by rw [hg];exact Nat.ne_of_lt (blk_lt (g:=gb253) (o:=.cells #[.slice A1_0 l1_0.length c1_0] 35 (0,0)) (bk BK253)):gb253 ≠ gb260));have n11_:=Aside0.mk ((by rw [hg];exact Nat.ne_of_gt (blk_lt (g:=gb253) (o:=.cells #[.slice A1_0 l1_0.length c1_0] 35 (0,0)) (bk BK253)):gb260 ≠ gb253));have n12_:=Aside0.mk ((by rw [hg];exact Nat.ne_of_lt (blk_lt (g:=gb258) (o:=.cells #[.int .i64 x259000_1,.int .i64 x259001_1,.int .i64 x259002_1] 61 (0,0)) (bk BK258)):gb258 ≠ gb260));have n13_:=Aside0.mk ((by rw [hg];exact Nat.ne_of_gt (blk_lt (g:=gb258) (o:=.cells #[.int .i64 x259000_1,.int .i64 x259001_1,.int .i64 x259002_1] 61 (0,0)) (bk BK258)):gb260 ≠ gb258));clear HO_7;clear BK252;clear BK253;clear BK258;clear HB;have HO_7:=n0_;have BK252:=n1_;have BK253:=n2_;have BK258:=n3_;have HB:=n4_;have BK260:=n5_;have GW260:=n6_;have GE260:=n7_;have NB252_260:=n8_;have NB260_252:=n9_;have NB253_260:=n10_;have NB260_253:=n11_;have NB258_260:=n12_;have NB260_258:=n13_;clear n0_ n1_ n2_ n3_ n4_ n5_ n6_ n7_ n8_ n9_ n10_ n11_ n12_ n13_;clear hb hbox hg;have hnb82:=NB260_252.out;have hnc82:=NB252_260.out;have hnb83:=NB260_253.out;have hnc83:=NB253_260.out;have hnb84:=NB260_258.out;have hnc84:=NB258_260.out;have hcz85_0:w81.cell? ⟨gb260,0,none⟩=some (.int .i64 0):=(blk_cell BK260.out 0).trans rfl;have hcz85_1:w81.cell? ⟨gb260,1,none⟩=some (.int .i64 0):=(blk_cell BK260.out 1).trans rfl;have hcz85_2:w81.cell? ⟨gb260,2,none⟩=some (.int .i64 0):=(blk_cell BK260.out 2).trans rfl;have hfz85_0:=blk_frozen BK260.out 0;have hfz85_1:=blk_frozen BK260.out 1;have hfz85_2:=blk_frozen BK260.out 2;have hnb86:=NB253_252.out;have hnc86:=NB252_253.out;have hnb87:=NB253_258.out;have hnc87:=NB258_253.out;have hcz88_0:w81.cell? ⟨gb253,0,none⟩=some (.slice A1_0 l1_0.length c1_0):=(blk_cell BK253.out 0).trans rfl;have hfz88_0:=blk_frozen BK253.out 0)|((with_reducible refine gate_callee (f:=52) rfl ?_);refine goesL_ (some 33) rfl rfl Try.func52 (by kernel_rfl) rfl #[.slice A1_0 l1_0.length c1_0,.int .i64 ((rd_T61 l2 x25_1).f0)] rfl (by (try simp only [List.map_toArray,List.map_cons,List.map_nil]);first|done|rfl|(simp only [List.length_drop,List.length_take];rfl)) ?_;(with_reducible refine (impl_hasInt.calls k1 _ _ l1_0 ((rd_T61 l2 x25_1).f0) false _ ?side1 ?side2 A20.out).mono ?_);(case side1=>exact Kd.C_below HR1_0.out be);(case side2=>exact HC1_0.out);rintro e w' ⟨rfl,⟨nd,rfl⟩⟩;refine ⟨_,rfl,?_⟩))
           have n0_:Aside0 (Kd.R (Kd.int .i64) 3 (((w81.setCell ⟨gb260,0,none⟩ (.int .i64 ((rd_T61 l2 x25_1).f0))).setCell ⟨gb260,1,none⟩ (.int .i64 ((rd_T61 l2 x25_1).f1))).setCell ⟨gb260,2,none⟩ (.int .i64 ((rd_T61 l2 x25_1).f2))) w.heap.size (fun _=>True) v256 t255):=⟨by (with_reducible repeat (first|apply Kd.R_alloc|apply Kd.R_drewN|apply Kd.R_drew));exact Kd.R_mono (Kd.R_far (p:=⟨gb260,2,none⟩) (Kd.R_far (p:=⟨gb260,1,none⟩) (Kd.R_far (p:=⟨gb260,0,none⟩) (Kd.R_types HO_7.out BK260.out (by decide)) (fun _ hk=>hk.2) (.int .i64 ((rd_T61 l2 x25_1).f0))) (fun _ hk=>hk.2) (.int .i64 ((rd_T61 l2 x25_1).f1))) (fun _ hk=>hk.2) (.int .i64 ((rd_T61 l2 x25_1).f2))) (fun _ hk=>trivial)⟩
           have n1_:Aside0 ((((w81.setCell ⟨gb260,0,none⟩ (.int .i64 ((rd_T61 l2 x25_1).f0))).setCell ⟨gb260,1,none⟩ (.int .i64 ((rd_T61 l2 x25_1).f1))).setCell ⟨gb260,2,none⟩ (.int .i64 ((rd_T61 l2 x25_1).f2))).heap[gb252]?=some (.cells #[.int .i64 a0_0,.slice A0_1 l0_1.length c0_1] 26 (0,0))):=⟨by (with_reducible repeat (first|refine blk_drewN ?_ _|refine blk_drew ?_|refine blk_alloc ?_ _));refine blk_far ?_ NB252_260.out _;(with_reducible repeat (first|refine blk_drewN ?_ _|refine blk_drew ?_|refine blk_alloc ?_ _));refine blk_far ?_ NB252_260.out _;(with_reducible repeat (first|refine blk_drewN ?_ _|refine blk_drew ?_|refine blk_alloc ?_ _));refine blk_far ?_ NB252_260.out _;(with_reducible repeat (first|refine blk_drewN ?_ _|refine blk_drew ?_|refine blk_alloc ?_ _));exact BK252.out⟩
           have n2_:Aside0 ((((w81.setCell ⟨gb260,0,none⟩ (.int .i64 ((rd_T61 l2 x25_1).f0))).setCell ⟨gb260,1,none⟩ (.int .i64 ((rd_T61 l2 x25_1).f1))).setCell ⟨gb260,2,none⟩ (.int .i64 ((rd_T61 l2 x25_1).f2))).heap[gb253]?=some (.cells #[.slice A1_0 l1_0.length c1_0] 35 (0,0))):=⟨by (with_reducible repeat (first|refine blk_drewN ?_ _|refine blk_drew ?_|refine blk_alloc ?_ _));refine blk_far ?_ NB253_260.out _;(with_reducible repeat (first|refine blk_drewN ?_ _|refine blk_drew ?_|refine blk_alloc ?_ _));refine blk_far ?_ NB253_260.out _;(with_reducible repeat (first|refine blk_drewN ?_ _|refine blk_drew ?_|refine blk_alloc ?_ _));refine blk_far ?_ NB253_260.out _;(with_reducible repeat (first|refine blk_drewN ?_ _|refine blk_drew ?_|refine blk_alloc ?_ _));exact BK253.out⟩
           have n3_:Aside0 ((((w81.setCell ⟨gb260,0,none⟩ (.int .i64 ((rd_T61 l2 x25_1).f0))).setCell ⟨gb260,1,none⟩ (.int .i64 ((rd_T61 l2 x25_1).f1))).setCell ⟨gb260,2,none⟩ (.int .i64 ((rd_T61 l2 x25_1).f2))).heap[gb258]?=some (.cells #[.int .i64 x259000_1,.int .i64 x259001_1,.int .i64 x259002_1] 61 (0,0))):=⟨by (with_reducible repeat (first|refine blk_drewN ?_ _|refine blk_drew ?_|refine blk_alloc ?_ _));refine blk_far ?_ NB258_260.out _;(with_reducible repeat (first|refine blk_drewN ?_ _|refine blk_drew ?_|refine blk_alloc ?_ _));refine blk_far ?_ NB258_260.out _;(with_reducible repeat (first|refine blk_drewN ?_ _|refine blk_drew ?_|refine blk_alloc ?_ _));refine blk_far ?_ NB258_260.out _;(with_reducible repeat (first|refine blk_drewN ?_ _|refine blk_drew ?_|refine blk_alloc ?_ _));exact BK258.out⟩
           have n4_:Aside0 ((((w81.setCell ⟨gb260,0,none⟩ (.int .i64 ((rd_T61 l2 x25_1).f0))).setCell ⟨gb260,1,none⟩ (.int .i64 ((rd_T61 l2 x25_1).f1))).setCell ⟨gb260,2,none⟩ (.int .i64 ((rd_T61 l2 x25_1).f2))).heap[gb260]?=some (.cells #[.int .i64 ((rd_T61 l2 x25_1).f0),.int .i64 ((rd_T61 l2 x25_1).f1),.int .i64 ((rd_T61 l2 x25_1).f2)] 61 (0,0))):=⟨by (with_reducible repeat (first|refine blk_drewN ?_ _|refine blk_drew ?_|refine blk_alloc ?_ _));refine blk_put (cs:=#[.int .i64 ((rd_T61 l2 x25_1).f0),.int .i64 ((rd_T61 l2 x25_1).f1),.int .i64 0]) ?_ 2 _ rfl;(with_reducible repeat (first|refine blk_drewN ?_ _|refine blk_drew ?_|refine blk_alloc ?_ _));refine blk_put (cs:=#[.int .i64 ((rd_T61 l2 x25_1).f0),.int .i64 0,.int .i64 0]) ?_ 1 _ rfl;(with_reducible repeat (first|refine blk_drewN ?_ _|refine blk_drew ?_|refine blk_alloc ?_ _));refine blk_put (cs:=#[.int .i64 0,.int .i64 0,.int .i64 0]) ?_ 0 _ rfl;(with_reducible repeat (first|refine blk_drewN ?_ _|refine blk_drew ?_|refine blk_alloc ?_ _));exact BK260.out⟩
           have n5_:Aside0 (Below w.heap.size w (((w81.setCell ⟨gb260,0,none⟩ (.int .i64 ((rd_T61 l2 x25_1).f0))).setCell ⟨gb260,1,none⟩ (.int .i64 ((rd_T61 l2 x25_1).f1))).setCell ⟨gb260,2,none⟩ (.int .i64 ((rd_T61 l2 x25_1).f2)))):=⟨be⟩
           (try clear HO_7)
           (try clear BK252)
           (try clear BK253)
           (try clear BK258)
           (try clear BK260)
           (try clear HB)
           generalize (((w81.setCell ⟨gb260,0,none⟩ (.int .i64 ((rd_T61 l2 x25_1).f0))).setCell ⟨gb260,1,none⟩ (.int .i64 ((rd_T61 l2 x25_1).f1))).setCell ⟨gb260,2,none⟩ (.int .i64 ((rd_T61 l2 x25_1).f2)))=w89 at n0_ n1_ n2_ n3_ n4_ n5_ ⊢
           have HO_7:=n0_
           have BK252:=n1_
           have BK253:=n2_
           have BK258:=n3_
           have BK260:=n4_
           have HB:=n5_
           clear n0_ n1_ n2_ n3_ n4_ n5_
           (try (rw [drewN_self w89];generalize hq_:World.drewN w89 _=w89;have n0_:Aside0 (Kd.R (Kd.int .i64) 3 w89 w.heap.size (fun _=>True) v256 t255):=⟨by rw [← hq_];exact (rR HO_7)⟩;have n1_:Aside0 (w89.heap[gb252]?=some (.cells #[.int .i64 a0_0,.slice A0_1 l0_1.length c0_1] 26 (0,0))):=⟨by rw [← hq_];exact (bk BK252)⟩;have n2_:Aside0 (w89.heap[gb253]?=some (.cells #[.slice A1_0 l1_0.length c1_0] 35 (0,0))):=⟨by rw [← hq_];exact (bk BK253)⟩;have n3_:Aside0 (w89.heap[gb258]?=some (.cells #[.int .i64 x259000_1,.int .i64 x259001_1,.int .i64 x259002_1] 61 (0,0))):=⟨by rw [← hq_];exact (bk BK258)⟩;have n4_:Aside0 (w89.heap[gb260]?=some (.cells #[.int .i64 ((rd_T61 l2 x25_1).f0),.int .i64 ((rd_T61 l2 x25_1).f1),.int .i64 ((rd_T61 l2 x25_1).f2)] 61 (0,0))):=⟨by rw [← hq_];exact (bk BK260)⟩;have n5_:Aside0 (Below w.heap.size w w89):=⟨by rw [← hq_];exact be⟩;clear HO_7 BK252 BK253 BK258 BK260 HB hq_;have HO_7:=n0_;have BK252:=n1_;have BK253:=n2_;have BK258:=n3_;have BK260:=n4_;have HB:=n5_;clear n0_ n1_ n2_ n3_ n4_ n5_))
           have n0_:=Aside0.mk (Kd.R_drew HO_7.out)
           have n1_:=Aside0.mk (blk_drew BK252.out)
           have n2_:=Aside0.mk (blk_drew BK253.out)
           have n3_:=Aside0.mk (blk_drew BK258.out)
           have n4_:=Aside0.mk (blk_drew BK260.out)
           have n5_:=Aside0.mk (below_drew1 HB.out)
           clear HO_7
           clear BK252
           clear BK253
           clear BK258
           clear BK260
           clear HB
           have HO_7:=n0_
           have BK252:=n1_
           have BK253:=n2_
           have BK258:=n3_
           have BK260:=n4_
           have HB:=n5_
           clear n0_ n1_ n2_ n3_ n4_ n5_
           refine start_ (n:=12) (S:=fun w'=>w'.cell? ⟨gb252,0,none⟩=some (.int .i64 a0_0)∧w'.cell? ⟨gb252,1,none⟩=some (.slice A0_1 l0_1.length c0_1)∧w'.cell? ⟨gb260,0,none⟩=some (.int .i64 ((rd_T61 l2 x25_1).f0))∧w'.cell? ⟨gb260,1,none⟩=some (.int .i64 ((rd_T61 l2 x25_1).f1))∧w'.cell? ⟨gb260,2,none⟩=some (.int .i64 ((rd_T61 l2 x25_1).f2))) (ds:=[]) (fl 12 0) (by kernel_rfl) rfl rfl ⟨(blk_cell BK252.out 0).trans rfl,(blk_cell BK252.out 1).trans rfl,(blk_cell BK260.out 0).trans rfl,(blk_cell BK260.out 1).trans rfl,(blk_cell BK260.out 2).trans rfl⟩ (fun hHeld=>?_);refine with_tabW impl_Best.tab9 impl_Best.bits9 (fun HT_ HW_=>?_)
           generalize w89.drew=w90 at HO_7 BK252 BK253 BK258 BK260 HB hHeld ⊢
           refine pt 1 35 (fl 12 2) HT_ ?_
           refine pt 5 39 (fl 12 34) HT_ ?_
           refine pt 6 40 (fl 12 98) HT_ ?_
           refine tt 0 34 (fl 12 99) HT_ HW_ hHeld ?_
           refine tt 2 36 (fl 12 103) HT_ HW_ hHeld ?_
           refine tt 7 41 (fl 12 231) HT_ HW_ hHeld ?_
           refine ot 3 (some 37) (fl 12 239) HT_ (fun K hK=>?_)
           refine goes_ Try.func35 (by kernel_rfl) rfl #[.agg #[.int .i64 a0_0,.slice A0_1 l0_1.length c0_1],.int .i64 ((rd_T61 l2 x25_1).f0)] (by rfl) rfl rfl (by (try simp only [List.map_toArray,List.map_cons,List.map_nil]);first|done|rfl|(simp only [List.length_drop,List.length_take];rfl)) ?_
           with_reducible refine (impl_LoadOf.calls k1 a0_0 _ _ l0_1 ((rd_T61 l2 x25_1).f0) t262 _ ?side1 ?side2 A30.out).mono ?_
           (case side1=>exact rC HR0_1)
           (case side2=>exact HC0_1.out)
           rintro e w91 ⟨rfl,hb⟩
           refine ⟨_,rfl,?_⟩
           have n0_:=Aside0.mk (Kd.R_below ((rR HO_7)) hb)
           have n1_:=Aside0.mk (blk_below (g:=gb252) (o:=.cells #[.int .i64 a0_0,.slice A0_1 l0_1.length c0_1] 26 (0,0)) (bk BK252) hb)
           have n2_:=Aside0.mk (blk_below (g:=gb253) (o:=.cells #[.slice A1_0 l1_0.length c1_0] 35 (0,0)) (bk BK253) hb)
           have n3_:=Aside0.mk (blk_below (g:=gb258) (o:=.cells #[.int .i64 x259000_1,.int .i64 x259001_1,.int .i64 x259002_1] 61 (0,0)) (bk BK258) hb)
           have n4_:=Aside0.mk (blk_below (g:=gb260) (o:=.cells #[.int .i64 ((rd_T61 l2 x25_1).f0),.int .i64 ((rd_T61 l2 x25_1).f1),.int .i64 ((rd_T61 l2 x25_1).f2)] 61 (0,0)) (bk BK260) hb)
           have n5_:=bs hb
           clear HO_7
           clear BK252
           clear BK253
           clear BK258
           clear BK260
           clear HB
           have HO_7:=n0_
           have BK252:=n1_
           have BK253:=n2_
           have BK258:=n3_
           have BK260:=n4_
           have HB:=n5_
           clear n0_ n1_ n2_ n3_ n4_ n5_
           (try clear hb)
           (try clear hb2)
           (try clear hk)
           (try clear hi)
           obtain ⟨Ao92,co92,eo92⟩:=Kd.R_slice HO_7.out
           (first|subst eo92|(injection eo92 with f1_ f2_ f3_;have f4_:=f1_.symm;have f5_:=f3_.symm;clear f1_ f2_ f3_;subst f4_;subst f5_))
           refine hK.out _ _ ⟨(blk_cell BK252.out 0).trans rfl,(blk_cell BK252.out 1).trans rfl,(blk_cell BK260.out 0).trans rfl,(blk_cell BK260.out 1).trans rfl,(blk_cell BK260.out 2).trans rfl⟩ (fun hHeld=>?_)
           clear hK K
           refine no 37 ?_
           refine pt 4 38 (fl 12 255) HT_ ?_
           refine ot 8 (some 42) (fl 12 511) HT_ (fun K hK=>?_)
           refine goes_ Try.func52 (by kernel_rfl) rfl #[.slice Ao92 t255.length co92,.int .i64 ((rd_T61 l2 x25_1).f1)] (by rfl) rfl rfl (by (try simp only [List.map_toArray,List.map_cons,List.map_nil]);first|done|rfl|(simp only [List.length_drop,List.length_take];rfl)) ?_
           with_reducible refine (impl_hasInt.calls k1 _ _ t255 ((rd_T61 l2 x25_1).f1) true _ ?side1 ?side2 A31.out).mono ?_
           (case side1=>exact sR HO_7)
           (case side2=>exact (Kd.R_reads' HO_7.out).2.1)
           rintro e w' ⟨rfl,⟨nd,rfl⟩⟩
           refine ⟨_,rfl,?_⟩
           refine hK.out _ _ ⟨(blk_cell BK252.out 0).trans rfl,(blk_cell BK252.out 1).trans rfl,(blk_cell BK260.out 0).trans rfl,(blk_cell BK260.out 1).trans rfl,(blk_cell BK260.out 2).trans rfl⟩ (fun hHeld=>?_)
           clear hK K
           refine no 42 ?_
           refine pt 9 43 (fl 12 1023) HT_ ?_
           refine pt 10 13 (fl 12 2047) HT_ ?_
           refine pt 11 14 (fl 12 4095) HT_ ?_
           refine done_ (done_of HT_.out (by kernel_rfl)) ?_
           have hnb93:=NB258_252.out
           have hnc93:=NB252_258.out
           have hcz94_0:w91.cell? ⟨gb258,0,none⟩=some (.int .i64 x259000_1):=(blk_cell BK258.out 0).trans rfl
           have hcz94_1:w91.cell? ⟨gb258,1,none⟩=some (.int .i64 x259001_1):=(blk_cell BK258.out 1).trans rfl
           have hcz94_2:w91.cell? ⟨gb258,2,none⟩=some (.int .i64 x259002_1):=(blk_cell BK258.out 2).trans rfl
           have hfz94_0:=blk_frozen BK258.out 0
           have hfz94_1:=blk_frozen BK258.out 1
           have hfz94_2:=blk_frozen BK258.out 2
           try go_wp2
           go_roundg k1
           case measure=>have:=HK1.out;omega
           case rel=>exact ⟨(x9_1),(true),(wrap64 (x25_1+1)),(x259000_1),(x259001_1),(x259002_1),rd_,rd_,rd_,H',⟨by have:=HK1.out;omega⟩,⟨rR HO_7⟩,⟨bk BK252⟩,⟨bk BK253⟩,⟨bk BK258⟩,⟨be⟩⟩
         ·replace c48:=Bool.eq_false_iff.mpr c48
          subst c48
          have H1:(if x10_1=true then (if ((!false) == x10_1)=true then (if (wrap64 ((wrap64 (t262+1)) * x259002_1)) < (wrap64 (x9_1 * ((rd_T61 l2 x25_1).f2))) then (impl_Best.l0 k1 t255 (wrap64 (t262+1)) (!false) l2 (l2.length:Int) (wrap64 (x25_1+1)) a0_0 l0_1 l1_0 ((rd_T61 l2 x25_1).f0) ((rd_T61 l2 x25_1).f1) ((rd_T61 l2 x25_1).f2)) else (impl_Best.l0 k1 t255 x9_1 x10_1 l2 (l2.length:Int) (wrap64 (x25_1+1)) a0_0 l0_1 l1_0 x259000_1 x259001_1 x259002_1)) else (impl_Best.l0 k1 t255 x9_1 x10_1 l2 (l2.length:Int) (wrap64 (x25_1+1)) a0_0 l0_1 l1_0 x259000_1 x259001_1 x259002_1)) else (impl_Best.l0 k1 t255 (wrap64 (t262+1)) (!false) l2 (l2.length:Int) (wrap64 (x25_1+1)) a0_0 l0_1 l1_0 ((rd_T61 l2 x25_1).f0) ((rd_T61 l2 x25_1).f1) ((rd_T61 l2 x25_1).f2)))=some r:=by rw [if_neg (show ¬ (false=true) by decide)] at H;exact H
          clear H
          have H:=H1
          clear H1
          by_cases c95:x10_1=true
          ·subst c95
           rw [if_pos rfl] at H
           by_cases c96:((!false) == true)=true
           ·rw [if_pos c96] at H
            clear c96
            by_cases c97:(wrap64 ((wrap64 (t262+1)) * x259002_1)) < (wrap64 (x9_1 * ((rd_T61 l2 x25_1).f2)))
            ·rw [if_pos c97] at H
             have c97b0:decide ((wrap64 ((wrap64 (t262+1)) * x259002_1)) < (wrap64 (x9_1 * ((rd_T61 l2 x25_1).f2))))=true:=decide_eq_true c97
             clear c97
             have H':=Aside0.mk H
             clear H
             have p259:0≤(x25_1:Int):=of_decide_eq_true (by first|(with_reducible assumption)|assumption)
             have q259:x25_1 < (l2.length:Int):=of_decide_eq_true (by first|(with_reducible assumption)|assumption)
             obtain ⟨ad259,e259,hx259_0,hx259_1,hx259_2⟩:=at_T61 HR2.out x25_1 p259 q259
             cases e259
             replace hx259_0:=(HB.out.cell (World.block_lt_of_cell? w _ hx259_0)).trans hx259_0
             replace hx259_1:=(HB.out.cell (World.block_lt_of_cell? w _ hx259_1)).trans hx259_1
             replace hx259_2:=(HB.out.cell (World.block_lt_of_cell? w _ hx259_2)).trans hx259_2
             replace p259:=eq_true p259
             replace q259:=eq_true q259
             try go_wp2_with (first|((with_reducible refine gate_dst (N:=12) rfl ?_);refine box_event ?hg (N:=12) ?hd (cs:=#[.int .i64 0,.int .i64 0,.int .i64 0]) (t:=61) ?hr ?_;(case hd=>rfl);(case hg=>rfl);(case hr=>first|(go_simp;done)|(go_simp;rfl));intro gb260 hg w98 hbox hb;have n0_:=Aside0.mk (Kd.R_below (rR HO_7) hb);have n1_:=Aside0.mk (blk_below (g:=gb252) (o:=.cells #[.int .i64 a0_0,.slice A0_1 l0_1.length c0_1] 26 (0,0)) (bk BK252) hb);have n2_:=Aside0.mk (blk_below (g:=gb253) (o:=.cells #[.slice A1_0 l1_0.length c1_0] 35 (0,0)) (bk BK253) hb);have n3_:=Aside0.mk (blk_below (g:=gb258) (o:=.cells #[.int .i64 x259000_1,.int .i64 x259001_1,.int .i64 x259002_1] 61 (0,0)) (bk BK258) hb);have n4_:=bs hb;have n5_:=Aside0.mk (hbox);have n6_:=Aside0.mk ((by rw [hg];exact (below_size be):w.heap.size≤gb260));have n7_:=Aside0.mk ((by rw [hg];exact (below_size be):w.heap.size≤gb260));have n8_:=Aside0.mk ((by rw [hg];exact Nat.ne_of_lt (blk_lt (g:=gb252) (o:=.cells #[.int .i64 a0_0,.slice A0_1 l0_1.length c0_1] 26 (0,0)) (bk BK252)):gb252 ≠ gb260));have n9_:=Aside0.mk ((by rw [hg];exact Nat.ne_of_gt (blk_lt (g:=gb252) (o:=.cells #[.int .i64 a0_0,.slice A0_1 l0_1.length c0_1] 26 (0,0)) (bk BK252)):gb260 ≠ gb252));have n10_:=Aside0.mk ((by rw [hg];exact Nat.ne_of_lt (blk_lt (g:=gb253) (o:=.cells #[.slice A1_0 l1_0.length c1_0] 35 (0,0)) (bk BK253)):gb253 ≠ gb260));have n11_:=Aside0.mk ((by rw [hg];exact Nat.ne_of_gt (blk_lt (g:=gb253) (o:=.cells #[.slice A1_0 l1_0.length c1_0] 35 (0,0)) (bk BK253)):gb260 ≠ gb253));have n12_:=Aside0.mk ((by rw [hg];exact Nat.ne_of_lt (blk_lt (g:=gb258) (o:=.cells #[.int .i64 x259000_1,.int .i64 x259001_1,.int .i64 x259002_1] 61 (0,0)) (bk BK258)):gb258 ≠ gb260));have n13_:=Aside0.mk ((by rw [hg];exact Nat.ne_of_gt (blk_lt (g:=gb258) (o:=.cells #[.int .i64 x259000_1,.int .i64 x259001_1,.int .i64 x259002_1] 61 (0,0)) (bk BK258)):gb260 ≠ gb258));clear HO_7;clear BK252;clear BK253;clear BK258;clear HB;have HO_7:=n0_;have BK252:=n1_;have BK253:=n2_;have BK258:=n3_;have HB:=n4_;have BK260:=n5_;have GW260:=n6_;have GE260:=n7_;have NB252_260:=n8_;have NB260_252:=n9_;have NB253_260:=n10_;have NB260_253:=n11_;have NB258_260:=n12_;have NB260_258:=n13_;clear n0_ n1_ n2_ n3_ n4_ n5_ n6_ n7_ n8_ n9_ n10_ n11_ n12_ n13_;clear hb hbox hg;have hnb99:=NB260_252.out;have hnc99:=NB252_260.out;have hnb100:=NB260_253.out;have hnc100:=NB253_260.out;have hnb101:=NB260_258.out;have hnc101:=NB258_260.out;have hcz102_0:w98.cell? ⟨gb260,0,none⟩=some (.int .i64 0):=(blk_cell BK260.out 0).trans rfl;have hcz102_1:w98.cell? ⟨gb260,1,none⟩=some (.int .i64 0):=(blk_cell BK260.out 1).trans rfl;have hcz102_2:w98.cell? ⟨gb260,2,none⟩=some (.int .i64 0):=(blk_cell BK260.out 2).trans rfl;have hfz102_0:=blk_frozen BK260.out 0;have hfz102_1:=blk_frozen BK260.out 1;have hfz102_2:=blk_frozen BK260.out 2;have hnb103:=NB253_252.out;have hnc103:=NB252_253.out;have hnb104:=NB253_258.out;have hnc104:=NB258_253.out;have hcz105_0:w98.cell? ⟨gb253,0,none⟩=some (.slice A1_0 l1_0.length c1_0):=(blk_cell BK253.out 0).trans rfl;have hfz105_0:=blk_frozen BK253.out 0)|((with_reducible refine gate_callee (f:=52) rfl ?_);refine goesL_ (some 33) rfl rfl Try.func52 (by kernel_rfl) rfl #[.slice A1_0 l1_0.length c1_0,.int .i64 ((rd_T61 l2 x25_1).f0)] rfl (by (try simp only [List.map_toArray,List.map_cons,List.map_nil]);first|done|rfl|(simp only [List.length_drop,List.length_take];rfl)) ?_;(with_reducible refine (impl_hasInt.calls k1 _ _ l1_0 ((rd_T61 l2 x25_1).f0) false _ ?side1 ?side2 A20.out).mono ?_);(case side1=>exact Kd.C_below HR1_0.out be);(case side2=>exact HC1_0.out);rintro e w' ⟨rfl,⟨nd,rfl⟩⟩;refine ⟨_,rfl,?_⟩))
             have n0_:Aside0 (Kd.R (Kd.int .i64) 3 (((w98.setCell ⟨gb260,0,none⟩ (.int .i64 ((rd_T61 l2 x25_1).f0))).setCell ⟨gb260,1,none⟩ (.int .i64 ((rd_T61 l2 x25_1).f1))).setCell ⟨gb260,2,none⟩ (.int .i64 ((rd_T61 l2 x25_1).f2))) w.heap.size (fun _=>True) v256 t255):=⟨by (with_reducible repeat (first|apply Kd.R_alloc|apply Kd.R_drewN|apply Kd.R_drew));exact Kd.R_mono (Kd.R_far (p:=⟨gb260,2,none⟩) (Kd.R_far (p:=⟨gb260,1,none⟩) (Kd.R_far (p:=⟨gb260,0,none⟩) (Kd.R_types HO_7.out BK260.out (by decide)) (fun _ hk=>hk.2) (.int .i64 ((rd_T61 l2 x25_1).f0))) (fun _ hk=>hk.2) (.int .i64 ((rd_T61 l2 x25_1).f1))) (fun _ hk=>hk.2) (.int .i64 ((rd_T61 l2 x25_1).f2))) (fun _ hk=>trivial)⟩
             have n1_:Aside0 ((((w98.setCell ⟨gb260,0,none⟩ (.int .i64 ((rd_T61 l2 x25_1).f0))).setCell ⟨gb260,1,none⟩ (.int .i64 ((rd_T61 l2 x25_1).f1))).setCell ⟨gb260,2,none⟩ (.int .i64 ((rd_T61 l2 x25_1).f2))).heap[gb252]?=some (.cells #[.int .i64 a0_0,.slice A0_1 l0_1.length c0_1] 26 (0,0))):=⟨by (with_reducible repeat (first|refine blk_drewN ?_ _|refine blk_drew ?_|refine blk_alloc ?_ _));refine blk_far ?_ NB252_260.out _;(with_reducible repeat (first|refine blk_drewN ?_ _|refine blk_drew ?_|refine blk_alloc ?_ _));refine blk_far ?_ NB252_260.out _;(with_reducible repeat (first|refine blk_drewN ?_ _|refine blk_drew ?_|refine blk_alloc ?_ _));refine blk_far ?_ NB252_260.out _;(with_reducible repeat (first|refine blk_drewN ?_ _|refine blk_drew ?_|refine blk_alloc ?_ _));exact BK252.out⟩
             have n2_:Aside0 ((((w98.setCell ⟨gb260,0,none⟩ (.int .i64 ((rd_T61 l2 x25_1).f0))).setCell ⟨gb260,1,none⟩ (.int .i64 ((rd_T61 l2 x25_1).f1))).setCell ⟨gb260,2,none⟩ (.int .i64 ((rd_T61 l2 x25_1).f2))).heap[gb253]?=some (.cells #[.slice A1_0 l1_0.length c1_0] 35 (0,0))):=⟨by (with_reducible repeat (first|refine blk_drewN ?_ _|refine blk_drew ?_|refine blk_alloc ?_ _));refine blk_far ?_ NB253_260.out _;(with_reducible repeat (first|refine blk_drewN ?_ _|refine blk_drew ?_|refine blk_alloc ?_ _));refine blk_far ?_ NB253_260.out _;(with_reducible repeat (first|refine blk_drewN ?_ _|refine blk_drew ?_|refine blk_alloc ?_ _));refine blk_far ?_ NB253_260.out _;(with_reducible repeat (first|refine blk_drewN ?_ _|refine blk_drew ?_|refine blk_alloc ?_ _));exact BK253.out⟩
             have n3_:Aside0 ((((w98.setCell ⟨gb260,0,none⟩ (.int .i64 ((rd_T61 l2 x25_1).f0))).setCell ⟨gb260,1,none⟩ (.int .i64 ((rd_T61 l2 x25_1).f1))).setCell ⟨gb260,2,none⟩ (.int .i64 ((rd_T61 l2 x25_1).f2))).heap[gb258]?=some (.cells #[.int .i64 x259000_1,.int .i64 x259001_1,.int .i64 x259002_1] 61 (0,0))):=⟨by (with_reducible repeat (first|refine blk_drewN ?_ _|refine blk_drew ?_|refine blk_alloc ?_ _));refine blk_far ?_ NB258_260.out _;(with_reducible repeat (first|refine blk_drewN ?_ _|refine blk_drew ?_|refine blk_alloc ?_ _));refine blk_far ?_ NB258_260.out _;(with_reducible repeat (first|refine blk_drewN ?_ _|refine blk_drew ?_|refine blk_alloc ?_ _));refine blk_far ?_ NB258_260.out _;(with_reducible repeat (first|refine blk_drewN ?_ _|refine blk_drew ?_|refine blk_alloc ?_ _));exact BK258.out⟩
             have n4_:Aside0 ((((w98.setCell ⟨gb260,0,none⟩ (.int .i64 ((rd_T61 l2 x25_1).f0))).setCell ⟨gb260,1,none⟩ (.int .i64 ((rd_T61 l2 x25_1).f1))).setCell ⟨gb260,2,none⟩ (.int .i64 ((rd_T61 l2 x25_1).f2))).heap[gb260]?=some (.cells #[.int .i64 ((rd_T61 l2 x25_1).f0),.int .i64 ((rd_T61 l2 x25_1).f1),.int .i64 ((rd_T61 l2 x25_1).f2)] 61 (0,0))):=⟨by (with_reducible repeat (first|refine blk_drewN ?_ _|refine blk_drew ?_|refine blk_alloc ?_ _));refine blk_put (cs:=#[.int .i64 ((rd_T61 l2 x25_1).f0),.int .i64 ((rd_T61 l2 x25_1).f1),.int .i64 0]) ?_ 2 _ rfl;(with_reducible repeat (first|refine blk_drewN ?_ _|refine blk_drew ?_|refine blk_alloc ?_ _));refine blk_put (cs:=#[.int .i64 ((rd_T61 l2 x25_1).f0),.int .i64 0,.int .i64 0]) ?_ 1 _ rfl;(with_reducible repeat (first|refine blk_drewN ?_ _|refine blk_drew ?_|refine blk_alloc ?_ _));refine blk_put (cs:=#[.int .i64 0,.int .i64 0,.int .i64 0]) ?_ 0 _ rfl;(with_reducible repeat (first|refine blk_drewN ?_ _|refine blk_drew ?_|refine blk_alloc ?_ _));exact BK260.out⟩
             have n5_:Aside0 (Below w.heap.size w (((w98.setCell ⟨gb260,0,none⟩ (.int .i64 ((rd_T61 l2 x25_1).f0))).setCell ⟨gb260,1,none⟩ (.int .i64 ((rd_T61 l2 x25_1).f1))).setCell ⟨gb260,2,none⟩ (.int .i64 ((rd_T61 l2 x25_1).f2)))):=⟨be⟩
             (try clear HO_7)
             (try clear BK252)
             (try clear BK253)
             (try clear BK258)
             (try clear BK260)
             (try clear HB)
             generalize (((w98.setCell ⟨gb260,0,none⟩ (.int .i64 ((rd_T61 l2 x25_1).f0))).setCell ⟨gb260,1,none⟩ (.int .i64 ((rd_T61 l2 x25_1).f1))).setCell ⟨gb260,2,none⟩ (.int .i64 ((rd_T61 l2 x25_1).f2)))=w106 at n0_ n1_ n2_ n3_ n4_ n5_ ⊢
             have HO_7:=n0_
             have BK252:=n1_
             have BK253:=n2_
             have BK258:=n3_
             have BK260:=n4_
             have HB:=n5_
             clear n0_ n1_ n2_ n3_ n4_ n5_
             (try (rw [drewN_self w106];generalize hq_:World.drewN w106 _=w106;have n0_:Aside0 (Kd.R (Kd.int .i64) 3 w106 w.heap.size (fun _=>True) v256 t255):=⟨by rw [← hq_];exact (rR HO_7)⟩;have n1_:Aside0 (w106.heap[gb252]?=some (.cells #[.int .i64 a0_0,.slice A0_1 l0_1.length c0_1] 26 (0,0))):=⟨by rw [← hq_];exact (bk BK252)⟩;have n2_:Aside0 (w106.heap[gb253]?=some (.cells #[.slice A1_0 l1_0.length c1_0] 35 (0,0))):=⟨by rw [← hq_];exact (bk BK253)⟩;have n3_:Aside0 (w106.heap[gb258]?=some (.cells #[.int .i64 x259000_1,.int .i64 x259001_1,.int .i64 x259002_1] 61 (0,0))):=⟨by rw [← hq_];exact (bk BK258)⟩;have n4_:Aside0 (w106.heap[gb260]?=some (.cells #[.int .i64 ((rd_T61 l2 x25_1).f0),.int .i64 ((rd_T61 l2 x25_1).f1),.int .i64 ((rd_T61 l2 x25_1).f2)] 61 (0,0))):=⟨by rw [← hq_];exact (bk BK260)⟩;have n5_:Aside0 (Below w.heap.size w w106):=⟨by rw [← hq_];exact be⟩;clear HO_7 BK252 BK253 BK258 BK260 HB hq_;have HO_7:=n0_;have BK252:=n1_;have BK253:=n2_;have BK258:=n3_;have BK260:=n4_;have HB:=n5_;clear n0_ n1_ n2_ n3_ n4_ n5_))
             have n0_:=Aside0.mk (Kd.R_drew HO_7.out)
             have n1_:=Aside0.mk (blk_drew BK252.out)
             have n2_:=Aside0.mk (blk_drew BK253.out)
             have n3_:=Aside0.mk (blk_drew BK258.out)
             have n4_:=Aside0.mk (blk_drew BK260.out)
             have n5_:=Aside0.mk (below_drew1 HB.out)
             clear HO_7
             clear BK252
             clear BK253
             clear BK258
             clear BK260
             clear HB
             have HO_7:=n0_
             have BK252:=n1_
             have BK253:=n2_
             have BK258:=n3_
             have BK260:=n4_
             have HB:=n5_
             clear n0_ n1_ n2_ n3_ n4_ n5_
             refine start_ (n:=12) (S:=fun w'=>w'.cell? ⟨gb252,0,none⟩=some (.int .i64 a0_0)∧w'.cell? ⟨gb252,1,none⟩=some (.slice A0_1 l0_1.length c0_1)∧w'.cell? ⟨gb260,0,none⟩=some (.int .i64 ((rd_T61 l2 x25_1).f0))∧w'.cell? ⟨gb260,1,none⟩=some (.int .i64 ((rd_T61 l2 x25_1).f1))∧w'.cell? ⟨gb260,2,none⟩=some (.int .i64 ((rd_T61 l2 x25_1).f2))) (ds:=[]) (fl 12 0) (by kernel_rfl) rfl rfl ⟨(blk_cell BK252.out 0).trans rfl,(blk_cell BK252.out 1).trans rfl,(blk_cell BK260.out 0).trans rfl,(blk_cell BK260.out 1).trans rfl,(blk_cell BK260.out 2).trans rfl⟩ (fun hHeld=>?_);refine with_tabW impl_Best.tab9 impl_Best.bits9 (fun HT_ HW_=>?_)
             generalize w106.drew=w107 at HO_7 BK252 BK253 BK258 BK260 HB hHeld ⊢
             refine pt 1 35 (fl 12 2) HT_ ?_
             refine pt 5 39 (fl 12 34) HT_ ?_
             refine pt 6 40 (fl 12 98) HT_ ?_
             refine tt 0 34 (fl 12 99) HT_ HW_ hHeld ?_
             refine tt 2 36 (fl 12 103) HT_ HW_ hHeld ?_
             refine tt 7 41 (fl 12 231) HT_ HW_ hHeld ?_
             refine ot 3 (some 37) (fl 12 239) HT_ (fun K hK=>?_)
             refine goes_ Try.func35 (by kernel_rfl) rfl #[.agg #[.int .i64 a0_0,.slice A0_1 l0_1.length c0_1],.int .i64 ((rd_T61 l2 x25_1).f0)] (by rfl) rfl rfl (by (try simp only [List.map_toArray,List.map_cons,List.map_nil]);first|done|rfl|(simp only [List.length_drop,List.length_take];rfl)) ?_
             with_reducible refine (impl_LoadOf.calls k1 a0_0 _ _ l0_1 ((rd_T61 l2 x25_1).f0) t262 _ ?side1 ?side2 A30.out).mono ?_
             (case side1=>exact rC HR0_1)
             (case side2=>exact HC0_1.out)
             rintro e w108 ⟨rfl,hb⟩
             refine ⟨_,rfl,?_⟩
             have n0_:=Aside0.mk (Kd.R_below ((rR HO_7)) hb)
             have n1_:=Aside0.mk (blk_below (g:=gb252) (o:=.cells #[.int .i64 a0_0,.slice A0_1 l0_1.length c0_1] 26 (0,0)) (bk BK252) hb)
             have n2_:=Aside0.mk (blk_below (g:=gb253) (o:=.cells #[.slice A1_0 l1_0.length c1_0] 35 (0,0)) (bk BK253) hb)
             have n3_:=Aside0.mk (blk_below (g:=gb258) (o:=.cells #[.int .i64 x259000_1,.int .i64 x259001_1,.int .i64 x259002_1] 61 (0,0)) (bk BK258) hb)
             have n4_:=Aside0.mk (blk_below (g:=gb260) (o:=.cells #[.int .i64 ((rd_T61 l2 x25_1).f0),.int .i64 ((rd_T61 l2 x25_1).f1),.int .i64 ((rd_T61 l2 x25_1).f2)] 61 (0,0)) (bk BK260) hb)
             have n5_:=bs hb
             clear HO_7
             clear BK252
             clear BK253
             clear BK258
             clear BK260
             clear HB
             have HO_7:=n0_
             have BK252:=n1_
             have BK253:=n2_
             have BK258:=n3_
             have BK260:=n4_
             have HB:=n5_
             clear n0_ n1_ n2_ n3_ n4_ n5_
             (try clear hb)
             (try clear hb2)
             (try clear hk)
             (try clear hi)
             obtain ⟨Ao109,co109,eo109⟩:=Kd.R_slice HO_7.out
             (first|subst eo109|(injection eo109 with f1_ f2_ f3_;have f4_:=f1_.symm;have f5_:=f3_.symm;clear f1_ f2_ f3_;subst f4_;subst f5_))
             refine hK.out _ _ ⟨(blk_cell BK252.out 0).trans rfl,(blk_cell BK252.out 1).trans rfl,(blk_cell BK260.out 0).trans rfl,(blk_cell BK260.out 1).trans rfl,(blk_cell BK260.out 2).trans rfl⟩ (fun hHeld=>?_)
             clear hK K
             refine no 37 ?_
             refine pt 4 38 (fl 12 255) HT_ ?_
             refine ot 8 (some 42) (fl 12 511) HT_ (fun K hK=>?_)
             refine goes_ Try.func52 (by kernel_rfl) rfl #[.slice Ao109 t255.length co109,.int .i64 ((rd_T61 l2 x25_1).f1)] (by rfl) rfl rfl (by (try simp only [List.map_toArray,List.map_cons,List.map_nil]);first|done|rfl|(simp only [List.length_drop,List.length_take];rfl)) ?_
             with_reducible refine (impl_hasInt.calls k1 _ _ t255 ((rd_T61 l2 x25_1).f1) false _ ?side1 ?side2 A31.out).mono ?_
             (case side1=>exact sR HO_7)
             (case side2=>exact (Kd.R_reads' HO_7.out).2.1)
             rintro e w' ⟨rfl,⟨nd,rfl⟩⟩
             refine ⟨_,rfl,?_⟩
             refine hK.out _ _ ⟨(blk_cell BK252.out 0).trans rfl,(blk_cell BK252.out 1).trans rfl,(blk_cell BK260.out 0).trans rfl,(blk_cell BK260.out 1).trans rfl,(blk_cell BK260.out 2).trans rfl⟩ (fun hHeld=>?_)
             clear hK K
             refine no 42 ?_
             refine pt 9 43 (fl 12 1023) HT_ ?_
             refine pt 10 13 (fl 12 2047) HT_ ?_
             refine pt 11 14 (fl 12 4095) HT_ ?_
             refine done_ (done_of HT_.out (by kernel_rfl)) ?_
             have hnb110:=NB258_252.out
             have hnc110:=NB252_258.out
             have hcz111_0:w108.cell? ⟨gb258,0,none⟩=some (.int .i64 x259000_1):=(blk_cell BK258.out 0).trans rfl
             have hcz111_1:w108.cell? ⟨gb258,1,none⟩=some (.int .i64 x259001_1):=(blk_cell BK258.out 1).trans rfl
             have hcz111_2:w108.cell? ⟨gb258,2,none⟩=some (.int .i64 x259002_1):=(blk_cell BK258.out 2).trans rfl
             have hfz111_0:=blk_frozen BK258.out 0
             have hfz111_1:=blk_frozen BK258.out 1
             have hfz111_2:=blk_frozen BK258.out 2
             have hcz112_0:w108.cell? ⟨gb260,0,none⟩=some (.int .i64 ((rd_T61 l2 x25_1).f0)):=(blk_cell BK260.out 0).trans rfl
             have hcz112_1:w108.cell? ⟨gb260,1,none⟩=some (.int .i64 ((rd_T61 l2 x25_1).f1)):=(blk_cell BK260.out 1).trans rfl
             have hcz112_2:w108.cell? ⟨gb260,2,none⟩=some (.int .i64 ((rd_T61 l2 x25_1).f2)):=(blk_cell BK260.out 2).trans rfl
             have hfz112_0:=blk_frozen BK260.out 0
             have hfz112_1:=blk_frozen BK260.out 1
             have hfz112_2:=blk_frozen BK260.out 2
             try go_wp2
             go_roundg k1
             case measure=>have:=HK1.out;omega
             case rel=>exact ⟨(wrap64 (t262+1)),(!false),(wrap64 (x25_1+1)),((rd_T61 l2 x25_1).f0),((rd_T61 l2 x25_1).f1),((rd_T61 l2 x25_1).f2),rd_,rd_,rd_,H',⟨by have:=HK1.out;omega⟩,⟨by (with_reducible repeat (first|apply Kd.R_alloc|apply Kd.R_drewN|apply Kd.R_drew));exact Kd.R_mono (Kd.R_far (p:=⟨gb258,2,none⟩) (Kd.R_far (p:=⟨gb258,1,none⟩) (Kd.R_far (p:=⟨gb258,0,none⟩) (Kd.R_types HO_7.out BK258.out (by decide)) (fun _ hk=>hk.2) (.int .i64 ((rd_T61 l2 x25_1).f0))) (fun _ hk=>hk.2) (.int .i64 ((rd_T61 l2 x25_1).f1))) (fun _ hk=>hk.2) (.int .i64 ((rd_T61 l2 x25_1).f2))) (fun _ hk=>trivial)⟩,⟨by (with_reducible repeat (first|refine blk_drewN ?_ _|refine blk_drew ?_|refine blk_alloc ?_ _));refine blk_far ?_ NB252_258.out _;(with_reducible repeat (first|refine blk_drewN ?_ _|refine blk_drew ?_|refine blk_alloc ?_ _));refine blk_far ?_ NB252_258.out _;(with_reducible repeat (first|refine blk_drewN ?_ _|refine blk_drew ?_|refine blk_alloc ?_ _));refine blk_far ?_ NB252_258.out _;(with_reducible repeat (first|refine blk_drewN ?_ _|refine blk_drew ?_|refine blk_alloc ?_ _));exact BK252.out⟩,⟨by (with_reducible repeat (first|refine blk_drewN ?_ _|refine blk_drew ?_|refine blk_alloc ?_ _));refine blk_far ?_ NB253_258.out _;(with_reducible repeat (first|refine blk_drewN ?_ _|refine blk_drew ?_|refine blk_alloc ?_ _));refine blk_far ?_ NB253_258.out _;(with_reducible repeat (first|refine blk_drewN ?_ _|refine blk_drew ?_|refine blk_alloc ?_ _));refine blk_far ?_ NB253_258.out _;(with_reducible repeat (first|refine blk_drewN ?_ _|refine blk_drew ?_|refine blk_alloc ?_ _));exact BK253.out⟩,⟨by (with_reducible repeat (first|refine blk_drewN ?_ _|refine blk_drew ?_|refine blk_alloc ?_ _));refine blk_put (cs:=#[.int .i64 ((rd_T61 l2 x25_1).f0),.int .i64 ((rd_T61 l2 x25_1).f1),.int .i64 x259002_1]) ?_ 2 _ rfl;(with_reducible repeat (first|refine blk_drewN ?_ _|refine blk_drew ?_|refine blk_alloc ?_ _));refine blk_put (cs:=#[.int .i64 ((rd_T61 l2 x25_1).f0),.int .i64 x259001_1,.int .i64 x259002_1]) ?_ 1 _ rfl;(with_reducible repeat (first|refine blk_drewN ?_ _|refine blk_drew ?_|refine blk_alloc ?_ _));refine blk_put (cs:=#[.int .i64 x259000_1,.int .i64 x259001_1,.int .i64 x259002_1]) ?_ 0 _ rfl;(with_reducible repeat (first|refine blk_drewN ?_ _|refine blk_drew ?_|refine blk_alloc ?_ _));exact BK258.out⟩,⟨be⟩⟩
            ·rw [if_neg c97] at H
             have c97b0:decide ((wrap64 ((wrap64 (t262+1)) * x259002_1)) < (wrap64 (x9_1 * ((rd_T61 l2 x25_1).f2))))=false:=decide_eq_false c97
             clear c97
             have H':=Aside0.mk H
             clear H
             have p259:0≤(x25_1:Int):=of_decide_eq_true (by first|(with_reducible assumption)|assumption)
             have q259:x25_1 < (l2.length:Int):=of_decide_eq_true (by first|(with_reducible assumption)|assumption)
             obtain ⟨ad259,e259,hx259_0,hx259_1,hx259_2⟩:=at_T61 HR2.out x25_1 p259 q259
             cases e259
             replace hx259_0:=(HB.out.cell (World.block_lt_of_cell? w _ hx259_0)).trans hx259_0
             replace hx259_1:=(HB.out.cell (World.block_lt_of_cell? w _ hx259_1)).trans hx259_1
             replace hx259_2:=(HB.out.cell (World.block_lt_of_cell? w _ hx259_2)).trans hx259_2
             replace p259:=eq_true p259
             replace q259:=eq_true q259
             try go_wp2_with (first|((with_reducible refine gate_dst (N:=12) rfl ?_);refine box_event ?hg (N:=12) ?hd (cs:=#[.int .i64 0,.int .i64 0,.int .i64 0]) (t:=61) ?hr ?_;(case hd=>rfl);(case hg=>rfl);(case hr=>first|(go_simp;done)|(go_simp;rfl));intro gb260 hg w113 hbox hb;have n0_:=Aside0.mk (Kd.R_below (rR HO_7) hb);have n1_:=Aside0.mk (blk_below (g:=gb252) (o:=.cells #[.int .i64 a0_0,.slice A0_1 l0_1.length c0_1] 26 (0,0)) (bk BK252) hb);have n2_:=Aside0.mk (blk_below (g:=gb253) (o:=.cells #[.slice A1_0 l1_0.length c1_0] 35 (0,0)) (bk BK253) hb);have n3_:=Aside0.mk (blk_below (g:=gb258) (o:=.cells #[.int .i64 x259000_1,.int .i64 x259001_1,.int .i64 x259002_1] 61 (0,0)) (bk BK258) hb);have n4_:=bs hb;have n5_:=Aside0.mk (hbox);have n6_:=Aside0.mk ((by rw [hg];exact (below_size be):w.heap.size≤gb260));have n7_:=Aside0.mk ((by rw [hg];exact (below_size be):w.heap.size≤gb260));have n8_:=Aside0.mk ((by rw [hg];exact Nat.ne_of_lt (blk_lt (g:=gb252) (o:=.cells #[.int .i64 a0_0,.slice A0_1 l0_1.length c0_1] 26 (0,0)) (bk BK252)):gb252 ≠ gb260));have n9_:=Aside0.mk ((by rw [hg];exact Nat.ne_of_gt (blk_lt (g:=gb252) (o:=.cells #[.int .i64 a0_0,.slice A0_1 l0_1.length c0_1] 26 (0,0)) (bk BK252)):gb260 ≠ gb252));have n10_:=Aside0.mk ((by rw [hg];exact Nat.ne_of_lt (blk_lt (g:=gb253) (o:=.cells #[.slice A1_0 l1_0.length c1_0] 35 (0,0)) (bk BK253)):gb253 ≠ gb260));have n11_:=Aside0.mk ((by rw [hg];exact Nat.ne_of_gt (blk_lt (g:=gb253) (o:=.cells #[.slice A1_0 l1_0.length c1_0] 35 (0,0)) (bk BK253)):gb260 ≠ gb253));have n12_:=Aside0.mk ((by rw [hg];exact Nat.ne_of_lt (blk_lt (g:=gb258) (o:=.cells #[.int .i64 x259000_1,.int .i64 x259001_1,.int .i64 x259002_1] 61 (0,0)) (bk BK258)):gb258 ≠ gb260));have n13_:=Aside0.mk ((by rw [hg];exact Nat.ne_of_gt (blk_lt (g:=gb258) (o:=.cells #[.int .i64 x259000_1,.int .i64 x259001_1,.int .i64 x259002_1] 61 (0,0)) (bk BK258)):gb260 ≠ gb258));clear HO_7;clear BK252;clear BK253;clear BK258;clear HB;have HO_7:=n0_;have BK252:=n1_;have BK253:=n2_;have BK258:=n3_;have HB:=n4_;have BK260:=n5_;have GW260:=n6_;have GE260:=n7_;have NB252_260:=n8_;have NB260_252:=n9_;have NB253_260:=n10_;have NB260_253:=n11_;have NB258_260:=n12_;have NB260_258:=n13_;clear n0_ n1_ n2_ n3_ n4_ n5_ n6_ n7_ n8_ n9_ n10_ n11_ n12_ n13_;clear hb hbox hg;have hnb114:=NB260_252.out;have hnc114:=NB252_260.out;have hnb115:=NB260_253.out;have hnc115:=NB253_260.out;have hnb116:=NB260_258.out;have hnc116:=NB258_260.out;have hcz117_0:w113.cell? ⟨gb260,0,none⟩=some (.int .i64 0):=(blk_cell BK260.out 0).trans rfl;have hcz117_1:w113.cell? ⟨gb260,1,none⟩=some (.int .i64 0):=(blk_cell BK260.out 1).trans rfl;have hcz117_2:w113.cell? ⟨gb260,2,none⟩=some (.int .i64 0):=(blk_cell BK260.out 2).trans rfl;have hfz117_0:=blk_frozen BK260.out 0;have hfz117_1:=blk_frozen BK260.out 1;have hfz117_2:=blk_frozen BK260.out 2;have hnb118:=NB253_252.out;have hnc118:=NB252_253.out;have hnb119:=NB253_258.out;have hnc119:=NB258_253.out;have hcz120_0:w113.cell? ⟨gb253,0,none⟩=some (.slice A1_0 l1_0.length c1_0):=(blk_cell BK253.out 0).trans rfl;have hfz120_0:=blk_frozen BK253.out 0)|((with_reducible refine gate_callee (f:=52) rfl ?_);refine goesL_ (some 33) rfl rfl Try.func52 (by kernel_rfl) rfl #[.slice A1_0 l1_0.length c1_0,.int .i64 ((rd_T61 l2 x25_1).f0)] rfl (by (try simp only [List.map_toArray,List.map_cons,List.map_nil]);first|done|rfl|(simp only [List.length_drop,List.length_take];rfl)) ?_;(with_reducible refine (impl_hasInt.calls k1 _ _ l1_0 ((rd_T61 l2 x25_1).f0) false _ ?side1 ?side2 A20.out).mono ?_);(case side1=>exact Kd.C_below HR1_0.out be);(case side2=>exact HC1_0.out);rintro e w' ⟨rfl,⟨nd,rfl⟩⟩;refine ⟨_,rfl,?_⟩))
             have n0_:Aside0 (Kd.R (Kd.int .i64) 3 (((w113.setCell ⟨gb260,0,none⟩ (.int .i64 ((rd_T61 l2 x25_1).f0))).setCell ⟨gb260,1,none⟩ (.int .i64 ((rd_T61 l2 x25_1).f1))).setCell ⟨gb260,2,none⟩ (.int .i64 ((rd_T61 l2 x25_1).f2))) w.heap.size (fun _=>True) v256 t255):=⟨by (with_reducible repeat (first|apply Kd.R_alloc|apply Kd.R_drewN|apply Kd.R_drew));exact Kd.R_mono (Kd.R_far (p:=⟨gb260,2,none⟩) (Kd.R_far (p:=⟨gb260,1,none⟩) (Kd.R_far (p:=⟨gb260,0,none⟩) (Kd.R_types HO_7.out BK260.out (by decide)) (fun _ hk=>hk.2) (.int .i64 ((rd_T61 l2 x25_1).f0))) (fun _ hk=>hk.2) (.int .i64 ((rd_T61 l2 x25_1).f1))) (fun _ hk=>hk.2) (.int .i64 ((rd_T61 l2 x25_1).f2))) (fun _ hk=>trivial)⟩
             have n1_:Aside0 ((((w113.setCell ⟨gb260,0,none⟩ (.int .i64 ((rd_T61 l2 x25_1).f0))).setCell ⟨gb260,1,none⟩ (.int .i64 ((rd_T61 l2 x25_1).f1))).setCell ⟨gb260,2,none⟩ (.int .i64 ((rd_T61 l2 x25_1).f2))).heap[gb252]?=some (.cells #[.int .i64 a0_0,.slice A0_1 l0_1.length c0_1] 26 (0,0))):=⟨by (with_reducible repeat (first|refine blk_drewN ?_ _|refine blk_drew ?_|refine blk_alloc ?_ _));refine blk_far ?_ NB252_260.out _;(with_reducible repeat (first|refine blk_drewN ?_ _|refine blk_drew ?_|refine blk_alloc ?_ _));refine blk_far ?_ NB252_260.out _;(with_reducible repeat (first|refine blk_drewN ?_ _|refine blk_drew ?_|refine blk_alloc ?_ _));refine blk_far ?_ NB252_260.out _;(with_reducible repeat (first|refine blk_drewN ?_ _|refine blk_drew ?_|refine blk_alloc ?_ _));exact BK252.out⟩
             have n2_:Aside0 ((((w113.setCell ⟨gb260,0,none⟩ (.int .i64 ((rd_T61 l2 x25_1).f0))).setCell ⟨gb260,1,none⟩ (.int .i64 ((rd_T61 l2 x25_1).f1))).setCell ⟨gb260,2,none⟩ (.int .i64 ((rd_T61 l2 x25_1).f2))).heap[gb253]?=some (.cells #[.slice A1_0 l1_0.length c1_0] 35 (0,0))):=⟨by (with_reducible repeat (first|refine blk_drewN ?_ _|refine blk_drew ?_|refine blk_alloc ?_ _));refine blk_far ?_ NB253_260.out _;(with_reducible repeat (first|refine blk_drewN ?_ _|refine blk_drew ?_|refine blk_alloc ?_ _));refine blk_far ?_ NB253_260.out _;(with_reducible repeat (first|refine blk_drewN ?_ _|refine blk_drew ?_|refine blk_alloc ?_ _));refine blk_far ?_ NB253_260.out _;(with_reducible repeat (first|refine blk_drewN ?_ _|refine blk_drew ?_|refine blk_alloc ?_ _));exact BK253.out⟩
             have n3_:Aside0 ((((w113.setCell ⟨gb260,0,none⟩ (.int .i64 ((rd_T61 l2 x25_1).f0))).setCell ⟨gb260,1,none⟩ (.int .i64 ((rd_T61 l2 x25_1).f1))).setCell ⟨gb260,2,none⟩ (.int .i64 ((rd_T61 l2 x25_1).f2))).heap[gb258]?=some (.cells #[.int .i64 x259000_1,.int .i64 x259001_1,.int .i64 x259002_1] 61 (0,0))):=⟨by (with_reducible repeat (first|refine blk_drewN ?_ _|refine blk_drew ?_|refine blk_alloc ?_ _));refine blk_far ?_ NB258_260.out _;(with_reducible repeat (first|refine blk_drewN ?_ _|refine blk_drew ?_|refine blk_alloc ?_ _));refine blk_far ?_ NB258_260.out _;(with_reducible repeat (first|refine blk_drewN ?_ _|refine blk_drew ?_|refine blk_alloc ?_ _));refine blk_far ?_ NB258_260.out _;(with_reducible repeat (first|refine blk_drewN ?_ _|refine blk_drew ?_|refine blk_alloc ?_ _));exact BK258.out⟩
             have n4_:Aside0 ((((w113.setCell ⟨gb260,0,none⟩ (.int .i64 ((rd_T61 l2 x25_1).f0))).setCell ⟨gb260,1,none⟩ (.int .i64 ((rd_T61 l2 x25_1).f1))).setCell ⟨gb260,2,none⟩ (.int .i64 ((rd_T61 l2 x25_1).f2))).heap[gb260]?=some (.cells #[.int .i64 ((rd_T61 l2 x25_1).f0),.int .i64 ((rd_T61 l2 x25_1).f1),.int .i64 ((rd_T61 l2 x25_1).f2)] 61 (0,0))):=⟨by (with_reducible repeat (first|refine blk_drewN ?_ _|refine blk_drew ?_|refine blk_alloc ?_ _));refine blk_put (cs:=#[.int .i64 ((rd_T61 l2 x25_1).f0),.int .i64 ((rd_T61 l2 x25_1).f1),.int .i64 0]) ?_ 2 _ rfl;(with_reducible repeat (first|refine blk_drewN ?_ _|refine blk_drew ?_|refine blk_alloc ?_ _));refine blk_put (cs:=#[.int .i64 ((rd_T61 l2 x25_1).f0),.int .i64 0,.int .i64 0]) ?_ 1 _ rfl;(with_reducible repeat (first|refine blk_drewN ?_ _|refine blk_drew ?_|refine blk_alloc ?_ _));refine blk_put (cs:=#[.int .i64 0,.int .i64 0,.int .i64 0]) ?_ 0 _ rfl;(with_reducible repeat (first|refine blk_drewN ?_ _|refine blk_drew ?_|refine blk_alloc ?_ _));exact BK260.out⟩
             have n5_:Aside0 (Below w.heap.size w (((w113.setCell ⟨gb260,0,none⟩ (.int .i64 ((rd_T61 l2 x25_1).f0))).setCell ⟨gb260,1,none⟩ (.int .i64 ((rd_T61 l2 x25_1).f1))).setCell ⟨gb260,2,none⟩ (.int .i64 ((rd_T61 l2 x25_1).f2)))):=⟨be⟩
             (try clear HO_7)
             (try clear BK252)
             (try clear BK253)
             (try clear BK258)
             (try clear BK260)
             (try clear HB)
             generalize (((w113.setCell ⟨gb260,0,none⟩ (.int .i64 ((rd_T61 l2 x25_1).f0))).setCell ⟨gb260,1,none⟩ (.int .i64 ((rd_T61 l2 x25_1).f1))).setCell ⟨gb260,2,none⟩ (.int .i64 ((rd_T61 l2 x25_1).f2)))=w121 at n0_ n1_ n2_ n3_ n4_ n5_ ⊢
             have HO_7:=n0_
             have BK252:=n1_
             have BK253:=n2_
             have BK258:=n3_
             have BK260:=n4_
             have HB:=n5_
             clear n0_ n1_ n2_ n3_ n4_ n5_
             (try (rw [drewN_self w121];generalize hq_:World.drewN w121 _=w121;have n0_:Aside0 (Kd.R (Kd.int .i64) 3 w121 w.heap.size (fun _=>True) v256 t255):=⟨by rw [← hq_];exact (rR HO_7)⟩;have n1_:Aside0 (w121.heap[gb252]?=some (.cells #[.int .i64 a0_0,.slice A0_1 l0_1.length c0_1] 26 (0,0))):=⟨by rw [← hq_];exact (bk BK252)⟩;have n2_:Aside0 (w121.heap[gb253]?=some (.cells #[.slice A1_0 l1_0.length c1_0] 35 (0,0))):=⟨by rw [← hq_];exact (bk BK253)⟩;have n3_:Aside0 (w121.heap[gb258]?=some (.cells #[.int .i64 x259000_1,.int .i64 x259001_1,.int .i64 x259002_1] 61 (0,0))):=⟨by rw [← hq_];exact (bk BK258)⟩;have n4_:Aside0 (w121.heap[gb260]?=some (.cells #[.int .i64 ((rd_T61 l2 x25_1).f0),.int .i64 ((rd_T61 l2 x25_1).f1),.int .i64 ((rd_T61 l2 x25_1).f2)] 61 (0,0))):=⟨by rw [← hq_];exact (bk BK260)⟩;have n5_:Aside0 (Below w.heap.size w w121):=⟨by rw [← hq_];exact be⟩;clear HO_7 BK252 BK253 BK258 BK260 HB hq_;have HO_7:=n0_;have BK252:=n1_;have BK253:=n2_;have BK258:=n3_;have BK260:=n4_;have HB:=n5_;clear n0_ n1_ n2_ n3_ n4_ n5_))
             have n0_:=Aside0.mk (Kd.R_drew HO_7.out)
             have n1_:=Aside0.mk (blk_drew BK252.out)
             have n2_:=Aside0.mk (blk_drew BK253.out)
             have n3_:=Aside0.mk (blk_drew BK258.out)
             have n4_:=Aside0.mk (blk_drew BK260.out)
             have n5_:=Aside0.mk (below_drew1 HB.out)
             clear HO_7
             clear BK252
             clear BK253
             clear BK258
             clear BK260
             clear HB
             have HO_7:=n0_
             have BK252:=n1_
             have BK253:=n2_
             have BK258:=n3_
             have BK260:=n4_
             have HB:=n5_
             clear n0_ n1_ n2_ n3_ n4_ n5_
             refine start_ (n:=12) (S:=fun w'=>w'.cell? ⟨gb252,0,none⟩=some (.int .i64 a0_0)∧w'.cell? ⟨gb252,1,none⟩=some (.slice A0_1 l0_1.length c0_1)∧w'.cell? ⟨gb260,0,none⟩=some (.int .i64 ((rd_T61 l2 x25_1).f0))∧w'.cell? ⟨gb260,1,none⟩=some (.int .i64 ((rd_T61 l2 x25_1).f1))∧w'.cell? ⟨gb260,2,none⟩=some (.int .i64 ((rd_T61 l2 x25_1).f2))) (ds:=[]) (fl 12 0) (by kernel_rfl) rfl rfl ⟨(blk_cell BK252.out 0).trans rfl,(blk_cell BK252.out 1).trans rfl,(blk_cell BK260.out 0).trans rfl,(blk_cell BK260.out 1).trans rfl,(blk_cell BK260.out 2).trans rfl⟩ (fun hHeld=>?_);refine with_tabW impl_Best.tab9 impl_Best.bits9 (fun HT_ HW_=>?_)
             generalize w121.drew=w122 at HO_7 BK252 BK253 BK258 BK260 HB hHeld ⊢
             refine pt 1 35 (fl 12 2) HT_ ?_
             refine pt 5 39 (fl 12 34) HT_ ?_
             refine pt 6 40 (fl 12 98) HT_ ?_
             refine tt 0 34 (fl 12 99) HT_ HW_ hHeld ?_
             refine tt 2 36 (fl 12 103) HT_ HW_ hHeld ?_
             refine tt 7 41 (fl 12 231) HT_ HW_ hHeld ?_
             refine ot 3 (some 37) (fl 12 239) HT_ (fun K hK=>?_)
             refine goes_ Try.func35 (by kernel_rfl) rfl #[.agg #[.int .i64 a0_0,.slice A0_1 l0_1.length c0_1],.int .i64 ((rd_T61 l2 x25_1).f0)] (by rfl) rfl rfl (by (try simp only [List.map_toArray,List.map_cons,List.map_nil]);first|done|rfl|(simp only [List.length_drop,List.length_take];rfl)) ?_
             with_reducible refine (impl_LoadOf.calls k1 a0_0 _ _ l0_1 ((rd_T61 l2 x25_1).f0) t262 _ ?side1 ?side2 A30.out).mono ?_
             (case side1=>exact rC HR0_1)
             (case side2=>exact HC0_1.out)
             rintro e w123 ⟨rfl,hb⟩
             refine ⟨_,rfl,?_⟩
             have n0_:=Aside0.mk (Kd.R_below ((rR HO_7)) hb)
             have n1_:=Aside0.mk (blk_below (g:=gb252) (o:=.cells #[.int .i64 a0_0,.slice A0_1 l0_1.length c0_1] 26 (0,0)) (bk BK252) hb)
             have n2_:=Aside0.mk (blk_below (g:=gb253) (o:=.cells #[.slice A1_0 l1_0.length c1_0] 35 (0,0)) (bk BK253) hb)
             have n3_:=Aside0.mk (blk_below (g:=gb258) (o:=.cells #[.int .i64 x259000_1,.int .i64 x259001_1,.int .i64 x259002_1] 61 (0,0)) (bk BK258) hb)
             have n4_:=Aside0.mk (blk_below (g:=gb260) (o:=.cells #[.int .i64 ((rd_T61 l2 x25_1).f0),.int .i64 ((rd_T61 l2 x25_1).f1),.int .i64 ((rd_T61 l2 x25_1).f2)] 61 (0,0)) (bk BK260) hb)
             have n5_:=bs hb
             clear HO_7
             clear BK252
             clear BK253
             clear BK258
             clear BK260
             clear HB
             have HO_7:=n0_
             have BK252:=n1_
             have BK253:=n2_
             have BK258:=n3_
             have BK260:=n4_
             have HB:=n5_
             clear n0_ n1_ n2_ n3_ n4_ n5_
             (try clear hb)
             (try clear hb2)
             (try clear hk)
             (try clear hi)
             obtain ⟨Ao124,co124,eo124⟩:=Kd.R_slice HO_7.out
             (first|subst eo124|(injection eo124 with f1_ f2_ f3_;have f4_:=f1_.symm;have f5_:=f3_.symm;clear f1_ f2_ f3_;subst f4_;subst f5_))
             refine hK.out _ _ ⟨(blk_cell BK252.out 0).trans rfl,(blk_cell BK252.out 1).trans rfl,(blk_cell BK260.out 0).trans rfl,(blk_cell BK260.out 1).trans rfl,(blk_cell BK260.out 2).trans rfl⟩ (fun hHeld=>?_)
             clear hK K
             refine no 37 ?_
             refine pt 4 38 (fl 12 255) HT_ ?_
             refine ot 8 (some 42) (fl 12 511) HT_ (fun K hK=>?_)
             refine goes_ Try.func52 (by kernel_rfl) rfl #[.slice Ao124 t255.length co124,.int .i64 ((rd_T61 l2 x25_1).f1)] (by rfl) rfl rfl (by (try simp only [List.map_toArray,List.map_cons,List.map_nil]);first|done|rfl|(simp only [List.length_drop,List.length_take];rfl)) ?_
             with_reducible refine (impl_hasInt.calls k1 _ _ t255 ((rd_T61 l2 x25_1).f1) false _ ?side1 ?side2 A31.out).mono ?_
             (case side1=>exact sR HO_7)
             (case side2=>exact (Kd.R_reads' HO_7.out).2.1)
             rintro e w' ⟨rfl,⟨nd,rfl⟩⟩
             refine ⟨_,rfl,?_⟩
             refine hK.out _ _ ⟨(blk_cell BK252.out 0).trans rfl,(blk_cell BK252.out 1).trans rfl,(blk_cell BK260.out 0).trans rfl,(blk_cell BK260.out 1).trans rfl,(blk_cell BK260.out 2).trans rfl⟩ (fun hHeld=>?_)
             clear hK K
             refine no 42 ?_
             refine pt 9 43 (fl 12 1023) HT_ ?_
             refine pt 10 13 (fl 12 2047) HT_ ?_
             refine pt 11 14 (fl 12 4095) HT_ ?_
             refine done_ (done_of HT_.out (by kernel_rfl)) ?_
             have hnb125:=NB258_252.out
             have hnc125:=NB252_258.out
             have hcz126_0:w123.cell? ⟨gb258,0,none⟩=some (.int .i64 x259000_1):=(blk_cell BK258.out 0).trans rfl
             have hcz126_1:w123.cell? ⟨gb258,1,none⟩=some (.int .i64 x259001_1):=(blk_cell BK258.out 1).trans rfl
             have hcz126_2:w123.cell? ⟨gb258,2,none⟩=some (.int .i64 x259002_1):=(blk_cell BK258.out 2).trans rfl
             have hfz126_0:=blk_frozen BK258.out 0
             have hfz126_1:=blk_frozen BK258.out 1
             have hfz126_2:=blk_frozen BK258.out 2
             have hcz127_0:w123.cell? ⟨gb260,0,none⟩=some (.int .i64 ((rd_T61 l2 x25_1).f0)):=(blk_cell BK260.out 0).trans rfl
             have hcz127_1:w123.cell? ⟨gb260,1,none⟩=some (.int .i64 ((rd_T61 l2 x25_1).f1)):=(blk_cell BK260.out 1).trans rfl
             have hcz127_2:w123.cell? ⟨gb260,2,none⟩=some (.int .i64 ((rd_T61 l2 x25_1).f2)):=(blk_cell BK260.out 2).trans rfl
             have hfz127_0:=blk_frozen BK260.out 0
             have hfz127_1:=blk_frozen BK260.out 1
             have hfz127_2:=blk_frozen BK260.out 2
             try go_wp2
             go_roundg k1
             case measure=>have:=HK1.out;omega
             case rel=>exact ⟨(x9_1),(true),(wrap64 (x25_1+1)),(x259000_1),(x259001_1),(x259002_1),rd_,rd_,rd_,H',⟨by have:=HK1.out;omega⟩,⟨rR HO_7⟩,⟨bk BK252⟩,⟨bk BK253⟩,⟨bk BK258⟩,⟨be⟩⟩
           ·exact absurd (by decide) c96
          ·replace c95:=Bool.eq_false_iff.mpr c95
           subst c95
           have H1:(impl_Best.l0 k1 t255 (wrap64 (t262+1)) (!false) l2 (l2.length:Int) (wrap64 (x25_1+1)) a0_0 l0_1 l1_0 ((rd_T61 l2 x25_1).f0) ((rd_T61 l2 x25_1).f1) ((rd_T61 l2 x25_1).f2))=some r:=by rw [if_neg (show ¬ (false=true) by decide)] at H;exact H
           clear H
           have H:=H1
           clear H1
           have H':=Aside0.mk H
           clear H
           have p259:0≤(x25_1:Int):=of_decide_eq_true (by first|(with_reducible assumption)|assumption)
           have q259:x25_1 < (l2.length:Int):=of_decide_eq_true (by first|(with_reducible assumption)|assumption)
           obtain ⟨ad259,e259,hx259_0,hx259_1,hx259_2⟩:=at_T61 HR2.out x25_1 p259 q259
           cases e259
           replace hx259_0:=(HB.out.cell (World.block_lt_of_cell? w _ hx259_0)).trans hx259_0
           replace hx259_1:=(HB.out.cell (World.block_lt_of_cell? w _ hx259_1)).trans hx259_1
           replace hx259_2:=(HB.out.cell (World.block_lt_of_cell? w _ hx259_2)).trans hx259_2
           replace p259:=eq_true p259
           replace q259:=eq_true q259
           try go_wp2_with (first|((with_reducible refine gate_dst (N:=12) rfl ?_);refine box_event ?hg (N:=12) ?hd (cs:=#[.int .i64 0,.int .i64 0,.int .i64 0]) (t:=61) ?hr ?_;(case hd=>rfl);(case hg=>rfl);(case hr=>first|(go_simp;done)|(go_simp;rfl));intro gb260 hg w142 hbox hb;have n0_:=Aside0.mk (Kd.R_below (rR HO_7) hb);have n1_:=Aside0.mk (blk_below (g:=gb252) (o:=.cells #[.int .i64 a0_0,.slice A0_1 l0_1.length c0_1] 26 (0,0)) (bk BK252) hb);have n2_:=Aside0.mk (blk_below (g:=gb253) (o:=.cells #[.slice A1_0 l1_0.length c1_0] 35 (0,0)) (bk BK253) hb);have n3_:=Aside0.mk (blk_below (g:=gb258) (o:=.cells #[.int .i64 x259000_1,.int .i64 x259001_1,.int .i64 x259002_1] 61 (0,0)) (bk BK258) hb);have n4_:=bs hb;have n5_:=Aside0.mk (hbox);have n6_:=Aside0.mk ((by rw [hg];exact (below_size be):w.heap.size≤gb260));have n7_:=Aside0.mk ((by rw [hg];exact (below_size be):w.heap.size≤gb260));have n8_:=Aside0.mk ((by rw [hg];exact Nat.ne_of_lt (blk_lt (g:=gb252) (o:=.cells #[.int .i64 a0_0,.slice A0_1 l0_1.length c0_1] 26 (0,0)) (bk BK252)):gb252 ≠ gb260));have n9_:=Aside0.mk ((by rw [hg];exact Nat.ne_of_gt (blk_lt (g:=gb252) (o:=.cells #[.int .i64 a0_0,.slice A0_1 l0_1.length c0_1] 26 (0,0)) (bk BK252)):gb260 ≠ gb252));have n10_:=Aside0.mk ((by rw [hg];exact Nat.ne_of_lt (blk_lt (g:=gb253) (o:=.cells #[.slice A1_0 l1_0.length c1_0] 35 (0,0)) (bk BK253)):gb253 ≠ gb260));have n11_:=Aside0.mk ((by rw [hg];exact Nat.ne_of_gt (blk_lt (g:=gb253) (o:=.cells #[.slice A1_0 l1_0.length c1_0] 35 (0,0)) (bk BK253)):gb260 ≠ gb253));have n12_:=Aside0.mk ((by rw [hg];exact Nat.ne_of_lt (blk_lt (g:=gb258) (o:=.cells #[.int .i64 x259000_1,.int .i64 x259001_1,.int .i64 x259002_1] 61 (0,0)) (bk BK258)):gb258 ≠ gb260));have n13_:=Aside0.mk ((by rw [hg];exact Nat.ne_of_gt (blk_lt (g:=gb258) (o:=.cells #[.int .i64 x259000_1,.int .i64 x259001_1,.int .i64 x259002_1] 61 (0,0)) (bk BK258)):gb260 ≠ gb258));clear HO_7;clear BK252;clear BK253;clear BK258;clear HB;have HO_7:=n0_;have BK252:=n1_;have BK253:=n2_;have BK258:=n3_;have HB:=n4_;have BK260:=n5_;have GW260:=n6_;have GE260:=n7_;have NB252_260:=n8_;have NB260_252:=n9_;have NB253_260:=n10_;have NB260_253:=n11_;have NB258_260:=n12_;have NB260_258:=n13_;clear n0_ n1_ n2_ n3_ n4_ n5_ n6_ n7_ n8_ n9_ n10_ n11_ n12_ n13_;clear hb hbox hg;have hnb143:=NB260_252.out;have hnc143:=NB252_260.out;have hnb144:=NB260_253.out;have hnc144:=NB253_260.out;have hnb145:=NB260_258.out;have hnc145:=NB258_260.out;have hcz146_0:w142.cell? ⟨gb260,0,none⟩=some (.int .i64 0):=(blk_cell BK260.out 0).trans rfl;have hcz146_1:w142.cell? ⟨gb260,1,none⟩=some (.int .i64 0):=(blk_cell BK260.out 1).trans rfl;have hcz146_2:w142.cell? ⟨gb260,2,none⟩=some (.int .i64 0):=(blk_cell BK260.out 2).trans rfl;have hfz146_0:=blk_frozen BK260.out 0;have hfz146_1:=blk_frozen BK260.out 1;have hfz146_2:=blk_frozen BK260.out 2;have hnb147:=NB253_252.out;have hnc147:=NB252_253.out;have hnb148:=NB253_258.out;have hnc148:=NB258_253.out;have hcz149_0:w142.cell? ⟨gb253,0,none⟩=some (.slice A1_0 l1_0.length c1_0):=(blk_cell BK253.out 0).trans rfl;have hfz149_0:=blk_frozen BK253.out 0)|((with_reducible refine gate_callee (f:=52) rfl ?_);refine goesL_ (some 33) rfl rfl Try.func52 (by kernel_rfl) rfl #[.slice A1_0 l1_0.length c1_0,.int .i64 ((rd_T61 l2 x25_1).f0)] rfl (by (try simp only [List.map_toArray,List.map_cons,List.map_nil]);first|done|rfl|(simp only [List.length_drop,List.length_take];rfl)) ?_;(with_reducible refine (impl_hasInt.calls k1 _ _ l1_0 ((rd_T61 l2 x25_1).f0) false _ ?side1 ?side2 A20.out).mono ?_);(case side1=>exact Kd.C_below HR1_0.out be);(case side2=>exact HC1_0.out);rintro e w' ⟨rfl,⟨nd,rfl⟩⟩;refine ⟨_,rfl,?_⟩))
           have n0_:Aside0 (Kd.R (Kd.int .i64) 3 (((w142.setCell ⟨gb260,0,none⟩ (.int .i64 ((rd_T61 l2 x25_1).f0))).setCell ⟨gb260,1,none⟩ (.int .i64 ((rd_T61 l2 x25_1).f1))).setCell ⟨gb260,2,none⟩ (.int .i64 ((rd_T61 l2 x25_1).f2))) w.heap.size (fun _=>True) v256 t255):=⟨by (with_reducible repeat (first|apply Kd.R_alloc|apply Kd.R_drewN|apply Kd.R_drew));exact Kd.R_mono (Kd.R_far (p:=⟨gb260,2,none⟩) (Kd.R_far (p:=⟨gb260,1,none⟩) (Kd.R_far (p:=⟨gb260,0,none⟩) (Kd.R_types HO_7.out BK260.out (by decide)) (fun _ hk=>hk.2) (.int .i64 ((rd_T61 l2 x25_1).f0))) (fun _ hk=>hk.2) (.int .i64 ((rd_T61 l2 x25_1).f1))) (fun _ hk=>hk.2) (.int .i64 ((rd_T61 l2 x25_1).f2))) (fun _ hk=>trivial)⟩
           have n1_:Aside0 ((((w142.setCell ⟨gb260,0,none⟩ (.int .i64 ((rd_T61 l2 x25_1).f0))).setCell ⟨gb260,1,none⟩ (.int .i64 ((rd_T61 l2 x25_1).f1))).setCell ⟨gb260,2,none⟩ (.int .i64 ((rd_T61 l2 x25_1).f2))).heap[gb252]?=some (.cells #[.int .i64 a0_0,.slice A0_1 l0_1.length c0_1] 26 (0,0))):=⟨by (with_reducible repeat (first|refine blk_drewN ?_ _|refine blk_drew ?_|refine blk_alloc ?_ _));refine blk_far ?_ NB252_260.out _;(with_reducible repeat (first|refine blk_drewN ?_ _|refine blk_drew ?_|refine blk_alloc ?_ _));refine blk_far ?_ NB252_260.out _;(with_reducible repeat (first|refine blk_drewN ?_ _|refine blk_drew ?_|refine blk_alloc ?_ _));refine blk_far ?_ NB252_260.out _;(with_reducible repeat (first|refine blk_drewN ?_ _|refine blk_drew ?_|refine blk_alloc ?_ _));exact BK252.out⟩
           have n2_:Aside0 ((((w142.setCell ⟨gb260,0,none⟩ (.int .i64 ((rd_T61 l2 x25_1).f0))).setCell ⟨gb260,1,none⟩ (.int .i64 ((rd_T61 l2 x25_1).f1))).setCell ⟨gb260,2,none⟩ (.int .i64 ((rd_T61 l2 x25_1).f2))).heap[gb253]?=some (.cells #[.slice A1_0 l1_0.length c1_0] 35 (0,0))):=⟨by (with_reducible repeat (first|refine blk_drewN ?_ _|refine blk_drew ?_|refine blk_alloc ?_ _));refine blk_far ?_ NB253_260.out _;(with_reducible repeat (first|refine blk_drewN ?_ _|refine blk_drew ?_|refine blk_alloc ?_ _));refine blk_far ?_ NB253_260.out _;(with_reducible repeat (first|refine blk_drewN ?_ _|refine blk_drew ?_|refine blk_alloc ?_ _));refine blk_far ?_ NB253_260.out _;(with_reducible repeat (first|refine blk_drewN ?_ _|refine blk_drew ?_|refine blk_alloc ?_ _));exact BK253.out⟩
           have n3_:Aside0 ((((w142.setCell ⟨gb260,0,none⟩ (.int .i64 ((rd_T61 l2 x25_1).f0))).setCell ⟨gb260,1,none⟩ (.int .i64 ((rd_T61 l2 x25_1).f1))).setCell ⟨gb260,2,none⟩ (.int .i64 ((rd_T61 l2 x25_1).f2))).heap[gb258]?=some (.cells #[.int .i64 x259000_1,.int .i64 x259001_1,.int .i64 x259002_1] 61 (0,0))):=⟨by (with_reducible repeat (first|refine blk_drewN ?_ _|refine blk_drew ?_|refine blk_alloc ?_ _));refine blk_far ?_ NB258_260.out _;(with_reducible repeat (first|refine blk_drewN ?_ _|refine blk_drew ?_|refine blk_alloc ?_ _));refine blk_far ?_ NB258_260.out _;(with_reducible repeat (first|refine blk_drewN ?_ _|refine blk_drew ?_|refine blk_alloc ?_ _));refine blk_far ?_ NB258_260.out _;(with_reducible repeat (first|refine blk_drewN ?_ _|refine blk_drew ?_|refine blk_alloc ?_ _));exact BK258.out⟩
           have n4_:Aside0 ((((w142.setCell ⟨gb260,0,none⟩ (.int .i64 ((rd_T61 l2 x25_1).f0))).setCell ⟨gb260,1,none⟩ (.int .i64 ((rd_T61 l2 x25_1).f1))).setCell ⟨gb260,2,none⟩ (.int .i64 ((rd_T61 l2 x25_1).f2))).heap[gb260]?=some (.cells #[.int .i64 ((rd_T61 l2 x25_1).f0),.int .i64 ((rd_T61 l2 x25_1).f1),.int .i64 ((rd_T61 l2 x25_1).f2)] 61 (0,0))):=⟨by (with_reducible repeat (first|refine blk_drewN ?_ _|refine blk_drew ?_|refine blk_alloc ?_ _));refine blk_put (cs:=#[.int .i64 ((rd_T61 l2 x25_1).f0),.int .i64 ((rd_T61 l2 x25_1).f1),.int .i64 0]) ?_ 2 _ rfl;(with_reducible repeat (first|refine blk_drewN ?_ _|refine blk_drew ?_|refine blk_alloc ?_ _));refine blk_put (cs:=#[.int .i64 ((rd_T61 l2 x25_1).f0),.int .i64 0,.int .i64 0]) ?_ 1 _ rfl;(with_reducible repeat (first|refine blk_drewN ?_ _|refine blk_drew ?_|refine blk_alloc ?_ _));refine blk_put (cs:=#[.int .i64 0,.int .i64 0,.int .i64 0]) ?_ 0 _ rfl;(with_reducible repeat (first|refine blk_drewN ?_ _|refine blk_drew ?_|refine blk_alloc ?_ _));exact BK260.out⟩
           have n5_:Aside0 (Below w.heap.size w (((w142.setCell ⟨gb260,0,none⟩ (.int .i64 ((rd_T61 l2 x25_1).f0))).setCell ⟨gb260,1,none⟩ (.int .i64 ((rd_T61 l2 x25_1).f1))).setCell ⟨gb260,2,none⟩ (.int .i64 ((rd_T61 l2 x25_1).f2)))):=⟨be⟩
           (try clear HO_7)
           (try clear BK252)
           (try clear BK253)
           (try clear BK258)
           (try clear BK260)
           (try clear HB)
           generalize (((w142.setCell ⟨gb260,0,none⟩ (.int .i64 ((rd_T61 l2 x25_1).f0))).setCell ⟨gb260,1,none⟩ (.int .i64 ((rd_T61 l2 x25_1).f1))).setCell ⟨gb260,2,none⟩ (.int .i64 ((rd_T61 l2 x25_1).f2)))=w150 at n0_ n1_ n2_ n3_ n4_ n5_ ⊢
           have HO_7:=n0_
           have BK252:=n1_
           have BK253:=n2_
           have BK258:=n3_
           have BK260:=n4_
           have HB:=n5_
           clear n0_ n1_ n2_ n3_ n4_ n5_
           (try (rw [drewN_self w150];generalize hq_:World.drewN w150 _=w150;have n0_:Aside0 (Kd.R (Kd.int .i64) 3 w150 w.heap.size (fun _=>True) v256 t255):=⟨by rw [← hq_];exact (rR HO_7)⟩;have n1_:Aside0 (w150.heap[gb252]?=some (.cells #[.int .i64 a0_0,.slice A0_1 l0_1.length c0_1] 26 (0,0))):=⟨by rw [← hq_];exact (bk BK252)⟩;have n2_:Aside0 (w150.heap[gb253]?=some (.cells #[.slice A1_0 l1_0.length c1_0] 35 (0,0))):=⟨by rw [← hq_];exact (bk BK253)⟩;have n3_:Aside0 (w150.heap[gb258]?=some (.cells #[.int .i64 x259000_1,.int .i64 x259001_1,.int .i64 x259002_1] 61 (0,0))):=⟨by rw [← hq_];exact (bk BK258)⟩;have n4_:Aside0 (w150.heap[gb260]?=some (.cells #[.int .i64 ((rd_T61 l2 x25_1).f0),.int .i64 ((rd_T61 l2 x25_1).f1),.int .i64 ((rd_T61 l2 x25_1).f2)] 61 (0,0))):=⟨by rw [← hq_];exact (bk BK260)⟩;have n5_:Aside0 (Below w.heap.size w w150):=⟨by rw [← hq_];exact be⟩;clear HO_7 BK252 BK253 BK258 BK260 HB hq_;have HO_7:=n0_;have BK252:=n1_;have BK253:=n2_;have BK258:=n3_;have BK260:=n4_;have HB:=n5_;clear n0_ n1_ n2_ n3_ n4_ n5_))
           have n0_:=Aside0.mk (Kd.R_drew HO_7.out)
           have n1_:=Aside0.mk (blk_drew BK252.out)
           have n2_:=Aside0.mk (blk_drew BK253.out)
           have n3_:=Aside0.mk (blk_drew BK258.out)
           have n4_:=Aside0.mk (blk_drew BK260.out)
           have n5_:=Aside0.mk (below_drew1 HB.out)
           clear HO_7
           clear BK252
           clear BK253
           clear BK258
           clear BK260
           clear HB
           have HO_7:=n0_
           have BK252:=n1_
           have BK253:=n2_
           have BK258:=n3_
           have BK260:=n4_
           have HB:=n5_
           clear n0_ n1_ n2_ n3_ n4_ n5_
           refine start_ (n:=12) (S:=fun w'=>w'.cell? ⟨gb252,0,none⟩=some (.int .i64 a0_0)∧w'.cell? ⟨gb252,1,none⟩=some (.slice A0_1 l0_1.length c0_1)∧w'.cell? ⟨gb260,0,none⟩=some (.int .i64 ((rd_T61 l2 x25_1).f0))∧w'.cell? ⟨gb260,1,none⟩=some (.int .i64 ((rd_T61 l2 x25_1).f1))∧w'.cell? ⟨gb260,2,none⟩=some (.int .i64 ((rd_T61 l2 x25_1).f2))) (ds:=[]) (fl 12 0) (by kernel_rfl) rfl rfl ⟨(blk_cell BK252.out 0).trans rfl,(blk_cell BK252.out 1).trans rfl,(blk_cell BK260.out 0).trans rfl,(blk_cell BK260.out 1).trans rfl,(blk_cell BK260.out 2).trans rfl⟩ (fun hHeld=>?_);refine with_tabW impl_Best.tab9 impl_Best.bits9 (fun HT_ HW_=>?_)
           generalize w150.drew=w151 at HO_7 BK252 BK253 BK258 BK260 HB hHeld ⊢
           refine pt 1 35 (fl 12 2) HT_ ?_
           refine pt 5 39 (fl 12 34) HT_ ?_
           refine pt 6 40 (fl 12 98) HT_ ?_
           refine tt 0 34 (fl 12 99) HT_ HW_ hHeld ?_
           refine tt 2 36 (fl 12 103) HT_ HW_ hHeld ?_
           refine tt 7 41 (fl 12 231) HT_ HW_ hHeld ?_
           refine ot 3 (some 37) (fl 12 239) HT_ (fun K hK=>?_)
           refine goes_ Try.func35 (by kernel_rfl) rfl #[.agg #[.int .i64 a0_0,.slice A0_1 l0_1.length c0_1],.int .i64 ((rd_T61 l2 x25_1).f0)] (by rfl) rfl rfl (by (try simp only [List.map_toArray,List.map_cons,List.map_nil]);first|done|rfl|(simp only [List.length_drop,List.length_take];rfl)) ?_
           with_reducible refine (impl_LoadOf.calls k1 a0_0 _ _ l0_1 ((rd_T61 l2 x25_1).f0) t262 _ ?side1 ?side2 A30.out).mono ?_
           (case side1=>exact rC HR0_1)
           (case side2=>exact HC0_1.out)
           rintro e w152 ⟨rfl,hb⟩
           refine ⟨_,rfl,?_⟩
           have n0_:=Aside0.mk (Kd.R_below ((rR HO_7)) hb)
           have n1_:=Aside0.mk (blk_below (g:=gb252) (o:=.cells #[.int .i64 a0_0,.slice A0_1 l0_1.length c0_1] 26 (0,0)) (bk BK252) hb)
           have n2_:=Aside0.mk (blk_below (g:=gb253) (o:=.cells #[.slice A1_0 l1_0.length c1_0] 35 (0,0)) (bk BK253) hb)
           have n3_:=Aside0.mk (blk_below (g:=gb258) (o:=.cells #[.int .i64 x259000_1,.int .i64 x259001_1,.int .i64 x259002_1] 61 (0,0)) (bk BK258) hb)
           have n4_:=Aside0.mk (blk_below (g:=gb260) (o:=.cells #[.int .i64 ((rd_T61 l2 x25_1).f0),.int .i64 ((rd_T61 l2 x25_1).f1),.int .i64 ((rd_T61 l2 x25_1).f2)] 61 (0,0)) (bk BK260) hb)
           have n5_:=bs hb
           clear HO_7
           clear BK252
           clear BK253
           clear BK258
           clear BK260
           clear HB
           have HO_7:=n0_
           have BK252:=n1_
           have BK253:=n2_
           have BK258:=n3_
           have BK260:=n4_
           have HB:=n5_
           clear n0_ n1_ n2_ n3_ n4_ n5_
           (try clear hb)
           (try clear hb2)
           (try clear hk)
           (try clear hi)
           obtain ⟨Ao153,co153,eo153⟩:=Kd.R_slice HO_7.out
           (first|subst eo153|(injection eo153 with f1_ f2_ f3_;have f4_:=f1_.symm;have f5_:=f3_.symm;clear f1_ f2_ f3_;subst f4_;subst f5_))
           refine hK.out _ _ ⟨(blk_cell BK252.out 0).trans rfl,(blk_cell BK252.out 1).trans rfl,(blk_cell BK260.out 0).trans rfl,(blk_cell BK260.out 1).trans rfl,(blk_cell BK260.out 2).trans rfl⟩ (fun hHeld=>?_)
           clear hK K
           refine no 37 ?_
           refine pt 4 38 (fl 12 255) HT_ ?_
           refine ot 8 (some 42) (fl 12 511) HT_ (fun K hK=>?_)
           refine goes_ Try.func52 (by kernel_rfl) rfl #[.slice Ao153 t255.length co153,.int .i64 ((rd_T61 l2 x25_1).f1)] (by rfl) rfl rfl (by (try simp only [List.map_toArray,List.map_cons,List.map_nil]);first|done|rfl|(simp only [List.length_drop,List.length_take];rfl)) ?_
           with_reducible refine (impl_hasInt.calls k1 _ _ t255 ((rd_T61 l2 x25_1).f1) false _ ?side1 ?side2 A31.out).mono ?_
           (case side1=>exact sR HO_7)
           (case side2=>exact (Kd.R_reads' HO_7.out).2.1)
           rintro e w' ⟨rfl,⟨nd,rfl⟩⟩
           refine ⟨_,rfl,?_⟩
           refine hK.out _ _ ⟨(blk_cell BK252.out 0).trans rfl,(blk_cell BK252.out 1).trans rfl,(blk_cell BK260.out 0).trans rfl,(blk_cell BK260.out 1).trans rfl,(blk_cell BK260.out 2).trans rfl⟩ (fun hHeld=>?_)
           clear hK K
           refine no 42 ?_
           refine pt 9 43 (fl 12 1023) HT_ ?_
           refine pt 10 13 (fl 12 2047) HT_ ?_
           refine pt 11 14 (fl 12 4095) HT_ ?_
           refine done_ (done_of HT_.out (by kernel_rfl)) ?_
           have hnb154:=NB258_252.out
           have hnc154:=NB252_258.out
           have hcz155_0:w152.cell? ⟨gb258,0,none⟩=some (.int .i64 x259000_1):=(blk_cell BK258.out 0).trans rfl
           have hcz155_1:w152.cell? ⟨gb258,1,none⟩=some (.int .i64 x259001_1):=(blk_cell BK258.out 1).trans rfl
           have hcz155_2:w152.cell? ⟨gb258,2,none⟩=some (.int .i64 x259002_1):=(blk_cell BK258.out 2).trans rfl
           have hfz155_0:=blk_frozen BK258.out 0
           have hfz155_1:=blk_frozen BK258.out 1
           have hfz155_2:=blk_frozen BK258.out 2
           have hcz156_0:w152.cell? ⟨gb260,0,none⟩=some (.int .i64 ((rd_T61 l2 x25_1).f0)):=(blk_cell BK260.out 0).trans rfl
           have hcz156_1:w152.cell? ⟨gb260,1,none⟩=some (.int .i64 ((rd_T61 l2 x25_1).f1)):=(blk_cell BK260.out 1).trans rfl
           have hcz156_2:w152.cell? ⟨gb260,2,none⟩=some (.int .i64 ((rd_T61 l2 x25_1).f2)):=(blk_cell BK260.out 2).trans rfl
           have hfz156_0:=blk_frozen BK260.out 0
           have hfz156_1:=blk_frozen BK260.out 1
           have hfz156_2:=blk_frozen BK260.out 2
           try go_wp2
           go_roundg k1
           case measure=>have:=HK1.out;omega
           case rel=>exact ⟨(wrap64 (t262+1)),(!false),(wrap64 (x25_1+1)),((rd_T61 l2 x25_1).f0),((rd_T61 l2 x25_1).f1),((rd_T61 l2 x25_1).f2),rd_,rd_,rd_,H',⟨by have:=HK1.out;omega⟩,⟨by (with_reducible repeat (first|apply Kd.R_alloc|apply Kd.R_drewN|apply Kd.R_drew));exact Kd.R_mono (Kd.R_far (p:=⟨gb258,2,none⟩) (Kd.R_far (p:=⟨gb258,1,none⟩) (Kd.R_far (p:=⟨gb258,0,none⟩) (Kd.R_types HO_7.out BK258.out (by decide)) (fun _ hk=>hk.2) (.int .i64 ((rd_T61 l2 x25_1).f0))) (fun _ hk=>hk.2) (.int .i64 ((rd_T61 l2 x25_1).f1))) (fun _ hk=>hk.2) (.int .i64 ((rd_T61 l2 x25_1).f2))) (fun _ hk=>trivial)⟩,⟨by (with_reducible repeat (first|refine blk_drewN ?_ _|refine blk_drew ?_|refine blk_alloc ?_ _));refine blk_far ?_ NB252_258.out _;(with_reducible repeat (first|refine blk_drewN ?_ _|refine blk_drew ?_|refine blk_alloc ?_ _));refine blk_far ?_ NB252_258.out _;(with_reducible repeat (first|refine blk_drewN ?_ _|refine blk_drew ?_|refine blk_alloc ?_ _));refine blk_far ?_ NB252_258.out _;(with_reducible repeat (first|refine blk_drewN ?_ _|refine blk_drew ?_|refine blk_alloc ?_ _));exact BK252.out⟩,⟨by (with_reducible repeat (first|refine blk_drewN ?_ _|refine blk_drew ?_|refine blk_alloc ?_ _));refine blk_far ?_ NB253_258.out _;(with_reducible repeat (first|refine blk_drewN ?_ _|refine blk_drew ?_|refine blk_alloc ?_ _));refine blk_far ?_ NB253_258.out _;(with_reducible repeat (first|refine blk_drewN ?_ _|refine blk_drew ?_|refine blk_alloc ?_ _));refine blk_far ?_ NB253_258.out _;(with_reducible repeat (first|refine blk_drewN ?_ _|refine blk_drew ?_|refine blk_alloc ?_ _));exact BK253.out⟩,⟨by (with_reducible repeat (first|refine blk_drewN ?_ _|refine blk_drew ?_|refine blk_alloc ?_ _));refine blk_put (cs:=#[.int .i64 ((rd_T61 l2 x25_1).f0),.int .i64 ((rd_T61 l2 x25_1).f1),.int .i64 x259002_1]) ?_ 2 _ rfl;(with_reducible repeat (first|refine blk_drewN ?_ _|refine blk_drew ?_|refine blk_alloc ?_ _));refine blk_put (cs:=#[.int .i64 ((rd_T61 l2 x25_1).f0),.int .i64 x259001_1,.int .i64 x259002_1]) ?_ 1 _ rfl;(with_reducible repeat (first|refine blk_drewN ?_ _|refine blk_drew ?_|refine blk_alloc ?_ _));refine blk_put (cs:=#[.int .i64 x259000_1,.int .i64 x259001_1,.int .i64 x259002_1]) ?_ 0 _ rfl;(with_reducible repeat (first|refine blk_drewN ?_ _|refine blk_drew ?_|refine blk_alloc ?_ _));exact BK258.out⟩,⟨be⟩⟩
      ·rw [if_neg c19] at H
       exact absurd H (by simp)
     ·rw [if_neg c18] at H
      exact absurd H (by simp)
    ·rw [if_neg c17] at H
     have c17b0:decide (x25_1 < (l2.length:Int))=false:=decide_eq_false c17
     clear c17
     obtain rfl:=Option.some.inj H
     have hnb157:=NB258_252.out
     have hnc157:=NB252_258.out
     have hnb158:=NB258_253.out
     have hnc158:=NB253_258.out
     have hcz159_0:wr.cell? ⟨gb258,0,none⟩=some (.int .i64 x259000_1):=(blk_cell BK258.out 0).trans rfl
     have hcz159_1:wr.cell? ⟨gb258,1,none⟩=some (.int .i64 x259001_1):=(blk_cell BK258.out 1).trans rfl
     have hcz159_2:wr.cell? ⟨gb258,2,none⟩=some (.int .i64 x259002_1):=(blk_cell BK258.out 2).trans rfl
     have hfz159_0:=blk_frozen BK258.out 0
     have hfz159_1:=blk_frozen BK258.out 1
     have hfz159_2:=blk_frozen BK258.out 2
     go_wp2
     go_ret
     exact ⟨rz,be⟩
 ·replace c5:=Bool.eq_false_iff.mpr c5
  subst c5
  have H1:(some (-1))=some r:=by rw [if_neg (show ¬ (false=true) by decide)] at H;exact H
  clear H
  have H:=H1
  clear H1
  obtain rfl:=Option.some.inj H
  go_enter Try.func45,Try.ntmps45
  go_wp2_with (first|((with_reducible refine gate_dst (N:=3) rfl ?_);refine box_event ?hg (N:=3) ?hd (cs:=#[.int .i64 a0_0,.slice A0_1 l0_1.length c0_1]) (t:=26) ?hr ?_;(case hd=>rfl);(case hg=>rfl);(case hr=>first|(go_simp;done)|(go_simp;rfl));intro gb252 hg w160 hbox hb;have n0_:=bs hb;have n1_:=Aside0.mk (hbox);have n2_:=Aside0.mk ((by rw [hg];exact (below_size be):w.heap.size≤gb252));have n3_:=Aside0.mk ((by rw [hg];exact (below_size be):w.heap.size≤gb252));clear HB;have HB:=n0_;have BK252:=n1_;have GW252:=n2_;have GE252:=n3_;clear n0_ n1_ n2_ n3_;clear hb hbox hg)|((with_reducible refine gate_dst (N:=4) rfl ?_);refine box_event ?hg (N:=4) ?hd (cs:=#[.slice A1_0 l1_0.length c1_0]) (t:=35) ?hr ?_;(case hd=>rfl);(case hg=>rfl);(case hr=>first|(go_simp;done)|(go_simp;rfl));intro gb253 hg w161 hbox hb;have n0_:=Aside0.mk (blk_below (g:=gb252) (o:=.cells #[.int .i64 a0_0,.slice A0_1 l0_1.length c0_1] 26 (0,0)) (bk BK252) hb);have n1_:=bs hb;have n2_:=Aside0.mk (hbox);have n3_:=Aside0.mk ((by rw [hg];exact (below_size be):w.heap.size≤gb253));have n4_:=Aside0.mk ((by rw [hg];exact (below_size be):w.heap.size≤gb253));have n5_:=Aside0.mk ((by rw [hg];exact Nat.ne_of_lt (blk_lt (g:=gb252) (o:=.cells #[.int .i64 a0_0,.slice A0_1 l0_1.length c0_1] 26 (0,0)) (bk BK252)):gb252 ≠ gb253));have n6_:=Aside0.mk ((by rw [hg];exact Nat.ne_of_gt (blk_lt (g:=gb252) (o:=.cells #[.int .i64 a0_0,.slice A0_1 l0_1.length c0_1] 26 (0,0)) (bk BK252)):gb253 ≠ gb252));clear BK252;clear HB;have BK252:=n0_;have HB:=n1_;have BK253:=n2_;have GW253:=n3_;have GE253:=n4_;have NB252_253:=n5_;have NB253_252:=n6_;clear n0_ n1_ n2_ n3_ n4_ n5_ n6_;clear hb hbox hg)|((with_reducible refine gate_callee (f:=57) rfl ?_);refine goesL_ (some 16) rfl rfl Try.func57 (by kernel_rfl) rfl #[.slice A2 l2.length c2] rfl (by (try simp only [List.map_toArray,List.map_cons,List.map_nil]);first|done|rfl|(simp only [List.length_drop,List.length_take];rfl)) ?_;(with_reducible refine (impl_DevsOk.calls k _ _ l2 false _ ?side1 ?side2 A4.out).mono ?_);(case side1=>exact rC HR2);(case side2=>exact HC2.out);rintro e w162 ⟨rfl,hb⟩;refine ⟨_,rfl,?_⟩;have n0_:=Aside0.mk (blk_below (g:=gb252) (o:=.cells #[.int .i64 a0_0,.slice A0_1 l0_1.length c0_1] 26 (0,0)) (bk BK252) hb);have n1_:=Aside0.mk (blk_below (g:=gb253) (o:=.cells #[.slice A1_0 l1_0.length c1_0] 35 (0,0)) (bk BK253) hb);have n2_:=bs hb;clear BK252;clear BK253;clear HB;have BK252:=n0_;have BK253:=n1_;have HB:=n2_;clear n0_ n1_ n2_;(try clear hb);(try clear hb2);(try clear hk);(try clear hi)))
  go_ret
  exact ⟨rz,be⟩
end Go.Proofs.Ytpbjbfimnfghkaa.PFnRings
