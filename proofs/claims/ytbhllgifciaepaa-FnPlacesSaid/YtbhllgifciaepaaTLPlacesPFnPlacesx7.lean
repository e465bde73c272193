/- Trimmed by a program of this session (trim.py). Not trusted: Lean checks it. -/
import Derived.Test.YtbhllgifciaepaaTLPlacesPFnPlacesx0
import Derived.Test.YtbhllgifciaepaaTLPlacesPFnPlacesx1
import Derived.Test.YtbhllgifciaepaaTLPlacesPFnPlacesx6
namespace Go.Proofs.Ytbhllgifciaepaa.PFnPlaces
open Go.RowKit Go.Proofs.YtbhllgifciaepaaW.PrintWords Go.Proofs.YtbhllgifciaepaaW.PrintLast Go.Proofs.YtbhllgifciaepaaW.PrintMore
attribute [local go_sem] max2_int min2_int max_two min_two max_three min_three max_four min_four
set_option linter.unusedVariables false
set_option linter.unusedSimpArgs false
def impl_Handoffs.l0:Nat→List Int→List Int→List Int→List Int→List (S76)→Int→Int→Option (List Int)
 | 0,_,_,_,_,_,_,_=>none
 | k+1,x7,x8,x9,x10,x19,x20,x21=>if x21 < x20 then (if 0≤x21 then (if x21 < (x19.length:Int) then ((impl_hasInt.f k x7 ((rd_T76 x19 x21).f0)).bind fun t216=>(if t216=true then (impl_Handoffs.l0 k x7 x8 x9 x10 x19 x20 (wrap64 (x21+1))) else ((impl_hasInt.f k x8 ((rd_T76 x19 x21).f1)).bind fun t217=>(if t217=true then (if x10.length < 17592186044416 then (impl_Handoffs.l0 k x7 x8 x9 (x10 ++ [(rd_T76 x19 x21).f0]) x19 x20 (wrap64 (x21+1))) else (none)) else (if x9.length < 17592186044416 then (impl_Handoffs.l0 k x7 x8 (x9 ++ [(rd_T76 x19 x21).f0]) x10 x19 x20 (wrap64 (x21+1))) else (none)))))) else (none)) else (none)) else (if x9.length+x10.length < 17592186044416 then (some (x9 ++ x10)) else (none))
def impl_Handoffs.f (k:Nat) (a0_0:Int) (l0_1:List (S29)) (l1:List (S76)) (a2:ByteArray):Option (List Int):=(impl_Primaries.f k a0_0 l0_1 a2).bind fun t205=>((impl_zonesIn.f k t205 l1).bind fun t208=>(impl_Handoffs.l0 k t205 t208 ([]:List Int) ([]:List Int) l1 (l1.length:Int) 0))
set_option maxHeartbeats 8000000 in
set_option maxRecDepth 100000 in
theorem impl_Handoffs.calls (k:Nat) (a0_0:Int) (A0_1:Option Addr) (c0_1:Nat) (l0_1:List (S29)) (A1:Option Addr) (c1:Nat) (l1:List (S76)) (a2:ByteArray) (r:List Int) (w:World) (hr0_1:Kd.C k29 w A0_1 l0_1.length l0_1) (hc0_1:l0_1.length≤c0_1) (hr1:Kd.C k76 w A1 l1.length l1) (hc1:l1.length≤c1) (h:impl_Handoffs.f k a0_0 l0_1 l1 a2=some r) :
  Calls Try.prog 58 #[.agg #[.int .i64 a0_0,.slice A0_1 l0_1.length c0_1],.slice A1 l1.length c1,.string a2] w fun e w'=>∃ v0_:Value,e = .returned (v0_)∧Kd.R (Kd.int .i64) 3 w' w.heap.size (fun _=>True) v0_ r∧Below w.heap.size w w':=by
 have hu43:=Try.underlying43
 have hu76:=Try.underlying76
 have HR0_1:=Aside0.mk hr0_1
 have HC0_1:=Aside0.mk hc0_1
 clear hr0_1 hc0_1
 have HR1:=Aside0.mk hr1
 have HC1:=Aside0.mk hc1
 clear hr1 hc1
 have HB:=Aside0.mk (Below.refl w.heap.size w)
 have H:((impl_Primaries.f k a0_0 l0_1 a2).bind fun t205=>((impl_zonesIn.f k t205 l1).bind fun t208=>(impl_Handoffs.l0 k t205 t208 ([]:List Int) ([]:List Int) l1 (l1.length:Int) 0)))=some r:=h
 clear h
 replace H:=Option.bind_eq_some_iff.mp H
 obtain ⟨t205,A40,H⟩:=H
 replace H:((impl_zonesIn.f k t205 l1).bind fun t208=>(impl_Handoffs.l0 k t205 t208 ([]:List Int) ([]:List Int) l1 (l1.length:Int) 0))=some r:=H
 have A4:=Aside0.mk A40
 clear A40
 replace H:=Option.bind_eq_some_iff.mp H
 obtain ⟨t208,A50,H⟩:=H
 replace H:(impl_Handoffs.l0 k t205 t208 ([]:List Int) ([]:List Int) l1 (l1.length:Int) 0)=some r:=H
 have A5:=Aside0.mk A50
 clear A50
 have H':=Aside0.mk H
 clear H
 go_enter Try.func58,Try.ntmps58
 go_wp2_with (first|((with_reducible refine gate_dst (N:=3) rfl ?_);refine box_event ?hg (N:=3) ?hd (cs:=#[.int .i64 a0_0,.slice A0_1 l0_1.length c0_1]) (t:=43) ?hr ?_;(case hd=>rfl);(case hg=>rfl);(case hr=>first|(go_simp;done)|(go_simp;rfl));intro gb204 hg w6 hbox hb;have n0_:=Aside0.mk (below_step (by repeat (first|(with_reducible first|exact HB.out|apply below_alloc|apply pw_below_drewN|apply below_drew1)|exact HB.out)) hb);have n1_:=Aside0.mk (hbox);have n2_:=Aside0.mk ((by rw [hg];exact (below_size (by repeat (first|(with_reducible first|exact HB.out|apply below_alloc|apply pw_below_drewN|apply below_drew1)|exact HB.out))):w.heap.size≤gb204));have n3_:=Aside0.mk ((by rw [hg];exact (below_size (by repeat (first|(with_reducible first|exact HB.out|apply below_alloc|apply pw_below_drewN|apply below_drew1)|exact HB.out))):w.heap.size≤gb204));clear HB;have HB:=n0_;have BK204:=n1_;have GW204:=n2_;have GE204:=n3_;clear n0_ n1_ n2_ n3_;clear hb hbox hg;have hcz7_0:w6.cell? ⟨gb204,0,none⟩=some (.int .i64 a0_0):=(blk_cell BK204.out 0).trans rfl;have hcz7_1:w6.cell? ⟨gb204,1,none⟩=some (.slice A0_1 l0_1.length c0_1):=(blk_cell BK204.out 1).trans rfl;have hfz7_0:=blk_frozen BK204.out 0;have hfz7_1:=blk_frozen BK204.out 1)|((with_reducible refine gate_callee (f:=29) rfl ?_);refine goesL_ (some 15) rfl rfl Try.func29 (by kernel_rfl) rfl #[.agg #[.int .i64 a0_0,.slice A0_1 l0_1.length c0_1],.string a2] rfl (by (try simp only [List.map_toArray,List.map_cons,List.map_nil]);first|done|rfl|(simp only [List.length_drop,List.length_take];rfl)) ?_;(with_reducible refine (impl_Primaries.calls k a0_0 _ _ l0_1 a2 t205 _ ?side1 ?side2 A4.out).mono ?_);(case side1=>repeat (first|exact (Kd.C_below HR0_1.out HB.out)|(with_reducible refine Kd.C_alloc ?_ _)|(with_reducible refine Kd.C_drewN ?_ _)|(with_reducible refine Kd.C_drew ?_)));(case side2=>exact HC0_1.out);rintro e w8 ⟨v206,rfl,ho0,hb⟩;refine ⟨_,rfl,?_⟩;have n0_:=Aside0.mk (Kd.R_lower ho0 (below_size (by repeat (first|(with_reducible first|exact HB.out|apply below_alloc|apply pw_below_drewN|apply below_drew1|refine below_set ?_ GE204.out)|exact HB.out))));have n1_:=Aside0.mk (blk_below (g:=gb204) (o:=.cells #[.int .i64 a0_0,.slice A0_1 l0_1.length c0_1] 43 (0,0)) (by (with_reducible repeat (first|refine blk_drewN ?_ _|refine blk_drew ?_|refine blk_alloc ?_ _));exact BK204.out) hb);have n2_:=Aside0.mk (below_step (by repeat (first|(with_reducible first|exact HB.out|apply below_alloc|apply pw_below_drewN|apply below_drew1|refine below_set ?_ GE204.out)|exact HB.out)) hb);clear BK204;clear HB;have HO207:=n0_;have BK204:=n1_;have HB:=n2_;clear n0_ n1_ n2_;(try clear hb);(try clear hb2);(try clear hk);(try clear hi);(try clear ho0);obtain ⟨Ao9,co9,eo9⟩:=Kd.R_slice HO207.out;subst eo9)|((with_reducible refine gate_callee (f:=74) rfl ?_);refine goesL_ (some 18) rfl rfl Try.func74 (by kernel_rfl) rfl #[.slice Ao9 t205.length co9,.slice A1 l1.length c1] rfl (by (try simp only [List.map_toArray,List.map_cons,List.map_nil]);first|done|rfl|(simp only [List.length_drop,List.length_take];rfl)) ?_;(with_reducible refine (impl_zonesIn.calls k _ _ t205 _ _ l1 t208 _ ?side1 ?side2 ?side3 ?side4 A5.out).mono ?_);(case side1=>repeat (first|exact (Kd.R_reads' HO207.out).2.2|(with_reducible refine Kd.C_alloc ?_ _)|(with_reducible refine Kd.C_drewN ?_ _)|(with_reducible refine Kd.C_drew ?_)));(case side2=>exact (Kd.R_reads' HO207.out).2.1);(case side3=>repeat (first|exact (Kd.C_below HR1.out HB.out)|(with_reducible refine Kd.C_alloc ?_ _)|(with_reducible refine Kd.C_drewN ?_ _)|(with_reducible refine Kd.C_drew ?_)));(case side4=>exact HC1.out);rintro e w10 ⟨v209,rfl,ho0,hb⟩;refine ⟨_,rfl,?_⟩;have n0_:=Aside0.mk (Kd.R_elder' (by (with_reducible repeat (first|apply Kd.R_alloc|apply Kd.R_drewN|apply Kd.R_drew));exact HO207.out) (Kd.R_base ho0) hb);have n1_:=Aside0.mk (Kd.R_lower (Kd.R_new' ho0 (Kd.R_lt (by (with_reducible repeat (first|apply Kd.R_alloc|apply Kd.R_drewN|apply Kd.R_drew));exact HO207.out))) (below_size (by repeat (first|(with_reducible first|exact HB.out|apply below_alloc|apply pw_below_drewN|apply below_drew1|refine below_set ?_ GE204.out)|exact HB.out))));have n2_:=Aside0.mk (blk_below (g:=gb204) (o:=.cells #[.int .i64 a0_0,.slice A0_1 l0_1.length c0_1] 43 (0,0)) (by (with_reducible repeat (first|refine blk_drewN ?_ _|refine blk_drew ?_|refine blk_alloc ?_ _));exact BK204.out) hb);have n3_:=Aside0.mk (below_step (by repeat (first|(with_reducible first|exact HB.out|apply below_alloc|apply pw_below_drewN|apply below_drew1|refine below_set ?_ GE204.out)|exact HB.out)) hb);clear HO207;clear BK204;clear HB;have HO207:=n0_;have HO210:=n1_;have BK204:=n2_;have HB:=n3_;clear n0_ n1_ n2_ n3_;(try clear hb);(try clear hb2);(try clear hk);(try clear hi);(try clear ho0)))
 go_loopg [9,10,21] k (fun kq v9 v10 v21 w'=>∃ (x9_1:List Int) (x10_1:List Int) (x21_1:Int),v21 = .int .i64 x21_1∧Aside0 (impl_Handoffs.l0 kq t205 t208 x9_1 x10_1 l1 (l1.length:Int) x21_1=some r)∧Aside0 (kq≤k)∧Aside0 (Kd.R (Kd.int .i64) 3 w' w.heap.size (fun k_=>some k_ ≠ (v209:Value).ownBlock∧some k_ ≠ (v9:Value).ownBlock∧some k_ ≠ (v10:Value).ownBlock) (.slice Ao9 t205.length co9) t205)∧Aside0 (Kd.R (Kd.int .i64) 3 w' w.heap.size (fun k_=>some k_ ≠ ((.slice Ao9 t205.length co9):Value).ownBlock∧some k_ ≠ (v9:Value).ownBlock∧some k_ ≠ (v10:Value).ownBlock) v209 t208)∧Aside0 (Kd.R (Kd.int .i64) 3 w' w.heap.size (fun k_=>some k_ ≠ ((.slice Ao9 t205.length co9):Value).ownBlock∧some k_ ≠ (v209:Value).ownBlock∧some k_ ≠ (v10:Value).ownBlock) v9 x9_1)∧Aside0 (Kd.R (Kd.int .i64) 3 w' w.heap.size (fun k_=>some k_ ≠ ((.slice Ao9 t205.length co9):Value).ownBlock∧some k_ ≠ (v209:Value).ownBlock∧some k_ ≠ (v9:Value).ownBlock) v10 x10_1)∧Aside0 (w'.heap[gb204]?=some (.cells #[.int .i64 a0_0,(.slice A0_1 l0_1.length c0_1)] 43 (0,0)))∧Aside0 (Below w.heap.size w w'))
 case atStart=>exact ⟨(([]:List Int)),(([]:List Int)),(0),(by first|rfl|(simp;done)|(simp [*];done)),H',⟨Nat.le_refl _⟩,⟨by (with_reducible repeat (first|apply Kd.R_alloc|apply Kd.R_drewN|apply Kd.R_drew));exact Kd.R_mono HO207.out (fun _ hk=>⟨hk.2,⟨(by simp [Value.ownBlock]),(by simp [Value.ownBlock])⟩⟩)⟩,⟨by (with_reducible repeat (first|apply Kd.R_alloc|apply Kd.R_drewN|apply Kd.R_drew));exact Kd.R_mono HO210.out (fun _ hk=>⟨hk.2,⟨(by simp [Value.ownBlock]),(by simp [Value.ownBlock])⟩⟩)⟩,⟨by first|exact Kd.R_nil _ _ _ _ _|exact Kd.N_nil _ _ _ _ _|exact Kd.V_nil _ _ _ _ _|exact Kd.Q_nil _ _ _ _ _|exact Kd.S_nil _ _ _ _ _⟩,⟨by first|exact Kd.R_nil _ _ _ _ _|exact Kd.N_nil _ _ _ _ _|exact Kd.V_nil _ _ _ _ _|exact Kd.Q_nil _ _ _ _ _|exact Kd.S_nil _ _ _ _ _⟩,⟨by (with_reducible repeat (first|refine blk_drewN ?_ _|refine blk_drew ?_|refine blk_alloc ?_ _));exact BK204.out⟩,⟨by repeat (first|(with_reducible first|exact HB.out|apply below_alloc|apply pw_below_drewN|apply below_drew1|refine below_set ?_ GE204.out)|exact HB.out)⟩⟩
 case round=>
  clear H'
  try clear c1
  try clear c2
  try clear p2
  try clear c5
  try clear c7
  try clear hcz7_0
  try clear hcz7_1
  try clear hfz7_0
  try clear hfz7_1
  obtain ⟨x9_1,x10_1,x21_1,rfl,HA,HK1,HO_7,HO_8,HO_9,HO_10,BK204,HB⟩:=hrel
  cases gk with
  | zero=>exact absurd HA.out (by simp [impl_Handoffs.l0])
  | succ k1=>
   have H:=HA.out
   clear HA
   simp only [impl_Handoffs.l0] at H
   by_cases c11:x21_1 < (l1.length:Int)
   ·rw [if_pos c11] at H
    have c11b0:decide (x21_1 < (l1.length:Int))=true:=decide_eq_true c11
    clear c11
    by_cases c12:0≤x21_1
    ·rw [if_pos c12] at H
     have c12b0:decide (0≤x21_1)=true:=decide_eq_true c12
     clear c12
     by_cases c13:x21_1 < (l1.length:Int)
     ·rw [if_pos c13] at H
      have c13b0:decide (x21_1 < (l1.length:Int))=true:=decide_eq_true c13
      clear c13
      replace H:=Option.bind_eq_some_iff.mp H
      obtain ⟨t216,A140,H⟩:=H
      replace H:(if t216=true then (impl_Handoffs.l0 k1 t205 t208 x9_1 x10_1 l1 (l1.length:Int) (wrap64 (x21_1+1))) else ((impl_hasInt.f k1 t208 ((rd_T76 l1 x21_1).f1)).bind fun t217=>(if t217=true then (if x10_1.length < 17592186044416 then (impl_Handoffs.l0 k1 t205 t208 x9_1 (x10_1 ++ [(rd_T76 l1 x21_1).f0]) l1 (l1.length:Int) (wrap64 (x21_1+1))) else (none)) else (if x9_1.length < 17592186044416 then (impl_Handoffs.l0 k1 t205 t208 (x9_1 ++ [(rd_T76 l1 x21_1).f0]) x10_1 l1 (l1.length:Int) (wrap64 (x21_1+1))) else (none)))))=some r:=H
      have A14:=Aside0.mk A140
      clear A140
      by_cases c15:t216=true
      ·subst c15
       have H1:(impl_Handoffs.l0 k1 t205 t208 x9_1 x10_1 l1 (l1.length:Int) (wrap64 (x21_1+1)))=some r:=by rw [if_pos rfl] at H;exact H
       clear H
       have H:=H1
       clear H1
       have H':=Aside0.mk H
       clear H
       have p214:0≤(x21_1:Int):=of_decide_eq_true (by first|(with_reducible assumption)|assumption)
       have q214:x21_1 < (l1.length:Int):=of_decide_eq_true (by first|(with_reducible assumption)|assumption)
       obtain ⟨ad214,e214,hx214_0,hx214_1,hx214_2⟩:=at_T76 HR1.out x21_1 p214 q214
       cases e214
       replace hx214_0:=(HB.out.cell (World.block_lt_of_cell? w _ hx214_0)).trans hx214_0
       replace hx214_1:=(HB.out.cell (World.block_lt_of_cell? w _ hx214_1)).trans hx214_1
       replace hx214_2:=(HB.out.cell (World.block_lt_of_cell? w _ hx214_2)).trans hx214_2
       replace p214:=eq_true p214
       replace q214:=eq_true q214
       go_wp2_with (first|((with_reducible refine gate_dst (N:=12) rfl ?_);refine box_event ?hg (N:=12) ?hd (cs:=#[.int .i64 0,.int .i64 0,.int .i64 0]) (t:=76) ?hr ?_;(case hd=>rfl);(case hg=>rfl);(case hr=>first|(go_simp;done)|(go_simp;rfl));intro gb215 hg w16 hbox hb;have n0_:=Aside0.mk (Kd.R_below (by (with_reducible repeat (first|apply Kd.R_alloc|apply Kd.R_drewN|apply Kd.R_drew));exact HO_7.out) hb);have n1_:=Aside0.mk (Kd.R_below (by (with_reducible repeat (first|apply Kd.R_alloc|apply Kd.R_drewN|apply Kd.R_drew));exact HO_8.out) hb);have n2_:=Aside0.mk (Kd.R_below (by (with_reducible repeat (first|apply Kd.R_alloc|apply Kd.R_drewN|apply Kd.R_drew));exact HO_9.out) hb);have n3_:=Aside0.mk (Kd.R_below (by (with_reducible repeat (first|apply Kd.R_alloc|apply Kd.R_drewN|apply Kd.R_drew));exact HO_10.out) hb);have n4_:=Aside0.mk (blk_below (g:=gb204) (o:=.cells #[.int .i64 a0_0,.slice A0_1 l0_1.length c0_1] 43 (0,0)) (by (with_reducible repeat (first|refine blk_drewN ?_ _|refine blk_drew ?_|refine blk_alloc ?_ _));exact BK204.out) hb);have n5_:=Aside0.mk (below_step (by repeat (first|(with_reducible first|exact HB.out|apply below_alloc|apply pw_below_drewN|apply below_drew1|refine below_set ?_ GE204.out)|exact HB.out)) hb);have n6_:=Aside0.mk (hbox);have n7_:=Aside0.mk ((by rw [hg];exact (below_size (by repeat (first|(with_reducible first|exact HB.out|apply below_alloc|apply pw_below_drewN|apply below_drew1|refine below_set ?_ GE204.out)|exact HB.out))):w.heap.size≤gb215));have n8_:=Aside0.mk ((by rw [hg];exact (below_size (by repeat (first|(with_reducible first|exact HB.out|apply below_alloc|apply pw_below_drewN|apply below_drew1|refine below_set ?_ GE204.out)|exact HB.out))):w.heap.size≤gb215));have n9_:=Aside0.mk ((by rw [hg];exact Nat.ne_of_lt (blk_lt (g:=gb204) (o:=.cells #[.int .i64 a0_0,.slice A0_1 l0_1.length c0_1] 43 (0,0)) (by (with_reducible repeat (first|refine blk_drewN ?_ _|refine blk_drew ?_|refine blk_alloc ?_ _));exact BK204.out)):gb204 ≠ gb215));have n10_:=Aside0.mk ((by rw [hg];exact Nat.ne_of_gt (blk_lt (g:=gb204) (o:=.cells #[.int .i64 a0_0,.slice A0_1 l0_1.length c0_1] 43 (0,0)) (by (with_reducible repeat (first|refine blk_drewN ?_ _|refine blk_drew ?_|refine blk_alloc ?_ _));exact BK204.out)):gb215 ≠ gb204));clear HO_7;clear HO_8;clear HO_9;clear HO_10;clear BK204;clear HB;have HO_7:=n0_;have HO_8:=n1_;have HO_9:=n2_;have HO_10:=n3_;have BK204:=n4_;have HB:=n5_;have BK215:=n6_;have GW215:=n7_;have GE215:=n8_;have NB204_215:=n9_;have NB215_204:=n10_;clear n0_ n1_ n2_ n3_ n4_ n5_ n6_ n7_ n8_ n9_ n10_;clear hb hbox hg;have hnb17:=NB215_204.out;have hnc17:=NB204_215.out;have hcz18_0:w16.cell? ⟨gb215,0,none⟩=some (.int .i64 0):=(blk_cell BK215.out 0).trans rfl;have hcz18_1:w16.cell? ⟨gb215,1,none⟩=some (.int .i64 0):=(blk_cell BK215.out 1).trans rfl;have hcz18_2:w16.cell? ⟨gb215,2,none⟩=some (.int .i64 0):=(blk_cell BK215.out 2).trans rfl;have hfz18_0:=blk_frozen BK215.out 0;have hfz18_1:=blk_frozen BK215.out 1;have hfz18_2:=blk_frozen BK215.out 2)|((with_reducible refine gate_callee (f:=79) rfl ?_);refine goesL_ (some 34) rfl rfl Try.func79 (by kernel_rfl) rfl #[.slice Ao9 t205.length co9,.int .i64 ((rd_T76 l1 x21_1).f0)] rfl (by (try simp only [List.map_toArray,List.map_cons,List.map_nil]);first|done|rfl|(simp only [List.length_drop,List.length_take];rfl)) ?_;(with_reducible refine (impl_hasInt.calls k1 _ _ t205 ((rd_T76 l1 x21_1).f0) true _ ?side1 ?side2 A14.out).mono ?_);(case side1=>refine (Kd.R_reads' (e:=3) (base:=w.heap.size) (ok:=fun k_=>(some k_ ≠ (v209:Value).ownBlock∧(some k_ ≠ (u9:Value).ownBlock∧some k_ ≠ (u10:Value).ownBlock))) (n:=t205.length) (c:=co9) ?_).2.2;exact (by (with_reducible repeat (first|apply Kd.R_alloc|apply Kd.R_drewN|apply Kd.R_drew));exact (Kd.R_mono (Kd.R_far (p:=⟨gb215,2,none⟩) (Kd.R_far (p:=⟨gb215,1,none⟩) (Kd.R_far (p:=⟨gb215,0,none⟩) (Kd.R_types HO_7.out BK215.out (by decide)) (fun _ hk=>hk.2) (.int .i64 ((rd_T76 l1 x21_1).f0))) (fun _ hk=>hk.2) (.int .i64 ((rd_T76 l1 x21_1).f1))) (fun _ hk=>hk.2) (.int .i64 ((rd_T76 l1 x21_1).f2))) (fun _ h_=>h_.1))));(case side2=>exact (Kd.R_reads' HO_7.out).2.1);rintro e w' ⟨rfl,⟨nd,rfl⟩⟩;refine ⟨_,rfl,?_⟩))
       go_roundg k1
       case measure=>have:=HK1.out;omega
       case rel=>exact ⟨(x9_1),(x10_1),(wrap64 (x21_1+1)),(by first|rfl|(simp;done)|(simp [*];done)),H',⟨by have:=HK1.out;omega⟩,⟨by (with_reducible repeat (first|apply Kd.R_alloc|apply Kd.R_drewN|apply Kd.R_drew));exact Kd.R_mono (Kd.R_far (p:=⟨gb215,2,none⟩) (Kd.R_far (p:=⟨gb215,1,none⟩) (Kd.R_far (p:=⟨gb215,0,none⟩) (Kd.R_types HO_7.out BK215.out (by decide)) (fun _ hk=>hk.2) (.int .i64 ((rd_T76 l1 x21_1).f0))) (fun _ hk=>hk.2) (.int .i64 ((rd_T76 l1 x21_1).f1))) (fun _ hk=>hk.2) (.int .i64 ((rd_T76 l1 x21_1).f2))) (fun _ hk=>⟨hk.1.1,⟨hk.1.2.1,hk.1.2.2⟩⟩)⟩,⟨by (with_reducible repeat (first|apply Kd.R_alloc|apply Kd.R_drewN|apply Kd.R_drew));exact Kd.R_mono (Kd.R_far (p:=⟨gb215,2,none⟩) (Kd.R_far (p:=⟨gb215,1,none⟩) (Kd.R_far (p:=⟨gb215,0,none⟩) (Kd.R_types HO_8.out BK215.out (by decide)) (fun _ hk=>hk.2) (.int .i64 ((rd_T76 l1 x21_1).f0))) (fun _ hk=>hk.2) (.int .i64 ((rd_T76 l1 x21_1).f1))) (fun _ hk=>hk.2) (.int .i64 ((rd_T76 l1 x21_1).f2))) (fun _ hk=>⟨hk.1.1,⟨hk.1.2.1,hk.1.2.2⟩⟩)⟩,⟨by (with_reducible repeat (first|apply Kd.R_alloc|apply Kd.R_drewN|apply Kd.R_drew));exact Kd.R_mono (Kd.R_far (p:=⟨gb215,2,none⟩) (Kd.R_far (p:=⟨gb215,1,none⟩) (Kd.R_far (p:=⟨gb215,0,none⟩) (Kd.R_types HO_9.out BK215.out (by decide)) (fun _ hk=>hk.2) (.int .i64 ((rd_T76 l1 x21_1).f0))) (fun _ hk=>hk.2) (.int .i64 ((rd_T76 l1 x21_1).f1))) (fun _ hk=>hk.2) (.int .i64 ((rd_T76 l1 x21_1).f2))) (fun _ hk=>⟨hk.1.1,⟨hk.1.2.1,hk.1.2.2⟩⟩)⟩,⟨by (with_reducible repeat (first|apply Kd.R_alloc|apply Kd.R_drewN|apply Kd.R_drew));exact Kd.R_mono (Kd.R_far (p:=⟨gb215,2,none⟩) (Kd.R_far (p:=⟨gb215,1,none⟩) (Kd.R_far (p:=⟨gb215,0,none⟩) (Kd.R_types HO_10.out BK215.out (by decide)) (fun _ hk=>hk.2) (.int .i64 ((rd_T76 l1 x21_1).f0))) (fun _ hk=>hk.2) (.int .i64 ((rd_T76 l1 x21_1).f1))) (fun _ hk=>hk.2) (.int .i64 ((rd_T76 l1 x21_1).f2))) (fun _ hk=>⟨hk.1.1,⟨hk.1.2.1,hk.1.2.2⟩⟩)⟩,⟨by (with_reducible repeat (first|refine blk_drewN ?_ _|refine blk_drew ?_|refine blk_alloc ?_ _));refine blk_far ?_ NB204_215.out _;(with_reducible repeat (first|refine blk_drewN ?_ _|refine blk_drew ?_|refine blk_alloc ?_ _));refine blk_far ?_ NB204_215.out _;(with_reducible repeat (first|refine blk_drewN ?_ _|refine blk_drew ?_|refine blk_alloc ?_ _));refine blk_far ?_ NB204_215.out _;(with_reducible repeat (first|refine blk_drewN ?_ _|refine blk_drew ?_|refine blk_alloc ?_ _));exact BK204.out⟩,⟨by repeat (first|(with_reducible first|exact HB.out|apply below_alloc|apply pw_below_drewN|apply below_drew1|refine below_set ?_ GE204.out|refine below_set ?_ GE215.out)|exact HB.out)⟩⟩
      ·replace c15:=Bool.eq_false_iff.mpr c15
       subst c15
       have H1:((impl_hasInt.f k1 t208 ((rd_T76 l1 x21_1).f1)).bind fun t217=>(if t217=true then (if x10_1.length < 17592186044416 then (impl_Handoffs.l0 k1 t205 t208 x9_1 (x10_1 ++ [(rd_T76 l1 x21_1).f0]) l1 (l1.length:Int) (wrap64 (x21_1+1))) else (none)) else (if x9_1.length < 17592186044416 then (impl_Handoffs.l0 k1 t205 t208 (x9_1 ++ [(rd_T76 l1 x21_1).f0]) x10_1 l1 (l1.length:Int) (wrap64 (x21_1+1))) else (none))))=some r:=by rw [if_neg (show ¬ (false=true) by decide)] at H;exact H
       clear H
       have H:=H1
       clear H1
       replace H:=Option.bind_eq_some_iff.mp H
       obtain ⟨t217,A190,H⟩:=H
       replace H:(if t217=true then (if x10_1.length < 17592186044416 then (impl_Handoffs.l0 k1 t205 t208 x9_1 (x10_1 ++ [(rd_T76 l1 x21_1).f0]) l1 (l1.length:Int) (wrap64 (x21_1+1))) else (none)) else (if x9_1.length < 17592186044416 then (impl_Handoffs.l0 k1 t205 t208 (x9_1 ++ [(rd_T76 l1 x21_1).f0]) x10_1 l1 (l1.length:Int) (wrap64 (x21_1+1))) else (none)))=some r:=H
       have A19:=Aside0.mk A190
       clear A190
       by_cases c20:t217=true
       ·subst c20
        have H1:(if x10_1.length < 17592186044416 then (impl_Handoffs.l0 k1 t205 t208 x9_1 (x10_1 ++ [(rd_T76 l1 x21_1).f0]) l1 (l1.length:Int) (wrap64 (x21_1+1))) else (none))=some r:=by rw [if_pos rfl] at H;exact H
        clear H
        have H:=H1
        clear H1
        by_cases c21:x10_1.length < 17592186044416
        ·rw [if_pos c21] at H
         have LMc21:=Aside0.mk c21
         clear c21
         obtain ⟨y218,hy218⟩ : ∃ y_:List Int,y_=(x10_1 ++ [(rd_T76 l1 x21_1).f0]):=⟨_,rfl⟩
         replace H:(impl_Handoffs.l0 k1 t205 t208 x9_1 y218 l1 (l1.length:Int) (wrap64 (x21_1+1)))=some r:=by first|(rw [hy218];with_reducible exact H)|(have H2_:=(Option.bind_some _ _).symm.trans H;rw [hy218];with_reducible exact H2_)|(have H2_:=(Option.bind_some _ _).symm.trans H;with_reducible exact H2_)|with_reducible exact H|(rw [hy218];exact H)|exact H
         have Ny218:=Aside0.mk hy218
         clear hy218
         have H':=Aside0.mk H
         clear H
         have p214:0≤(x21_1:Int):=of_decide_eq_true (by first|(with_reducible assumption)|assumption)
         have q214:x21_1 < (l1.length:Int):=of_decide_eq_true (by first|(with_reducible assumption)|assumption)
         obtain ⟨ad214,e214,hx214_0,hx214_1,hx214_2⟩:=at_T76 HR1.out x21_1 p214 q214
         cases e214
         replace hx214_0:=(HB.out.cell (World.block_lt_of_cell? w _ hx214_0)).trans hx214_0
         replace hx214_1:=(HB.out.cell (World.block_lt_of_cell? w _ hx214_1)).trans hx214_1
         replace hx214_2:=(HB.out.cell (World.block_lt_of_cell? w _ hx214_2)).trans hx214_2
         replace p214:=eq_true p214
         replace q214:=eq_true q214
         go_wp2_with (first|((with_reducible refine gate_dst (N:=12) rfl ?_);refine box_event ?hg (N:=12) ?hd (cs:=#[.int .i64 0,.int .i64 0,.int .i64 0]) (t:=76) ?hr ?_;(case hd=>rfl);(case hg=>rfl);(case hr=>first|(go_simp;done)|(go_simp;rfl));intro gb215 hg w22 hbox hb;have n0_:=Aside0.mk (Kd.R_below (by (with_reducible repeat (first|apply Kd.R_alloc|apply Kd.R_drewN|apply Kd.R_drew));exact HO_7.out) hb);have n1_:=Aside0.mk (Kd.R_below (by (with_reducible repeat (first|apply Kd.R_alloc|apply Kd.R_drewN|apply Kd.R_drew));exact HO_8.out) hb);have n2_:=Aside0.mk (Kd.R_below (by (with_reducible repeat (first|apply Kd.R_alloc|apply Kd.R_drewN|apply Kd.R_drew));exact HO_9.out) hb);have n3_:=Aside0.mk (Kd.R_below (by (with_reducible repeat (first|apply Kd.R_alloc|apply Kd.R_drewN|apply Kd.R_drew));exact HO_10.out) hb);have n4_:=Aside0.mk (blk_below (g:=gb204) (o:=.cells #[.int .i64 a0_0,.slice A0_1 l0_1.length c0_1] 43 (0,0)) (by (with_reducible repeat (first|refine blk_drewN ?_ _|refine blk_drew ?_|refine blk_alloc ?_ _));exact BK204.out) hb);have n5_:=Aside0.mk (below_step (by repeat (first|(with_reducible first|exact HB.out|apply below_alloc|apply pw_below_drewN|apply below_drew1|refine below_set ?_ GE204.out)|exact HB.out)) hb);have n6_:=Aside0.mk (hbox);have n7_:=Aside0.mk ((by rw [hg];exact (below_size (by repeat (first|(with_reducible first|exact HB.out|apply below_alloc|apply pw_below_drewN|apply below_drew1|refine below_set ?_ GE204.out)|exact HB.out))):w.heap.size≤gb215));have n8_:=Aside0.mk ((by rw [hg];exact (below_size (by repeat (first|(with_reducible first|exact HB.out|apply below_alloc|apply pw_below_drewN|apply below_drew1|refine below_set ?_ GE204.out)|exact HB.out))):w.heap.size≤gb215));have n9_:=Aside0.mk ((by rw [hg];exact Nat.ne_of_lt (blk_lt (g:=gb204) (o:=.cells #[.int .i64 a0_0,.slice A0_1 l0_1.length c0_1] 43 (0,0)) (by (with_reducible repeat (first|refine blk_drewN ?_ _|refine blk_drew ?_|refine blk_alloc ?_ _));exact BK204.out)):gb204 ≠ gb215));have n10_:=Aside0.mk ((by rw [hg];exact Nat.ne_of_gt (blk_lt (g:=gb204) (o:=.cells #[.int .i64 a0_0,.slice A0_1 l0_1.length c0_1] 43 (0,0)) (by (with_reducible repeat (first|refine blk_drewN ?_ _|refine blk_drew ?_|refine blk_alloc ?_ _));exact BK204.out)):gb215 ≠ gb204));clear HO_7;clear HO_8;clear HO_9;clear HO_10;clear BK204;clear HB;have HO_7:=n0_;have HO_8:=n1_;have HO_9:=n2_;have HO_10:=n3_;have BK204:=n4_;have HB:=n5_;have BK215:=n6_;have GW215:=n7_;have GE215:=n8_;have NB204_215:=n9_;have NB215_204:=n10_;clear n0_ n1_ n2_ n3_ n4_ n5_ n6_ n7_ n8_ n9_ n10_;clear hb hbox hg;have hnb23:=NB215_204.out;have hnc23:=NB204_215.out;have hcz24_0:w22.cell? ⟨gb215,0,none⟩=some (.int .i64 0):=(blk_cell BK215.out 0).trans rfl;have hcz24_1:w22.cell? ⟨gb215,1,none⟩=some (.int .i64 0):=(blk_cell BK215.out 1).trans rfl;have hcz24_2:w22.cell? ⟨gb215,2,none⟩=some (.int .i64 0):=(blk_cell BK215.out 2).trans rfl;have hfz24_0:=blk_frozen BK215.out 0;have hfz24_1:=blk_frozen BK215.out 1;have hfz24_2:=blk_frozen BK215.out 2)|((with_reducible refine gate_callee (f:=79) rfl ?_);refine goesL_ (some 34) rfl rfl Try.func79 (by kernel_rfl) rfl #[.slice Ao9 t205.length co9,.int .i64 ((rd_T76 l1 x21_1).f0)] rfl (by (try simp only [List.map_toArray,List.map_cons,List.map_nil]);first|done|rfl|(simp only [List.length_drop,List.length_take];rfl)) ?_;(with_reducible refine (impl_hasInt.calls k1 _ _ t205 ((rd_T76 l1 x21_1).f0) false _ ?side1 ?side2 A14.out).mono ?_);(case side1=>refine (Kd.R_reads' (e:=3) (base:=w.heap.size) (ok:=fun k_=>(some k_ ≠ (v209:Value).ownBlock∧(some k_ ≠ (u9:Value).ownBlock∧some k_ ≠ (u10:Value).ownBlock))) (n:=t205.length) (c:=co9) ?_).2.2;exact (by (with_reducible repeat (first|apply Kd.R_alloc|apply Kd.R_drewN|apply Kd.R_drew));exact (Kd.R_mono (Kd.R_far (p:=⟨gb215,2,none⟩) (Kd.R_far (p:=⟨gb215,1,none⟩) (Kd.R_far (p:=⟨gb215,0,none⟩) (Kd.R_types HO_7.out BK215.out (by decide)) (fun _ hk=>hk.2) (.int .i64 ((rd_T76 l1 x21_1).f0))) (fun _ hk=>hk.2) (.int .i64 ((rd_T76 l1 x21_1).f1))) (fun _ hk=>hk.2) (.int .i64 ((rd_T76 l1 x21_1).f2))) (fun _ h_=>h_.1))));(case side2=>exact (Kd.R_reads' HO_7.out).2.1);rintro e w' ⟨rfl,⟨nd,rfl⟩⟩;refine ⟨_,rfl,?_⟩;obtain ⟨Ao25,co25,eo25⟩:=Kd.R_slice HO_8.out;subst eo25)|((with_reducible refine gate_callee (f:=79) rfl ?_);refine goesL_ (some 39) rfl rfl Try.func79 (by kernel_rfl) rfl #[.slice Ao25 t208.length co25,.int .i64 ((rd_T76 l1 x21_1).f1)] rfl (by (try simp only [List.map_toArray,List.map_cons,List.map_nil]);first|done|rfl|(simp only [List.length_drop,List.length_take];rfl)) ?_;(with_reducible refine (impl_hasInt.calls k1 _ _ t208 ((rd_T76 l1 x21_1).f1) true _ ?side1 ?side2 A19.out).mono ?_);(case side1=>refine (Kd.R_reads' (e:=3) (base:=w.heap.size) (ok:=fun k_=>(some k_ ≠ (.slice Ao9 t205.length co9:Value).ownBlock∧(some k_ ≠ (u9:Value).ownBlock∧some k_ ≠ (u10:Value).ownBlock))) (n:=t208.length) (c:=co25) ?_).2.2;exact (by (with_reducible repeat (first|apply Kd.R_alloc|apply Kd.R_drewN|apply Kd.R_drew));exact (Kd.R_mono (Kd.R_far (p:=⟨gb215,2,none⟩) (Kd.R_far (p:=⟨gb215,1,none⟩) (Kd.R_far (p:=⟨gb215,0,none⟩) (Kd.R_types HO_8.out BK215.out (by decide)) (fun _ hk=>hk.2) (.int .i64 ((rd_T76 l1 x21_1).f0))) (fun _ hk=>hk.2) (.int .i64 ((rd_T76 l1 x21_1).f1))) (fun _ hk=>hk.2) (.int .i64 ((rd_T76 l1 x21_1).f2))) (fun _ h_=>h_.1))));(case side2=>exact (Kd.R_reads' HO_8.out).2.1);rintro e w' ⟨rfl,⟨nd,rfl⟩⟩;refine ⟨_,rfl,?_⟩)|((with_reducible refine gate_builtin (b:=.append) (xs:=#[.tmp 40,.tmp 43]) rfl ?_);at_builtin;refine Kd.R_append (Kd.int .i64) (w0:=w) w.heap.size rfl (.tmp 40) (.tmp 43) 22 3 (.int .i64 0) 8 rfl Try.underlying22 info3 rfl (by decide) (by omega) u10 x10_1 ((rd_T76 l1 x21_1).f0) [.int .i64 ((rd_T76 l1 x21_1).f0)] (fun k_=>some k_ ≠ (.slice Ao9 t205.length co9:Value).ownBlock∧some k_ ≠ (.slice Ao25 t208.length co25:Value).ownBlock∧some k_ ≠ (u9:Value).ownBlock) (fun _=>False) rfl (by first|(go_simp;done)|(go_simp;rfl)) ?aP (fun _ hk=>hk.elim) ?aF ?aO ?aB ?aS ?aL ?_;(case aP=>exact rfl);(case aB=>exact (by repeat (first|(with_reducible first|exact HB.out|apply below_alloc|apply pw_below_drewN|apply below_drew1|refine below_set ?_ GE204.out|refine below_set ?_ GE215.out)|exact HB.out)));(case aF=>exact (fun k_ hk=>⟨Kd.fresh' (Kd.R_lt (by (with_reducible repeat (first|apply Kd.R_alloc|apply Kd.R_drewN|apply Kd.R_drew));exact (Kd.R_mono (Kd.R_far (p:=⟨gb215,2,none⟩) (Kd.R_far (p:=⟨gb215,1,none⟩) (Kd.R_far (p:=⟨gb215,0,none⟩) (Kd.R_types HO_7.out BK215.out (by decide)) (fun _ hk=>hk.2) (.int .i64 ((rd_T76 l1 x21_1).f0))) (fun _ hk=>hk.2) (.int .i64 ((rd_T76 l1 x21_1).f1))) (fun _ hk=>hk.2) (.int .i64 ((rd_T76 l1 x21_1).f2))) (fun _ h_=>h_.1)))) k_ hk,Kd.fresh' (Kd.R_lt (by (with_reducible repeat (first|apply Kd.R_alloc|apply Kd.R_drewN|apply Kd.R_drew));exact (Kd.R_mono (Kd.R_far (p:=⟨gb215,2,none⟩) (Kd.R_far (p:=⟨gb215,1,none⟩) (Kd.R_far (p:=⟨gb215,0,none⟩) (Kd.R_types HO_8.out BK215.out (by decide)) (fun _ hk=>hk.2) (.int .i64 ((rd_T76 l1 x21_1).f0))) (fun _ hk=>hk.2) (.int .i64 ((rd_T76 l1 x21_1).f1))) (fun _ hk=>hk.2) (.int .i64 ((rd_T76 l1 x21_1).f2))) (fun _ h_=>h_.1)))) k_ hk,Kd.fresh' (Kd.R_lt (by (with_reducible repeat (first|apply Kd.R_alloc|apply Kd.R_drewN|apply Kd.R_drew));exact (Kd.R_mono (Kd.R_far (p:=⟨gb215,2,none⟩) (Kd.R_far (p:=⟨gb215,1,none⟩) (Kd.R_far (p:=⟨gb215,0,none⟩) (Kd.R_types HO_9.out BK215.out (by decide)) (fun _ hk=>hk.2) (.int .i64 ((rd_T76 l1 x21_1).f0))) (fun _ hk=>hk.2) (.int .i64 ((rd_T76 l1 x21_1).f1))) (fun _ hk=>hk.2) (.int .i64 ((rd_T76 l1 x21_1).f2))) (fun _ h_=>h_.1)))) k_ hk⟩));(case aO=>exact (by (with_reducible repeat (first|apply Kd.R_alloc|apply Kd.R_drewN|apply Kd.R_drew));exact Kd.R_mono (Kd.R_far (p:=⟨gb215,2,none⟩) (Kd.R_far (p:=⟨gb215,1,none⟩) (Kd.R_far (p:=⟨gb215,0,none⟩) (Kd.R_types HO_10.out BK215.out (by decide)) (fun _ hk=>hk.2) (.int .i64 ((rd_T76 l1 x21_1).f0))) (fun _ hk=>hk.2) (.int .i64 ((rd_T76 l1 x21_1).f1))) (fun _ hk=>hk.2) (.int .i64 ((rd_T76 l1 x21_1).f2))) (fun _ hk=>⟨hk.1.1,⟨hk.1.2.1,hk.1.2.2⟩⟩)));(case aS=>exact (below_size (by repeat (first|(with_reducible first|exact HB.out|apply below_alloc|apply pw_below_drewN|apply below_drew1|refine below_set ?_ GE204.out|refine below_set ?_ GE215.out)|exact HB.out))));(case aL=>have:=LMc21.out;omega);intro v219 w26 ho hb hg hat;rw [← Ny218.out] at ho;have n0_:=Aside0.mk (Kd.R_after (ok:=(fun k_=>some k_ ≠ (.slice Ao25 t208.length co25:Value).ownBlock∧some k_ ≠ (u9:Value).ownBlock)) (by (with_reducible repeat (first|apply Kd.R_alloc|apply Kd.R_drewN|apply Kd.R_drew));exact Kd.R_mono (Kd.R_far (p:=⟨gb215,2,none⟩) (Kd.R_far (p:=⟨gb215,1,none⟩) (Kd.R_far (p:=⟨gb215,0,none⟩) (Kd.R_types HO_7.out BK215.out (by decide)) (fun _ hk=>hk.2) (.int .i64 ((rd_T76 l1 x21_1).f0))) (fun _ hk=>hk.2) (.int .i64 ((rd_T76 l1 x21_1).f1))) (fun _ hk=>hk.2) (.int .i64 ((rd_T76 l1 x21_1).f2))) (fun _ hk=>⟨⟨hk.1.1,hk.1.2.1⟩,hk.1.2.2⟩)) hg hat);have n1_:=Aside0.mk (Kd.R_after (ok:=(fun k_=>some k_ ≠ (.slice Ao9 t205.length co9:Value).ownBlock∧some k_ ≠ (u9:Value).ownBlock)) (by (with_reducible repeat (first|apply Kd.R_alloc|apply Kd.R_drewN|apply Kd.R_drew));exact Kd.R_mono (Kd.R_far (p:=⟨gb215,2,none⟩) (Kd.R_far (p:=⟨gb215,1,none⟩) (Kd.R_far (p:=⟨gb215,0,none⟩) (Kd.R_types HO_8.out BK215.out (by decide)) (fun _ hk=>hk.2) (.int .i64 ((rd_T76 l1 x21_1).f0))) (fun _ hk=>hk.2) (.int .i64 ((rd_T76 l1 x21_1).f1))) (fun _ hk=>hk.2) (.int .i64 ((rd_T76 l1 x21_1).f2))) (fun _ hk=>⟨⟨hk.1.1,hk.1.2.1⟩,hk.1.2.2⟩)) hg hat);have n2_:=Aside0.mk (Kd.R_after (ok:=(fun k_=>some k_ ≠ (.slice Ao9 t205.length co9:Value).ownBlock∧some k_ ≠ (.slice Ao25 t208.length co25:Value).ownBlock)) (by (with_reducible repeat (first|apply Kd.R_alloc|apply Kd.R_drewN|apply Kd.R_drew));exact Kd.R_mono (Kd.R_far (p:=⟨gb215,2,none⟩) (Kd.R_far (p:=⟨gb215,1,none⟩) (Kd.R_far (p:=⟨gb215,0,none⟩) (Kd.R_types HO_9.out BK215.out (by decide)) (fun _ hk=>hk.2) (.int .i64 ((rd_T76 l1 x21_1).f0))) (fun _ hk=>hk.2) (.int .i64 ((rd_T76 l1 x21_1).f1))) (fun _ hk=>hk.2) (.int .i64 ((rd_T76 l1 x21_1).f2))) (fun _ hk=>⟨⟨hk.1.1,hk.1.2.1⟩,hk.1.2.2⟩)) hg hat);have n3_:=Aside0.mk (blk_grown (g:=gb204) (o:=.cells #[.int .i64 a0_0,.slice A0_1 l0_1.length c0_1] 43 (0,0)) (by (with_reducible repeat (first|refine blk_drewN ?_ _|refine blk_drew ?_|refine blk_alloc ?_ _));refine blk_far ?_ NB204_215.out _;(with_reducible repeat (first|refine blk_drewN ?_ _|refine blk_drew ?_|refine blk_alloc ?_ _));refine blk_far ?_ NB204_215.out _;(with_reducible repeat (first|refine blk_drewN ?_ _|refine blk_drew ?_|refine blk_alloc ?_ _));refine blk_far ?_ NB204_215.out _;(with_reducible repeat (first|refine blk_drewN ?_ _|refine blk_drew ?_|refine blk_alloc ?_ _));exact BK204.out) hg (Kd.R_ne HO_10.out BK204.out (by decide)));have n4_:=Aside0.mk (blk_grown (g:=gb215) (o:=.cells #[.int .i64 ((rd_T76 l1 x21_1).f0),.int .i64 ((rd_T76 l1 x21_1).f1),.int .i64 ((rd_T76 l1 x21_1).f2)] 76 (0,0)) (by (with_reducible repeat (first|refine blk_drewN ?_ _|refine blk_drew ?_|refine blk_alloc ?_ _));refine blk_put (cs:=#[.int .i64 ((rd_T76 l1 x21_1).f0),.int .i64 ((rd_T76 l1 x21_1).f1),.int .i64 0]) ?_ 2 _ rfl;(with_reducible repeat (first|refine blk_drewN ?_ _|refine blk_drew ?_|refine blk_alloc ?_ _));refine blk_put (cs:=#[.int .i64 ((rd_T76 l1 x21_1).f0),.int .i64 0,.int .i64 0]) ?_ 1 _ rfl;(with_reducible repeat (first|refine blk_drewN ?_ _|refine blk_drew ?_|refine blk_alloc ?_ _));refine blk_put (cs:=#[.int .i64 0,.int .i64 0,.int .i64 0]) ?_ 0 _ rfl;(with_reducible repeat (first|refine blk_drewN ?_ _|refine blk_drew ?_|refine blk_alloc ?_ _));exact BK215.out) hg (Kd.R_ne HO_10.out BK215.out (by decide)));have n5_:=Aside0.mk (hb);have n6_:=Aside0.mk (ho);clear HO_7;clear HO_8;clear HO_9;clear BK204;clear BK215;clear HB;clear HO_10;have HO_7:=n0_;have HO_8:=n1_;have HO_9:=n2_;have BK204:=n3_;have BK215:=n4_;have HB:=n5_;have HO220:=n6_;clear n0_ n1_ n2_ n3_ n4_ n5_ n6_;clear ho hb hg hat))
         go_roundg k1
         case measure=>have:=HK1.out;omega
         case rel=>exact ⟨(x9_1),(y218),(wrap64 (x21_1+1)),(by first|rfl|(simp;done)|(simp [*];done)),H',⟨by have:=HK1.out;omega⟩,⟨by (with_reducible repeat (first|apply Kd.R_alloc|apply Kd.R_drewN|apply Kd.R_drew));exact Kd.R_mono HO_7.out (fun _ hk=>⟨hk.1.1,⟨hk.1.2,hk.2⟩⟩)⟩,⟨by (with_reducible repeat (first|apply Kd.R_alloc|apply Kd.R_drewN|apply Kd.R_drew));exact Kd.R_mono HO_8.out (fun _ hk=>⟨hk.1.1,⟨hk.1.2,hk.2⟩⟩)⟩,⟨by (with_reducible repeat (first|apply Kd.R_alloc|apply Kd.R_drewN|apply Kd.R_drew));exact Kd.R_mono HO_9.out (fun _ hk=>⟨hk.1.1,⟨hk.1.2,hk.2⟩⟩)⟩,⟨by (with_reducible repeat (first|apply Kd.R_alloc|apply Kd.R_drewN|apply Kd.R_drew));exact HO220.out⟩,⟨by (with_reducible repeat (first|refine blk_drewN ?_ _|refine blk_drew ?_|refine blk_alloc ?_ _));exact BK204.out⟩,⟨by repeat (first|(with_reducible first|exact HB.out|apply below_alloc|apply pw_below_drewN|apply below_drew1|refine below_set ?_ GE204.out|refine below_set ?_ GE215.out)|exact HB.out)⟩⟩
        ·rw [if_neg c21] at H
         exact absurd H (by simp)
       ·replace c20:=Bool.eq_false_iff.mpr c20
        subst c20
        have H1:(if x9_1.length < 17592186044416 then (impl_Handoffs.l0 k1 t205 t208 (x9_1 ++ [(rd_T76 l1 x21_1).f0]) x10_1 l1 (l1.length:Int) (wrap64 (x21_1+1))) else (none))=some r:=by rw [if_neg (show ¬ (false=true) by decide)] at H;exact H
        clear H
        have H:=H1
        clear H1
        by_cases c27:x9_1.length < 17592186044416
        ·rw [if_pos c27] at H
         have LMc27:=Aside0.mk c27
         clear c27
         obtain ⟨y221,hy221⟩ : ∃ y_:List Int,y_=(x9_1 ++ [(rd_T76 l1 x21_1).f0]):=⟨_,rfl⟩
         replace H:(impl_Handoffs.l0 k1 t205 t208 y221 x10_1 l1 (l1.length:Int) (wrap64 (x21_1+1)))=some r:=by first|(rw [hy221];with_reducible exact H)|(have H2_:=(Option.bind_some _ _).symm.trans H;rw [hy221];with_reducible exact H2_)|(have H2_:=(Option.bind_some _ _).symm.trans H;with_reducible exact H2_)|with_reducible exact H|(rw [hy221];exact H)|exact H
         have Ny221:=Aside0.mk hy221
         clear hy221
         have H':=Aside0.mk H
         clear H
         have p214:0≤(x21_1:Int):=of_decide_eq_true (by first|(with_reducible assumption)|assumption)
         have q214:x21_1 < (l1.length:Int):=of_decide_eq_true (by first|(with_reducible assumption)|assumption)
         obtain ⟨ad214,e214,hx214_0,hx214_1,hx214_2⟩:=at_T76 HR1.out x21_1 p214 q214
         cases e214
         replace hx214_0:=(HB.out.cell (World.block_lt_of_cell? w _ hx214_0)).trans hx214_0
         replace hx214_1:=(HB.out.cell (World.block_lt_of_cell? w _ hx214_1)).trans hx214_1
         replace hx214_2:=(HB.out.cell (World.block_lt_of_cell? w _ hx214_2)).trans hx214_2
         replace p214:=eq_true p214
         replace q214:=eq_true q214
         go_wp2_with (first|((with_reducible refine gate_dst (N:=12) rfl ?_);refine box_event ?hg (N:=12) ?hd (cs:=#[.int .i64 0,.int .i64 0,.int .i64 0]) (t:=76) ?hr ?_;(case hd=>rfl);(case hg=>rfl);(case hr=>first|(go_simp;done)|(go_simp;rfl));intro gb215 hg w28 hbox hb;have n0_:=Aside0.mk (Kd.R_below (by (with_reducible repeat (first|apply Kd.R_alloc|apply Kd.R_drewN|apply Kd.R_drew));exact HO_7.out) hb);have n1_:=Aside0.mk (Kd.R_below (by (with_reducible repeat (first|apply Kd.R_alloc|apply Kd.R_drewN|apply Kd.R_drew));exact HO_8.out) hb);have n2_:=Aside0.mk (Kd.R_below (by (with_reducible repeat (first|apply Kd.R_alloc|apply Kd.R_drewN|apply Kd.R_drew));exact HO_9.out) hb);have n3_:=Aside0.mk (Kd.R_below (by (with_reducible repeat (first|apply Kd.R_alloc|apply Kd.R_drewN|apply Kd.R_drew));exact HO_10.out) hb);have n4_:=Aside0.mk (blk_below (g:=gb204) (o:=.cells #[.int .i64 a0_0,.slice A0_1 l0_1.length c0_1] 43 (0,0)) (by (with_reducible repeat (first|refine blk_drewN ?_ _|refine blk_drew ?_|refine blk_alloc ?_ _));exact BK204.out) hb);have n5_:=Aside0.mk (below_step (by repeat (first|(with_reducible first|exact HB.out|apply below_alloc|apply pw_below_drewN|apply below_drew1|refine below_set ?_ GE204.out)|exact HB.out)) hb);have n6_:=Aside0.mk (hbox);have n7_:=Aside0.mk ((by rw [hg];exact (below_size (by repeat (first|(with_reducible first|exact HB.out|apply below_alloc|apply pw_below_drewN|apply below_drew1|refine below_set ?_ GE204.out)|exact HB.out))):w.heap.size≤gb215));have n8_:=Aside0.mk ((by rw [hg];exact (below_size (by repeat (first|(with_reducible first|exact HB.out|apply below_alloc|apply pw_below_drewN|apply below_drew1|refine below_set ?_ GE204.out)|exact HB.out))):w.heap.size≤gb215));have n9_:=Aside0.mk ((by rw [hg];exact Nat.ne_of_lt (blk_lt (g:=gb204) (o:=.cells #[.int .i64 a0_0,.slice A0_1 l0_1.length c0_1] 43 (0,0)) (by (with_reducible repeat (first|refine blk_drewN ?_ _|refine blk_drew ?_|refine blk_alloc ?_ _));exact BK204.out)):gb204 ≠ gb215));have n10_:=Aside0.mk ((by rw [hg];exact Nat.ne_of_gt (blk_lt (g:=gb204) (o:=.cells #[.int .i64 a0_0,.slice A0_1 l0_1.length c0_1] 43 (0,0)) (by (with_reducible repeat (first|refine blk_drewN ?_ _|refine blk_drew ?_|refine blk_alloc ?_ _));exact BK204.out)):gb215 ≠ gb204));clear HO_7;clear HO_8;clear HO_9;clear HO_10;clear BK204;clear HB;have HO_7:=n0_;have HO_8:=n1_;have HO_9:=n2_;have HO_10:=n3_;have BK204:=n4_;have HB:=n5_;have BK215:=n6_;have GW215:=n7_;have GE215:=n8_;have NB204_215:=n9_;have NB215_204:=n10_;clear n0_ n1_ n2_ n3_ n4_ n5_ n6_ n7_ n8_ n9_ n10_;clear hb hbox hg;have hnb29:=NB215_204.out;have hnc29:=NB204_215.out;have hcz30_0:w28.cell? ⟨gb215,0,none⟩=some (.int .i64 0):=(blk_cell BK215.out 0).trans rfl;have hcz30_1:w28.cell? ⟨gb215,1,none⟩=some (.int .i64 0):=(blk_cell BK215.out 1).trans rfl;have hcz30_2:w28.cell? ⟨gb215,2,none⟩=some (.int .i64 0):=(blk_cell BK215.out 2).trans rfl;have hfz30_0:=blk_frozen BK215.out 0;have hfz30_1:=blk_frozen BK215.out 1;have hfz30_2:=blk_frozen BK215.out 2)|((with_reducible refine gate_callee (f:=79) rfl ?_);refine goesL_ (some 34) rfl rfl Try.func79 (by kernel_rfl) rfl #[.slice Ao9 t205.length co9,.int .i64 ((rd_T76 l1 x21_1).f0)] rfl (by (try simp only [List.map_toArray,List.map_cons,List.map_nil]);first|done|rfl|(simp only [List.length_drop,List.length_take];rfl)) ?_;(with_reducible refine (impl_hasInt.calls k1 _ _ t205 ((rd_T76 l1 x21_1).f0) false _ ?side1 ?side2 A14.out).mono ?_);(case side1=>refine (Kd.R_reads' (e:=3) (base:=w.heap.size) (ok:=fun k_=>(some k_ ≠ (v209:Value).ownBlock∧(some k_ ≠ (u9:Value).ownBlock∧some k_ ≠ (u10:Value).ownBlock))) (n:=t205.length) (c:=co9) ?_).2.2;exact (by (with_reducible repeat (first|apply Kd.R_alloc|apply Kd.R_drewN|apply Kd.R_drew));exact (Kd.R_mono (Kd.R_far (p:=⟨gb215,2,none⟩) (Kd.R_far (p:=⟨gb215,1,none⟩) (Kd.R_far (p:=⟨gb215,0,none⟩) (Kd.R_types HO_7.out BK215.out (by decide)) (fun _ hk=>hk.2) (.int .i64 ((rd_T76 l1 x21_1).f0))) (fun _ hk=>hk.2) (.int .i64 ((rd_T76 l1 x21_1).f1))) (fun _ hk=>hk.2) (.int .i64 ((rd_T76 l1 x21_1).f2))) (fun _ h_=>h_.1))));(case side2=>exact (Kd.R_reads' HO_7.out).2.1);rintro e w' ⟨rfl,⟨nd,rfl⟩⟩;refine ⟨_,rfl,?_⟩;obtain ⟨Ao31,co31,eo31⟩:=Kd.R_slice HO_8.out;subst eo31)|((with_reducible refine gate_callee (f:=79) rfl ?_);refine goesL_ (some 39) rfl rfl Try.func79 (by kernel_rfl) rfl #[.slice Ao31 t208.length co31,.int .i64 ((rd_T76 l1 x21_1).f1)] rfl (by (try simp only [List.map_toArray,List.map_cons,List.map_nil]);first|done|rfl|(simp only [List.length_drop,List.length_take];rfl)) ?_;(with_reducible refine (impl_hasInt.calls k1 _ _ t208 ((rd_T76 l1 x21_1).f1) false _ ?side1 ?side2 A19.out).mono ?_);(case side1=>refine (Kd.R_reads' (e:=3) (base:=w.heap.size) (ok:=fun k_=>(some k_ ≠ (.slice Ao9 t205.length co9:Value).ownBlock∧(some k_ ≠ (u9:Value).ownBlock∧some k_ ≠ (u10:Value).ownBlock))) (n:=t208.length) (c:=co31) ?_).2.2;exact (by (with_reducible repeat (first|apply Kd.R_alloc|apply Kd.R_drewN|apply Kd.R_drew));exact (Kd.R_mono (Kd.R_far (p:=⟨gb215,2,none⟩) (Kd.R_far (p:=⟨gb215,1,none⟩) (Kd.R_far (p:=⟨gb215,0,none⟩) (Kd.R_types HO_8.out BK215.out (by decide)) (fun _ hk=>hk.2) (.int .i64 ((rd_T76 l1 x21_1).f0))) (fun _ hk=>hk.2) (.int .i64 ((rd_T76 l1 x21_1).f1))) (fun _ hk=>hk.2) (.int .i64 ((rd_T76 l1 x21_1).f2))) (fun _ h_=>h_.1))));(case side2=>exact (Kd.R_reads' HO_8.out).2.1);rintro e w' ⟨rfl,⟨nd,rfl⟩⟩;refine ⟨_,rfl,?_⟩)|((with_reducible refine gate_builtin (b:=.append) (xs:=#[.tmp 25,.tmp 28]) rfl ?_);at_builtin;refine Kd.R_append (Kd.int .i64) (w0:=w) w.heap.size rfl (.tmp 25) (.tmp 28) 22 3 (.int .i64 0) 8 rfl Try.underlying22 info3 rfl (by decide) (by omega) u9 x9_1 ((rd_T76 l1 x21_1).f0) [.int .i64 ((rd_T76 l1 x21_1).f0)] (fun k_=>some k_ ≠ (.slice Ao9 t205.length co9:Value).ownBlock∧some k_ ≠ (.slice Ao31 t208.length co31:Value).ownBlock∧some k_ ≠ (u10:Value).ownBlock) (fun _=>False) rfl (by first|(go_simp;done)|(go_simp;rfl)) ?aP (fun _ hk=>hk.elim) ?aF ?aO ?aB ?aS ?aL ?_;(case aP=>exact rfl);(case aB=>exact (by repeat (first|(with_reducible first|exact HB.out|apply below_alloc|apply pw_below_drewN|apply below_drew1|refine below_set ?_ GE204.out|refine below_set ?_ GE215.out)|exact HB.out)));(case aF=>exact (fun k_ hk=>⟨Kd.fresh' (Kd.R_lt (by (with_reducible repeat (first|apply Kd.R_alloc|apply Kd.R_drewN|apply Kd.R_drew));exact (Kd.R_mono (Kd.R_far (p:=⟨gb215,2,none⟩) (Kd.R_far (p:=⟨gb215,1,none⟩) (Kd.R_far (p:=⟨gb215,0,none⟩) (Kd.R_types HO_7.out BK215.out (by decide)) (fun _ hk=>hk.2) (.int .i64 ((rd_T76 l1 x21_1).f0))) (fun _ hk=>hk.2) (.int .i64 ((rd_T76 l1 x21_1).f1))) (fun _ hk=>hk.2) (.int .i64 ((rd_T76 l1 x21_1).f2))) (fun _ h_=>h_.1)))) k_ hk,Kd.fresh' (Kd.R_lt (by (with_reducible repeat (first|apply Kd.R_alloc|apply Kd.R_drewN|apply Kd.R_drew));exact (Kd.R_mono (Kd.R_far (p:=⟨gb215,2,none⟩) (Kd.R_far (p:=⟨gb215,1,none⟩) (Kd.R_far (p:=⟨gb215,0,none⟩) (Kd.R_types HO_8.out BK215.out (by decide)) (fun _ hk=>hk.2) (.int .i64 ((rd_T76 l1 x21_1).f0))) (fun _ hk=>hk.2) (.int .i64 ((rd_T76 l1 x21_1).f1))) (fun _ hk=>hk.2) (.int .i64 ((rd_T76 l1 x21_1).f2))) (fun _ h_=>h_.1)))) k_ hk,Kd.fresh' (Kd.R_lt (by (with_reducible repeat (first|apply Kd.R_alloc|apply Kd.R_drewN|apply Kd.R_drew));exact (Kd.R_mono (Kd.R_far (p:=⟨gb215,2,none⟩) (Kd.R_far (p:=⟨gb215,1,none⟩) (Kd.R_far (p:=⟨gb215,0,none⟩) (Kd.R_types HO_10.out BK215.out (by decide)) (fun _ hk=>hk.2) (.int .i64 ((rd_T76 l1 x21_1).f0))) (fun _ hk=>hk.2) (.int .i64 ((rd_T76 l1 x21_1).f1))) (fun _ hk=>hk.2) (.int .i64 ((rd_T76 l1 x21_1).f2))) (fun _ h_=>h_.1)))) k_ hk⟩));(case aO=>exact (by (with_reducible repeat (first|apply Kd.R_alloc|apply Kd.R_drewN|apply Kd.R_drew));exact Kd.R_mono (Kd.R_far (p:=⟨gb215,2,none⟩) (Kd.R_far (p:=⟨gb215,1,none⟩) (Kd.R_far (p:=⟨gb215,0,none⟩) (Kd.R_types HO_9.out BK215.out (by decide)) (fun _ hk=>hk.2) (.int .i64 ((rd_T76 l1 x21_1).f0))) (fun _ hk=>hk.2) (.int .i64 ((rd_T76 l1 x21_1).f1))) (fun _ hk=>hk.2) (.int .i64 ((rd_T76 l1 x21_1).f2))) (fun _ hk=>⟨hk.1.1,⟨hk.1.2.1,hk.1.2.2⟩⟩)));(case aS=>exact (below_size (by repeat (first|(with_reducible first|exact HB.out|apply below_alloc|apply pw_below_drewN|apply below_drew1|refine below_set ?_ GE204.out|refine below_set ?_ GE215.out)|exact HB.out))));(case aL=>have:=LMc27.out;omega);intro v222 w32 ho hb hg hat;rw [← Ny221.out] at ho;have n0_:=Aside0.mk (Kd.R_after (ok:=(fun k_=>some k_ ≠ (.slice Ao31 t208.length co31:Value).ownBlock∧some k_ ≠ (u10:Value).ownBlock)) (by (with_reducible repeat (first|apply Kd.R_alloc|apply Kd.R_drewN|apply Kd.R_drew));exact Kd.R_mono (Kd.R_far (p:=⟨gb215,2,none⟩) (Kd.R_far (p:=⟨gb215,1,none⟩) (Kd.R_far (p:=⟨gb215,0,none⟩) (Kd.R_types HO_7.out BK215.out (by decide)) (fun _ hk=>hk.2) (.int .i64 ((rd_T76 l1 x21_1).f0))) (fun _ hk=>hk.2) (.int .i64 ((rd_T76 l1 x21_1).f1))) (fun _ hk=>hk.2) (.int .i64 ((rd_T76 l1 x21_1).f2))) (fun _ hk=>⟨⟨hk.1.1,hk.1.2.2⟩,hk.1.2.1⟩)) hg hat);have n1_:=Aside0.mk (Kd.R_after (ok:=(fun k_=>some k_ ≠ (.slice Ao9 t205.length co9:Value).ownBlock∧some k_ ≠ (u10:Value).ownBlock)) (by (with_reducible repeat (first|apply Kd.R_alloc|apply Kd.R_drewN|apply Kd.R_drew));exact Kd.R_mono (Kd.R_far (p:=⟨gb215,2,none⟩) (Kd.R_far (p:=⟨gb215,1,none⟩) (Kd.R_far (p:=⟨gb215,0,none⟩) (Kd.R_types HO_8.out BK215.out (by decide)) (fun _ hk=>hk.2) (.int .i64 ((rd_T76 l1 x21_1).f0))) (fun _ hk=>hk.2) (.int .i64 ((rd_T76 l1 x21_1).f1))) (fun _ hk=>hk.2) (.int .i64 ((rd_T76 l1 x21_1).f2))) (fun _ hk=>⟨⟨hk.1.1,hk.1.2.2⟩,hk.1.2.1⟩)) hg hat);have n2_:=Aside0.mk (Kd.R_after (ok:=(fun k_=>some k_ ≠ (.slice Ao9 t205.length co9:Value).ownBlock∧some k_ ≠ (.slice Ao31 t208.length co31:Value).ownBlock)) (by (with_reducible repeat (first|apply Kd.R_alloc|apply Kd.R_drewN|apply Kd.R_drew));exact Kd.R_mono (Kd.R_far (p:=⟨gb215,2,none⟩) (Kd.R_far (p:=⟨gb215,1,none⟩) (Kd.R_far (p:=⟨gb215,0,none⟩) (Kd.R_types HO_10.out BK215.out (by decide)) (fun _ hk=>hk.2) (.int .i64 ((rd_T76 l1 x21_1).f0))) (fun _ hk=>hk.2) (.int .i64 ((rd_T76 l1 x21_1).f1))) (fun _ hk=>hk.2) (.int .i64 ((rd_T76 l1 x21_1).f2))) (fun _ hk=>⟨⟨hk.1.1,hk.1.2.1⟩,hk.1.2.2⟩)) hg hat);have n3_:=Aside0.mk (blk_grown (g:=gb204) (o:=.cells #[.int .i64 a0_0,.slice A0_1 l0_1.length c0_1] 43 (0,0)) (by (with_reducible repeat (first|refine blk_drewN ?_ _|refine blk_drew ?_|refine blk_alloc ?_ _));refine blk_far ?_ NB204_215.out _;(with_reducible repeat (first|refine blk_drewN ?_ _|refine blk_drew ?_|refine blk_alloc ?_ _));refine blk_far ?_ NB204_215.out _;(with_reducible repeat (first|refine blk_drewN ?_ _|refine blk_drew ?_|refine blk_alloc ?_ _));refine blk_far ?_ NB204_215.out _;(with_reducible repeat (first|refine blk_drewN ?_ _|refine blk_drew ?_|refine blk_alloc ?_ _));exact BK204.out) hg (Kd.R_ne HO_9.out BK204.out (by decide)));have n4_:=Aside0.mk (blk_grown (g:=gb215) (o:=.cells #[.int .i64 ((rd_T76 l1 x21_1).f0),.int .i64 ((rd_T76 l1 x21_1).f1),.int .i64 ((rd_T76 l1 x21_1).f2)] 76 (0,0)) (by (with_reducible repeat (first|refine blk_drewN ?_ _|refine blk_drew ?_|refine blk_alloc ?_ _));refine blk_put (cs:=#[.int .i64 ((rd_T76 l1 x21_1).f0),.int .i64 ((rd_T76 l1 x21_1).f1),.int .i64 0]) ?_ 2 _ rfl;(with_reducible repeat (first|refine blk_drewN ?_ _|refine blk_drew ?_|refine blk_alloc ?_ _));refine blk_put (cs:=#[.int .i64 ((rd_T76 l1 x21_1).f0),.int .i64 0,.int .i64 0]) ?_ 1 _ rfl;(with_reducible repeat (first|refine blk_drewN ?_ _|refine blk_drew ?_|refine blk_alloc ?_ _));refine blk_put (cs:=#[.int .i64 0,.int .i64 0,.int .i64 0]) ?_ 0 _ rfl;(with_reducible repeat (first|refine blk_drewN ?_ _|refine blk_drew ?_|refine blk_alloc ?_ _));exact BK215.out) hg (Kd.R_ne HO_9.out BK215.out (by decide)));have n5_:=Aside0.mk (hb);have n6_:=Aside0.mk (ho);clear HO_7;clear HO_8;clear HO_10;clear BK204;clear BK215;clear HB;clear HO_9;have HO_7:=n0_;have HO_8:=n1_;have HO_10:=n2_;have BK204:=n3_;have BK215:=n4_;have HB:=n5_;have HO223:=n6_;clear n0_ n1_ n2_ n3_ n4_ n5_ n6_;clear ho hb hg hat))
         go_roundg k1
         case measure=>have:=HK1.out;omega
         case rel=>exact ⟨(y221),(x10_1),(wrap64 (x21_1+1)),(by first|rfl|(simp;done)|(simp [*];done)),H',⟨by have:=HK1.out;omega⟩,⟨by (with_reducible repeat (first|apply Kd.R_alloc|apply Kd.R_drewN|apply Kd.R_drew));exact Kd.R_mono HO_7.out (fun _ hk=>⟨hk.1.1,⟨hk.2,hk.1.2⟩⟩)⟩,⟨by (with_reducible repeat (first|apply Kd.R_alloc|apply Kd.R_drewN|apply Kd.R_drew));exact Kd.R_mono HO_8.out (fun _ hk=>⟨hk.1.1,⟨hk.2,hk.1.2⟩⟩)⟩,⟨by (with_reducible repeat (first|apply Kd.R_alloc|apply Kd.R_drewN|apply Kd.R_drew));exact HO223.out⟩,⟨by (with_reducible repeat (first|apply Kd.R_alloc|apply Kd.R_drewN|apply Kd.R_drew));exact Kd.R_mono HO_10.out (fun _ hk=>⟨hk.1.1,⟨hk.1.2,hk.2⟩⟩)⟩,⟨by (with_reducible repeat (first|refine blk_drewN ?_ _|refine blk_drew ?_|refine blk_alloc ?_ _));exact BK204.out⟩,⟨by repeat (first|(with_reducible first|exact HB.out|apply below_alloc|apply pw_below_drewN|apply below_drew1|refine below_set ?_ GE204.out|refine below_set ?_ GE215.out)|exact HB.out)⟩⟩
        ·rw [if_neg c27] at H
         exact absurd H (by simp)
     ·rw [if_neg c13] at H
      exact absurd H (by simp)
    ·rw [if_neg c12] at H
     exact absurd H (by simp)
   ·rw [if_neg c11] at H
    have c11b0:decide (x21_1 < (l1.length:Int))=false:=decide_eq_false c11
    clear c11
    by_cases c33:x9_1.length+x10_1.length < 17592186044416
    ·rw [if_pos c33] at H
     have LMc33:=Aside0.mk c33
     clear c33
     obtain ⟨y211,hy211⟩ : ∃ y_:List Int,y_=(x9_1 ++ x10_1):=⟨_,rfl⟩
     replace H:(some y211)=some r:=by first|(rw [hy211];with_reducible exact H)|(have H2_:=(Option.bind_some _ _).symm.trans H;rw [hy211];with_reducible exact H2_)|(have H2_:=(Option.bind_some _ _).symm.trans H;with_reducible exact H2_)|with_reducible exact H|(rw [hy211];exact H)|exact H
     have Ny211:=Aside0.mk hy211
     clear hy211
     obtain rfl:=Option.some.inj H
     obtain ⟨Ao35,co35,eo35⟩:=Kd.R_slice HO_10.out
     subst eo35
     go_wp2_with (first|((with_reducible refine gate_builtin (b:=.append) (xs:=#[.tmp 46,.tmp 47]) rfl ?_);at_builtin;refine Kd.R_append_rows (Kd.int .i64) (w0:=w) w.heap.size rfl (.tmp 46) (.tmp 47) 22 3 (.int .i64 0) 8 rfl Try.underlying22 info3 rfl (by decide) (by omega) u9 x9_1 x10_1 _ _ _ (fun k_=>some k_ ≠ (.slice Ao9 t205.length co9:Value).ownBlock∧some k_ ≠ (v209:Value).ownBlock∧some k_ ≠ (.slice Ao35 x10_1.length co35:Value).ownBlock) (fun _=>False) rfl rfl ?aO ?aR (fun _ _ h=>h) (fun _ h=>h.elim) ?aF ?aB ?aS ?aL ?_;(case aR=>repeat (first|exact (Kd.R_reads' HO_10.out).2.2|(with_reducible refine Kd.C_alloc ?_ _)|(with_reducible refine Kd.C_drewN ?_ _)|(with_reducible refine Kd.C_drew ?_)));(case aB=>exact (by repeat (first|(with_reducible first|exact HB.out|apply below_alloc|apply pw_below_drewN|apply below_drew1|refine below_set ?_ GE204.out)|exact HB.out)));(case aF=>exact (fun k_ hk=>⟨Kd.fresh' (Kd.R_lt (by (with_reducible repeat (first|apply Kd.R_alloc|apply Kd.R_drewN|apply Kd.R_drew));exact HO_7.out)) k_ hk,Kd.fresh' (Kd.R_lt (by (with_reducible repeat (first|apply Kd.R_alloc|apply Kd.R_drewN|apply Kd.R_drew));exact HO_8.out)) k_ hk,Kd.fresh' (Kd.R_lt (by (with_reducible repeat (first|apply Kd.R_alloc|apply Kd.R_drewN|apply Kd.R_drew));exact HO_10.out)) k_ hk⟩));(case aO=>exact (by (with_reducible repeat (first|apply Kd.R_alloc|apply Kd.R_drewN|apply Kd.R_drew));exact HO_9.out));(case aS=>exact (below_size (by repeat (first|(with_reducible first|exact HB.out|apply below_alloc|apply pw_below_drewN|apply below_drew1|refine below_set ?_ GE204.out)|exact HB.out))));(case aL=>have:=LMc33.out;omega);intro v212 w34 ho hb hg hat;rw [← Ny211.out] at ho;have n0_:=Aside0.mk (Kd.R_after (ok:=(fun k_=>some k_ ≠ (v209:Value).ownBlock∧some k_ ≠ (.slice Ao35 x10_1.length co35:Value).ownBlock)) (by (with_reducible repeat (first|apply Kd.R_alloc|apply Kd.R_drewN|apply Kd.R_drew));exact Kd.R_mono HO_7.out (fun _ hk=>⟨⟨hk.1,hk.2.2⟩,hk.2.1⟩)) hg hat);have n1_:=Aside0.mk (Kd.R_after (ok:=(fun k_=>some k_ ≠ (.slice Ao9 t205.length co9:Value).ownBlock∧some k_ ≠ (.slice Ao35 x10_1.length co35:Value).ownBlock)) (by (with_reducible repeat (first|apply Kd.R_alloc|apply Kd.R_drewN|apply Kd.R_drew));exact Kd.R_mono HO_8.out (fun _ hk=>⟨⟨hk.1,hk.2.2⟩,hk.2.1⟩)) hg hat);have n2_:=Aside0.mk (Kd.R_after (ok:=(fun k_=>some k_ ≠ (.slice Ao9 t205.length co9:Value).ownBlock∧some k_ ≠ (v209:Value).ownBlock)) (by (with_reducible repeat (first|apply Kd.R_alloc|apply Kd.R_drewN|apply Kd.R_drew));exact Kd.R_mono HO_10.out (fun _ hk=>⟨⟨hk.1,hk.2.1⟩,hk.2.2⟩)) hg hat);have n3_:=Aside0.mk (blk_grown (g:=gb204) (o:=.cells #[.int .i64 a0_0,.slice A0_1 l0_1.length c0_1] 43 (0,0)) (by (with_reducible repeat (first|refine blk_drewN ?_ _|refine blk_drew ?_|refine blk_alloc ?_ _));exact BK204.out) hg (Kd.R_ne HO_9.out BK204.out (by decide)));have n4_:=Aside0.mk (hb);have n5_:=Aside0.mk (ho);clear HO_7;clear HO_8;clear HO_10;clear BK204;clear HB;clear HO_9;have HO_7:=n0_;have HO_8:=n1_;have HO_10:=n2_;have BK204:=n3_;have HB:=n4_;have HO213:=n5_;clear n0_ n1_ n2_ n3_ n4_ n5_;clear ho hb hg hat))
     go_ret
     exact ⟨_,by first|rfl|(simp [errW_none,errW_some] <;> rfl)|(simp [*,errW_none,errW_some] <;> rfl),by (with_reducible repeat (first|apply Kd.R_alloc|apply Kd.R_drewN|apply Kd.R_drew));exact Kd.R_mono HO213.out (fun _ hk=>trivial),by repeat (first|(with_reducible first|exact HB.out|apply below_alloc|apply pw_below_drewN|apply below_drew1|refine below_set ?_ GE204.out)|exact HB.out)⟩
    ·rw [if_neg c33] at H
     exact absurd H (by simp)
def IsS142 (w0 W:World) (g:Nat) (f0:List Int) (f1:Int) (f2:Int):Prop:=∃ A0 c0,W.heap[g]?=some (.cells #[.slice A0 f0.length c0,.int .i64 f1,.int .i64 f2] 142 (0,0))∧w0.heap.size≤g∧Kd.C (Kd.int .u8) w0 A0 f0.length f0
theorem IsS142.grown {w0 W:World} {g:Nat} {f0:List Int} {f1:Int} {f2:Int} {W1:World} {row:Option Nat} (h:IsS142 w0 W g f0 f1 f2) (hw:W.grownBy W1 row) (hne:some g ≠ row):IsS142 w0 W1 g f0 f1 f2:=by
 obtain ⟨A0,c0,hb,hg,hr0⟩:=h
 exact ⟨A0,c0,blk_grown hb hw hne,hg,hr0⟩
theorem IsS142.kept {w0 W:World} {g:Nat} {f0:List Int} {f1:Int} {f2:Int} {W1:World} {S:Nat→Prop} (h:IsS142 w0 W g f0 f1 f2) (hk:Kept W W1 S) (hne : ¬ S g):IsS142 w0 W1 g f0 f1 f2:=by
 obtain ⟨A0,c0,hb,hg,hr0⟩:=h
 exact ⟨A0,c0,blk_kept hb hk hne,hg,hr0⟩
theorem IsS142.below {w0 W:World} {g:Nat} {f0:List Int} {f1:Int} {f2:Int} {W1:World} (h:IsS142 w0 W g f0 f1 f2) (hw:Below W.heap.size W W1):IsS142 w0 W1 g f0 f1 f2:=h.grown (grown_of_below hw none) (by simp)
theorem IsS142.alloc {w0 W:World} {g:Nat} {f0:List Int} {f1:Int} {f2:Int} (h:IsS142 w0 W g f0 f1 f2) (o:Obj):IsS142 w0 (W.alloc o) g f0 f1 f2:=h.below (below_alloc (Below.refl _ _) o)
theorem IsS142.drewN {w0 W:World} {g:Nat} {f0:List Int} {f1:Int} {f2:Int} (h:IsS142 w0 W g f0 f1 f2) (m:Nat):IsS142 w0 (W.drewN m) g f0 f1 f2:=h
theorem IsS142.drew {w0 W:World} {g:Nat} {f0:List Int} {f1:Int} {f2:Int} (h:IsS142 w0 W g f0 f1 f2):IsS142 w0 W.drew g f0 f1 f2:=h
theorem IsS142.apart {w0 W:World} {g:Nat} {f0:List Int} {f1:Int} {f2:Int} {α:Type} {d:Kd α} {e:Nat} {base:Nat} {ok:Nat→Prop} {v:Value} {xs:List α} (h:IsS142 w0 W g f0 f1 f2) (ho:d.R e W base ok v xs) (ht : ∀ q,q∈e :: d.E→q ≠ 142):d.R e W base (fun k=>ok k∧k ≠ g) v xs:=by
 obtain ⟨A0,c0,hb,hg,hr0⟩:=h
 exact Kd.R_types ho hb ht
theorem IsS142.own_ne {w0 W:World} {g:Nat} {f0:List Int} {f1:Int} {f2:Int} {α:Type} {d:Kd α} {e:Nat} {base:Nat} {ok:Nat→Prop} {v:Value} {xs:List α} (h:IsS142 w0 W g f0 f1 f2) (ho:d.R e W base ok v xs) (ht:e ≠ 142):some g ≠ v.ownBlock:=by
 obtain ⟨A0,c0,hb,hg,hr0⟩:=h
 exact Kd.R_ne ho hb ht
theorem IsS142.apartS {w0 W:World} {g:Nat} {f0:List Int} {f1:Int} {f2:Int} {α:Type} {d:Kd α} {e:Nat} {base:Nat} {ok:Nat→Prop} {v:Value} {xs:List α} (h:IsS142 w0 W g f0 f1 f2) (ho:d.S e W base ok v xs) (ht : ∀ q,q∈e :: d.E→q ≠ 142):d.S e W base (fun k=>ok k∧k ≠ g) v xs:=by
 obtain ⟨A0,c0,hb,hg,hr0⟩:=h
 exact Kd.S_types ho hb ht
theorem IsS142.own_neS {w0 W:World} {g:Nat} {f0:List Int} {f1:Int} {f2:Int} {α:Type} {d:Kd α} {e:Nat} {base:Nat} {ok:Nat→Prop} {v:Value} {xs:List α} (h:IsS142 w0 W g f0 f1 f2) (ho:d.S e W base ok v xs) (ht:e ≠ 142):some g ≠ v.ownBlock:=by
 obtain ⟨A0,c0,hb,hg,hr0⟩:=h
 exact Kd.S_ne ho hb ht
theorem IsS142.lt {w0 W:World} {g:Nat} {f0:List Int} {f1:Int} {f2:Int} (h:IsS142 w0 W g f0 f1 f2):g < W.heap.size:=by
 obtain ⟨A0,c0,hb,hg,hr0⟩:=h
 exact blk_lt hb
theorem IsS142.ge {w0 W:World} {g:Nat} {f0:List Int} {f1:Int} {f2:Int} (h:IsS142 w0 W g f0 f1 f2):w0.heap.size≤g:=by
 obtain ⟨A0,c0,hb,hg,hr0⟩:=h
 exact hg
theorem IsS142.ne_blk {w0 W:World} {g:Nat} {f0:List Int} {f1:Int} {f2:Int} {a:Nat} {cs:Array Value} {t:TypeId} {fr:Nat × Nat} (h:IsS142 w0 W g f0 f1 f2) (hb2:W.heap[a]?=some (.cells cs t fr)) (ht:t ≠ 142):g ≠ a:=by
 obtain ⟨A0,c0,hb,hg,hr0⟩:=h
 rintro rfl
 rw [hb] at hb2
 injection hb2 with hb2
 injection hb2 with _ ht2
 exact ht ht2.symm
theorem IsS142.far {w0 W:World} {g:Nat} {f0:List Int} {f1:Int} {f2:Int} {p:Addr} (h:IsS142 w0 W g f0 f1 f2) (hne:g ≠ p.block) (u:Value):IsS142 w0 (W.setCell p u) g f0 f1 f2:=by
 obtain ⟨A0,c0,hb,hg,hr0⟩:=h
 exact ⟨A0,c0,blk_far hb hne u,hg,hr0⟩
theorem cellS142_0 {W:World} {g:Nat} {A0:Option Addr} {c0:Nat} {f0:List Int} {f1:Int} {f2:Int} (h:W.heap[g]?=some (.cells #[.slice A0 f0.length c0,.int .i64 f1,.int .i64 f2] 142 (0,0))):W.cell? ⟨g,0,none⟩=some (.slice A0 f0.length c0):=(blk_cell h 0).trans rfl
theorem cellS142_1 {W:World} {g:Nat} {A0:Option Addr} {c0:Nat} {f0:List Int} {f1:Int} {f2:Int} (h:W.heap[g]?=some (.cells #[.slice A0 f0.length c0,.int .i64 f1,.int .i64 f2] 142 (0,0))):W.cell? ⟨g,1,none⟩=some (.int .i64 f1):=(blk_cell h 1).trans rfl
theorem IsS142.set_1 {w0 W:World} {g:Nat} {f0:List Int} {f1:Int} {f2:Int} (h:IsS142 w0 W g f0 f1 f2) (x:Int):IsS142 w0 (W.setCell ⟨g,1,none⟩ (.int .i64 x)) g f0 x f2:=by
 obtain ⟨A0,c0,hb,hg,hr0⟩:=h
 exact ⟨A0,c0,by simpa using blk_set hb 1 (.int .i64 x),hg,hr0⟩
theorem cellS142_2 {W:World} {g:Nat} {A0:Option Addr} {c0:Nat} {f0:List Int} {f1:Int} {f2:Int} (h:W.heap[g]?=some (.cells #[.slice A0 f0.length c0,.int .i64 f1,.int .i64 f2] 142 (0,0))):W.cell? ⟨g,2,none⟩=some (.int .i64 f2):=(blk_cell h 2).trans rfl
theorem IsS142.set_2 {w0 W:World} {g:Nat} {f0:List Int} {f1:Int} {f2:Int} (h:IsS142 w0 W g f0 f1 f2) (x:Int):IsS142 w0 (W.setCell ⟨g,2,none⟩ (.int .i64 x)) g f0 f1 x:=by
 obtain ⟨A0,c0,hb,hg,hr0⟩:=h
 exact ⟨A0,c0,by simpa using blk_set hb 2 (.int .i64 x),hg,hr0⟩
def spec_l1New.l0:Nat→List Int→Int→Int→Option (List Int × Int × Int)
 | 0,_,_,_=>none
 | k+1,x0,x3,x4=>if x4 < (x0.length:Int) then (if x4 < 4000 then (if 0≤x4 then (spec_l1New.l0 k x0 (Go.bits .and .i64 (wrap64 ((wrap64 ((wrap64 (x3 * 137))+(wrap64 (rd x0 x4))))+11)) 1073741823) (wrap64 (x4+1))) else (none)) else (some (x0,0,x3))) else (some (x0,0,x3))
def spec_l1New.f (k:Nat) (l0:List Int):Option (List Int × Int × Int):=spec_l1New.l0 k l0 (wrap64 (378378+(l0.length:Int))) 0
set_option maxHeartbeats 8000000 in
set_option maxRecDepth 100000 in
theorem spec_l1New.calls (k:Nat) (A0:Option Addr) (c0:Nat) (l0:List Int) (r1:List Int) (r2:Int) (r3:Int) (w0 w:World) (hB:Below w0.heap.size w0 w) (hr0:Kd.C (Kd.int .u8) w0 A0 l0.length l0) (hc0:l0.length≤c0) (h:spec_l1New.f k l0=some (r1,r2,r3)) :
  Calls Try.prog 103 #[.slice A0 l0.length c0] w fun e w'=>∃ g_:Nat,e = .returned (.pointer (some ⟨g_,0,none⟩))∧IsS142 w0 w' g_ r1 r2 r3∧Below w0.heap.size w0 w' ∧ Below w.heap.size w w':=by
 have hu142:=Try.underlying142
 have HR0:=Aside0.mk hr0
 have HC0:=Aside0.mk hc0
 clear hr0 hc0
 have HBW:=Aside0.mk (Below.refl w.heap.size w)
 have HW0:=Aside0.mk hB.size
 have HB:=Aside0.mk hB
 clear hB
 have H:(spec_l1New.l0 k l0 (wrap64 (378378+(l0.length:Int))) 0)=some (r1,r2,r3):=h
 clear h
 have H':=Aside0.mk H
 clear H
 go_enter Try.func103,Try.ntmps103
 go_wp2
 go_loopg [3,4] k (fun kq v3 v4 w'=>∃ (x3_1:Int) (x4_1:Int),v3 = .int .i64 x3_1∧v4 = .int .i64 x4_1∧Aside0 (spec_l1New.l0 kq l0 x3_1 x4_1=some (r1,r2,r3))∧Aside0 (kq≤k)∧Aside0 (Below w0.heap.size w0 w')∧Aside0 (Below w.heap.size w w'))
 case atStart=>exact ⟨(wrap64 (378378+(l0.length:Int))),(0),(by first|rfl|(simp;done)|(simp [*];done)),(by first|rfl|(simp;done)|(simp [*];done)),H',⟨Nat.le_refl _⟩,⟨by repeat (first|(with_reducible first|exact HB.out|apply below_alloc|apply pw_below_drewN|apply below_drew1)|exact HB.out)⟩,⟨by repeat (first|(with_reducible first|exact HBW.out|apply below_alloc|apply pw_below_drewN|apply below_drew1)|exact HBW.out)⟩⟩
 case round=>
  clear H'
  try clear c1
  obtain ⟨x3_1,x4_1,rfl,rfl,HA,HK1,HB,HBW⟩:=hrel
  cases gk with
  | zero=>exact absurd HA.out (by simp [spec_l1New.l0])
  | succ k1=>
   have H:=HA.out
   clear HA
   simp only [spec_l1New.l0] at H
   by_cases c2:x4_1 < (l0.length:Int)
   ·rw [if_pos c2] at H
    have c2b0:decide (x4_1 < (l0.length:Int))=true:=decide_eq_true c2
    clear c2
    by_cases c3:x4_1 < 4000
    ·rw [if_pos c3] at H
     have c3b0:decide (x4_1 < 4000)=true:=decide_eq_true c3
     clear c3
     by_cases c4:0≤x4_1
     ·rw [if_pos c4] at H
      have c4b0:decide (0≤x4_1)=true:=decide_eq_true c4
      clear c4
      have H':=Aside0.mk H
      clear H
      have p224:0≤(x4_1:Int):=of_decide_eq_true (by first|(with_reducible assumption)|assumption)
      have q224:x4_1 < (l0.length:Int):=of_decide_eq_true (by first|(with_reducible assumption)|assumption)
      obtain ⟨ad224,e224,hx224_0⟩:=Kd.at_int HR0.out x4_1 p224 q224
      cases e224
      replace hx224_0:=pw_cell_below HB.out hx224_0
      replace p224:=eq_true p224
      replace q224:=eq_true q224
      go_wp2
      go_roundg k1
      case measure=>have:=HK1.out;omega
      case rel=>exact ⟨(Go.bits .and .i64 (wrap64 ((wrap64 ((wrap64 (x3_1 * 137))+(wrap64 (rd l0 x4_1))))+11)) 1073741823),(wrap64 (x4_1+1)),(by first|rfl|(simp;done)|(simp [*];done)),(by first|rfl|(simp;done)|(simp [*];done)),H',⟨by have:=HK1.out;omega⟩,⟨by repeat (first|(with_reducible first|exact HB.out|apply below_alloc|apply pw_below_drewN|apply below_drew1)|exact HB.out)⟩,⟨by repeat (first|(with_reducible first|exact HBW.out|apply below_alloc|apply pw_below_drewN|apply below_drew1)|exact HBW.out)⟩⟩
     ·rw [if_neg c4] at H
      exact absurd H (by simp)
    ·rw [if_neg c3] at H
     have c3b0:decide (x4_1 < 4000)=false:=decide_eq_false c3
     clear c3
     simp only [Option.some.injEq,Prod.mk.injEq] at H
     obtain ⟨rfl,rfl,rfl⟩:=H
     go_wp2_with (first|((with_reducible refine gate_dst (N:=31) rfl ?_);refine box_event ?hg (N:=31) ?hd (cs:=#[.slice A0 l0.length c0,.int .i64 0,.int .i64 x3_1]) (t:=142) ?hr ?_;(case hd=>rfl);(case hg=>rfl);(case hr=>first|(go_simp;done)|(go_simp;rfl));intro gb225 hg w5 hbox hb;have n0_:=Aside0.mk (below_step HBW.out hb);have n1_:=Aside0.mk (below_step (by repeat (first|(with_reducible first|exact HB.out|apply below_alloc|apply pw_below_drewN|apply below_drew1)|exact HB.out)) hb);have n2_:=Aside0.mk (hbox);have n3_:=Aside0.mk ((by rw [hg];exact (below_size (by repeat (first|(with_reducible first|exact HBW.out|apply below_alloc|apply pw_below_drewN|apply below_drew1)|exact HBW.out))):w.heap.size≤gb225));have n4_:=Aside0.mk ((Nat.le_trans HW0.out (by rw [hg];exact (below_size (by repeat (first|(with_reducible first|exact HBW.out|apply below_alloc|apply pw_below_drewN|apply below_drew1)|exact HBW.out))):w.heap.size≤gb225):w0.heap.size≤gb225));clear HBW;clear HB;have HBW:=n0_;have HB:=n1_;have BK225:=n2_;have GW225:=n3_;have GE225:=n4_;clear n0_ n1_ n2_ n3_ n4_;clear hb hbox hg))
     go_ret
     exact ⟨_,rfl,(show IsS142 w0 _ gb225 l0 0 x3_1 from ⟨_,_,by (with_reducible repeat (first|refine blk_drewN ?_ _|refine blk_drew ?_|refine blk_alloc ?_ _));exact BK225.out,GE225.out,HR0.out⟩),by repeat (first|(with_reducible first|exact HB.out|apply below_alloc|apply pw_below_drewN|apply below_drew1|refine below_set ?_ GE225.out)|exact HB.out),by repeat (first|(with_reducible first|exact HBW.out|apply below_alloc|apply pw_below_drewN|apply below_drew1|refine below_set ?_ GW225.out)|exact HBW.out)⟩
   ·rw [if_neg c2] at H
    have c2b0:decide (x4_1 < (l0.length:Int))=false:=decide_eq_false c2
    clear c2
    simp only [Option.some.injEq,Prod.mk.injEq] at H
    obtain ⟨rfl,rfl,rfl⟩:=H
    go_wp2_with (first|((with_reducible refine gate_dst (N:=31) rfl ?_);refine box_event ?hg (N:=31) ?hd (cs:=#[.slice A0 l0.length c0,.int .i64 0,.int .i64 x3_1]) (t:=142) ?hr ?_;(case hd=>rfl);(case hg=>rfl);(case hr=>first|(go_simp;done)|(go_simp;rfl));intro gb226 hg w6 hbox hb;have n0_:=Aside0.mk (below_step HBW.out hb);have n1_:=Aside0.mk (below_step (by repeat (first|(with_reducible first|exact HB.out|apply below_alloc|apply pw_below_drewN|apply below_drew1)|exact HB.out)) hb);have n2_:=Aside0.mk (hbox);have n3_:=Aside0.mk ((by rw [hg];exact (below_size (by repeat (first|(with_reducible first|exact HBW.out|apply below_alloc|apply pw_below_drewN|apply below_drew1)|exact HBW.out))):w.heap.size≤gb226));have n4_:=Aside0.mk ((Nat.le_trans HW0.out (by rw [hg];exact (below_size (by repeat (first|(with_reducible first|exact HBW.out|apply below_alloc|apply pw_below_drewN|apply below_drew1)|exact HBW.out))):w.heap.size≤gb226):w0.heap.size≤gb226));clear HBW;clear HB;have HBW:=n0_;have HB:=n1_;have BK226:=n2_;have GW226:=n3_;have GE226:=n4_;clear n0_ n1_ n2_ n3_ n4_;clear hb hbox hg))
    go_ret
    exact ⟨_,rfl,(show IsS142 w0 _ gb226 l0 0 x3_1 from ⟨_,_,by (with_reducible repeat (first|refine blk_drewN ?_ _|refine blk_drew ?_|refine blk_alloc ?_ _));exact BK226.out,GE226.out,HR0.out⟩),by repeat (first|(with_reducible first|exact HB.out|apply below_alloc|apply pw_below_drewN|apply below_drew1|refine below_set ?_ GE226.out)|exact HB.out),by repeat (first|(with_reducible first|exact HBW.out|apply below_alloc|apply pw_below_drewN|apply below_drew1|refine below_set ?_ GW226.out)|exact HBW.out)⟩
def spec_l1Byte.f (s0_0:List Int) (s0_1:Int) (s0_2:Int):Option (Int × Int × Int):=if s0_1 < (s0_0.length:Int) then (if 0≤s0_1 then (some (Go.bits .and .i64 (wrap64 ((Go.bits .and .i64 (Go.bits .xor .i64 ((wrap64 ((wrap64 (s0_2 * 6364136223846793005))+1442695040888963407)) / 8589934592) ((wrap64 ((wrap64 (s0_2 * 6364136223846793005))+1442695040888963407)) / 140737488355328)) 255)+(wrap64 (rd s0_0 s0_1)))) 255,wrap64 (s0_1+1),wrap64 ((wrap64 (s0_2 * 6364136223846793005))+1442695040888963407))) else (none)) else (some (Go.bits .and .i64 (Go.bits .xor .i64 ((wrap64 ((wrap64 (s0_2 * 6364136223846793005))+1442695040888963407)) / 8589934592) ((wrap64 ((wrap64 (s0_2 * 6364136223846793005))+1442695040888963407)) / 140737488355328)) 255,s0_1,wrap64 ((wrap64 (s0_2 * 6364136223846793005))+1442695040888963407)))
set_option maxHeartbeats 8000000 in
set_option maxRecDepth 100000 in
theorem spec_l1Byte.calls (g:Nat) (s0_0:List Int) (s0_1:Int) (s0_2:Int) (r1:Int) (r2:Int) (r3:Int) (w0 w:World) (hI:IsS142 w0 w g s0_0 s0_1 s0_2) (hB:Below w0.heap.size w0 w) (h:spec_l1Byte.f s0_0 s0_1 s0_2=some (r1,r2,r3)) :
  Calls Try.prog 126 #[.pointer (some ⟨g,0,none⟩)] w fun e w'=>e = .returned (.int .i64 r1)∧IsS142 w0 w' g s0_0 r2 r3∧Below w0.heap.size w0 w' ∧ KeepBut w w' g none:=by
 have HI0:=Aside0.mk hI
 have HK:=Aside0.mk (KeepBut.refl w g none)
 have HL:=Aside0.mk hB.size
 clear hI
 have HW0:=Aside0.mk hB.size
 have HB:=Aside0.mk hB
 clear hB
 have H:(if s0_1 < (s0_0.length:Int) then (if 0≤s0_1 then (some (Go.bits .and .i64 (wrap64 ((Go.bits .and .i64 (Go.bits .xor .i64 ((wrap64 ((wrap64 (s0_2 * 6364136223846793005))+1442695040888963407)) / 8589934592) ((wrap64 ((wrap64 (s0_2 * 6364136223846793005))+1442695040888963407)) / 140737488355328)) 255)+(wrap64 (rd s0_0 s0_1)))) 255,wrap64 (s0_1+1),wrap64 ((wrap64 (s0_2 * 6364136223846793005))+1442695040888963407))) else (none)) else (some (Go.bits .and .i64 (Go.bits .xor .i64 ((wrap64 ((wrap64 (s0_2 * 6364136223846793005))+1442695040888963407)) / 8589934592) ((wrap64 ((wrap64 (s0_2 * 6364136223846793005))+1442695040888963407)) / 140737488355328)) 255,s0_1,wrap64 ((wrap64 (s0_2 * 6364136223846793005))+1442695040888963407))))=some (r1,r2,r3):=h
 clear h
 by_cases c2:s0_1 < (s0_0.length:Int)
 ·rw [if_pos c2] at H
  have c2b0:decide (s0_1 < (s0_0.length:Int))=true:=decide_eq_true c2
  clear c2
  by_cases c3:0≤s0_1
  ·rw [if_pos c3] at H
   have c3b0:decide (0≤s0_1)=true:=decide_eq_true c3
   clear c3
   simp only [Option.some.injEq,Prod.mk.injEq] at H
   obtain ⟨rfl,rfl,rfl⟩:=H
   obtain ⟨ASz4_0,cSz4_0,HGz4,hgz4,HSz4_0⟩:=HI0.out
   have hcz4_0:=cellS142_0 HGz4
   have hcz4_1:=cellS142_1 HGz4
   have hcz4_2:=cellS142_2 HGz4
   have hfz4_1:=blk_frozen HGz4 1
   have hfz4_2:=blk_frozen HGz4 2
   clear HGz4 hgz4
   have p227:0≤(s0_1:Int):=of_decide_eq_true (by first|(with_reducible assumption)|assumption)
   have q227:s0_1 < (s0_0.length:Int):=of_decide_eq_true (by first|(with_reducible assumption)|assumption)
   obtain ⟨ad227,e227,hx227_0⟩:=Kd.at_int HSz4_0 s0_1 p227 q227
   cases e227
   have hn227_0:ad227.block ≠ g:=Nat.ne_of_lt (Nat.lt_of_lt_of_le (by have:=World.block_lt_of_cell? _ _ hx227_0;first|rwa [add_block] at this|exact this) (IsS142.ge HI0.out))
   replace hx227_0:=pw_cell_below HB.out hx227_0
   replace hx227_0:=(cell_far (p:=⟨g,2,none⟩) (by first|(rw [add_block];exact hn227_0)|(show (Addr.add _ _).block ≠ _;rw [add_block];exact hn227_0)|exact hn227_0) (.int .i64 (wrap64 ((wrap64 (s0_2 * 6364136223846793005))+1442695040888963407)))).trans hx227_0
   (try have hy227_0:=fun (n_:Nat)=>(show (((w.drewN n_).setCell ⟨g,2,none⟩ (.int .i64 (wrap64 ((wrap64 (s0_2 * 6364136223846793005))+1442695040888963407))))).cell? _=some _ from hx227_0))
   clear hn227_0
   replace p227:=eq_true p227
   replace q227:=eq_true q227
   go_enter Try.func126,Try.ntmps126
   go_wp2
   repeat (go_quiet (fail);try go_wp2)
   go_ret
   exact ⟨by first|rfl|(simp [errW_none,errW_some] <;> rfl)|(simp [*,errW_none,errW_some] <;> rfl),by repeat (first|(with_reducible first|exact HI0.out|apply IsS142.alloc|apply IsS142.drewN|apply IsS142.drew|apply IsS142.set_1|apply IsS142.set_2)|exact HI0.out),by repeat (first|(with_reducible first|exact HB.out|apply below_alloc|apply pw_below_drewN|apply below_drew1|refine below_set ?_ (IsS142.ge HI0.out))|exact HB.out),by repeat (first|(with_reducible first|exact HK.out|apply KeepBut.set_|apply keep_drewN|apply keep_drew|apply keep_alloc)|exact HK.out)⟩
  ·rw [if_neg c3] at H
   exact absurd H (by simp)
 ·rw [if_neg c2] at H
  have c2b0:decide (s0_1 < (s0_0.length:Int))=false:=decide_eq_false c2
  clear c2
  simp only [Option.some.injEq,Prod.mk.injEq] at H
  obtain ⟨rfl,rfl,rfl⟩:=H
  obtain ⟨ASz5_0,cSz5_0,HGz5,hgz5,HSz5_0⟩:=HI0.out
  have hcz5_0:=cellS142_0 HGz5
  have hcz5_1:=cellS142_1 HGz5
  have hcz5_2:=cellS142_2 HGz5
  have hfz5_1:=blk_frozen HGz5 1
  have hfz5_2:=blk_frozen HGz5 2
  clear HGz5 hgz5
  go_enter Try.func126,Try.ntmps126
  go_wp2
  repeat (go_quiet (fail);try go_wp2)
  go_ret
  exact ⟨by first|rfl|(simp [errW_none,errW_some] <;> rfl)|(simp [*,errW_none,errW_some] <;> rfl),by repeat (first|(with_reducible first|exact HI0.out|apply IsS142.alloc|apply IsS142.drewN|apply IsS142.drew|apply IsS142.set_1|apply IsS142.set_2)|exact HI0.out),by repeat (first|(with_reducible first|exact HB.out|apply below_alloc|apply pw_below_drewN|apply below_drew1|refine below_set ?_ (IsS142.ge HI0.out))|exact HB.out),by repeat (first|(with_reducible first|exact HK.out|apply KeepBut.set_|apply keep_drewN|apply keep_drew|apply keep_alloc)|exact HK.out)⟩
def spec_l1Below.f (s0_0:List Int) (s0_1:Int) (s0_2:Int) (a1:Int):Option (Int × Int × Int):=if a1≤0 then (some (0,s0_1,s0_2)) else (if a1≤256 then ((spec_l1Byte.f s0_0 s0_1 s0_2).bind fun bt228=>(if a1=0 then (none) else (some (Int.tmod bt228.1 a1,bt228.2.1,bt228.2.2)))) else ((spec_l1Byte.f s0_0 s0_1 s0_2).bind fun bt231=>((spec_l1Byte.f s0_0 bt231.2.1 bt231.2.2).bind fun bt234=>((spec_l1Byte.f s0_0 bt234.2.1 bt234.2.2).bind fun bt237=>(if a1=0 then (none) else (some (Int.tmod (wrap64 ((wrap64 ((wrap64 (bt231.1 * 65536))+(wrap64 (bt234.1 * 256))))+bt237.1)) a1,bt237.2.1,bt237.2.2)))))))
set_option maxHeartbeats 8000000 in
set_option maxRecDepth 100000 in
theorem spec_l1Below.calls (g:Nat) (s0_0:List Int) (s0_1:Int) (s0_2:Int) (a1:Int) (r1:Int) (r2:Int) (r3:Int) (w0 w:World) (hI:IsS142 w0 w g s0_0 s0_1 s0_2) (hB:Below w0.heap.size w0 w) (h:spec_l1Below.f s0_0 s0_1 s0_2 a1=some (r1,r2,r3)) :
  Calls Try.prog 105 #[.pointer (some ⟨g,0,none⟩),.int .i64 a1] w fun e w'=>e = .returned (.int .i64 r1)∧IsS142 w0 w' g s0_0 r2 r3∧Below w0.heap.size w0 w' ∧ KeepBut w w' g none:=by
 have HI0:=Aside0.mk hI
 have HK:=Aside0.mk (KeepBut.refl w g none)
 have HL:=Aside0.mk hB.size
 clear hI
 have HW0:=Aside0.mk hB.size
 have HB:=Aside0.mk hB
 clear hB
 have H:(if a1≤0 then (some (0,s0_1,s0_2)) else (if a1≤256 then ((spec_l1Byte.f s0_0 s0_1 s0_2).bind fun bt228=>(if a1=0 then (none) else (some (Int.tmod bt228.1 a1,bt228.2.1,bt228.2.2)))) else ((spec_l1Byte.f s0_0 s0_1 s0_2).bind fun bt231=>((spec_l1Byte.f s0_0 bt231.2.1 bt231.2.2).bind fun bt234=>((spec_l1Byte.f s0_0 bt234.2.1 bt234.2.2).bind fun bt237=>(if a1=0 then (none) else (some (Int.tmod (wrap64 ((wrap64 ((wrap64 (bt231.1 * 65536))+(wrap64 (bt234.1 * 256))))+bt237.1)) a1,bt237.2.1,bt237.2.2))))))))=some (r1,r2,r3):=h
 clear h
 by_cases c3:a1≤0
 ·rw [if_pos c3] at H
  have c3b0:decide (a1≤0)=true:=decide_eq_true c3
  clear c3
  simp only [Option.some.injEq,Prod.mk.injEq] at H
  obtain ⟨rfl,rfl,rfl⟩:=H
  go_enter Try.func105,Try.ntmps105
  go_wp2
  go_ret
  exact ⟨by first|rfl|(simp [errW_none,errW_some] <;> rfl)|(simp [*,errW_none,errW_some] <;> rfl),by repeat (first|(with_reducible first|exact HI0.out|apply IsS142.alloc|apply IsS142.drewN|apply IsS142.drew|apply IsS142.set_1|apply IsS142.set_2)|exact HI0.out),by repeat (first|(with_reducible first|exact HB.out|apply below_alloc|apply pw_below_drewN|apply below_drew1|refine below_set ?_ (IsS142.ge HI0.out))|exact HB.out),by repeat (first|(with_reducible first|exact HK.out|apply KeepBut.set_|apply keep_drewN|apply keep_drew|apply keep_alloc)|exact HK.out)⟩
 ·rw [if_neg c3] at H
  have c3b0:decide (a1≤0)=false:=decide_eq_false c3
  clear c3
  by_cases c4:a1≤256
  ·rw [if_pos c4] at H
   have c4b0:decide (a1≤256)=true:=decide_eq_true c4
   clear c4
   replace H:=Option.bind_eq_some_iff.mp H
   obtain ⟨⟨t228,t229,t230⟩,A50,H⟩:=H
   replace H:(if a1=0 then (none) else (some (Int.tmod t228 a1,t229,t230)))=some (r1,r2,r3):=H
   have A5:=Aside0.mk A50
   clear A50
   by_cases c6:a1=0
   ·rw [if_pos c6] at H
    exact absurd H (by simp)
   ·rw [if_neg c6] at H
    have c6b0:(a1 == 0)=false:=beq_eq_false_iff_ne.mpr c6
    have c6b1:(a1 != 0)=true:=bne_iff_ne.mpr c6
    simp only [Option.some.injEq,Prod.mk.injEq] at H
    obtain ⟨rfl,rfl,rfl⟩:=H
    go_enter Try.func105,Try.ntmps105
    go_wp2_with (first|((with_reducible refine gate_callee (f:=126) rfl ?_);refine goesL_ (some 13) rfl rfl Try.func126 (by kernel_rfl) rfl #[.pointer (some ⟨g,0,none⟩)] rfl (by (try simp only [List.map_toArray,List.map_cons,List.map_nil]);first|done|rfl|(simp only [List.length_drop,List.length_take];rfl)) ?_;(with_reducible refine (spec_l1Byte.calls g s0_0 s0_1 s0_2 t228 t229 t230 w0 _ ?side1 ?side2 A5.out).mono ?_);(case side1=>repeat (first|(with_reducible first|exact HI0.out|apply IsS142.alloc|apply IsS142.drewN|apply IsS142.drew|apply IsS142.set_1|apply IsS142.set_2)|exact HI0.out));(case side2=>repeat (first|(with_reducible first|exact HB.out|apply below_alloc|apply pw_below_drewN|apply below_drew1|refine below_set ?_ (IsS142.ge HI0.out))|exact HB.out));rintro e w7 ⟨rfl,hi,hb,hk⟩;refine ⟨_,rfl,?_⟩;have n0_:=Aside0.mk (KeepBut.trans (by repeat (first|(with_reducible first|exact HK.out|apply KeepBut.set_|apply keep_drewN|apply keep_drew|apply keep_alloc)|exact HK.out)) hk (.inl rfl));have n1_:=Aside0.mk (hb);have n2_:=Aside0.mk (hi);clear HK;clear HB;clear HI0;have HK:=n0_;have HB:=n1_;have HI0:=n2_;clear n0_ n1_ n2_;(try clear hb);(try clear hb2);(try clear hk);(try clear hi)))
    go_ret
    exact ⟨by first|rfl|(simp [errW_none,errW_some] <;> rfl)|(simp [*,errW_none,errW_some] <;> rfl),by repeat (first|(with_reducible first|exact HI0.out|apply IsS142.alloc|apply IsS142.drewN|apply IsS142.drew|apply IsS142.set_1|apply IsS142.set_2)|exact HI0.out),by repeat (first|(with_reducible first|exact HB.out|apply below_alloc|apply pw_below_drewN|apply below_drew1|refine below_set ?_ (IsS142.ge HI0.out))|exact HB.out),by repeat (first|(with_reducible first|exact HK.out|apply KeepBut.set_|apply keep_drewN|apply keep_drew|apply keep_alloc)|exact HK.out)⟩
  ·rw [if_neg c4] at H
   have c4b0:decide (a1≤256)=false:=decide_eq_false c4
   clear c4
   replace H:=Option.bind_eq_some_iff.mp H
   obtain ⟨⟨t231,t232,t233⟩,A80,H⟩:=H
   replace H:((spec_l1Byte.f s0_0 t232 t233).bind fun bt234=>((spec_l1Byte.f s0_0 bt234.2.1 bt234.2.2).bind fun bt237=>(if a1=0 then (none) else (some (Int.tmod (wrap64 ((wrap64 ((wrap64 (t231 * 65536))+(wrap64 (bt234.1 * 256))))+bt237.1)) a1,bt237.2.1,bt237.2.2)))))=some (r1,r2,r3):=H
   have A8:=Aside0.mk A80
   clear A80
   replace H:=Option.bind_eq_some_iff.mp H
   obtain ⟨⟨t234,t235,t236⟩,A90,H⟩:=H
   replace H:((spec_l1Byte.f s0_0 t235 t236).bind fun bt237=>(if a1=0 then (none) else (some (Int.tmod (wrap64 ((wrap64 ((wrap64 (t231 * 65536))+(wrap64 (t234 * 256))))+bt237.1)) a1,bt237.2.1,bt237.2.2))))=some (r1,r2,r3):=H
   have A9:=Aside0.mk A90
   clear A90
   replace H:=Option.bind_eq_some_iff.mp H
   obtain ⟨⟨t237,t238,t239⟩,A100,H⟩:=H
   replace H:(if a1=0 then (none) else (some (Int.tmod (wrap64 ((wrap64 ((wrap64 (t231 * 65536))+(wrap64 (t234 * 256))))+t237)) a1,t238,t239)))=some (r1,r2,r3):=H
   have A10:=Aside0.mk A100
   clear A100
   by_cases c11:a1=0
   ·rw [if_pos c11] at H
    exact absurd H (by simp)
   ·rw [if_neg c11] at H
    have c11b0:(a1 == 0)=false:=beq_eq_false_iff_ne.mpr c11
    have c11b1:(a1 != 0)=true:=bne_iff_ne.mpr c11
    simp only [Option.some.injEq,Prod.mk.injEq] at H
    obtain ⟨rfl,rfl,rfl⟩:=H
    go_enter Try.func105,Try.ntmps105
    go_wp2_with (first|((with_reducible refine gate_callee (f:=126) rfl ?_);refine goesL_ (some 17) rfl rfl Try.func126 (by kernel_rfl) rfl #[.pointer (some ⟨g,0,none⟩)] rfl (by (try simp only [List.map_toArray,List.map_cons,List.map_nil]);first|done|rfl|(simp only [List.length_drop,List.length_take];rfl)) ?_;(with_reducible refine (spec_l1Byte.calls g s0_0 s0_1 s0_2 t231 t232 t233 w0 _ ?side1 ?side2 A8.out).mono ?_);(case side1=>repeat (first|(with_reducible first|exact HI0.out|apply IsS142.alloc|apply IsS142.drewN|apply IsS142.drew|apply IsS142.set_1|apply IsS142.set_2)|exact HI0.out));(case side2=>repeat (first|(with_reducible first|exact HB.out|apply below_alloc|apply pw_below_drewN|apply below_drew1|refine below_set ?_ (IsS142.ge HI0.out))|exact HB.out));rintro e w12 ⟨rfl,hi,hb,hk⟩;refine ⟨_,rfl,?_⟩;have n0_:=Aside0.mk (KeepBut.trans (by repeat (first|(with_reducible first|exact HK.out|apply KeepBut.set_|apply keep_drewN|apply keep_drew|apply keep_alloc)|exact HK.out)) hk (.inl rfl));have n1_:=Aside0.mk (hb);have n2_:=Aside0.mk (hi);clear HK;clear HB;clear HI0;have HK:=n0_;have HB:=n1_;have HI0:=n2_;clear n0_ n1_ n2_;(try clear hb);(try clear hb2);(try clear hk);(try clear hi))|((with_reducible refine gate_callee (f:=126) rfl ?_);refine goesL_ (some 19) rfl rfl Try.func126 (by kernel_rfl) rfl #[.pointer (some ⟨g,0,none⟩)] rfl (by (try simp only [List.map_toArray,List.map_cons,List.map_nil]);first|done|rfl|(simp only [List.length_drop,List.length_take];rfl)) ?_;(with_reducible refine (spec_l1Byte.calls g s0_0 t232 t233 t234 t235 t236 w0 _ ?side1 ?side2 A9.out).mono ?_);(case side1=>repeat (first|(with_reducible first|exact HI0.out|apply IsS142.alloc|apply IsS142.drewN|apply IsS142.drew|apply IsS142.set_1|apply IsS142.set_2)|exact HI0.out));(case side2=>repeat (first|(with_reducible first|exact HB.out|apply below_alloc|apply pw_below_drewN|apply below_drew1|refine below_set ?_ (IsS142.ge HI0.out))|exact HB.out));rintro e w13 ⟨rfl,hi,hb,hk⟩;refine ⟨_,rfl,?_⟩;have n0_:=Aside0.mk (KeepBut.trans (by repeat (first|(with_reducible first|exact HK.out|apply KeepBut.set_|apply keep_drewN|apply keep_drew|apply keep_alloc)|exact HK.out)) hk (.inl rfl));have n1_:=Aside0.mk (hb);have n2_:=Aside0.mk (hi);clear HK;clear HB;clear HI0;have HK:=n0_;have HB:=n1_;have HI0:=n2_;clear n0_ n1_ n2_;(try clear hb);(try clear hb2);(try clear hk);(try clear hi))|((with_reducible refine gate_callee (f:=126) rfl ?_);refine goesL_ (some 21) rfl rfl Try.func126 (by kernel_rfl) rfl #[.pointer (some ⟨g,0,none⟩)] rfl (by (try simp only [List.map_toArray,List.map_cons,List.map_nil]);first|done|rfl|(simp only [List.length_drop,List.length_take];rfl)) ?_;(with_reducible refine (spec_l1Byte.calls g s0_0 t235 t236 t237 t238 t239 w0 _ ?side1 ?side2 A10.out).mono ?_);(case side1=>repeat (first|(with_reducible first|exact HI0.out|apply IsS142.alloc|apply IsS142.drewN|apply IsS142.drew|apply IsS142.set_1|apply IsS142.set_2)|exact HI0.out));(case side2=>repeat (first|(with_reducible first|exact HB.out|apply below_alloc|apply pw_below_drewN|apply below_drew1|refine below_set ?_ (IsS142.ge HI0.out))|exact HB.out));rintro e w14 ⟨rfl,hi,hb,hk⟩;refine ⟨_,rfl,?_⟩;have n0_:=Aside0.mk (KeepBut.trans (by repeat (first|(with_reducible first|exact HK.out|apply KeepBut.set_|apply keep_drewN|apply keep_drew|apply keep_alloc)|exact HK.out)) hk (.inl rfl));have n1_:=Aside0.mk (hb);have n2_:=Aside0.mk (hi);clear HK;clear HB;clear HI0;have HK:=n0_;have HB:=n1_;have HI0:=n2_;clear n0_ n1_ n2_;(try clear hb);(try clear hb2);(try clear hk);(try clear hi)))
    go_ret
    exact ⟨by first|rfl|(simp [errW_none,errW_some] <;> rfl)|(simp [*,errW_none,errW_some] <;> rfl),by repeat (first|(with_reducible first|exact HI0.out|apply IsS142.alloc|apply IsS142.drewN|apply IsS142.drew|apply IsS142.set_1|apply IsS142.set_2)|exact HI0.out),by repeat (first|(with_reducible first|exact HB.out|apply below_alloc|apply pw_below_drewN|apply below_drew1|refine below_set ?_ (IsS142.ge HI0.out))|exact HB.out),by repeat (first|(with_reducible first|exact HK.out|apply KeepBut.set_|apply keep_drewN|apply keep_drew|apply keep_alloc)|exact HK.out)⟩
mutual
def spec_LoadOf.l0:Nat→Int→Int→Int→Int→List (S29)→Option (Int)
 | 0,_,_,_,_,_=>none
 | k+1,x1,x5,x6,x241000,x241001=>if x6 < (x241001.length:Int) then (spec_LoadOf.l1 k x1 x5 x6 0 x241000 x241001) else (some x5)
def spec_LoadOf.l1:Nat→Int→Int→Int→Int→Int→List (S29)→Option (Int)
 | 0,_,_,_,_,_,_=>none
 | k+1,x1,x5,x6,x7,x241000,x241001=>if 0≤x6 then (if x6 < (x241001.length:Int) then (if x7 < (((rd_T29 x241001 x6).f0).length:Int) then (if 0≤x7 then (if (rd ((rd_T29 x241001 x6).f0) x7)=x1 then (spec_LoadOf.l1 k x1 (wrap64 (x5+1)) x6 (wrap64 (x7+1)) x241000 x241001) else (spec_LoadOf.l1 k x1 x5 x6 (wrap64 (x7+1)) x241000 x241001)) else (none)) else (spec_LoadOf.l0 k x1 x5 (wrap64 (x6+1)) x241000 x241001)) else (none)) else (none)
end
def spec_LoadOf.f (k:Nat) (a0_0:Int) (l0_1:List (S29)) (a1:Int):Option (Int):=spec_LoadOf.l0 k a1 0 0 a0_0 l0_1
set_option maxHeartbeats 8000000 in
set_option maxRecDepth 100000 in
theorem spec_LoadOf.calls (k:Nat) (a0_0:Int) (A0_1:Option Addr) (c0_1:Nat) (l0_1:List (S29)) (a1:Int) (r:Int) (w:World) (hr0_1:Kd.C k29 w A0_1 l0_1.length l0_1) (hc0_1:l0_1.length≤c0_1) (h:spec_LoadOf.f k a0_0 l0_1 a1=some r) :
  Calls Try.prog 106 #[.agg #[.int .i64 a0_0,.slice A0_1 l0_1.length c0_1],.int .i64 a1] w fun e w'=>e = .returned (.int .i64 r)∧Below w.heap.size w w':=by
 have hu43:=Try.underlying43
 have HR0_1:=Aside0.mk hr0_1
 have HC0_1:=Aside0.mk hc0_1
 clear hr0_1 hc0_1
 have HB:=Aside0.mk (Below.refl w.heap.size w)
 have H:(spec_LoadOf.l0 k a1 0 0 a0_0 l0_1)=some r:=h
 clear h
 have H':=Aside0.mk H
 clear H
 go_enter Try.func106,Try.ntmps106
 go_wp2_with (first|((with_reducible refine gate_dst (N:=2) rfl ?_);refine box_event ?hg (N:=2) ?hd (cs:=#[.int .i64 a0_0,.slice A0_1 l0_1.length c0_1]) (t:=43) ?hr ?_;(case hd=>rfl);(case hg=>rfl);(case hr=>first|(go_simp;done)|(go_simp;rfl));intro gb240 hg w3 hbox hb;have n0_:=Aside0.mk (below_step (by repeat (first|(with_reducible first|exact HB.out|apply below_alloc|apply pw_below_drewN|apply below_drew1)|exact HB.out)) hb);have n1_:=Aside0.mk (hbox);have n2_:=Aside0.mk ((by rw [hg];exact (below_size (by repeat (first|(with_reducible first|exact HB.out|apply below_alloc|apply pw_below_drewN|apply below_drew1)|exact HB.out))):w.heap.size≤gb240));have n3_:=Aside0.mk ((by rw [hg];exact (below_size (by repeat (first|(with_reducible first|exact HB.out|apply below_alloc|apply pw_below_drewN|apply below_drew1)|exact HB.out))):w.heap.size≤gb240));clear HB;have HB:=n0_;have BK240:=n1_;have GW240:=n2_;have GE240:=n3_;clear n0_ n1_ n2_ n3_;clear hb hbox hg))
 go_loopg [5,6] k (fun kq v5 v6 w'=>∃ (x5_1:Int) (x6_1:Int),v5 = .int .i64 x5_1∧v6 = .int .i64 x6_1∧Aside0 (spec_LoadOf.l0 kq a1 x5_1 x6_1 a0_0 l0_1=some r)∧Aside0 (kq≤k)∧Aside0 (w'.heap[gb240]?=some (.cells #[.int .i64 a0_0,(.slice A0_1 l0_1.length c0_1)] 43 (0,0)))∧Aside0 (Below w.heap.size w w'))
 case atStart=>exact ⟨(0),(0),(by first|rfl|(simp;done)|(simp [*];done)),(by first|rfl|(simp;done)|(simp [*];done)),H',⟨Nat.le_refl _⟩,⟨by (with_reducible repeat (first|refine blk_drewN ?_ _|refine blk_drew ?_|refine blk_alloc ?_ _));exact BK240.out⟩,⟨by repeat (first|(with_reducible first|exact HB.out|apply below_alloc|apply pw_below_drewN|apply below_drew1|refine below_set ?_ GE240.out)|exact HB.out)⟩⟩
 case round=>
  clear H'
  try clear c1
  try clear p2
  obtain ⟨x5_1,x6_1,rfl,rfl,HA,HK1,BK240,HB⟩:=hrel
  cases gk with
  | zero=>exact absurd HA.out (by simp [spec_LoadOf.l0])
  | succ k1=>
   have H:=HA.out
   clear HA
   simp only [spec_LoadOf.l0] at H
   by_cases c4:x6_1 < (l0_1.length:Int)
   ·rw [if_pos c4] at H
    have c4b0:decide (x6_1 < (l0_1.length:Int))=true:=decide_eq_true c4
    clear c4
    have H':=Aside0.mk H
    clear H
    have hcz5_0:wr.cell? ⟨gb240,0,none⟩=some (.int .i64 a0_0):=(blk_cell BK240.out 0).trans rfl
    have hcz5_1:wr.cell? ⟨gb240,1,none⟩=some (.slice A0_1 l0_1.length c0_1):=(blk_cell BK240.out 1).trans rfl
    have hfz5_0:=blk_frozen BK240.out 0
    have hfz5_1:=blk_frozen BK240.out 1
    go_wp2
    go_loopg [5,7] k1 (fun kq v5 v7 w'=>∃ (x5_2:Int) (x7_2:Int),v5 = .int .i64 x5_2∧v7 = .int .i64 x7_2∧Aside0 (spec_LoadOf.l1 kq a1 x5_2 x6_1 x7_2 a0_0 l0_1=some r)∧Aside0 (kq≤k1)∧Aside0 (w'.heap[gb240]?=some (.cells #[.int .i64 a0_0,(.slice A0_1 l0_1.length c0_1)] 43 (0,0)))∧Aside0 (Below w.heap.size w w'))
    case atStart=>exact ⟨(x5_1),(0),(by first|rfl|(simp;done)|(simp [*];done)),(by first|rfl|(simp;done)|(simp [*];done)),H',⟨Nat.le_refl _⟩,⟨by (with_reducible repeat (first|refine blk_drewN ?_ _|refine blk_drew ?_|refine blk_alloc ?_ _));exact BK240.out⟩,⟨by repeat (first|(with_reducible first|exact HB.out|apply below_alloc|apply pw_below_drewN|apply below_drew1|refine below_set ?_ GE240.out)|exact HB.out)⟩⟩
    case round=>
     clear H'
     try clear c1
     try clear p2
     try clear c4
     try clear c4b0
     try clear hcz5_0
     try clear hcz5_1
     try clear hfz5_0
     try clear hfz5_1
     try clear p2
     obtain ⟨x5_2,x7_2,rfl,rfl,HA,HK2,BK240,HB⟩:=hrel
     cases gk with
     | zero=>exact absurd HA.out (by simp [spec_LoadOf.l1])
     | succ k2=>
      have H:=HA.out
      clear HA
      simp only [spec_LoadOf.l1] at H
      by_cases c6:0≤x6_1
      ·rw [if_pos c6] at H
       have c6b0:decide (0≤x6_1)=true:=decide_eq_true c6
       clear c6
       by_cases c7:x6_1 < (l0_1.length:Int)
       ·rw [if_pos c7] at H
        have c7b0:decide (x6_1 < (l0_1.length:Int))=true:=decide_eq_true c7
        clear c7
        by_cases c8:x7_2 < (((rd_T29 l0_1 x6_1).f0).length:Int)
        ·rw [if_pos c8] at H
         have c8b0:decide (x7_2 < (((rd_T29 l0_1 x6_1).f0).length:Int))=true:=decide_eq_true c8
         clear c8
         by_cases c9:0≤x7_2
         ·rw [if_pos c9] at H
          have c9b0:decide (0≤x7_2)=true:=decide_eq_true c9
          clear c9
          by_cases c10:(rd ((rd_T29 l0_1 x6_1).f0) x7_2)=a1
          ·rw [if_pos c10] at H
           have c10b0:((rd ((rd_T29 l0_1 x6_1).f0) x7_2) == a1)=true:=beq_iff_eq.mpr c10
           have c10b1:((rd ((rd_T29 l0_1 x6_1).f0) x7_2) != a1)=false:=bne_eq_false_iff_eq.mpr c10
           clear c10
           have H':=Aside0.mk H
           clear H
           have hcz11_0:wr.cell? ⟨gb240,0,none⟩=some (.int .i64 a0_0):=(blk_cell BK240.out 0).trans rfl
           have hcz11_1:wr.cell? ⟨gb240,1,none⟩=some (.slice A0_1 l0_1.length c0_1):=(blk_cell BK240.out 1).trans rfl
           have hfz11_0:=blk_frozen BK240.out 0
           have hfz11_1:=blk_frozen BK240.out 1
           have p241:0≤(x6_1:Int):=of_decide_eq_true (by first|(with_reducible assumption)|assumption)
           have q241:x6_1 < (l0_1.length:Int):=of_decide_eq_true (by first|(with_reducible assumption)|assumption)
           obtain ⟨ad241,A241_0,c241_0,e241,hx241_0,hl241_0,hi241_0⟩:=at_T29 HR0_1.out x6_1 p241 q241
           cases e241
           replace hx241_0:=(HB.out.cell (World.block_lt_of_cell? w _ hx241_0)).trans hx241_0
           have HR241_0:=Aside0.mk hi241_0
           have HC241_0:=Aside0.mk hl241_0
           clear hi241_0 hl241_0
           replace p241:=eq_true p241
           replace q241:=eq_true q241
           have p242:0≤(x6_1:Int):=of_decide_eq_true (by first|(with_reducible assumption)|assumption)
           have q242:x6_1 < (l0_1.length:Int):=of_decide_eq_true (by first|(with_reducible assumption)|assumption)
           obtain ⟨ad242,A242_0,c242_0,e242,hx242_0,hl242_0,hi242_0⟩:=at_T29 HR0_1.out x6_1 p242 q242
           obtain rfl:ad241=ad242:=(by injection e242)
           replace hx242_0:=(HB.out.cell (World.block_lt_of_cell? w _ hx242_0)).trans hx242_0
           have HR242_0:=Aside0.mk hi242_0
           have HC242_0:=Aside0.mk hl242_0
           clear hi242_0 hl242_0
           replace p242:=eq_true p242
           replace q242:=eq_true q242
           have ea_:=Option.some.inj (hx241_0.symm.trans hx242_0)
           injection ea_ with ea_ en_ ec_
           subst ea_
           subst ec_
           clear en_
           have p243:0≤(x7_2:Int):=of_decide_eq_true (by first|(with_reducible assumption)|assumption)
           have q243:x7_2 < (((rd_T29 l0_1 x6_1).f0).length:Int):=of_decide_eq_true (by first|(with_reducible assumption)|assumption)
           obtain ⟨ad243,e243,hx243_0⟩:=Kd.at_int HR242_0.out x7_2 p243 q243
           cases e243
           replace hx243_0:=(HB.out.cell (World.block_lt_of_cell? w _ hx243_0)).trans hx243_0
           replace p243:=eq_true p243
           replace q243:=eq_true q243
           go_wp2
           go_roundg k2
           case measure=>have:=HK1.out;have:=HK2.out;omega
           case rel=>exact ⟨(wrap64 (x5_2+1)),(wrap64 (x7_2+1)),(by first|rfl|(simp;done)|(simp [*];done)),(by first|rfl|(simp;done)|(simp [*];done)),H',⟨by have:=HK1.out;have:=HK2.out;omega⟩,⟨by (with_reducible repeat (first|refine blk_drewN ?_ _|refine blk_drew ?_|refine blk_alloc ?_ _));exact BK240.out⟩,⟨by repeat (first|(with_reducible first|exact HB.out|apply below_alloc|apply pw_below_drewN|apply below_drew1|refine below_set ?_ GE240.out)|exact HB.out)⟩⟩
          ·rw [if_neg c10] at H
           have c10b0:((rd ((rd_T29 l0_1 x6_1).f0) x7_2) == a1)=false:=beq_eq_false_iff_ne.mpr c10
           have c10b1:((rd ((rd_T29 l0_1 x6_1).f0) x7_2) != a1)=true:=bne_iff_ne.mpr c10
           have H':=Aside0.mk H
           clear H
           have hcz12_0:wr.cell? ⟨gb240,0,none⟩=some (.int .i64 a0_0):=(blk_cell BK240.out 0).trans rfl
           have hcz12_1:wr.cell? ⟨gb240,1,none⟩=some (.slice A0_1 l0_1.length c0_1):=(blk_cell BK240.out 1).trans rfl
           have hfz12_0:=blk_frozen BK240.out 0
           have hfz12_1:=blk_frozen BK240.out 1
           have p241:0≤(x6_1:Int):=of_decide_eq_true (by first|(with_reducible assumption)|assumption)
           have q241:x6_1 < (l0_1.length:Int):=of_decide_eq_true (by first|(with_reducible assumption)|assumption)
           obtain ⟨ad241,A241_0,c241_0,e241,hx241_0,hl241_0,hi241_0⟩:=at_T29 HR0_1.out x6_1 p241 q241
           cases e241
           replace hx241_0:=(HB.out.cell (World.block_lt_of_cell? w _ hx241_0)).trans hx241_0
           have HR241_0:=Aside0.mk hi241_0
           have HC241_0:=Aside0.mk hl241_0
           clear hi241_0 hl241_0
           replace p241:=eq_true p241
           replace q241:=eq_true q241
           have p242:0≤(x6_1:Int):=of_decide_eq_true (by first|(with_reducible assumption)|assumption)
           have q242:x6_1 < (l0_1.length:Int):=of_decide_eq_true (by first|(with_reducible assumption)|assumption)
           obtain ⟨ad242,A242_0,c242_0,e242,hx242_0,hl242_0,hi242_0⟩:=at_T29 HR0_1.out x6_1 p242 q242
           obtain rfl:ad241=ad242:=(by injection e242)
           replace hx242_0:=(HB.out.cell (World.block_lt_of_cell? w _ hx242_0)).trans hx242_0
           have HR242_0:=Aside0.mk hi242_0
           have HC242_0:=Aside0.mk hl242_0
           clear hi242_0 hl242_0
           replace p242:=eq_true p242
           replace q242:=eq_true q242
           have ea_:=Option.some.inj (hx241_0.symm.trans hx242_0)
           injection ea_ with ea_ en_ ec_
           subst ea_
           subst ec_
           clear en_
           have p243:0≤(x7_2:Int):=of_decide_eq_true (by first|(with_reducible assumption)|assumption)
           have q243:x7_2 < (((rd_T29 l0_1 x6_1).f0).length:Int):=of_decide_eq_true (by first|(with_reducible assumption)|assumption)
           obtain ⟨ad243,e243,hx243_0⟩:=Kd.at_int HR242_0.out x7_2 p243 q243
           cases e243
           replace hx243_0:=(HB.out.cell (World.block_lt_of_cell? w _ hx243_0)).trans hx243_0
           replace p243:=eq_true p243
           replace q243:=eq_true q243
           go_wp2
           go_roundg k2
           case measure=>have:=HK1.out;have:=HK2.out;omega
           case rel=>exact ⟨(x5_2),(wrap64 (x7_2+1)),(by first|rfl|(simp;done)|(simp [*];done)),(by first|rfl|(simp;done)|(simp [*];done)),H',⟨by have:=HK1.out;have:=HK2.out;omega⟩,⟨by (with_reducible repeat (first|refine blk_drewN ?_ _|refine blk_drew ?_|refine blk_alloc ?_ _));exact BK240.out⟩,⟨by repeat (first|(with_reducible first|exact HB.out|apply below_alloc|apply pw_below_drewN|apply below_drew1|refine below_set ?_ GE240.out)|exact HB.out)⟩⟩
         ·rw [if_neg c9] at H
          exact absurd H (by simp)
        ·rw [if_neg c8] at H
         have c8b0:decide (x7_2 < (((rd_T29 l0_1 x6_1).f0).length:Int))=false:=decide_eq_false c8
         clear c8
         have H':=Aside0.mk H
         clear H
         have hcz13_0:wr.cell? ⟨gb240,0,none⟩=some (.int .i64 a0_0):=(blk_cell BK240.out 0).trans rfl
         have hcz13_1:wr.cell? ⟨gb240,1,none⟩=some (.slice A0_1 l0_1.length c0_1):=(blk_cell BK240.out 1).trans rfl
         have hfz13_0:=blk_frozen BK240.out 0
         have hfz13_1:=blk_frozen BK240.out 1
         have p241:0≤(x6_1:Int):=of_decide_eq_true (by first|(with_reducible assumption)|assumption)
         have q241:x6_1 < (l0_1.length:Int):=of_decide_eq_true (by first|(with_reducible assumption)|assumption)
         obtain ⟨ad241,A241_0,c241_0,e241,hx241_0,hl241_0,hi241_0⟩:=at_T29 HR0_1.out x6_1 p241 q241
         cases e241
         replace hx241_0:=(HB.out.cell (World.block_lt_of_cell? w _ hx241_0)).trans hx241_0
         have HR241_0:=Aside0.mk hi241_0
         have HC241_0:=Aside0.mk hl241_0
         clear hi241_0 hl241_0
         replace p241:=eq_true p241
         replace q241:=eq_true q241
         go_wp2
         go_roundg k2
         case measure=>have:=HK1.out;have:=HK2.out;omega
         case rel=>exact ⟨(x5_2),(wrap64 (x6_1+1)),(by first|rfl|(simp;done)|(simp [*];done)),(by first|rfl|(simp;done)|(simp [*];done)),H',⟨by have:=HK1.out;have:=HK2.out;omega⟩,⟨by (with_reducible repeat (first|refine blk_drewN ?_ _|refine blk_drew ?_|refine blk_alloc ?_ _));exact BK240.out⟩,⟨by repeat (first|(with_reducible first|exact HB.out|apply below_alloc|apply pw_below_drewN|apply below_drew1|refine below_set ?_ GE240.out)|exact HB.out)⟩⟩
       ·rw [if_neg c7] at H
        exact absurd H (by simp)
      ·rw [if_neg c6] at H
       exact absurd H (by simp)
   ·rw [if_neg c4] at H
    have c4b0:decide (x6_1 < (l0_1.length:Int))=false:=decide_eq_false c4
    clear c4
    obtain rfl:=Option.some.inj H
    have hcz14_0:wr.cell? ⟨gb240,0,none⟩=some (.int .i64 a0_0):=(blk_cell BK240.out 0).trans rfl
    have hcz14_1:wr.cell? ⟨gb240,1,none⟩=some (.slice A0_1 l0_1.length c0_1):=(blk_cell BK240.out 1).trans rfl
    have hfz14_0:=blk_frozen BK240.out 0
    have hfz14_1:=blk_frozen BK240.out 1
    go_wp2
    go_ret
    exact ⟨by first|rfl|(simp [errW_none,errW_some] <;> rfl)|(simp [*,errW_none,errW_some] <;> rfl),by repeat (first|(with_reducible first|exact HB.out|apply below_alloc|apply pw_below_drewN|apply below_drew1|refine below_set ?_ GE240.out)|exact HB.out)⟩
end Go.Proofs.Ytbhllgifciaepaa.PFnPlaces
