/- Trimmed by a program of this session (trim.py). Not trusted: Lean checks it. -/
import Derived.Test.YtbhllgifciaepaaTLPlacesPFnPlacesx0
import Derived.Test.YtbhllgifciaepaaTLPlacesPFnPlacesx1
import Derived.Test.YtbhllgifciaepaaTLPlacesPFnPlacesx2
import Derived.Test.YtbhllgifciaepaaTLPlacesPFnPlacesx4
namespace Go.Proofs.Ytbhllgifciaepaa.PFnPlaces
open Go.RowKit Go.Proofs.YtbhllgifciaepaaW.PrintWords Go.Proofs.YtbhllgifciaepaaW.PrintLast Go.Proofs.YtbhllgifciaepaaW.PrintMore
attribute [local go_sem] max2_int min2_int max_two min_two max_three min_three max_four min_four
set_option linter.unusedVariables false
set_option linter.unusedSimpArgs false
def spec_l5Zones.l0:Nat→List Int→List (S76)→List Int→Int→Option (List Int)
 | 0,_,_,_,_=>none
 | k+1,x0,x1,x5,x6=>if x6 < (x0.length:Int) then (if 0≤x6 then ((spec_DevAt.f k x1 (rd x0 x6)).bind fun bt164=>(if bt164.2.2.2=true then ((spec_l4Has.f k x5 bt164.2.1).bind fun t169=>(if t169=true then (spec_l5Zones.l0 k x0 x1 x5 (wrap64 (x6+1))) else (if x5.length < 17592186044416 then (spec_l5Zones.l0 k x0 x1 (x5 ++ [bt164.2.1]) (wrap64 (x6+1))) else (none)))) else (spec_l5Zones.l0 k x0 x1 x5 (wrap64 (x6+1))))) else (none)) else (some x5)
def spec_l5Zones.f (k:Nat) (l0:List Int) (l1:List (S76)):Option (List Int):=spec_l5Zones.l0 k l0 l1 (([]:List Int)) 0
set_option maxHeartbeats 8000000 in
set_option maxRecDepth 100000 in
theorem spec_l5Zones.calls (k:Nat) (A0:Option Addr) (c0:Nat) (l0:List Int) (A1:Option Addr) (c1:Nat) (l1:List (S76)) (r:List Int) (w:World) (hr0:Kd.C (Kd.int .i64) w A0 l0.length l0) (hc0:l0.length≤c0) (hr1:Kd.C k76 w A1 l1.length l1) (hc1:l1.length≤c1) (h:spec_l5Zones.f k l0 l1=some r) :
  Calls Try.prog 71 #[.slice A0 l0.length c0,.slice A1 l1.length c1] w fun e w'=>∃ v0_:Value,e = .returned (v0_)∧Kd.R (Kd.int .i64) 3 w' w.heap.size (fun _=>True) v0_ r∧Below w.heap.size w w':=by
 have hu76:=Try.underlying76
 have HR0:=Aside0.mk hr0
 have HC0:=Aside0.mk hc0
 clear hr0 hc0
 have HR1:=Aside0.mk hr1
 have HC1:=Aside0.mk hc1
 clear hr1 hc1
 have HB:=Aside0.mk (Below.refl w.heap.size w)
 have H:(spec_l5Zones.l0 k l0 l1 (([]:List Int)) 0)=some r:=h
 clear h
 obtain ⟨y160,hy160⟩ : ∃ y_:List Int,y_=(([]:List Int)):=⟨_,rfl⟩
 replace H:(spec_l5Zones.l0 k l0 l1 y160 0)=some r:=by first|(rw [hy160];with_reducible exact H)|(have H2_:=(Option.bind_some _ _).symm.trans H;rw [hy160];with_reducible exact H2_)|(have H2_:=(Option.bind_some _ _).symm.trans H;with_reducible exact H2_)|with_reducible exact H|(rw [hy160];exact H)|exact H
 have Ny160:=Aside0.mk hy160
 clear hy160
 have H':=Aside0.mk H
 clear H
 go_enter Try.func71,Try.ntmps71
 go_wp2_with (first|((with_reducible refine gate_dst (N:=9) rfl ?_);refine Kd.R_lit (Kd.int .i64) _ 3 ?hg (N:=9) ?hd (xs:=([]:List Int)) (inner:=[]) (ok:=fun _=>True) (okp:=fun _=>True) ?hr ?hp (fun _ hk=>hk) trivial (Below.refl _ _) (Nat.le_refl _) (by simp) ?_;(case hd=>rfl);(case hg=>rfl);(case hr=>first|(go_simp;done)|(go_simp;rfl));(case hp=>exact (Reps.none _ _));intro v161 w3 ho4 hb hg_ hnew_;clear hg_ hnew_;(first|rw [← Ny160.out] at ho4|(simp only [Int.reduceToNat] at ho4;rw [← Ny160.out] at ho4));have n0_:=Aside0.mk (Kd.R_lower ho4 (below_size (by repeat (first|(with_reducible first|exact HB.out|apply below_alloc|apply pw_below_drewN|apply below_drew1)|exact HB.out))));have n1_:=Aside0.mk (below_step (by repeat (first|(with_reducible first|exact HB.out|apply below_alloc|apply pw_below_drewN|apply below_drew1)|exact HB.out)) hb);clear HB;have HO162:=n0_;have HB:=n1_;clear n0_ n1_;clear hb ho4))
 go_loopg [5,6] k (fun kq v5 v6 w'=>∃ (x5_1:List Int) (x6_1:Int),v6 = .int .i64 x6_1∧Aside0 (spec_l5Zones.l0 kq l0 l1 x5_1 x6_1=some r)∧Aside0 (kq≤k)∧Aside0 (Kd.R (Kd.int .i64) 3 w' w.heap.size (fun _=>True) v5 x5_1)∧Aside0 (Below w.heap.size w w'))
 case atStart=>exact ⟨(y160),(0),(by first|rfl|(simp;done)|(simp [*];done)),H',⟨Nat.le_refl _⟩,⟨by (with_reducible repeat (first|apply Kd.R_alloc|apply Kd.R_drewN|apply Kd.R_drew));exact HO162.out⟩,⟨by repeat (first|(with_reducible first|exact HB.out|apply below_alloc|apply pw_below_drewN|apply below_drew1)|exact HB.out)⟩⟩
 case round=>
  clear H'
  try clear c1
  try clear p2
  obtain ⟨x5_1,x6_1,rfl,HA,HK1,HO_5,HB⟩:=hrel
  cases gk with
  | zero=>exact absurd HA.out (by simp [spec_l5Zones.l0])
  | succ k1=>
   have H:=HA.out
   clear HA
   simp only [spec_l5Zones.l0] at H
   by_cases c5:x6_1 < (l0.length:Int)
   ·rw [if_pos c5] at H
    have c5b0:decide (x6_1 < (l0.length:Int))=true:=decide_eq_true c5
    clear c5
    by_cases c6:0≤x6_1
    ·rw [if_pos c6] at H
     have c6b0:decide (0≤x6_1)=true:=decide_eq_true c6
     clear c6
     replace H:=Option.bind_eq_some_iff.mp H
     obtain ⟨⟨t164,t165,t166,t167⟩,A70,H⟩:=H
     replace H:(if t167=true then ((spec_l4Has.f k1 x5_1 t165).bind fun t169=>(if t169=true then (spec_l5Zones.l0 k1 l0 l1 x5_1 (wrap64 (x6_1+1))) else (if x5_1.length < 17592186044416 then (spec_l5Zones.l0 k1 l0 l1 (x5_1 ++ [t165]) (wrap64 (x6_1+1))) else (none)))) else (spec_l5Zones.l0 k1 l0 l1 x5_1 (wrap64 (x6_1+1))))=some r:=H
     have A7:=Aside0.mk A70
     clear A70
     by_cases c8:t167=true
     ·subst c8
      have H1:((spec_l4Has.f k1 x5_1 t165).bind fun t169=>(if t169=true then (spec_l5Zones.l0 k1 l0 l1 x5_1 (wrap64 (x6_1+1))) else (if x5_1.length < 17592186044416 then (spec_l5Zones.l0 k1 l0 l1 (x5_1 ++ [t165]) (wrap64 (x6_1+1))) else (none))))=some r:=by rw [if_pos rfl] at H;exact H
      clear H
      have H:=H1
      clear H1
      replace H:=Option.bind_eq_some_iff.mp H
      obtain ⟨t169,A90,H⟩:=H
      replace H:(if t169=true then (spec_l5Zones.l0 k1 l0 l1 x5_1 (wrap64 (x6_1+1))) else (if x5_1.length < 17592186044416 then (spec_l5Zones.l0 k1 l0 l1 (x5_1 ++ [t165]) (wrap64 (x6_1+1))) else (none)))=some r:=H
      have A9:=Aside0.mk A90
      clear A90
      by_cases c10:t169=true
      ·subst c10
       have H1:(spec_l5Zones.l0 k1 l0 l1 x5_1 (wrap64 (x6_1+1)))=some r:=by rw [if_pos rfl] at H;exact H
       clear H
       have H:=H1
       clear H1
       have H':=Aside0.mk H
       clear H
       have p163:0≤(x6_1:Int):=of_decide_eq_true (by first|(with_reducible assumption)|assumption)
       have q163:x6_1 < (l0.length:Int):=of_decide_eq_true (by first|(with_reducible assumption)|assumption)
       obtain ⟨ad163,e163,hx163_0⟩:=Kd.at_int HR0.out x6_1 p163 q163
       cases e163
       replace hx163_0:=(HB.out.cell (World.block_lt_of_cell? w _ hx163_0)).trans hx163_0
       replace p163:=eq_true p163
       replace q163:=eq_true q163
       go_wp2_with (first|((with_reducible refine gate_callee (f:=99) rfl ?_);refine goesL_ (some 22) rfl rfl Try.func99 (by kernel_rfl) rfl #[.slice A1 l1.length c1,.int .i64 (rd l0 x6_1)] rfl (by (try simp only [List.map_toArray,List.map_cons,List.map_nil]);first|done|rfl|(simp only [List.length_drop,List.length_take];rfl)) ?_;(with_reducible refine (spec_DevAt.calls k1 _ _ l1 (rd l0 x6_1) t164 t165 t166 true _ ?side1 ?side2 A7.out).mono ?_);(case side1=>repeat (first|exact (Kd.C_below HR1.out HB.out)|(with_reducible refine Kd.C_alloc ?_ _)|(with_reducible refine Kd.C_drewN ?_ _)|(with_reducible refine Kd.C_drew ?_)));(case side2=>exact HC1.out);rintro e w11 ⟨rfl,hb⟩;refine ⟨_,rfl,?_⟩;have n0_:=Aside0.mk (Kd.R_below (by (with_reducible repeat (first|apply Kd.R_alloc|apply Kd.R_drewN|apply Kd.R_drew));exact HO_5.out) hb);have n1_:=Aside0.mk (below_step (by repeat (first|(with_reducible first|exact HB.out|apply below_alloc|apply pw_below_drewN|apply below_drew1)|exact HB.out)) hb);clear HO_5;clear HB;have HO_5:=n0_;have HB:=n1_;clear n0_ n1_;(try clear hb);(try clear hb2);(try clear hk);(try clear hi))|((with_reducible refine gate_dst (N:=7) rfl ?_);refine box_event ?hg (N:=7) ?hd (cs:=#[.int .i64 0,.int .i64 0,.int .i64 0]) (t:=76) ?hr ?_;(case hd=>rfl);(case hg=>rfl);(case hr=>first|(go_simp;done)|(go_simp;rfl));intro gb168 hg w12 hbox hb;have n0_:=Aside0.mk (Kd.R_below (by (with_reducible repeat (first|apply Kd.R_alloc|apply Kd.R_drewN|apply Kd.R_drew));exact HO_5.out) hb);have n1_:=Aside0.mk (below_step (by repeat (first|(with_reducible first|exact HB.out|apply below_alloc|apply pw_below_drewN|apply below_drew1)|exact HB.out)) hb);have n2_:=Aside0.mk (hbox);have n3_:=Aside0.mk ((by rw [hg];exact (below_size (by repeat (first|(with_reducible first|exact HB.out|apply below_alloc|apply pw_below_drewN|apply below_drew1)|exact HB.out))):w.heap.size≤gb168));have n4_:=Aside0.mk ((by rw [hg];exact (below_size (by repeat (first|(with_reducible first|exact HB.out|apply below_alloc|apply pw_below_drewN|apply below_drew1)|exact HB.out))):w.heap.size≤gb168));clear HO_5;clear HB;have HO_5:=n0_;have HB:=n1_;have BK168:=n2_;have GW168:=n3_;have GE168:=n4_;clear n0_ n1_ n2_ n3_ n4_;clear hb hbox hg;have hcz13_0:w12.cell? ⟨gb168,0,none⟩=some (.int .i64 0):=(blk_cell BK168.out 0).trans rfl;have hcz13_1:w12.cell? ⟨gb168,1,none⟩=some (.int .i64 0):=(blk_cell BK168.out 1).trans rfl;have hcz13_2:w12.cell? ⟨gb168,2,none⟩=some (.int .i64 0):=(blk_cell BK168.out 2).trans rfl;have hfz13_0:=blk_frozen BK168.out 0;have hfz13_1:=blk_frozen BK168.out 1;have hfz13_2:=blk_frozen BK168.out 2;obtain ⟨Ao14,co14,eo14⟩:=Kd.R_slice HO_5.out;subst eo14)|(go_at_call 77;(with_reducible refine (spec_l4Has.calls k1 _ _ x5_1 t165 true _ ?side1 ?side2 A9.out).mono ?_);(case side1=>refine (Kd.R_reads' (e:=3) (base:=w.heap.size) (ok:=fun k_=>True) (n:=x5_1.length) (c:=co14) ?_).2.2;exact (by (with_reducible repeat (first|apply Kd.R_alloc|apply Kd.R_drewN|apply Kd.R_drew));exact (Kd.R_mono (Kd.R_far (p:=⟨gb168,2,none⟩) (Kd.R_far (p:=⟨gb168,1,none⟩) (Kd.R_far (p:=⟨gb168,0,none⟩) (Kd.R_types HO_5.out BK168.out (by decide)) (fun _ hk=>hk.2) (.int .i64 t164)) (fun _ hk=>hk.2) (.int .i64 t165)) (fun _ hk=>hk.2) (.int .i64 t166)) (fun _ h_=>h_.1))));(case side2=>exact (Kd.R_reads' HO_5.out).2.1);rintro e w' ⟨rfl,⟨nd,rfl⟩⟩))
       go_roundg k1
       case measure=>have:=HK1.out;omega
       case rel=>exact ⟨(x5_1),(wrap64 (x6_1+1)),(by first|rfl|(simp;done)|(simp [*];done)),H',⟨by have:=HK1.out;omega⟩,⟨by (with_reducible repeat (first|apply Kd.R_alloc|apply Kd.R_drewN|apply Kd.R_drew));exact Kd.R_mono (Kd.R_far (p:=⟨gb168,2,none⟩) (Kd.R_far (p:=⟨gb168,1,none⟩) (Kd.R_far (p:=⟨gb168,0,none⟩) (Kd.R_types HO_5.out BK168.out (by decide)) (fun _ hk=>hk.2) (.int .i64 t164)) (fun _ hk=>hk.2) (.int .i64 t165)) (fun _ hk=>hk.2) (.int .i64 t166)) (fun _ hk=>trivial)⟩,⟨by repeat (first|(with_reducible first|exact HB.out|apply below_alloc|apply pw_below_drewN|apply below_drew1|refine below_set ?_ GE168.out)|exact HB.out)⟩⟩
      ·replace c10:=Bool.eq_false_iff.mpr c10
       subst c10
       have H1:(if x5_1.length < 17592186044416 then (spec_l5Zones.l0 k1 l0 l1 (x5_1 ++ [t165]) (wrap64 (x6_1+1))) else (none))=some r:=by rw [if_neg (show ¬ (false=true) by decide)] at H;exact H
       clear H
       have H:=H1
       clear H1
       by_cases c15:x5_1.length < 17592186044416
       ·rw [if_pos c15] at H
        have LMc15:=Aside0.mk c15
        clear c15
        obtain ⟨y170,hy170⟩ : ∃ y_:List Int,y_=(x5_1 ++ [t165]):=⟨_,rfl⟩
        replace H:(spec_l5Zones.l0 k1 l0 l1 y170 (wrap64 (x6_1+1)))=some r:=by first|(rw [hy170];with_reducible exact H)|(have H2_:=(Option.bind_some _ _).symm.trans H;rw [hy170];with_reducible exact H2_)|(have H2_:=(Option.bind_some _ _).symm.trans H;with_reducible exact H2_)|with_reducible exact H|(rw [hy170];exact H)|exact H
        have Ny170:=Aside0.mk hy170
        clear hy170
        have H':=Aside0.mk H
        clear H
        have p163:0≤(x6_1:Int):=of_decide_eq_true (by first|(with_reducible assumption)|assumption)
        have q163:x6_1 < (l0.length:Int):=of_decide_eq_true (by first|(with_reducible assumption)|assumption)
        obtain ⟨ad163,e163,hx163_0⟩:=Kd.at_int HR0.out x6_1 p163 q163
        cases e163
        replace hx163_0:=(HB.out.cell (World.block_lt_of_cell? w _ hx163_0)).trans hx163_0
        replace p163:=eq_true p163
        replace q163:=eq_true q163
        go_wp2_with (first|((with_reducible refine gate_callee (f:=99) rfl ?_);refine goesL_ (some 22) rfl rfl Try.func99 (by kernel_rfl) rfl #[.slice A1 l1.length c1,.int .i64 (rd l0 x6_1)] rfl (by (try simp only [List.map_toArray,List.map_cons,List.map_nil]);first|done|rfl|(simp only [List.length_drop,List.length_take];rfl)) ?_;(with_reducible refine (spec_DevAt.calls k1 _ _ l1 (rd l0 x6_1) t164 t165 t166 true _ ?side1 ?side2 A7.out).mono ?_);(case side1=>repeat (first|exact (Kd.C_below HR1.out HB.out)|(with_reducible refine Kd.C_alloc ?_ _)|(with_reducible refine Kd.C_drewN ?_ _)|(with_reducible refine Kd.C_drew ?_)));(case side2=>exact HC1.out);rintro e w16 ⟨rfl,hb⟩;refine ⟨_,rfl,?_⟩;have n0_:=Aside0.mk (Kd.R_below (by (with_reducible repeat (first|apply Kd.R_alloc|apply Kd.R_drewN|apply Kd.R_drew));exact HO_5.out) hb);have n1_:=Aside0.mk (below_step (by repeat (first|(with_reducible first|exact HB.out|apply below_alloc|apply pw_below_drewN|apply below_drew1)|exact HB.out)) hb);clear HO_5;clear HB;have HO_5:=n0_;have HB:=n1_;clear n0_ n1_;(try clear hb);(try clear hb2);(try clear hk);(try clear hi))|((with_reducible refine gate_dst (N:=7) rfl ?_);refine box_event ?hg (N:=7) ?hd (cs:=#[.int .i64 0,.int .i64 0,.int .i64 0]) (t:=76) ?hr ?_;(case hd=>rfl);(case hg=>rfl);(case hr=>first|(go_simp;done)|(go_simp;rfl));intro gb168 hg w17 hbox hb;have n0_:=Aside0.mk (Kd.R_below (by (with_reducible repeat (first|apply Kd.R_alloc|apply Kd.R_drewN|apply Kd.R_drew));exact HO_5.out) hb);have n1_:=Aside0.mk (below_step (by repeat (first|(with_reducible first|exact HB.out|apply below_alloc|apply pw_below_drewN|apply below_drew1)|exact HB.out)) hb);have n2_:=Aside0.mk (hbox);have n3_:=Aside0.mk ((by rw [hg];exact (below_size (by repeat (first|(with_reducible first|exact HB.out|apply below_alloc|apply pw_below_drewN|apply below_drew1)|exact HB.out))):w.heap.size≤gb168));have n4_:=Aside0.mk ((by rw [hg];exact (below_size (by repeat (first|(with_reducible first|exact HB.out|apply below_alloc|apply pw_below_drewN|apply below_drew1)|exact HB.out))):w.heap.size≤gb168));clear HO_5;clear HB;have HO_5:=n0_;have HB:=n1_;have BK168:=n2_;have GW168:=n3_;have GE168:=n4_;clear n0_ n1_ n2_ n3_ n4_;clear hb hbox hg;have hcz18_0:w17.cell? ⟨gb168,0,none⟩=some (.int .i64 0):=(blk_cell BK168.out 0).trans rfl;have hcz18_1:w17.cell? ⟨gb168,1,none⟩=some (.int .i64 0):=(blk_cell BK168.out 1).trans rfl;have hcz18_2:w17.cell? ⟨gb168,2,none⟩=some (.int .i64 0):=(blk_cell BK168.out 2).trans rfl;have hfz18_0:=blk_frozen BK168.out 0;have hfz18_1:=blk_frozen BK168.out 1;have hfz18_2:=blk_frozen BK168.out 2;obtain ⟨Ao19,co19,eo19⟩:=Kd.R_slice HO_5.out;subst eo19)|(go_at_call 77;(with_reducible refine (spec_l4Has.calls k1 _ _ x5_1 t165 false _ ?side1 ?side2 A9.out).mono ?_);(case side1=>refine (Kd.R_reads' (e:=3) (base:=w.heap.size) (ok:=fun k_=>True) (n:=x5_1.length) (c:=co19) ?_).2.2;exact (by (with_reducible repeat (first|apply Kd.R_alloc|apply Kd.R_drewN|apply Kd.R_drew));exact (Kd.R_mono (Kd.R_far (p:=⟨gb168,2,none⟩) (Kd.R_far (p:=⟨gb168,1,none⟩) (Kd.R_far (p:=⟨gb168,0,none⟩) (Kd.R_types HO_5.out BK168.out (by decide)) (fun _ hk=>hk.2) (.int .i64 t164)) (fun _ hk=>hk.2) (.int .i64 t165)) (fun _ hk=>hk.2) (.int .i64 t166)) (fun _ h_=>h_.1))));(case side2=>exact (Kd.R_reads' HO_5.out).2.1);rintro e w' ⟨rfl,⟨nd,rfl⟩⟩)|((with_reducible refine gate_builtin (b:=.append) (xs:=#[.tmp 33,.tmp 36]) rfl ?_);at_builtin;refine Kd.R_append (Kd.int .i64) (w0:=w) w.heap.size rfl (.tmp 33) (.tmp 36) 22 3 (.int .i64 0) 8 rfl Try.underlying22 info3 rfl (by decide) (by omega) (.slice Ao19 x5_1.length co19) x5_1 t165 [.int .i64 t165] (fun _=>True) (fun _=>False) rfl (by first|(go_simp;done)|(go_simp;rfl)) ?aP (fun _ hk=>hk.elim) ?aF ?aO ?aB ?aS ?aL ?_;(case aP=>exact rfl);(case aB=>exact (by repeat (first|(with_reducible first|exact HB.out|apply below_alloc|apply pw_below_drewN|apply below_drew1|refine below_set ?_ GE168.out)|exact HB.out)));(case aF=>exact (fun _ _=>trivial));(case aO=>exact (by (with_reducible repeat (first|apply Kd.R_alloc|apply Kd.R_drewN|apply Kd.R_drew));exact Kd.R_mono (Kd.R_far (p:=⟨gb168,2,none⟩) (Kd.R_far (p:=⟨gb168,1,none⟩) (Kd.R_far (p:=⟨gb168,0,none⟩) (Kd.R_types HO_5.out BK168.out (by decide)) (fun _ hk=>hk.2) (.int .i64 t164)) (fun _ hk=>hk.2) (.int .i64 t165)) (fun _ hk=>hk.2) (.int .i64 t166)) (fun _ hk=>trivial)));(case aS=>exact (below_size (by repeat (first|(with_reducible first|exact HB.out|apply below_alloc|apply pw_below_drewN|apply below_drew1|refine below_set ?_ GE168.out)|exact HB.out))));(case aL=>have:=LMc15.out;omega);intro v171 w20 ho hb hg hat;rw [← Ny170.out] at ho;have n0_:=Aside0.mk (blk_grown (g:=gb168) (o:=.cells #[.int .i64 t164,.int .i64 t165,.int .i64 t166] 76 (0,0)) (by (with_reducible repeat (first|refine blk_drewN ?_ _|refine blk_drew ?_|refine blk_alloc ?_ _));refine blk_put (cs:=#[.int .i64 t164,.int .i64 t165,.int .i64 0]) ?_ 2 _ rfl;(with_reducible repeat (first|refine blk_drewN ?_ _|refine blk_drew ?_|refine blk_alloc ?_ _));refine blk_put (cs:=#[.int .i64 t164,.int .i64 0,.int .i64 0]) ?_ 1 _ rfl;(with_reducible repeat (first|refine blk_drewN ?_ _|refine blk_drew ?_|refine blk_alloc ?_ _));refine blk_put (cs:=#[.int .i64 0,.int .i64 0,.int .i64 0]) ?_ 0 _ rfl;(with_reducible repeat (first|refine blk_drewN ?_ _|refine blk_drew ?_|refine blk_alloc ?_ _));exact BK168.out) hg (Kd.R_ne HO_5.out BK168.out (by decide)));have n1_:=Aside0.mk (hb);have n2_:=Aside0.mk (ho);clear BK168;clear HB;clear HO_5;have BK168:=n0_;have HB:=n1_;have HO172:=n2_;clear n0_ n1_ n2_;clear ho hb hg hat))
        go_roundg k1
        case measure=>have:=HK1.out;omega
        case rel=>exact ⟨(y170),(wrap64 (x6_1+1)),(by first|rfl|(simp;done)|(simp [*];done)),H',⟨by have:=HK1.out;omega⟩,⟨by (with_reducible repeat (first|apply Kd.R_alloc|apply Kd.R_drewN|apply Kd.R_drew));exact HO172.out⟩,⟨by repeat (first|(with_reducible first|exact HB.out|apply below_alloc|apply pw_below_drewN|apply below_drew1|refine below_set ?_ GE168.out)|exact HB.out)⟩⟩
       ·rw [if_neg c15] at H
        exact absurd H (by simp)
     ·replace c8:=Bool.eq_false_iff.mpr c8
      subst c8
      have H1:(spec_l5Zones.l0 k1 l0 l1 x5_1 (wrap64 (x6_1+1)))=some r:=by rw [if_neg (show ¬ (false=true) by decide)] at H;exact H
      clear H
      have H:=H1
      clear H1
      have H':=Aside0.mk H
      clear H
      have p163:0≤(x6_1:Int):=of_decide_eq_true (by first|(with_reducible assumption)|assumption)
      have q163:x6_1 < (l0.length:Int):=of_decide_eq_true (by first|(with_reducible assumption)|assumption)
      obtain ⟨ad163,e163,hx163_0⟩:=Kd.at_int HR0.out x6_1 p163 q163
      cases e163
      replace hx163_0:=(HB.out.cell (World.block_lt_of_cell? w _ hx163_0)).trans hx163_0
      replace p163:=eq_true p163
      replace q163:=eq_true q163
      go_wp2_with (first|((with_reducible refine gate_callee (f:=99) rfl ?_);refine goesL_ (some 22) rfl rfl Try.func99 (by kernel_rfl) rfl #[.slice A1 l1.length c1,.int .i64 (rd l0 x6_1)] rfl (by (try simp only [List.map_toArray,List.map_cons,List.map_nil]);first|done|rfl|(simp only [List.length_drop,List.length_take];rfl)) ?_;(with_reducible refine (spec_DevAt.calls k1 _ _ l1 (rd l0 x6_1) t164 t165 t166 false _ ?side1 ?side2 A7.out).mono ?_);(case side1=>repeat (first|exact (Kd.C_below HR1.out HB.out)|(with_reducible refine Kd.C_alloc ?_ _)|(with_reducible refine Kd.C_drewN ?_ _)|(with_reducible refine Kd.C_drew ?_)));(case side2=>exact HC1.out);rintro e w21 ⟨rfl,hb⟩;refine ⟨_,rfl,?_⟩;have n0_:=Aside0.mk (Kd.R_below (by (with_reducible repeat (first|apply Kd.R_alloc|apply Kd.R_drewN|apply Kd.R_drew));exact HO_5.out) hb);have n1_:=Aside0.mk (below_step (by repeat (first|(with_reducible first|exact HB.out|apply below_alloc|apply pw_below_drewN|apply below_drew1)|exact HB.out)) hb);clear HO_5;clear HB;have HO_5:=n0_;have HB:=n1_;clear n0_ n1_;(try clear hb);(try clear hb2);(try clear hk);(try clear hi))|((with_reducible refine gate_dst (N:=7) rfl ?_);refine box_event ?hg (N:=7) ?hd (cs:=#[.int .i64 0,.int .i64 0,.int .i64 0]) (t:=76) ?hr ?_;(case hd=>rfl);(case hg=>rfl);(case hr=>first|(go_simp;done)|(go_simp;rfl));intro gb168 hg w22 hbox hb;have n0_:=Aside0.mk (Kd.R_below (by (with_reducible repeat (first|apply Kd.R_alloc|apply Kd.R_drewN|apply Kd.R_drew));exact HO_5.out) hb);have n1_:=Aside0.mk (below_step (by repeat (first|(with_reducible first|exact HB.out|apply below_alloc|apply pw_below_drewN|apply below_drew1)|exact HB.out)) hb);have n2_:=Aside0.mk (hbox);have n3_:=Aside0.mk ((by rw [hg];exact (below_size (by repeat (first|(with_reducible first|exact HB.out|apply below_alloc|apply pw_below_drewN|apply below_drew1)|exact HB.out))):w.heap.size≤gb168));have n4_:=Aside0.mk ((by rw [hg];exact (below_size (by repeat (first|(with_reducible first|exact HB.out|apply below_alloc|apply pw_below_drewN|apply below_drew1)|exact HB.out))):w.heap.size≤gb168));clear HO_5;clear HB;have HO_5:=n0_;have HB:=n1_;have BK168:=n2_;have GW168:=n3_;have GE168:=n4_;clear n0_ n1_ n2_ n3_ n4_;clear hb hbox hg;have hcz23_0:w22.cell? ⟨gb168,0,none⟩=some (.int .i64 0):=(blk_cell BK168.out 0).trans rfl;have hcz23_1:w22.cell? ⟨gb168,1,none⟩=some (.int .i64 0):=(blk_cell BK168.out 1).trans rfl;have hcz23_2:w22.cell? ⟨gb168,2,none⟩=some (.int .i64 0):=(blk_cell BK168.out 2).trans rfl;have hfz23_0:=blk_frozen BK168.out 0;have hfz23_1:=blk_frozen BK168.out 1;have hfz23_2:=blk_frozen BK168.out 2))
      go_roundg k1
      case measure=>have:=HK1.out;omega
      case rel=>exact ⟨(x5_1),(wrap64 (x6_1+1)),(by first|rfl|(simp;done)|(simp [*];done)),H',⟨by have:=HK1.out;omega⟩,⟨by (with_reducible repeat (first|apply Kd.R_alloc|apply Kd.R_drewN|apply Kd.R_drew));exact Kd.R_mono (Kd.R_far (p:=⟨gb168,2,none⟩) (Kd.R_far (p:=⟨gb168,1,none⟩) (Kd.R_far (p:=⟨gb168,0,none⟩) (Kd.R_types HO_5.out BK168.out (by decide)) (fun _ hk=>hk.2) (.int .i64 t164)) (fun _ hk=>hk.2) (.int .i64 t165)) (fun _ hk=>hk.2) (.int .i64 t166)) (fun _ hk=>trivial)⟩,⟨by repeat (first|(with_reducible first|exact HB.out|apply below_alloc|apply pw_below_drewN|apply below_drew1|refine below_set ?_ GE168.out)|exact HB.out)⟩⟩
    ·rw [if_neg c6] at H
     exact absurd H (by simp)
   ·rw [if_neg c5] at H
    have c5b0:decide (x6_1 < (l0.length:Int))=false:=decide_eq_false c5
    clear c5
    obtain rfl:=Option.some.inj H
    go_wp2
    go_ret
    exact ⟨_,by first|rfl|(simp [errW_none,errW_some] <;> rfl)|(simp [*,errW_none,errW_some] <;> rfl),by (with_reducible repeat (first|apply Kd.R_alloc|apply Kd.R_drewN|apply Kd.R_drew));exact HO_5.out,by repeat (first|(with_reducible first|exact HB.out|apply below_alloc|apply pw_below_drewN|apply below_drew1)|exact HB.out)⟩
mutual
def spec_Handoffs.l0:Nat→List (S76)→List Int→List Int→List Int→Int→Option (List Int)
 | 0,_,_,_,_,_=>none
 | k+1,x1,x7,x8,x9,x10=>if x10 < 2 then (spec_Handoffs.l1 k x1 x7 x8 x9 x10 0) else (some x9)
def spec_Handoffs.l1:Nat→List (S76)→List Int→List Int→List Int→Int→Int→Option (List Int)
 | 0,_,_,_,_,_,_=>none
 | k+1,x1,x7,x8,x9,x10,x11=>if x11 < (x1.length:Int) then (if 0≤x11 then ((spec_l4Has.f k x7 ((rd_T76 x1 x11).f0)).bind fun t184=>(if t184=true then (spec_Handoffs.l1 k x1 x7 x8 x9 x10 (wrap64 (x11+1))) else ((spec_l4Has.f k x8 ((rd_T76 x1 x11).f1)).bind fun t186=>(if (t186 == (x10 == 1))=true then (if x9.length < 17592186044416 then (spec_Handoffs.l1 k x1 x7 x8 (x9 ++ [(rd_T76 x1 x11).f0]) x10 (wrap64 (x11+1))) else (none)) else (spec_Handoffs.l1 k x1 x7 x8 x9 x10 (wrap64 (x11+1))))))) else (none)) else (spec_Handoffs.l0 k x1 x7 x8 x9 (wrap64 (x10+1)))
end
def spec_Handoffs.f (k:Nat) (a0_0:Int) (l0_1:List (S29)) (l1:List (S76)) (a2:ByteArray):Option (List Int):=(spec_Primaries.f k a0_0 l0_1 a2).bind fun t174=>((spec_l5Zones.f k t174 l1).bind fun t177=>(spec_Handoffs.l0 k l1 t174 t177 (([]:List Int)) 0))
set_option maxHeartbeats 8000000 in
set_option maxRecDepth 100000 in
theorem spec_Handoffs.calls (k:Nat) (a0_0:Int) (A0_1:Option Addr) (c0_1:Nat) (l0_1:List (S29)) (A1:Option Addr) (c1:Nat) (l1:List (S76)) (a2:ByteArray) (r:List Int) (w:World) (hr0_1:Kd.C k29 w A0_1 l0_1.length l0_1) (hc0_1:l0_1.length≤c0_1) (hr1:Kd.C k76 w A1 l1.length l1) (hc1:l1.length≤c1) (h:spec_Handoffs.f k a0_0 l0_1 l1 a2=some r) :
  Calls Try.prog 57 #[.agg #[.int .i64 a0_0,.slice A0_1 l0_1.length c0_1],.slice A1 l1.length c1,.string a2] w fun e w'=>∃ v0_:Value,e = .returned (v0_)∧Kd.R (Kd.int .i64) 3 w' w.heap.size (fun _=>True) v0_ r∧Below w.heap.size w w':=by
 have hu43:=Try.underlying43
 have HR0_1:=Aside0.mk hr0_1
 have HC0_1:=Aside0.mk hc0_1
 clear hr0_1 hc0_1
 have HR1:=Aside0.mk hr1
 have HC1:=Aside0.mk hc1
 clear hr1 hc1
 have HB:=Aside0.mk (Below.refl w.heap.size w)
 have H:((spec_Primaries.f k a0_0 l0_1 a2).bind fun t174=>((spec_l5Zones.f k t174 l1).bind fun t177=>(spec_Handoffs.l0 k l1 t174 t177 (([]:List Int)) 0)))=some r:=h
 clear h
 replace H:=Option.bind_eq_some_iff.mp H
 obtain ⟨t174,A40,H⟩:=H
 replace H:((spec_l5Zones.f k t174 l1).bind fun t177=>(spec_Handoffs.l0 k l1 t174 t177 (([]:List Int)) 0))=some r:=H
 have A4:=Aside0.mk A40
 clear A40
 replace H:=Option.bind_eq_some_iff.mp H
 obtain ⟨t177,A50,H⟩:=H
 replace H:(spec_Handoffs.l0 k l1 t174 t177 (([]:List Int)) 0)=some r:=H
 have A5:=Aside0.mk A50
 clear A50
 obtain ⟨y180,hy180⟩ : ∃ y_:List Int,y_=(([]:List Int)):=⟨_,rfl⟩
 replace H:(spec_Handoffs.l0 k l1 t174 t177 y180 0)=some r:=by first|(rw [hy180];with_reducible exact H)|(have H2_:=(Option.bind_some _ _).symm.trans H;rw [hy180];with_reducible exact H2_)|(have H2_:=(Option.bind_some _ _).symm.trans H;with_reducible exact H2_)|with_reducible exact H|(rw [hy180];exact H)|exact H
 have Ny180:=Aside0.mk hy180
 clear hy180
 have H':=Aside0.mk H
 clear H
 go_enter Try.func57,Try.ntmps57
 go_wp2_with (first|((with_reducible refine gate_dst (N:=3) rfl ?_);refine box_event ?hg (N:=3) ?hd (cs:=#[.int .i64 a0_0,.slice A0_1 l0_1.length c0_1]) (t:=43) ?hr ?_;(case hd=>rfl);(case hg=>rfl);(case hr=>first|(go_simp;done)|(go_simp;rfl));intro gb173 hg w6 hbox hb;have n0_:=Aside0.mk (below_step (by repeat (first|(with_reducible first|exact HB.out|apply below_alloc|apply pw_below_drewN|apply below_drew1)|exact HB.out)) hb);have n1_:=Aside0.mk (hbox);have n2_:=Aside0.mk ((by rw [hg];exact (below_size (by repeat (first|(with_reducible first|exact HB.out|apply below_alloc|apply pw_below_drewN|apply below_drew1)|exact HB.out))):w.heap.size≤gb173));have n3_:=Aside0.mk ((by rw [hg];exact (below_size (by repeat (first|(with_reducible first|exact HB.out|apply below_alloc|apply pw_below_drewN|apply below_drew1)|exact HB.out))):w.heap.size≤gb173));clear HB;have HB:=n0_;have BK173:=n1_;have GW173:=n2_;have GE173:=n3_;clear n0_ n1_ n2_ n3_;clear hb hbox hg;have hcz7_0:w6.cell? ⟨gb173,0,none⟩=some (.int .i64 a0_0):=(blk_cell BK173.out 0).trans rfl;have hcz7_1:w6.cell? ⟨gb173,1,none⟩=some (.slice A0_1 l0_1.length c0_1):=(blk_cell BK173.out 1).trans rfl;have hfz7_0:=blk_frozen BK173.out 0;have hfz7_1:=blk_frozen BK173.out 1)|((with_reducible refine gate_callee (f:=28) rfl ?_);refine goesL_ (some 14) rfl rfl Try.func28 (by kernel_rfl) rfl #[.agg #[.int .i64 a0_0,.slice A0_1 l0_1.length c0_1],.string a2] rfl (by (try simp only [List.map_toArray,List.map_cons,List.map_nil]);first|done|rfl|(simp only [List.length_drop,List.length_take];rfl)) ?_;(with_reducible refine (spec_Primaries.calls k a0_0 _ _ l0_1 a2 t174 _ ?side1 ?side2 A4.out).mono ?_);(case side1=>repeat (first|exact (Kd.C_below HR0_1.out HB.out)|(with_reducible refine Kd.C_alloc ?_ _)|(with_reducible refine Kd.C_drewN ?_ _)|(with_reducible refine Kd.C_drew ?_)));(case side2=>exact HC0_1.out);rintro e w8 ⟨v175,rfl,ho0,hb⟩;refine ⟨_,rfl,?_⟩;have n0_:=Aside0.mk (Kd.R_lower ho0 (below_size (by repeat (first|(with_reducible first|exact HB.out|apply below_alloc|apply pw_below_drewN|apply below_drew1|refine below_set ?_ GE173.out)|exact HB.out))));have n1_:=Aside0.mk (blk_below (g:=gb173) (o:=.cells #[.int .i64 a0_0,.slice A0_1 l0_1.length c0_1] 43 (0,0)) (by (with_reducible repeat (first|refine blk_drewN ?_ _|refine blk_drew ?_|refine blk_alloc ?_ _));exact BK173.out) hb);have n2_:=Aside0.mk (below_step (by repeat (first|(with_reducible first|exact HB.out|apply below_alloc|apply pw_below_drewN|apply below_drew1|refine below_set ?_ GE173.out)|exact HB.out)) hb);clear BK173;clear HB;have HO176:=n0_;have BK173:=n1_;have HB:=n2_;clear n0_ n1_ n2_;(try clear hb);(try clear hb2);(try clear hk);(try clear hi);(try clear ho0);obtain ⟨Ao9,co9,eo9⟩:=Kd.R_slice HO176.out;subst eo9)|((with_reducible refine gate_callee (f:=71) rfl ?_);refine goesL_ (some 17) rfl rfl Try.func71 (by kernel_rfl) rfl #[.slice Ao9 t174.length co9,.slice A1 l1.length c1] rfl (by (try simp only [List.map_toArray,List.map_cons,List.map_nil]);first|done|rfl|(simp only [List.length_drop,List.length_take];rfl)) ?_;(with_reducible refine (spec_l5Zones.calls k _ _ t174 _ _ l1 t177 _ ?side1 ?side2 ?side3 ?side4 A5.out).mono ?_);(case side1=>repeat (first|exact (Kd.R_reads' HO176.out).2.2|(with_reducible refine Kd.C_alloc ?_ _)|(with_reducible refine Kd.C_drewN ?_ _)|(with_reducible refine Kd.C_drew ?_)));(case side2=>exact (Kd.R_reads' HO176.out).2.1);(case side3=>repeat (first|exact (Kd.C_below HR1.out HB.out)|(with_reducible refine Kd.C_alloc ?_ _)|(with_reducible refine Kd.C_drewN ?_ _)|(with_reducible refine Kd.C_drew ?_)));(case side4=>exact HC1.out);rintro e w10 ⟨v178,rfl,ho0,hb⟩;refine ⟨_,rfl,?_⟩;have n0_:=Aside0.mk (Kd.R_elder' (by (with_reducible repeat (first|apply Kd.R_alloc|apply Kd.R_drewN|apply Kd.R_drew));exact HO176.out) (Kd.R_base ho0) hb);have n1_:=Aside0.mk (Kd.R_lower (Kd.R_new' ho0 (Kd.R_lt (by (with_reducible repeat (first|apply Kd.R_alloc|apply Kd.R_drewN|apply Kd.R_drew));exact HO176.out))) (below_size (by repeat (first|(with_reducible first|exact HB.out|apply below_alloc|apply pw_below_drewN|apply below_drew1|refine below_set ?_ GE173.out)|exact HB.out))));have n2_:=Aside0.mk (blk_below (g:=gb173) (o:=.cells #[.int .i64 a0_0,.slice A0_1 l0_1.length c0_1] 43 (0,0)) (by (with_reducible repeat (first|refine blk_drewN ?_ _|refine blk_drew ?_|refine blk_alloc ?_ _));exact BK173.out) hb);have n3_:=Aside0.mk (below_step (by repeat (first|(with_reducible first|exact HB.out|apply below_alloc|apply pw_below_drewN|apply below_drew1|refine below_set ?_ GE173.out)|exact HB.out)) hb);clear HO176;clear BK173;clear HB;have HO176:=n0_;have HO179:=n1_;have BK173:=n2_;have HB:=n3_;clear n0_ n1_ n2_ n3_;(try clear hb);(try clear hb2);(try clear hk);(try clear hi);(try clear ho0))|((with_reducible refine gate_dst (N:=18) rfl ?_);refine Kd.R_lit (Kd.int .i64) _ 3 ?hg (N:=18) ?hd (xs:=([]:List Int)) (inner:=[]) (ok:=fun _=>True) (okp:=fun _=>True) ?hr ?hp (fun _ hk=>hk) trivial (Below.refl _ _) (Nat.le_refl _) (by simp) ?_;(case hd=>rfl);(case hg=>rfl);(case hr=>first|(go_simp;done)|(go_simp;rfl));(case hp=>exact (Reps.none _ _));intro v181 w11 ho12 hb hg_ hnew_;clear hg_ hnew_;(first|rw [← Ny180.out] at ho12|(simp only [Int.reduceToNat] at ho12;rw [← Ny180.out] at ho12));have n0_:=Aside0.mk (Kd.R_elder' (by (with_reducible repeat (first|apply Kd.R_alloc|apply Kd.R_drewN|apply Kd.R_drew));exact HO176.out) (Kd.R_base ho12) hb);have n1_:=Aside0.mk (Kd.R_elder' (by (with_reducible repeat (first|apply Kd.R_alloc|apply Kd.R_drewN|apply Kd.R_drew));exact HO179.out) (Kd.R_base ho12) hb);have n2_:=Aside0.mk (Kd.R_lower (Kd.R_new' (Kd.R_new' ho12 (Kd.R_lt (by (with_reducible repeat (first|apply Kd.R_alloc|apply Kd.R_drewN|apply Kd.R_drew));exact HO176.out))) (Kd.R_lt (by (with_reducible repeat (first|apply Kd.R_alloc|apply Kd.R_drewN|apply Kd.R_drew));exact HO179.out))) (below_size (by repeat (first|(with_reducible first|exact HB.out|apply below_alloc|apply pw_below_drewN|apply below_drew1|refine below_set ?_ GE173.out)|exact HB.out))));have n3_:=Aside0.mk (blk_below (g:=gb173) (o:=.cells #[.int .i64 a0_0,.slice A0_1 l0_1.length c0_1] 43 (0,0)) (by (with_reducible repeat (first|refine blk_drewN ?_ _|refine blk_drew ?_|refine blk_alloc ?_ _));exact BK173.out) hb);have n4_:=Aside0.mk (below_step (by repeat (first|(with_reducible first|exact HB.out|apply below_alloc|apply pw_below_drewN|apply below_drew1|refine below_set ?_ GE173.out)|exact HB.out)) hb);clear HO176;clear HO179;clear BK173;clear HB;have HO176:=n0_;have HO179:=n1_;have HO182:=n2_;have BK173:=n3_;have HB:=n4_;clear n0_ n1_ n2_ n3_ n4_;clear hb ho12))
 go_loopg [9,10] k (fun kq v9 v10 w'=>∃ (x9_1:List Int) (x10_1:Int),v10 = .int .i64 x10_1∧Aside0 (spec_Handoffs.l0 kq l1 t174 t177 x9_1 x10_1=some r)∧Aside0 (kq≤k)∧Aside0 (Kd.R (Kd.int .i64) 3 w' w.heap.size (fun k_=>some k_ ≠ (v178:Value).ownBlock∧some k_ ≠ (v9:Value).ownBlock) (.slice Ao9 t174.length co9) t174)∧Aside0 (Kd.R (Kd.int .i64) 3 w' w.heap.size (fun k_=>some k_ ≠ ((.slice Ao9 t174.length co9):Value).ownBlock∧some k_ ≠ (v9:Value).ownBlock) v178 t177)∧Aside0 (Kd.R (Kd.int .i64) 3 w' w.heap.size (fun k_=>some k_ ≠ ((.slice Ao9 t174.length co9):Value).ownBlock∧some k_ ≠ (v178:Value).ownBlock) v9 x9_1)∧Aside0 (w'.heap[gb173]?=some (.cells #[.int .i64 a0_0,(.slice A0_1 l0_1.length c0_1)] 43 (0,0)))∧Aside0 (Below w.heap.size w w'))
 case atStart=>exact ⟨(y180),(0),(by first|rfl|(simp;done)|(simp [*];done)),H',⟨Nat.le_refl _⟩,⟨by (with_reducible repeat (first|apply Kd.R_alloc|apply Kd.R_drewN|apply Kd.R_drew));exact Kd.R_mono HO176.out (fun _ hk=>⟨hk.1.2,hk.2⟩)⟩,⟨by (with_reducible repeat (first|apply Kd.R_alloc|apply Kd.R_drewN|apply Kd.R_drew));exact Kd.R_mono HO179.out (fun _ hk=>⟨hk.1.2,hk.2⟩)⟩,⟨by (with_reducible repeat (first|apply Kd.R_alloc|apply Kd.R_drewN|apply Kd.R_drew));exact Kd.R_mono HO182.out (fun _ hk=>⟨hk.1.2,hk.2⟩)⟩,⟨by (with_reducible repeat (first|refine blk_drewN ?_ _|refine blk_drew ?_|refine blk_alloc ?_ _));exact BK173.out⟩,⟨by repeat (first|(with_reducible first|exact HB.out|apply below_alloc|apply pw_below_drewN|apply below_drew1|refine below_set ?_ GE173.out)|exact HB.out)⟩⟩
 case round=>
  clear H'
  try clear c1
  try clear c2
  try clear p2
  try clear c5
  try clear c7
  try clear hcz7_0
  try clear hcz7_1
  try clear hfz7_0
  try clear hfz7_1
  obtain ⟨x9_1,x10_1,rfl,HA,HK1,HO_7,HO_8,HO_9,BK173,HB⟩:=hrel
  cases gk with
  | zero=>exact absurd HA.out (by simp [spec_Handoffs.l0])
  | succ k1=>
   have H:=HA.out
   clear HA
   simp only [spec_Handoffs.l0] at H
   by_cases c13:x10_1 < 2
   ·rw [if_pos c13] at H
    have c13b0:decide (x10_1 < 2)=true:=decide_eq_true c13
    clear c13
    have H':=Aside0.mk H
    clear H
    go_wp2
    go_loopg [9,11] k1 (fun kq v9 v11 w'=>∃ (x9_2:List Int) (x11_2:Int),v11 = .int .i64 x11_2∧Aside0 (spec_Handoffs.l1 kq l1 t174 t177 x9_2 x10_1 x11_2=some r)∧Aside0 (kq≤k1)∧Aside0 (Kd.R (Kd.int .i64) 3 w' w.heap.size (fun k_=>some k_ ≠ (v178:Value).ownBlock∧some k_ ≠ (v9:Value).ownBlock) (.slice Ao9 t174.length co9) t174)∧Aside0 (Kd.R (Kd.int .i64) 3 w' w.heap.size (fun k_=>some k_ ≠ ((.slice Ao9 t174.length co9):Value).ownBlock∧some k_ ≠ (v9:Value).ownBlock) v178 t177)∧Aside0 (Kd.R (Kd.int .i64) 3 w' w.heap.size (fun k_=>some k_ ≠ ((.slice Ao9 t174.length co9):Value).ownBlock∧some k_ ≠ (v178:Value).ownBlock) v9 x9_2)∧Aside0 (w'.heap[gb173]?=some (.cells #[.int .i64 a0_0,(.slice A0_1 l0_1.length c0_1)] 43 (0,0)))∧Aside0 (Below w.heap.size w w'))
    case atStart=>exact ⟨(x9_1),(0),(by first|rfl|(simp;done)|(simp [*];done)),H',⟨Nat.le_refl _⟩,⟨by (with_reducible repeat (first|apply Kd.R_alloc|apply Kd.R_drewN|apply Kd.R_drew));exact HO_7.out⟩,⟨by (with_reducible repeat (first|apply Kd.R_alloc|apply Kd.R_drewN|apply Kd.R_drew));exact HO_8.out⟩,⟨by (with_reducible repeat (first|apply Kd.R_alloc|apply Kd.R_drewN|apply Kd.R_drew));exact HO_9.out⟩,⟨by (with_reducible repeat (first|refine blk_drewN ?_ _|refine blk_drew ?_|refine blk_alloc ?_ _));exact BK173.out⟩,⟨by repeat (first|(with_reducible first|exact HB.out|apply below_alloc|apply pw_below_drewN|apply below_drew1|refine below_set ?_ GE173.out)|exact HB.out)⟩⟩
    case round=>
     clear H'
     try clear c1
     try clear c2
     try clear p2
     try clear c5
     try clear c7
     try clear c13
     try clear c13b0
     try clear hcz7_0
     try clear hcz7_1
     try clear hfz7_0
     try clear hfz7_1
     try clear p2
     obtain ⟨x9_2,x11_2,rfl,HA,HK2,HO_7,HO_8,HO_9,BK173,HB⟩:=hrel
     cases gk with
     | zero=>exact absurd HA.out (by simp [spec_Handoffs.l1])
     | succ k2=>
      have H:=HA.out
      clear HA
      simp only [spec_Handoffs.l1] at H
      by_cases c14:x11_2 < (l1.length:Int)
      ·rw [if_pos c14] at H
       have c14b0:decide (x11_2 < (l1.length:Int))=true:=decide_eq_true c14
       clear c14
       by_cases c15:0≤x11_2
       ·rw [if_pos c15] at H
        have c15b0:decide (0≤x11_2)=true:=decide_eq_true c15
        clear c15
        replace H:=Option.bind_eq_some_iff.mp H
        obtain ⟨t184,A160,H⟩:=H
        replace H:(if t184=true then (spec_Handoffs.l1 k2 l1 t174 t177 x9_2 x10_1 (wrap64 (x11_2+1))) else ((spec_l4Has.f k2 t177 ((rd_T76 l1 x11_2).f1)).bind fun t186=>(if (t186 == (x10_1 == 1))=true then (if x9_2.length < 17592186044416 then (spec_Handoffs.l1 k2 l1 t174 t177 (x9_2 ++ [(rd_T76 l1 x11_2).f0]) x10_1 (wrap64 (x11_2+1))) else (none)) else (spec_Handoffs.l1 k2 l1 t174 t177 x9_2 x10_1 (wrap64 (x11_2+1))))))=some r:=H
        have A16:=Aside0.mk A160
        clear A160
        by_cases c17:t184=true
        ·subst c17
         have H1:(spec_Handoffs.l1 k2 l1 t174 t177 x9_2 x10_1 (wrap64 (x11_2+1)))=some r:=by rw [if_pos rfl] at H;exact H
         clear H
         have H:=H1
         clear H1
         have H':=Aside0.mk H
         clear H
         have p183:0≤(x11_2:Int):=of_decide_eq_true (by first|(with_reducible assumption)|assumption)
         have q183:x11_2 < (l1.length:Int):=of_decide_eq_true (by first|(with_reducible assumption)|assumption)
         obtain ⟨ad183,e183,hx183_0,hx183_1,hx183_2⟩:=at_T76 HR1.out x11_2 p183 q183
         cases e183
         replace hx183_0:=(HB.out.cell (World.block_lt_of_cell? w _ hx183_0)).trans hx183_0
         replace hx183_1:=(HB.out.cell (World.block_lt_of_cell? w _ hx183_1)).trans hx183_1
         replace hx183_2:=(HB.out.cell (World.block_lt_of_cell? w _ hx183_2)).trans hx183_2
         replace p183:=eq_true p183
         replace q183:=eq_true q183
         go_wp2_with (first|((with_reducible refine gate_callee (f:=77) rfl ?_);refine goesL_ (some 35) rfl rfl Try.func77 (by kernel_rfl) rfl #[.slice Ao9 t174.length co9,.int .i64 ((rd_T76 l1 x11_2).f0)] rfl (by (try simp only [List.map_toArray,List.map_cons,List.map_nil]);first|done|rfl|(simp only [List.length_drop,List.length_take];rfl)) ?_;(with_reducible refine (spec_l4Has.calls k2 _ _ t174 ((rd_T76 l1 x11_2).f0) true _ ?side1 ?side2 A16.out).mono ?_);(case side1=>repeat (first|exact (Kd.R_reads' HO_7.out).2.2|(with_reducible refine Kd.C_alloc ?_ _)|(with_reducible refine Kd.C_drewN ?_ _)|(with_reducible refine Kd.C_drew ?_)));(case side2=>exact (Kd.R_reads' HO_7.out).2.1);rintro e w' ⟨rfl,⟨nd,rfl⟩⟩;refine ⟨_,rfl,?_⟩))
         go_roundg k2
         case measure=>have:=HK1.out;have:=HK2.out;omega
         case rel=>exact ⟨(x9_2),(wrap64 (x11_2+1)),(by first|rfl|(simp;done)|(simp [*];done)),H',⟨by have:=HK1.out;have:=HK2.out;omega⟩,⟨by (with_reducible repeat (first|apply Kd.R_alloc|apply Kd.R_drewN|apply Kd.R_drew));exact HO_7.out⟩,⟨by (with_reducible repeat (first|apply Kd.R_alloc|apply Kd.R_drewN|apply Kd.R_drew));exact HO_8.out⟩,⟨by (with_reducible repeat (first|apply Kd.R_alloc|apply Kd.R_drewN|apply Kd.R_drew));exact HO_9.out⟩,⟨by (with_reducible repeat (first|refine blk_drewN ?_ _|refine blk_drew ?_|refine blk_alloc ?_ _));exact BK173.out⟩,⟨by repeat (first|(with_reducible first|exact HB.out|apply below_alloc|apply pw_below_drewN|apply below_drew1|refine below_set ?_ GE173.out)|exact HB.out)⟩⟩
        ·replace c17:=Bool.eq_false_iff.mpr c17
         subst c17
         have H1:((spec_l4Has.f k2 t177 ((rd_T76 l1 x11_2).f1)).bind fun t186=>(if (t186 == (x10_1 == 1))=true then (if x9_2.length < 17592186044416 then (spec_Handoffs.l1 k2 l1 t174 t177 (x9_2 ++ [(rd_T76 l1 x11_2).f0]) x10_1 (wrap64 (x11_2+1))) else (none)) else (spec_Handoffs.l1 k2 l1 t174 t177 x9_2 x10_1 (wrap64 (x11_2+1)))))=some r:=by rw [if_neg (show ¬ (false=true) by decide)] at H;exact H
         clear H
         have H:=H1
         clear H1
         replace H:=Option.bind_eq_some_iff.mp H
         obtain ⟨t186,A180,H⟩:=H
         replace H:(if (t186 == (x10_1 == 1))=true then (if x9_2.length < 17592186044416 then (spec_Handoffs.l1 k2 l1 t174 t177 (x9_2 ++ [(rd_T76 l1 x11_2).f0]) x10_1 (wrap64 (x11_2+1))) else (none)) else (spec_Handoffs.l1 k2 l1 t174 t177 x9_2 x10_1 (wrap64 (x11_2+1))))=some r:=H
         have A18:=Aside0.mk A180
         clear A180
         by_cases c19:(t186 == (x10_1 == 1))=true
         ·rw [if_pos c19] at H
          have c19b0:(t186 == (x10_1 == 1))=true:=c19
          (try (have c19b1:decide (t186=(x10_1 == 1))=true:=by simpa using c19))
          (try (have c19b2:(t186 == (x10_1 == 1))=true:=by simpa using c19))
          clear c19
          by_cases c20:x9_2.length < 17592186044416
          ·rw [if_pos c20] at H
           have LMc20:=Aside0.mk c20
           clear c20
           obtain ⟨y188,hy188⟩ : ∃ y_:List Int,y_=(x9_2 ++ [(rd_T76 l1 x11_2).f0]):=⟨_,rfl⟩
           replace H:(spec_Handoffs.l1 k2 l1 t174 t177 y188 x10_1 (wrap64 (x11_2+1)))=some r:=by first|(rw [hy188];with_reducible exact H)|(have H2_:=(Option.bind_some _ _).symm.trans H;rw [hy188];with_reducible exact H2_)|(have H2_:=(Option.bind_some _ _).symm.trans H;with_reducible exact H2_)|with_reducible exact H|(rw [hy188];exact H)|exact H
           have Ny188:=Aside0.mk hy188
           clear hy188
           have H':=Aside0.mk H
           clear H
           have p183:0≤(x11_2:Int):=of_decide_eq_true (by first|(with_reducible assumption)|assumption)
           have q183:x11_2 < (l1.length:Int):=of_decide_eq_true (by first|(with_reducible assumption)|assumption)
           obtain ⟨ad183,e183,hx183_0,hx183_1,hx183_2⟩:=at_T76 HR1.out x11_2 p183 q183
           cases e183
           replace hx183_0:=(HB.out.cell (World.block_lt_of_cell? w _ hx183_0)).trans hx183_0
           replace hx183_1:=(HB.out.cell (World.block_lt_of_cell? w _ hx183_1)).trans hx183_1
           replace hx183_2:=(HB.out.cell (World.block_lt_of_cell? w _ hx183_2)).trans hx183_2
           replace p183:=eq_true p183
           replace q183:=eq_true q183
           go_wp2_with (first|((with_reducible refine gate_callee (f:=77) rfl ?_);refine goesL_ (some 35) rfl rfl Try.func77 (by kernel_rfl) rfl #[.slice Ao9 t174.length co9,.int .i64 ((rd_T76 l1 x11_2).f0)] rfl (by (try simp only [List.map_toArray,List.map_cons,List.map_nil]);first|done|rfl|(simp only [List.length_drop,List.length_take];rfl)) ?_;(with_reducible refine (spec_l4Has.calls k2 _ _ t174 ((rd_T76 l1 x11_2).f0) false _ ?side1 ?side2 A16.out).mono ?_);(case side1=>repeat (first|exact (Kd.R_reads' HO_7.out).2.2|(with_reducible refine Kd.C_alloc ?_ _)|(with_reducible refine Kd.C_drewN ?_ _)|(with_reducible refine Kd.C_drew ?_)));(case side2=>exact (Kd.R_reads' HO_7.out).2.1);rintro e w' ⟨rfl,⟨nd,rfl⟩⟩;refine ⟨_,rfl,?_⟩;have p185:0≤(x11_2:Int):=of_decide_eq_true (by first|(with_reducible assumption)|assumption);have q185:x11_2 < (l1.length:Int):=of_decide_eq_true (by first|(with_reducible assumption)|assumption);obtain ⟨ad185,e185,hx185_0,hx185_1,hx185_2⟩:=at_T76 HR1.out x11_2 p185 q185;obtain rfl:ad183=ad185:=(by injection e185);replace hx185_0:=(HB.out.cell (World.block_lt_of_cell? w _ hx185_0)).trans hx185_0;replace hx185_1:=(HB.out.cell (World.block_lt_of_cell? w _ hx185_1)).trans hx185_1;replace hx185_2:=(HB.out.cell (World.block_lt_of_cell? w _ hx185_2)).trans hx185_2;replace p185:=eq_true p185;replace q185:=eq_true q185;obtain ⟨Ao21,co21,eo21⟩:=Kd.R_slice HO_8.out;subst eo21)|(go_at_call 77;(with_reducible refine (spec_l4Has.calls k2 _ _ t177 ((rd_T76 l1 x11_2).f1) t186 _ ?side1 ?side2 A18.out).mono ?_);(case side1=>repeat (first|exact (Kd.R_reads' HO_8.out).2.2|(with_reducible refine Kd.C_alloc ?_ _)|(with_reducible refine Kd.C_drewN ?_ _)|(with_reducible refine Kd.C_drew ?_)));(case side2=>exact (Kd.R_reads' HO_8.out).2.1);rintro e w' ⟨rfl,⟨nd,rfl⟩⟩;have p187:0≤(x11_2:Int):=of_decide_eq_true (by first|(with_reducible assumption)|assumption);have q187:x11_2 < (l1.length:Int):=of_decide_eq_true (by first|(with_reducible assumption)|assumption);obtain ⟨ad187,e187,hx187_0,hx187_1,hx187_2⟩:=at_T76 HR1.out x11_2 p187 q187;obtain rfl:ad183=ad187:=(by injection e187);replace hx187_0:=(HB.out.cell (World.block_lt_of_cell? w _ hx187_0)).trans hx187_0;replace hx187_1:=(HB.out.cell (World.block_lt_of_cell? w _ hx187_1)).trans hx187_1;replace hx187_2:=(HB.out.cell (World.block_lt_of_cell? w _ hx187_2)).trans hx187_2;replace p187:=eq_true p187;replace q187:=eq_true q187)|((with_reducible refine gate_builtin (b:=.append) (xs:=#[.tmp 49,.tmp 55]) rfl ?_);at_builtin;refine Kd.R_append (Kd.int .i64) (w0:=w) w.heap.size rfl (.tmp 49) (.tmp 55) 22 3 (.int .i64 0) 8 rfl Try.underlying22 info3 rfl (by decide) (by omega) u9 x9_2 ((rd_T76 l1 x11_2).f0) [.int .i64 ((rd_T76 l1 x11_2).f0)] (fun k_=>some k_ ≠ (.slice Ao9 t174.length co9:Value).ownBlock∧some k_ ≠ (.slice Ao21 t177.length co21:Value).ownBlock) (fun _=>False) rfl rfl ?aP (fun _ hk=>hk.elim) ?aF ?aO ?aB ?aS ?aL ?_;(case aP=>exact rfl);(case aB=>exact (by repeat (first|(with_reducible first|exact HB.out|apply below_alloc|apply pw_below_drewN|apply below_drew1|refine below_set ?_ GE173.out)|exact HB.out)));(case aF=>exact (fun k_ hk=>⟨Kd.fresh' (Kd.R_lt (by (with_reducible repeat (first|apply Kd.R_alloc|apply Kd.R_drewN|apply Kd.R_drew));exact HO_7.out)) k_ hk,Kd.fresh' (Kd.R_lt (by (with_reducible repeat (first|apply Kd.R_alloc|apply Kd.R_drewN|apply Kd.R_drew));exact HO_8.out)) k_ hk⟩));(case aO=>exact (by (with_reducible repeat (first|apply Kd.R_alloc|apply Kd.R_drewN|apply Kd.R_drew));exact HO_9.out));(case aS=>exact (below_size (by repeat (first|(with_reducible first|exact HB.out|apply below_alloc|apply pw_below_drewN|apply below_drew1|refine below_set ?_ GE173.out)|exact HB.out))));(case aL=>have:=LMc20.out;omega);intro v189 w22 ho hb hg hat;rw [← Ny188.out] at ho;have n0_:=Aside0.mk (Kd.R_after (ok:=(fun k_=>some k_ ≠ (.slice Ao21 t177.length co21:Value).ownBlock)) (by (with_reducible repeat (first|apply Kd.R_alloc|apply Kd.R_drewN|apply Kd.R_drew));exact HO_7.out) hg hat);have n1_:=Aside0.mk (Kd.R_after (ok:=(fun k_=>some k_ ≠ (.slice Ao9 t174.length co9:Value).ownBlock)) (by (with_reducible repeat (first|apply Kd.R_alloc|apply Kd.R_drewN|apply Kd.R_drew));exact HO_8.out) hg hat);have n2_:=Aside0.mk (blk_grown (g:=gb173) (o:=.cells #[.int .i64 a0_0,.slice A0_1 l0_1.length c0_1] 43 (0,0)) (by (with_reducible repeat (first|refine blk_drewN ?_ _|refine blk_drew ?_|refine blk_alloc ?_ _));exact BK173.out) hg (Kd.R_ne HO_9.out BK173.out (by decide)));have n3_:=Aside0.mk (hb);have n4_:=Aside0.mk (ho);clear HO_7;clear HO_8;clear BK173;clear HB;clear HO_9;have HO_7:=n0_;have HO_8:=n1_;have BK173:=n2_;have HB:=n3_;have HO190:=n4_;clear n0_ n1_ n2_ n3_ n4_;clear ho hb hg hat))
           go_roundg k2
           case measure=>have:=HK1.out;have:=HK2.out;omega
           case rel=>exact ⟨(y188),(wrap64 (x11_2+1)),(by first|rfl|(simp;done)|(simp [*];done)),H',⟨by have:=HK1.out;have:=HK2.out;omega⟩,⟨by (with_reducible repeat (first|apply Kd.R_alloc|apply Kd.R_drewN|apply Kd.R_drew));exact HO_7.out⟩,⟨by (with_reducible repeat (first|apply Kd.R_alloc|apply Kd.R_drewN|apply Kd.R_drew));exact HO_8.out⟩,⟨by (with_reducible repeat (first|apply Kd.R_alloc|apply Kd.R_drewN|apply Kd.R_drew));exact HO190.out⟩,⟨by (with_reducible repeat (first|refine blk_drewN ?_ _|refine blk_drew ?_|refine blk_alloc ?_ _));exact BK173.out⟩,⟨by repeat (first|(with_reducible first|exact HB.out|apply below_alloc|apply pw_below_drewN|apply below_drew1|refine below_set ?_ GE173.out)|exact HB.out)⟩⟩
          ·rw [if_neg c20] at H
           exact absurd H (by simp)
         ·rw [if_neg c19] at H
          have c19b0:(t186 == (x10_1 == 1))=false:=by simpa using c19
          (try (have c19b1:decide (t186=(x10_1 == 1))=false:=by simpa using c19))
          (try (have c19b2:(t186 == (x10_1 == 1))=false:=by simpa using c19))
          (try (have c19b3 : ¬ (t186=(x10_1 == 1)):=by simpa using c19))
          clear c19
          have H':=Aside0.mk H
          clear H
          have p183:0≤(x11_2:Int):=of_decide_eq_true (by first|(with_reducible assumption)|assumption)
          have q183:x11_2 < (l1.length:Int):=of_decide_eq_true (by first|(with_reducible assumption)|assumption)
          obtain ⟨ad183,e183,hx183_0,hx183_1,hx183_2⟩:=at_T76 HR1.out x11_2 p183 q183
          cases e183
          replace hx183_0:=(HB.out.cell (World.block_lt_of_cell? w _ hx183_0)).trans hx183_0
          replace hx183_1:=(HB.out.cell (World.block_lt_of_cell? w _ hx183_1)).trans hx183_1
          replace hx183_2:=(HB.out.cell (World.block_lt_of_cell? w _ hx183_2)).trans hx183_2
          replace p183:=eq_true p183
          replace q183:=eq_true q183
          go_wp2_with (first|((with_reducible refine gate_callee (f:=77) rfl ?_);refine goesL_ (some 35) rfl rfl Try.func77 (by kernel_rfl) rfl #[.slice Ao9 t174.length co9,.int .i64 ((rd_T76 l1 x11_2).f0)] rfl (by (try simp only [List.map_toArray,List.map_cons,List.map_nil]);first|done|rfl|(simp only [List.length_drop,List.length_take];rfl)) ?_;(with_reducible refine (spec_l4Has.calls k2 _ _ t174 ((rd_T76 l1 x11_2).f0) false _ ?side1 ?side2 A16.out).mono ?_);(case side1=>repeat (first|exact (Kd.R_reads' HO_7.out).2.2|(with_reducible refine Kd.C_alloc ?_ _)|(with_reducible refine Kd.C_drewN ?_ _)|(with_reducible refine Kd.C_drew ?_)));(case side2=>exact (Kd.R_reads' HO_7.out).2.1);rintro e w' ⟨rfl,⟨nd,rfl⟩⟩;refine ⟨_,rfl,?_⟩;have p185:0≤(x11_2:Int):=of_decide_eq_true (by first|(with_reducible assumption)|assumption);have q185:x11_2 < (l1.length:Int):=of_decide_eq_true (by first|(with_reducible assumption)|assumption);obtain ⟨ad185,e185,hx185_0,hx185_1,hx185_2⟩:=at_T76 HR1.out x11_2 p185 q185;obtain rfl:ad183=ad185:=(by injection e185);replace hx185_0:=(HB.out.cell (World.block_lt_of_cell? w _ hx185_0)).trans hx185_0;replace hx185_1:=(HB.out.cell (World.block_lt_of_cell? w _ hx185_1)).trans hx185_1;replace hx185_2:=(HB.out.cell (World.block_lt_of_cell? w _ hx185_2)).trans hx185_2;replace p185:=eq_true p185;replace q185:=eq_true q185;obtain ⟨Ao23,co23,eo23⟩:=Kd.R_slice HO_8.out;subst eo23)|(go_at_call 77;(with_reducible refine (spec_l4Has.calls k2 _ _ t177 ((rd_T76 l1 x11_2).f1) t186 _ ?side1 ?side2 A18.out).mono ?_);(case side1=>repeat (first|exact (Kd.R_reads' HO_8.out).2.2|(with_reducible refine Kd.C_alloc ?_ _)|(with_reducible refine Kd.C_drewN ?_ _)|(with_reducible refine Kd.C_drew ?_)));(case side2=>exact (Kd.R_reads' HO_8.out).2.1);rintro e w' ⟨rfl,⟨nd,rfl⟩⟩))
          go_roundg k2
          case measure=>have:=HK1.out;have:=HK2.out;omega
          case rel=>exact ⟨(x9_2),(wrap64 (x11_2+1)),(by first|rfl|(simp;done)|(simp [*];done)),H',⟨by have:=HK1.out;have:=HK2.out;omega⟩,⟨by (with_reducible repeat (first|apply Kd.R_alloc|apply Kd.R_drewN|apply Kd.R_drew));exact HO_7.out⟩,⟨by (with_reducible repeat (first|apply Kd.R_alloc|apply Kd.R_drewN|apply Kd.R_drew));exact HO_8.out⟩,⟨by (with_reducible repeat (first|apply Kd.R_alloc|apply Kd.R_drewN|apply Kd.R_drew));exact HO_9.out⟩,⟨by (with_reducible repeat (first|refine blk_drewN ?_ _|refine blk_drew ?_|refine blk_alloc ?_ _));exact BK173.out⟩,⟨by repeat (first|(with_reducible first|exact HB.out|apply below_alloc|apply pw_below_drewN|apply below_drew1|refine below_set ?_ GE173.out)|exact HB.out)⟩⟩
       ·rw [if_neg c15] at H
        exact absurd H (by simp)
      ·rw [if_neg c14] at H
       have c14b0:decide (x11_2 < (l1.length:Int))=false:=decide_eq_false c14
       clear c14
       have H':=Aside0.mk H
       clear H
       go_wp2
       go_roundg k2
       case measure=>have:=HK1.out;have:=HK2.out;omega
       case rel=>exact ⟨(x9_2),(wrap64 (x10_1+1)),(by first|rfl|(simp;done)|(simp [*];done)),H',⟨by have:=HK1.out;have:=HK2.out;omega⟩,⟨by (with_reducible repeat (first|apply Kd.R_alloc|apply Kd.R_drewN|apply Kd.R_drew));exact HO_7.out⟩,⟨by (with_reducible repeat (first|apply Kd.R_alloc|apply Kd.R_drewN|apply Kd.R_drew));exact HO_8.out⟩,⟨by (with_reducible repeat (first|apply Kd.R_alloc|apply Kd.R_drewN|apply Kd.R_drew));exact HO_9.out⟩,⟨by (with_reducible repeat (first|refine blk_drewN ?_ _|refine blk_drew ?_|refine blk_alloc ?_ _));exact BK173.out⟩,⟨by repeat (first|(with_reducible first|exact HB.out|apply below_alloc|apply pw_below_drewN|apply below_drew1|refine below_set ?_ GE173.out)|exact HB.out)⟩⟩
   ·rw [if_neg c13] at H
    have c13b0:decide (x10_1 < 2)=false:=decide_eq_false c13
    clear c13
    obtain rfl:=Option.some.inj H
    go_wp2
    go_ret
    exact ⟨_,by first|rfl|(simp [errW_none,errW_some] <;> rfl)|(simp [*,errW_none,errW_some] <;> rfl),by (with_reducible repeat (first|apply Kd.R_alloc|apply Kd.R_drewN|apply Kd.R_drew));exact Kd.R_mono HO_9.out (fun _ hk=>trivial),by repeat (first|(with_reducible first|exact HB.out|apply below_alloc|apply pw_below_drewN|apply below_drew1|refine below_set ?_ GE173.out)|exact HB.out)⟩
def impl_DevAt.l0:Nat→Int→List (S76)→Int→Int→Option (Int × Int × Int × Bool)
 | 0,_,_,_,_=>none
 | k+1,x1,x8,x9,x10=>if x10 < x9 then (if 0≤x10 then (if x10 < (x8.length:Int) then (if ((rd_T76 x8 x10).f0)=x1 then (some ((rd_T76 x8 x10).f0,(rd_T76 x8 x10).f1,(rd_T76 x8 x10).f2,true)) else (impl_DevAt.l0 k x1 x8 x9 (wrap64 (x10+1)))) else (none)) else (none)) else (some (0,0,0,false))
def impl_DevAt.f (k:Nat) (l0:List (S76)) (a1:Int):Option (Int × Int × Int × Bool):=impl_DevAt.l0 k a1 l0 (l0.length:Int) 0
set_option maxHeartbeats 8000000 in
set_option maxRecDepth 100000 in
theorem impl_DevAt.calls (k:Nat) (A0:Option Addr) (c0:Nat) (l0:List (S76)) (a1:Int) (r1:Int) (r2:Int) (r3:Int) (r4:Bool) (w:World) (hr0:Kd.C k76 w A0 l0.length l0) (hc0:l0.length≤c0) (h:impl_DevAt.f k l0 a1=some (r1,r2,r3,r4)) :
  Calls Try.prog 50 #[.slice A0 l0.length c0,.int .i64 a1] w fun e w'=>e = .returned (.tuple #[.agg #[.int .i64 r1,.int .i64 r2,.int .i64 r3],.bool r4])∧Below w.heap.size w w':=by
 have hu76:=Try.underlying76
 have HR0:=Aside0.mk hr0
 have HC0:=Aside0.mk hc0
 clear hr0 hc0
 have HB:=Aside0.mk (Below.refl w.heap.size w)
 have H:(impl_DevAt.l0 k a1 l0 (l0.length:Int) 0)=some (r1,r2,r3,r4):=h
 clear h
 have H':=Aside0.mk H
 clear H
 go_enter Try.func50,Try.ntmps50
 go_wp2_with (first|((with_reducible refine gate_dst (N:=4) rfl ?_);refine box_event ?hg (N:=4) ?hd (cs:=#[.int .i64 0,.int .i64 0,.int .i64 0]) (t:=76) ?hr ?_;(case hd=>rfl);(case hg=>rfl);(case hr=>first|(go_simp;done)|(go_simp;rfl));intro gb191 hg w3 hbox hb;have n0_:=Aside0.mk (below_step (by repeat (first|(with_reducible first|exact HB.out|apply below_alloc|apply pw_below_drewN|apply below_drew1)|exact HB.out)) hb);have n1_:=Aside0.mk (hbox);have n2_:=Aside0.mk ((by rw [hg];exact (below_size (by repeat (first|(with_reducible first|exact HB.out|apply below_alloc|apply pw_below_drewN|apply below_drew1)|exact HB.out))):w.heap.size≤gb191));have n3_:=Aside0.mk ((by rw [hg];exact (below_size (by repeat (first|(with_reducible first|exact HB.out|apply below_alloc|apply pw_below_drewN|apply below_drew1)|exact HB.out))):w.heap.size≤gb191));clear HB;have HB:=n0_;have BK191:=n1_;have GW191:=n2_;have GE191:=n3_;clear n0_ n1_ n2_ n3_;clear hb hbox hg))
 go_loopg [10] k (fun kq v10 w'=>∃ (x10_1:Int) (x192000_1:Int) (x192001_1:Int) (x192002_1:Int),v10 = .int .i64 x10_1∧Aside0 (impl_DevAt.l0 kq a1 l0 (l0.length:Int) x10_1=some (r1,r2,r3,r4))∧Aside0 (kq≤k)∧Aside0 (w'.heap[gb191]?=some (.cells #[.int .i64 x192000_1,.int .i64 x192001_1,.int .i64 x192002_1] 76 (0,0)))∧Aside0 (Below w.heap.size w w'))
 case atStart=>exact ⟨(0),(0),(0),(0),(by first|rfl|(simp;done)|(simp [*];done)),H',⟨Nat.le_refl _⟩,⟨by (with_reducible repeat (first|refine blk_drewN ?_ _|refine blk_drew ?_|refine blk_alloc ?_ _));exact BK191.out⟩,⟨by repeat (first|(with_reducible first|exact HB.out|apply below_alloc|apply pw_below_drewN|apply below_drew1|refine below_set ?_ GE191.out)|exact HB.out)⟩⟩
 case round=>
  clear H'
  try clear p2
  obtain ⟨x10_1,x192000_1,x192001_1,x192002_1,rfl,HA,HK1,BK191,HB⟩:=hrel
  cases gk with
  | zero=>exact absurd HA.out (by simp [impl_DevAt.l0])
  | succ k1=>
   have H:=HA.out
   clear HA
   simp only [impl_DevAt.l0] at H
   by_cases c4:x10_1 < (l0.length:Int)
   ·rw [if_pos c4] at H
    have c4b0:decide (x10_1 < (l0.length:Int))=true:=decide_eq_true c4
    clear c4
    by_cases c5:0≤x10_1
    ·rw [if_pos c5] at H
     have c5b0:decide (0≤x10_1)=true:=decide_eq_true c5
     clear c5
     by_cases c6:x10_1 < (l0.length:Int)
     ·rw [if_pos c6] at H
      have c6b0:decide (x10_1 < (l0.length:Int))=true:=decide_eq_true c6
      clear c6
      by_cases c7:((rd_T76 l0 x10_1).f0)=a1
      ·rw [if_pos c7] at H
       have c7b0:(((rd_T76 l0 x10_1).f0) == a1)=true:=beq_iff_eq.mpr c7
       have c7b1:(((rd_T76 l0 x10_1).f0) != a1)=false:=bne_eq_false_iff_eq.mpr c7
       clear c7
       simp only [Option.some.injEq,Prod.mk.injEq] at H
       obtain ⟨rfl,rfl,rfl,rfl⟩:=H
       have p192:0≤(x10_1:Int):=of_decide_eq_true (by first|(with_reducible assumption)|assumption)
       have q192:x10_1 < (l0.length:Int):=of_decide_eq_true (by first|(with_reducible assumption)|assumption)
       obtain ⟨ad192,e192,hx192_0,hx192_1,hx192_2⟩:=at_T76 HR0.out x10_1 p192 q192
       cases e192
       replace hx192_0:=(HB.out.cell (World.block_lt_of_cell? w _ hx192_0)).trans hx192_0
       replace hx192_1:=(HB.out.cell (World.block_lt_of_cell? w _ hx192_1)).trans hx192_1
       replace hx192_2:=(HB.out.cell (World.block_lt_of_cell? w _ hx192_2)).trans hx192_2
       replace p192:=eq_true p192
       replace q192:=eq_true q192
       go_wp2_with (first|((with_reducible refine gate_dst (N:=7) rfl ?_);refine box_event ?hg (N:=7) ?hd (cs:=#[.int .i64 0,.int .i64 0,.int .i64 0]) (t:=76) ?hr ?_;(case hd=>rfl);(case hg=>rfl);(case hr=>first|(go_simp;done)|(go_simp;rfl));intro gb193 hg w8 hbox hb;have n0_:=Aside0.mk (blk_below (g:=gb191) (o:=.cells #[.int .i64 x192000_1,.int .i64 x192001_1,.int .i64 x192002_1] 76 (0,0)) (by (with_reducible repeat (first|refine blk_drewN ?_ _|refine blk_drew ?_|refine blk_alloc ?_ _));exact BK191.out) hb);have n1_:=Aside0.mk (below_step (by repeat (first|(with_reducible first|exact HB.out|apply below_alloc|apply pw_below_drewN|apply below_drew1|refine below_set ?_ GE191.out)|exact HB.out)) hb);have n2_:=Aside0.mk (hbox);have n3_:=Aside0.mk ((by rw [hg];exact (below_size (by repeat (first|(with_reducible first|exact HB.out|apply below_alloc|apply pw_below_drewN|apply below_drew1|refine below_set ?_ GE191.out)|exact HB.out))):w.heap.size≤gb193));have n4_:=Aside0.mk ((by rw [hg];exact (below_size (by repeat (first|(with_reducible first|exact HB.out|apply below_alloc|apply pw_below_drewN|apply below_drew1|refine below_set ?_ GE191.out)|exact HB.out))):w.heap.size≤gb193));have n5_:=Aside0.mk ((by rw [hg];exact Nat.ne_of_lt (blk_lt (g:=gb191) (o:=.cells #[.int .i64 x192000_1,.int .i64 x192001_1,.int .i64 x192002_1] 76 (0,0)) (by (with_reducible repeat (first|refine blk_drewN ?_ _|refine blk_drew ?_|refine blk_alloc ?_ _));exact BK191.out)):gb191 ≠ gb193));have n6_:=Aside0.mk ((by rw [hg];exact Nat.ne_of_gt (blk_lt (g:=gb191) (o:=.cells #[.int .i64 x192000_1,.int .i64 x192001_1,.int .i64 x192002_1] 76 (0,0)) (by (with_reducible repeat (first|refine blk_drewN ?_ _|refine blk_drew ?_|refine blk_alloc ?_ _));exact BK191.out)):gb193 ≠ gb191));clear BK191;clear HB;have BK191:=n0_;have HB:=n1_;have BK193:=n2_;have GW193:=n3_;have GE193:=n4_;have NB191_193:=n5_;have NB193_191:=n6_;clear n0_ n1_ n2_ n3_ n4_ n5_ n6_;clear hb hbox hg;have hnb9:=NB193_191.out;have hnc9:=NB191_193.out;have hcz10_0:w8.cell? ⟨gb193,0,none⟩=some (.int .i64 0):=(blk_cell BK193.out 0).trans rfl;have hcz10_1:w8.cell? ⟨gb193,1,none⟩=some (.int .i64 0):=(blk_cell BK193.out 1).trans rfl;have hcz10_2:w8.cell? ⟨gb193,2,none⟩=some (.int .i64 0):=(blk_cell BK193.out 2).trans rfl;have hfz10_0:=blk_frozen BK193.out 0;have hfz10_1:=blk_frozen BK193.out 1;have hfz10_2:=blk_frozen BK193.out 2;have hcz11_0:w8.cell? ⟨gb191,0,none⟩=some (.int .i64 x192000_1):=(blk_cell BK191.out 0).trans rfl;have hcz11_1:w8.cell? ⟨gb191,1,none⟩=some (.int .i64 x192001_1):=(blk_cell BK191.out 1).trans rfl;have hcz11_2:w8.cell? ⟨gb191,2,none⟩=some (.int .i64 x192002_1):=(blk_cell BK191.out 2).trans rfl;have hfz11_0:=blk_frozen BK191.out 0;have hfz11_1:=blk_frozen BK191.out 1;have hfz11_2:=blk_frozen BK191.out 2))
       refine bodyPost_ret (results_ct rfl _ _ gb191 76 #[.int .i64 ((rd_T76 l0 x10_1).f0),.int .i64 ((rd_T76 l0 x10_1).f1),.int .i64 ((rd_T76 l0 x10_1).f2)] (0,0) _ rfl (by (with_reducible repeat (first|refine blk_drewN ?_ _|refine blk_drew ?_|refine blk_alloc ?_ _));refine blk_put (cs:=#[.int .i64 ((rd_T76 l0 x10_1).f0),.int .i64 ((rd_T76 l0 x10_1).f1),.int .i64 x192002_1]) ?_ 2 _ rfl;(with_reducible repeat (first|refine blk_drewN ?_ _|refine blk_drew ?_|refine blk_alloc ?_ _));refine blk_put (cs:=#[.int .i64 ((rd_T76 l0 x10_1).f0),.int .i64 x192001_1,.int .i64 x192002_1]) ?_ 1 _ rfl;(with_reducible repeat (first|refine blk_drewN ?_ _|refine blk_drew ?_|refine blk_alloc ?_ _));refine blk_put (cs:=#[.int .i64 x192000_1,.int .i64 x192001_1,.int .i64 x192002_1]) ?_ 0 _ rfl;(with_reducible repeat (first|refine blk_drewN ?_ _|refine blk_drew ?_|refine blk_alloc ?_ _));refine blk_far ?_ NB191_193.out _;(with_reducible repeat (first|refine blk_drewN ?_ _|refine blk_drew ?_|refine blk_alloc ?_ _));refine blk_far ?_ NB191_193.out _;(with_reducible repeat (first|refine blk_drewN ?_ _|refine blk_drew ?_|refine blk_alloc ?_ _));refine blk_far ?_ NB191_193.out _;(with_reducible repeat (first|refine blk_drewN ?_ _|refine blk_drew ?_|refine blk_alloc ?_ _));exact BK191.out) Try.underlying76 rfl (by kernel_rfl)) rfl ?_
       exact ⟨by first|rfl|(simp [errW_none,errW_some] <;> rfl)|(simp [*,errW_none,errW_some] <;> rfl),by repeat (first|(with_reducible first|exact HB.out|apply below_alloc|apply pw_below_drewN|apply below_drew1|refine below_set ?_ GE191.out|refine below_set ?_ GE193.out)|exact HB.out)⟩
      ·rw [if_neg c7] at H
       have c7b0:(((rd_T76 l0 x10_1).f0) == a1)=false:=beq_eq_false_iff_ne.mpr c7
       have c7b1:(((rd_T76 l0 x10_1).f0) != a1)=true:=bne_iff_ne.mpr c7
       have H':=Aside0.mk H
       clear H
       have p192:0≤(x10_1:Int):=of_decide_eq_true (by first|(with_reducible assumption)|assumption)
       have q192:x10_1 < (l0.length:Int):=of_decide_eq_true (by first|(with_reducible assumption)|assumption)
       obtain ⟨ad192,e192,hx192_0,hx192_1,hx192_2⟩:=at_T76 HR0.out x10_1 p192 q192
       cases e192
       replace hx192_0:=(HB.out.cell (World.block_lt_of_cell? w _ hx192_0)).trans hx192_0
       replace hx192_1:=(HB.out.cell (World.block_lt_of_cell? w _ hx192_1)).trans hx192_1
       replace hx192_2:=(HB.out.cell (World.block_lt_of_cell? w _ hx192_2)).trans hx192_2
       replace p192:=eq_true p192
       replace q192:=eq_true q192
       go_wp2_with (first|((with_reducible refine gate_dst (N:=7) rfl ?_);refine box_event ?hg (N:=7) ?hd (cs:=#[.int .i64 0,.int .i64 0,.int .i64 0]) (t:=76) ?hr ?_;(case hd=>rfl);(case hg=>rfl);(case hr=>first|(go_simp;done)|(go_simp;rfl));intro gb193 hg w12 hbox hb;have n0_:=Aside0.mk (blk_below (g:=gb191) (o:=.cells #[.int .i64 x192000_1,.int .i64 x192001_1,.int .i64 x192002_1] 76 (0,0)) (by (with_reducible repeat (first|refine blk_drewN ?_ _|refine blk_drew ?_|refine blk_alloc ?_ _));exact BK191.out) hb);have n1_:=Aside0.mk (below_step (by repeat (first|(with_reducible first|exact HB.out|apply below_alloc|apply pw_below_drewN|apply below_drew1|refine below_set ?_ GE191.out)|exact HB.out)) hb);have n2_:=Aside0.mk (hbox);have n3_:=Aside0.mk ((by rw [hg];exact (below_size (by repeat (first|(with_reducible first|exact HB.out|apply below_alloc|apply pw_below_drewN|apply below_drew1|refine below_set ?_ GE191.out)|exact HB.out))):w.heap.size≤gb193));have n4_:=Aside0.mk ((by rw [hg];exact (below_size (by repeat (first|(with_reducible first|exact HB.out|apply below_alloc|apply pw_below_drewN|apply below_drew1|refine below_set ?_ GE191.out)|exact HB.out))):w.heap.size≤gb193));have n5_:=Aside0.mk ((by rw [hg];exact Nat.ne_of_lt (blk_lt (g:=gb191) (o:=.cells #[.int .i64 x192000_1,.int .i64 x192001_1,.int .i64 x192002_1] 76 (0,0)) (by (with_reducible repeat (first|refine blk_drewN ?_ _|refine blk_drew ?_|refine blk_alloc ?_ _));exact BK191.out)):gb191 ≠ gb193));have n6_:=Aside0.mk ((by rw [hg];exact Nat.ne_of_gt (blk_lt (g:=gb191) (o:=.cells #[.int .i64 x192000_1,.int .i64 x192001_1,.int .i64 x192002_1] 76 (0,0)) (by (with_reducible repeat (first|refine blk_drewN ?_ _|refine blk_drew ?_|refine blk_alloc ?_ _));exact BK191.out)):gb193 ≠ gb191));clear BK191;clear HB;have BK191:=n0_;have HB:=n1_;have BK193:=n2_;have GW193:=n3_;have GE193:=n4_;have NB191_193:=n5_;have NB193_191:=n6_;clear n0_ n1_ n2_ n3_ n4_ n5_ n6_;clear hb hbox hg;have hnb13:=NB193_191.out;have hnc13:=NB191_193.out;have hcz14_0:w12.cell? ⟨gb193,0,none⟩=some (.int .i64 0):=(blk_cell BK193.out 0).trans rfl;have hcz14_1:w12.cell? ⟨gb193,1,none⟩=some (.int .i64 0):=(blk_cell BK193.out 1).trans rfl;have hcz14_2:w12.cell? ⟨gb193,2,none⟩=some (.int .i64 0):=(blk_cell BK193.out 2).trans rfl;have hfz14_0:=blk_frozen BK193.out 0;have hfz14_1:=blk_frozen BK193.out 1;have hfz14_2:=blk_frozen BK193.out 2))
       go_roundg k1
       case measure=>have:=HK1.out;omega
       case rel=>exact ⟨(wrap64 (x10_1+1)),(x192000_1),(x192001_1),(x192002_1),(by first|rfl|(simp;done)|(simp [*];done)),H',⟨by have:=HK1.out;omega⟩,⟨by (with_reducible repeat (first|refine blk_drewN ?_ _|refine blk_drew ?_|refine blk_alloc ?_ _));refine blk_far ?_ NB191_193.out _;(with_reducible repeat (first|refine blk_drewN ?_ _|refine blk_drew ?_|refine blk_alloc ?_ _));refine blk_far ?_ NB191_193.out _;(with_reducible repeat (first|refine blk_drewN ?_ _|refine blk_drew ?_|refine blk_alloc ?_ _));refine blk_far ?_ NB191_193.out _;(with_reducible repeat (first|refine blk_drewN ?_ _|refine blk_drew ?_|refine blk_alloc ?_ _));exact BK191.out⟩,⟨by repeat (first|(with_reducible first|exact HB.out|apply below_alloc|apply pw_below_drewN|apply below_drew1|refine below_set ?_ GE191.out|refine below_set ?_ GE193.out)|exact HB.out)⟩⟩
     ·rw [if_neg c6] at H
      exact absurd H (by simp)
    ·rw [if_neg c5] at H
     exact absurd H (by simp)
   ·rw [if_neg c4] at H
    have c4b0:decide (x10_1 < (l0.length:Int))=false:=decide_eq_false c4
    clear c4
    simp only [Option.some.injEq,Prod.mk.injEq] at H
    obtain ⟨rfl,rfl,rfl,rfl⟩:=H
    have hcz15_0:wr.cell? ⟨gb191,0,none⟩=some (.int .i64 x192000_1):=(blk_cell BK191.out 0).trans rfl
    have hcz15_1:wr.cell? ⟨gb191,1,none⟩=some (.int .i64 x192001_1):=(blk_cell BK191.out 1).trans rfl
    have hcz15_2:wr.cell? ⟨gb191,2,none⟩=some (.int .i64 x192002_1):=(blk_cell BK191.out 2).trans rfl
    have hfz15_0:=blk_frozen BK191.out 0
    have hfz15_1:=blk_frozen BK191.out 1
    have hfz15_2:=blk_frozen BK191.out 2
    go_wp2
    refine bodyPost_ret (results_ct rfl _ _ gb191 76 #[.int .i64 0,.int .i64 0,.int .i64 0] (0,0) _ rfl (by (with_reducible repeat (first|refine blk_drewN ?_ _|refine blk_drew ?_|refine blk_alloc ?_ _));refine blk_put (cs:=#[.int .i64 0,.int .i64 0,.int .i64 x192002_1]) ?_ 2 _ rfl;(with_reducible repeat (first|refine blk_drewN ?_ _|refine blk_drew ?_|refine blk_alloc ?_ _));refine blk_put (cs:=#[.int .i64 0,.int .i64 x192001_1,.int .i64 x192002_1]) ?_ 1 _ rfl;(with_reducible repeat (first|refine blk_drewN ?_ _|refine blk_drew ?_|refine blk_alloc ?_ _));refine blk_put (cs:=#[.int .i64 x192000_1,.int .i64 x192001_1,.int .i64 x192002_1]) ?_ 0 _ rfl;(with_reducible repeat (first|refine blk_drewN ?_ _|refine blk_drew ?_|refine blk_alloc ?_ _));exact BK191.out) Try.underlying76 rfl (by kernel_rfl)) rfl ?_
    exact ⟨by first|rfl|(simp [errW_none,errW_some] <;> rfl)|(simp [*,errW_none,errW_some] <;> rfl),by repeat (first|(with_reducible first|exact HB.out|apply below_alloc|apply pw_below_drewN|apply below_drew1|refine below_set ?_ GE191.out)|exact HB.out)⟩
def impl_zonesIn.l0:Nat→List (S76)→List Int→List Int→Int→Int→Option (List Int)
 | 0,_,_,_,_,_=>none
 | k+1,x1,x5,x10,x11,x12=>if x12 < x11 then (if 0≤x12 then (if x12 < (x10.length:Int) then ((impl_DevAt.f k x1 (rd x10 x12)).bind fun bt195=>(if bt195.2.2.2=true then ((impl_hasInt.f k x5 bt195.2.1).bind fun t200=>(if t200=true then (impl_zonesIn.l0 k x1 x5 x10 x11 (wrap64 (x12+1))) else (if x5.length < 17592186044416 then (impl_zonesIn.l0 k x1 (x5 ++ [bt195.2.1]) x10 x11 (wrap64 (x12+1))) else (none)))) else (impl_zonesIn.l0 k x1 x5 x10 x11 (wrap64 (x12+1))))) else (none)) else (none)) else (some x5)
def impl_zonesIn.f (k:Nat) (l0:List Int) (l1:List (S76)):Option (List Int):=impl_zonesIn.l0 k l1 ([]:List Int) l0 (l0.length:Int) 0
set_option maxHeartbeats 8000000 in
set_option maxRecDepth 100000 in
theorem impl_zonesIn.calls (k:Nat) (A0:Option Addr) (c0:Nat) (l0:List Int) (A1:Option Addr) (c1:Nat) (l1:List (S76)) (r:List Int) (w:World) (hr0:Kd.C (Kd.int .i64) w A0 l0.length l0) (hc0:l0.length≤c0) (hr1:Kd.C k76 w A1 l1.length l1) (hc1:l1.length≤c1) (h:impl_zonesIn.f k l0 l1=some r) :
  Calls Try.prog 74 #[.slice A0 l0.length c0,.slice A1 l1.length c1] w fun e w'=>∃ v0_:Value,e = .returned (v0_)∧Kd.R (Kd.int .i64) 3 w' w.heap.size (fun _=>True) v0_ r∧Below w.heap.size w w':=by
 have hu76:=Try.underlying76
 have HR0:=Aside0.mk hr0
 have HC0:=Aside0.mk hc0
 clear hr0 hc0
 have HR1:=Aside0.mk hr1
 have HC1:=Aside0.mk hc1
 clear hr1 hc1
 have HB:=Aside0.mk (Below.refl w.heap.size w)
 have H:(impl_zonesIn.l0 k l1 ([]:List Int) l0 (l0.length:Int) 0)=some r:=h
 clear h
 have H':=Aside0.mk H
 clear H
 go_enter Try.func74,Try.ntmps74
 go_wp2
 go_loopg [5,12] k (fun kq v5 v12 w'=>∃ (x5_1:List Int) (x12_1:Int),v12 = .int .i64 x12_1∧Aside0 (impl_zonesIn.l0 kq l1 x5_1 l0 (l0.length:Int) x12_1=some r)∧Aside0 (kq≤k)∧Aside0 (Kd.R (Kd.int .i64) 3 w' w.heap.size (fun _=>True) v5 x5_1)∧Aside0 (Below w.heap.size w w'))
 case atStart=>exact ⟨(([]:List Int)),(0),(by first|rfl|(simp;done)|(simp [*];done)),H',⟨Nat.le_refl _⟩,⟨by first|exact Kd.R_nil _ _ _ _ _|exact Kd.N_nil _ _ _ _ _|exact Kd.V_nil _ _ _ _ _|exact Kd.Q_nil _ _ _ _ _|exact Kd.S_nil _ _ _ _ _⟩,⟨by repeat (first|(with_reducible first|exact HB.out|apply below_alloc|apply pw_below_drewN|apply below_drew1)|exact HB.out)⟩⟩
 case round=>
  clear H'
  try clear c1
  try clear p2
  obtain ⟨x5_1,x12_1,rfl,HA,HK1,HO_5,HB⟩:=hrel
  cases gk with
  | zero=>exact absurd HA.out (by simp [impl_zonesIn.l0])
  | succ k1=>
   have H:=HA.out
   clear HA
   simp only [impl_zonesIn.l0] at H
   by_cases c3:x12_1 < (l0.length:Int)
   ·rw [if_pos c3] at H
    have c3b0:decide (x12_1 < (l0.length:Int))=true:=decide_eq_true c3
    clear c3
    by_cases c4:0≤x12_1
    ·rw [if_pos c4] at H
     have c4b0:decide (0≤x12_1)=true:=decide_eq_true c4
     clear c4
     by_cases c5:x12_1 < (l0.length:Int)
     ·rw [if_pos c5] at H
      have c5b0:decide (x12_1 < (l0.length:Int))=true:=decide_eq_true c5
      clear c5
      replace H:=Option.bind_eq_some_iff.mp H
      obtain ⟨⟨t195,t196,t197,t198⟩,A60,H⟩:=H
      replace H:(if t198=true then ((impl_hasInt.f k1 x5_1 t196).bind fun t200=>(if t200=true then (impl_zonesIn.l0 k1 l1 x5_1 l0 (l0.length:Int) (wrap64 (x12_1+1))) else (if x5_1.length < 17592186044416 then (impl_zonesIn.l0 k1 l1 (x5_1 ++ [t196]) l0 (l0.length:Int) (wrap64 (x12_1+1))) else (none)))) else (impl_zonesIn.l0 k1 l1 x5_1 l0 (l0.length:Int) (wrap64 (x12_1+1))))=some r:=H
      have A6:=Aside0.mk A60
      clear A60
      by_cases c7:t198=true
      ·subst c7
       have H1:((impl_hasInt.f k1 x5_1 t196).bind fun t200=>(if t200=true then (impl_zonesIn.l0 k1 l1 x5_1 l0 (l0.length:Int) (wrap64 (x12_1+1))) else (if x5_1.length < 17592186044416 then (impl_zonesIn.l0 k1 l1 (x5_1 ++ [t196]) l0 (l0.length:Int) (wrap64 (x12_1+1))) else (none))))=some r:=by rw [if_pos rfl] at H;exact H
       clear H
       have H:=H1
       clear H1
       replace H:=Option.bind_eq_some_iff.mp H
       obtain ⟨t200,A80,H⟩:=H
       replace H:(if t200=true then (impl_zonesIn.l0 k1 l1 x5_1 l0 (l0.length:Int) (wrap64 (x12_1+1))) else (if x5_1.length < 17592186044416 then (impl_zonesIn.l0 k1 l1 (x5_1 ++ [t196]) l0 (l0.length:Int) (wrap64 (x12_1+1))) else (none)))=some r:=H
       have A8:=Aside0.mk A80
       clear A80
       by_cases c9:t200=true
       ·subst c9
        have H1:(impl_zonesIn.l0 k1 l1 x5_1 l0 (l0.length:Int) (wrap64 (x12_1+1)))=some r:=by rw [if_pos rfl] at H;exact H
        clear H
        have H:=H1
        clear H1
        have H':=Aside0.mk H
        clear H
        have p194:0≤(x12_1:Int):=of_decide_eq_true (by first|(with_reducible assumption)|assumption)
        have q194:x12_1 < (l0.length:Int):=of_decide_eq_true (by first|(with_reducible assumption)|assumption)
        obtain ⟨ad194,e194,hx194_0⟩:=Kd.at_int HR0.out x12_1 p194 q194
        cases e194
        replace hx194_0:=(HB.out.cell (World.block_lt_of_cell? w _ hx194_0)).trans hx194_0
        replace p194:=eq_true p194
        replace q194:=eq_true q194
        go_wp2_with (first|((with_reducible refine gate_callee (f:=50) rfl ?_);refine goesL_ (some 19) rfl rfl Try.func50 (by kernel_rfl) rfl #[.slice A1 l1.length c1,.int .i64 (rd l0 x12_1)] rfl (by (try simp only [List.map_toArray,List.map_cons,List.map_nil]);first|done|rfl|(simp only [List.length_drop,List.length_take];rfl)) ?_;(with_reducible refine (impl_DevAt.calls k1 _ _ l1 (rd l0 x12_1) t195 t196 t197 true _ ?side1 ?side2 A6.out).mono ?_);(case side1=>repeat (first|exact (Kd.C_below HR1.out HB.out)|(with_reducible refine Kd.C_alloc ?_ _)|(with_reducible refine Kd.C_drewN ?_ _)|(with_reducible refine Kd.C_drew ?_)));(case side2=>exact HC1.out);rintro e w10 ⟨rfl,hb⟩;refine ⟨_,rfl,?_⟩;have n0_:=Aside0.mk (Kd.R_below (by (with_reducible repeat (first|apply Kd.R_alloc|apply Kd.R_drewN|apply Kd.R_drew));exact HO_5.out) hb);have n1_:=Aside0.mk (below_step (by repeat (first|(with_reducible first|exact HB.out|apply below_alloc|apply pw_below_drewN|apply below_drew1)|exact HB.out)) hb);clear HO_5;clear HB;have HO_5:=n0_;have HB:=n1_;clear n0_ n1_;(try clear hb);(try clear hb2);(try clear hk);(try clear hi))|((with_reducible refine gate_dst (N:=8) rfl ?_);refine box_event ?hg (N:=8) ?hd (cs:=#[.int .i64 0,.int .i64 0,.int .i64 0]) (t:=76) ?hr ?_;(case hd=>rfl);(case hg=>rfl);(case hr=>first|(go_simp;done)|(go_simp;rfl));intro gb199 hg w11 hbox hb;have n0_:=Aside0.mk (Kd.R_below (by (with_reducible repeat (first|apply Kd.R_alloc|apply Kd.R_drewN|apply Kd.R_drew));exact HO_5.out) hb);have n1_:=Aside0.mk (below_step (by repeat (first|(with_reducible first|exact HB.out|apply below_alloc|apply pw_below_drewN|apply below_drew1)|exact HB.out)) hb);have n2_:=Aside0.mk (hbox);have n3_:=Aside0.mk ((by rw [hg];exact (below_size (by repeat (first|(with_reducible first|exact HB.out|apply below_alloc|apply pw_below_drewN|apply below_drew1)|exact HB.out))):w.heap.size≤gb199));have n4_:=Aside0.mk ((by rw [hg];exact (below_size (by repeat (first|(with_reducible first|exact HB.out|apply below_alloc|apply pw_below_drewN|apply below_drew1)|exact HB.out))):w.heap.size≤gb199));clear HO_5;clear HB;have HO_5:=n0_;have HB:=n1_;have BK199:=n2_;have GW199:=n3_;have GE199:=n4_;clear n0_ n1_ n2_ n3_ n4_;clear hb hbox hg;have hcz12_0:w11.cell? ⟨gb199,0,none⟩=some (.int .i64 0):=(blk_cell BK199.out 0).trans rfl;have hcz12_1:w11.cell? ⟨gb199,1,none⟩=some (.int .i64 0):=(blk_cell BK199.out 1).trans rfl;have hcz12_2:w11.cell? ⟨gb199,2,none⟩=some (.int .i64 0):=(blk_cell BK199.out 2).trans rfl;have hfz12_0:=blk_frozen BK199.out 0;have hfz12_1:=blk_frozen BK199.out 1;have hfz12_2:=blk_frozen BK199.out 2;obtain ⟨Ao13,co13,eo13⟩:=Kd.R_slice HO_5.out;subst eo13)|(go_at_call 79;(with_reducible refine (impl_hasInt.calls k1 _ _ x5_1 t196 true _ ?side1 ?side2 A8.out).mono ?_);(case side1=>refine (Kd.R_reads' (e:=3) (base:=w.heap.size) (ok:=fun k_=>True) (n:=x5_1.length) (c:=co13) ?_).2.2;exact (by (with_reducible repeat (first|apply Kd.R_alloc|apply Kd.R_drewN|apply Kd.R_drew));exact (Kd.R_mono (Kd.R_far (p:=⟨gb199,2,none⟩) (Kd.R_far (p:=⟨gb199,1,none⟩) (Kd.R_far (p:=⟨gb199,0,none⟩) (Kd.R_types HO_5.out BK199.out (by decide)) (fun _ hk=>hk.2) (.int .i64 t195)) (fun _ hk=>hk.2) (.int .i64 t196)) (fun _ hk=>hk.2) (.int .i64 t197)) (fun _ h_=>h_.1))));(case side2=>exact (Kd.R_reads' HO_5.out).2.1);rintro e w' ⟨rfl,⟨nd,rfl⟩⟩))
        go_roundg k1
        case measure=>have:=HK1.out;omega
        case rel=>exact ⟨(x5_1),(wrap64 (x12_1+1)),(by first|rfl|(simp;done)|(simp [*];done)),H',⟨by have:=HK1.out;omega⟩,⟨by (with_reducible repeat (first|apply Kd.R_alloc|apply Kd.R_drewN|apply Kd.R_drew));exact Kd.R_mono (Kd.R_far (p:=⟨gb199,2,none⟩) (Kd.R_far (p:=⟨gb199,1,none⟩) (Kd.R_far (p:=⟨gb199,0,none⟩) (Kd.R_types HO_5.out BK199.out (by decide)) (fun _ hk=>hk.2) (.int .i64 t195)) (fun _ hk=>hk.2) (.int .i64 t196)) (fun _ hk=>hk.2) (.int .i64 t197)) (fun _ hk=>trivial)⟩,⟨by repeat (first|(with_reducible first|exact HB.out|apply below_alloc|apply pw_below_drewN|apply below_drew1|refine below_set ?_ GE199.out)|exact HB.out)⟩⟩
       ·replace c9:=Bool.eq_false_iff.mpr c9
        subst c9
        have H1:(if x5_1.length < 17592186044416 then (impl_zonesIn.l0 k1 l1 (x5_1 ++ [t196]) l0 (l0.length:Int) (wrap64 (x12_1+1))) else (none))=some r:=by rw [if_neg (show ¬ (false=true) by decide)] at H;exact H
        clear H
        have H:=H1
        clear H1
        by_cases c14:x5_1.length < 17592186044416
        ·rw [if_pos c14] at H
         have LMc14:=Aside0.mk c14
         clear c14
         obtain ⟨y201,hy201⟩ : ∃ y_:List Int,y_=(x5_1 ++ [t196]):=⟨_,rfl⟩
         replace H:(impl_zonesIn.l0 k1 l1 y201 l0 (l0.length:Int) (wrap64 (x12_1+1)))=some r:=by first|(rw [hy201];with_reducible exact H)|(have H2_:=(Option.bind_some _ _).symm.trans H;rw [hy201];with_reducible exact H2_)|(have H2_:=(Option.bind_some _ _).symm.trans H;with_reducible exact H2_)|with_reducible exact H|(rw [hy201];exact H)|exact H
         have Ny201:=Aside0.mk hy201
         clear hy201
         have H':=Aside0.mk H
         clear H
         have p194:0≤(x12_1:Int):=of_decide_eq_true (by first|(with_reducible assumption)|assumption)
         have q194:x12_1 < (l0.length:Int):=of_decide_eq_true (by first|(with_reducible assumption)|assumption)
         obtain ⟨ad194,e194,hx194_0⟩:=Kd.at_int HR0.out x12_1 p194 q194
         cases e194
         replace hx194_0:=(HB.out.cell (World.block_lt_of_cell? w _ hx194_0)).trans hx194_0
         replace p194:=eq_true p194
         replace q194:=eq_true q194
         go_wp2_with (first|((with_reducible refine gate_callee (f:=50) rfl ?_);refine goesL_ (some 19) rfl rfl Try.func50 (by kernel_rfl) rfl #[.slice A1 l1.length c1,.int .i64 (rd l0 x12_1)] rfl (by (try simp only [List.map_toArray,List.map_cons,List.map_nil]);first|done|rfl|(simp only [List.length_drop,List.length_take];rfl)) ?_;(with_reducible refine (impl_DevAt.calls k1 _ _ l1 (rd l0 x12_1) t195 t196 t197 true _ ?side1 ?side2 A6.out).mono ?_);(case side1=>repeat (first|exact (Kd.C_below HR1.out HB.out)|(with_reducible refine Kd.C_alloc ?_ _)|(with_reducible refine Kd.C_drewN ?_ _)|(with_reducible refine Kd.C_drew ?_)));(case side2=>exact HC1.out);rintro e w15 ⟨rfl,hb⟩;refine ⟨_,rfl,?_⟩;have n0_:=Aside0.mk (Kd.R_below (by (with_reducible repeat (first|apply Kd.R_alloc|apply Kd.R_drewN|apply Kd.R_drew));exact HO_5.out) hb);have n1_:=Aside0.mk (below_step (by repeat (first|(with_reducible first|exact HB.out|apply below_alloc|apply pw_below_drewN|apply below_drew1)|exact HB.out)) hb);clear HO_5;clear HB;have HO_5:=n0_;have HB:=n1_;clear n0_ n1_;(try clear hb);(try clear hb2);(try clear hk);(try clear hi))|((with_reducible refine gate_dst (N:=8) rfl ?_);refine box_event ?hg (N:=8) ?hd (cs:=#[.int .i64 0,.int .i64 0,.int .i64 0]) (t:=76) ?hr ?_;(case hd=>rfl);(case hg=>rfl);(case hr=>first|(go_simp;done)|(go_simp;rfl));intro gb199 hg w16 hbox hb;have n0_:=Aside0.mk (Kd.R_below (by (with_reducible repeat (first|apply Kd.R_alloc|apply Kd.R_drewN|apply Kd.R_drew));exact HO_5.out) hb);have n1_:=Aside0.mk (below_step (by repeat (first|(with_reducible first|exact HB.out|apply below_alloc|apply pw_below_drewN|apply below_drew1)|exact HB.out)) hb);have n2_:=Aside0.mk (hbox);have n3_:=Aside0.mk ((by rw [hg];exact (below_size (by repeat (first|(with_reducible first|exact HB.out|apply below_alloc|apply pw_below_drewN|apply below_drew1)|exact HB.out))):w.heap.size≤gb199));have n4_:=Aside0.mk ((by rw [hg];exact (below_size (by repeat (first|(with_reducible first|exact HB.out|apply below_alloc|apply pw_below_drewN|apply below_drew1)|exact HB.out))):w.heap.size≤gb199));clear HO_5;clear HB;have HO_5:=n0_;have HB:=n1_;have BK199:=n2_;have GW199:=n3_;have GE199:=n4_;clear n0_ n1_ n2_ n3_ n4_;clear hb hbox hg;have hcz17_0:w16.cell? ⟨gb199,0,none⟩=some (.int .i64 0):=(blk_cell BK199.out 0).trans rfl;have hcz17_1:w16.cell? ⟨gb199,1,none⟩=some (.int .i64 0):=(blk_cell BK199.out 1).trans rfl;have hcz17_2:w16.cell? ⟨gb199,2,none⟩=some (.int .i64 0):=(blk_cell BK199.out 2).trans rfl;have hfz17_0:=blk_frozen BK199.out 0;have hfz17_1:=blk_frozen BK199.out 1;have hfz17_2:=blk_frozen BK199.out 2;obtain ⟨Ao18,co18,eo18⟩:=Kd.R_slice HO_5.out;subst eo18)|(go_at_call 79;(with_reducible refine (impl_hasInt.calls k1 _ _ x5_1 t196 false _ ?side1 ?side2 A8.out).mono ?_);(case side1=>refine (Kd.R_reads' (e:=3) (base:=w.heap.size) (ok:=fun k_=>True) (n:=x5_1.length) (c:=co18) ?_).2.2;exact (by (with_reducible repeat (first|apply Kd.R_alloc|apply Kd.R_drewN|apply Kd.R_drew));exact (Kd.R_mono (Kd.R_far (p:=⟨gb199,2,none⟩) (Kd.R_far (p:=⟨gb199,1,none⟩) (Kd.R_far (p:=⟨gb199,0,none⟩) (Kd.R_types HO_5.out BK199.out (by decide)) (fun _ hk=>hk.2) (.int .i64 t195)) (fun _ hk=>hk.2) (.int .i64 t196)) (fun _ hk=>hk.2) (.int .i64 t197)) (fun _ h_=>h_.1))));(case side2=>exact (Kd.R_reads' HO_5.out).2.1);rintro e w' ⟨rfl,⟨nd,rfl⟩⟩)|((with_reducible refine gate_builtin (b:=.append) (xs:=#[.tmp 30,.tmp 33]) rfl ?_);at_builtin;refine Kd.R_append (Kd.int .i64) (w0:=w) w.heap.size rfl (.tmp 30) (.tmp 33) 22 3 (.int .i64 0) 8 rfl Try.underlying22 info3 rfl (by decide) (by omega) (.slice Ao18 x5_1.length co18) x5_1 t196 [.int .i64 t196] (fun _=>True) (fun _=>False) rfl (by first|(go_simp;done)|(go_simp;rfl)) ?aP (fun _ hk=>hk.elim) ?aF ?aO ?aB ?aS ?aL ?_;(case aP=>exact rfl);(case aB=>exact (by repeat (first|(with_reducible first|exact HB.out|apply below_alloc|apply pw_below_drewN|apply below_drew1|refine below_set ?_ GE199.out)|exact HB.out)));(case aF=>exact (fun _ _=>trivial));(case aO=>exact (by (with_reducible repeat (first|apply Kd.R_alloc|apply Kd.R_drewN|apply Kd.R_drew));exact Kd.R_mono (Kd.R_far (p:=⟨gb199,2,none⟩) (Kd.R_far (p:=⟨gb199,1,none⟩) (Kd.R_far (p:=⟨gb199,0,none⟩) (Kd.R_types HO_5.out BK199.out (by decide)) (fun _ hk=>hk.2) (.int .i64 t195)) (fun _ hk=>hk.2) (.int .i64 t196)) (fun _ hk=>hk.2) (.int .i64 t197)) (fun _ hk=>trivial)));(case aS=>exact (below_size (by repeat (first|(with_reducible first|exact HB.out|apply below_alloc|apply pw_below_drewN|apply below_drew1|refine below_set ?_ GE199.out)|exact HB.out))));(case aL=>have:=LMc14.out;omega);intro v202 w19 ho hb hg hat;rw [← Ny201.out] at ho;have n0_:=Aside0.mk (blk_grown (g:=gb199) (o:=.cells #[.int .i64 t195,.int .i64 t196,.int .i64 t197] 76 (0,0)) (by (with_reducible repeat (first|refine blk_drewN ?_ _|refine blk_drew ?_|refine blk_alloc ?_ _));refine blk_put (cs:=#[.int .i64 t195,.int .i64 t196,.int .i64 0]) ?_ 2 _ rfl;(with_reducible repeat (first|refine blk_drewN ?_ _|refine blk_drew ?_|refine blk_alloc ?_ _));refine blk_put (cs:=#[.int .i64 t195,.int .i64 0,.int .i64 0]) ?_ 1 _ rfl;(with_reducible repeat (first|refine blk_drewN ?_ _|refine blk_drew ?_|refine blk_alloc ?_ _));refine blk_put (cs:=#[.int .i64 0,.int .i64 0,.int .i64 0]) ?_ 0 _ rfl;(with_reducible repeat (first|refine blk_drewN ?_ _|refine blk_drew ?_|refine blk_alloc ?_ _));exact BK199.out) hg (Kd.R_ne HO_5.out BK199.out (by decide)));have n1_:=Aside0.mk (hb);have n2_:=Aside0.mk (ho);clear BK199;clear HB;clear HO_5;have BK199:=n0_;have HB:=n1_;have HO203:=n2_;clear n0_ n1_ n2_;clear ho hb hg hat))
         go_roundg k1
         case measure=>have:=HK1.out;omega
         case rel=>exact ⟨(y201),(wrap64 (x12_1+1)),(by first|rfl|(simp;done)|(simp [*];done)),H',⟨by have:=HK1.out;omega⟩,⟨by (with_reducible repeat (first|apply Kd.R_alloc|apply Kd.R_drewN|apply Kd.R_drew));exact HO203.out⟩,⟨by repeat (first|(with_reducible first|exact HB.out|apply below_alloc|apply pw_below_drewN|apply below_drew1|refine below_set ?_ GE199.out)|exact HB.out)⟩⟩
        ·rw [if_neg c14] at H
         exact absurd H (by simp)
      ·replace c7:=Bool.eq_false_iff.mpr c7
       subst c7
       have H1:(impl_zonesIn.l0 k1 l1 x5_1 l0 (l0.length:Int) (wrap64 (x12_1+1)))=some r:=by rw [if_neg (show ¬ (false=true) by decide)] at H;exact H
       clear H
       have H:=H1
       clear H1
       have H':=Aside0.mk H
       clear H
       have p194:0≤(x12_1:Int):=of_decide_eq_true (by first|(with_reducible assumption)|assumption)
       have q194:x12_1 < (l0.length:Int):=of_decide_eq_true (by first|(with_reducible assumption)|assumption)
       obtain ⟨ad194,e194,hx194_0⟩:=Kd.at_int HR0.out x12_1 p194 q194
       cases e194
       replace hx194_0:=(HB.out.cell (World.block_lt_of_cell? w _ hx194_0)).trans hx194_0
       replace p194:=eq_true p194
       replace q194:=eq_true q194
       go_wp2_with (first|((with_reducible refine gate_callee (f:=50) rfl ?_);refine goesL_ (some 19) rfl rfl Try.func50 (by kernel_rfl) rfl #[.slice A1 l1.length c1,.int .i64 (rd l0 x12_1)] rfl (by (try simp only [List.map_toArray,List.map_cons,List.map_nil]);first|done|rfl|(simp only [List.length_drop,List.length_take];rfl)) ?_;(with_reducible refine (impl_DevAt.calls k1 _ _ l1 (rd l0 x12_1) t195 t196 t197 false _ ?side1 ?side2 A6.out).mono ?_);(case side1=>repeat (first|exact (Kd.C_below HR1.out HB.out)|(with_reducible refine Kd.C_alloc ?_ _)|(with_reducible refine Kd.C_drewN ?_ _)|(with_reducible refine Kd.C_drew ?_)));(case side2=>exact HC1.out);rintro e w20 ⟨rfl,hb⟩;refine ⟨_,rfl,?_⟩;have n0_:=Aside0.mk (Kd.R_below (by (with_reducible repeat (first|apply Kd.R_alloc|apply Kd.R_drewN|apply Kd.R_drew));exact HO_5.out) hb);have n1_:=Aside0.mk (below_step (by repeat (first|(with_reducible first|exact HB.out|apply below_alloc|apply pw_below_drewN|apply below_drew1)|exact HB.out)) hb);clear HO_5;clear HB;have HO_5:=n0_;have HB:=n1_;clear n0_ n1_;(try clear hb);(try clear hb2);(try clear hk);(try clear hi))|((with_reducible refine gate_dst (N:=8) rfl ?_);refine box_event ?hg (N:=8) ?hd (cs:=#[.int .i64 0,.int .i64 0,.int .i64 0]) (t:=76) ?hr ?_;(case hd=>rfl);(case hg=>rfl);(case hr=>first|(go_simp;done)|(go_simp;rfl));intro gb199 hg w21 hbox hb;have n0_:=Aside0.mk (Kd.R_below (by (with_reducible repeat (first|apply Kd.R_alloc|apply Kd.R_drewN|apply Kd.R_drew));exact HO_5.out) hb);have n1_:=Aside0.mk (below_step (by repeat (first|(with_reducible first|exact HB.out|apply below_alloc|apply pw_below_drewN|apply below_drew1)|exact HB.out)) hb);have n2_:=Aside0.mk (hbox);have n3_:=Aside0.mk ((by rw [hg];exact (below_size (by repeat (first|(with_reducible first|exact HB.out|apply below_alloc|apply pw_below_drewN|apply below_drew1)|exact HB.out))):w.heap.size≤gb199));have n4_:=Aside0.mk ((by rw [hg];exact (below_size (by repeat (first|(with_reducible first|exact HB.out|apply below_alloc|apply pw_below_drewN|apply below_drew1)|exact HB.out))):w.heap.size≤gb199));clear HO_5;clear HB;have HO_5:=n0_;have HB:=n1_;have BK199:=n2_;have GW199:=n3_;have GE199:=n4_;clear n0_ n1_ n2_ n3_ n4_;clear hb hbox hg;have hcz22_0:w21.cell? ⟨gb199,0,none⟩=some (.int .i64 0):=(blk_cell BK199.out 0).trans rfl;have hcz22_1:w21.cell? ⟨gb199,1,none⟩=some (.int .i64 0):=(blk_cell BK199.out 1).trans rfl;have hcz22_2:w21.cell? ⟨gb199,2,none⟩=some (.int .i64 0):=(blk_cell BK199.out 2).trans rfl;have hfz22_0:=blk_frozen BK199.out 0;have hfz22_1:=blk_frozen BK199.out 1;have hfz22_2:=blk_frozen BK199.out 2))
       go_roundg k1
       case measure=>have:=HK1.out;omega
       case rel=>exact ⟨(x5_1),(wrap64 (x12_1+1)),(by first|rfl|(simp;done)|(simp [*];done)),H',⟨by have:=HK1.out;omega⟩,⟨by (with_reducible repeat (first|apply Kd.R_alloc|apply Kd.R_drewN|apply Kd.R_drew));exact Kd.R_mono (Kd.R_far (p:=⟨gb199,2,none⟩) (Kd.R_far (p:=⟨gb199,1,none⟩) (Kd.R_far (p:=⟨gb199,0,none⟩) (Kd.R_types HO_5.out BK199.out (by decide)) (fun _ hk=>hk.2) (.int .i64 t195)) (fun _ hk=>hk.2) (.int .i64 t196)) (fun _ hk=>hk.2) (.int .i64 t197)) (fun _ hk=>trivial)⟩,⟨by repeat (first|(with_reducible first|exact HB.out|apply below_alloc|apply pw_below_drewN|apply below_drew1|refine below_set ?_ GE199.out)|exact HB.out)⟩⟩
     ·rw [if_neg c5] at H
      exact absurd H (by simp)
    ·rw [if_neg c4] at H
     exact absurd H (by simp)
   ·rw [if_neg c3] at H
    have c3b0:decide (x12_1 < (l0.length:Int))=false:=decide_eq_false c3
    clear c3
    obtain rfl:=Option.some.inj H
    go_wp2
    go_ret
    exact ⟨_,by first|rfl|(simp [errW_none,errW_some] <;> rfl)|(simp [*,errW_none,errW_some] <;> rfl),by (with_reducible repeat (first|apply Kd.R_alloc|apply Kd.R_drewN|apply Kd.R_drew));exact HO_5.out,by repeat (first|(with_reducible first|exact HB.out|apply below_alloc|apply pw_below_drewN|apply below_drew1)|exact HB.out)⟩
end Go.Proofs.Ytbhllgifciaepaa.PFnPlaces
