/- Trimmed by a program of this session (trim.py). Not trusted: Lean checks it. -/
import Derived.Test.YtbhllgifciaepaaTXBuildPFnExactBuildx0
import Derived.Test.YtbhllgifciaepaaTXBuildPFnExactBuildx7
import Derived.Test.YtbhllgifciaepaaTXBuildPFnExactBuildx8
import Derived.Test.YtbhllgifciaepaaTXBuildPFnExactBuildx9
namespace Go.Proofs.Ytbhllgifciaepaa.PFnExactBuild
open Go.RowKit Go.Proofs.YtbhllgifciaepaaW.PrintWords Go.Proofs.YtbhllgifciaepaaW.PrintLast Go.Proofs.YtbhllgifciaepaaW.PrintMore
attribute [local go_sem] max2_int min2_int max_two min_two max_three min_three max_four min_four
set_option linter.unusedVariables false
set_option linter.unusedSimpArgs false
mutual
def impl_Build.j0:Nat→List (S76)→Int→Int→Bool→Option (Int × (List (S29)) × Bool)
 | 0,_,_,_,_=>none
 | k+1,x0,x1,x2,x30=>if x30=true then (some (0,([]:List (S29)),false)) else (impl_Build.l0 k x0 x2 x1 0 x2 ([]:List (S29)))
def impl_Build.l0:Nat→List (S76)→Int→Int→Int→Int→List (S29)→Option (Int × (List (S29)) × Bool)
 | 0,_,_,_,_,_,_=>none
 | k+1,x0,x2,x34,x35,x232000,x232001=>if x35 < x34 then (if x232001.length < 5864062014805 then (impl_Build.l1 k x0 x2 x35 x34 x35 x2 0 x232000 (x232001 ++ [(⟨([]:List Int)⟩:S29)])) else (none)) else (some (x232000,x232001,true))
def impl_Build.l1:Nat→List (S76)→Int→Int→Int→Int→Int→Int→Int→List (S29)→Option (Int × (List (S29)) × Bool)
 | 0,_,_,_,_,_,_,_,_,_=>none
 | k+1,x0,x2,x9,x34,x35,x44,x45,x232000,x232001=>if x45 < x44 then (if 0≤x9 then (if x9 < (x232001.length:Int) then ((impl_Best.f k x232000 x232001 ((rd_T29 x232001 x9).f0) x0).bind fun t237=>(if ((rd_T29 x232001 x9).f0).length < 17592186044416 then (impl_Build.l1 k x0 x2 x9 x34 x35 x44 (wrap64 (x45+1)) x232000 (x232001.set (x9:Int).toNat (⟨(((rd_T29 x232001 x9).f0) ++ [t237])⟩:S29))) else (none))) else (none)) else (none)) else (impl_Build.l0 k x0 x2 x34 (wrap64 (x35+1)) x232000 x232001)
end
def impl_Build.f (k:Nat) (l0:List (S76)) (a1:Int) (a2:Int):Option (Int × (List (S29)) × Bool):=(impl_DevsOk.f k l0).bind fun t228=>(if t228=true then ((impl_in.f a1 1 64).bind fun t229=>(if t229=true then ((impl_in.f a2 1 5).bind fun t230=>(if t230=true then (impl_Build.j0 k l0 a1 a2 (decide ((l0.length:Int) < a2))) else (impl_Build.j0 k l0 a1 a2 true))) else (impl_Build.j0 k l0 a1 a2 true))) else (impl_Build.j0 k l0 a1 a2 true))
set_option maxHeartbeats 8000000 in
set_option maxRecDepth 100000 in
theorem impl_Build.calls (k:Nat) (A0:Option Addr) (c0:Nat) (l0:List (S76)) (a1:Int) (a2:Int) (r1:Int) (r2:List (S29)) (r3:Bool) (w:World) (hr0:Kd.C k76 w A0 l0.length l0) (hc0:l0.length≤c0) (h:impl_Build.f k l0 a1 a2=some (r1,r2,r3)) :
  Calls Try.prog 61 #[.slice A0 l0.length c0,.int .i64 a1,.int .i64 a2] w fun e w'=>∃ v1_:Value,e = .returned (.tuple #[.agg #[.int .i64 r1,v1_],.bool r3])∧Kd.S k29 29 w' w.heap.size (fun _=>True) v1_ r2∧Below w.heap.size w w':=by
 have hu43:=Try.underlying43
 have hu29:=Try.underlying29
 have HR0:=Aside0.mk hr0
 have HC0:=Aside0.mk hc0
 clear hr0 hc0
 have HB:=Aside0.mk (Below.refl w.heap.size w)
 have H:((impl_DevsOk.f k l0).bind fun t228=>(if t228=true then ((impl_in.f a1 1 64).bind fun t229=>(if t229=true then ((impl_in.f a2 1 5).bind fun t230=>(if t230=true then (impl_Build.j0 k l0 a1 a2 (decide ((l0.length:Int) < a2))) else (impl_Build.j0 k l0 a1 a2 true))) else (impl_Build.j0 k l0 a1 a2 true))) else (impl_Build.j0 k l0 a1 a2 true)))=some (r1,r2,r3):=h
 clear h
 have HC4:=Aside0.mk H
 clear H
 go_enter Try.func61,Try.ntmps61
 go_upto_region 1 with (first|((with_reducible refine gate_dst (N:=6) rfl ?_);(try (refine gate_guard (by rfl) ?_;dsimp only));refine box_event ?hg (N:=6) ?hd (cs:=#[.int .i64 0,.slice none 0 0]) (t:=43) ?hr ?_;(case hd=>rfl);(case hg=>rfl);(case hr=>first|(go_simp;done)|(go_simp;rfl));intro gb227 hg w5 hbox hb;have n0_:=Aside0.mk (below_step (by repeat (first|(with_reducible first|exact HB.out|apply below_alloc|apply pw_below_drewN|apply below_drew1)|exact HB.out)) hb);have n1_:=Aside0.mk (hbox);have n2_:=Aside0.mk ((by rw [hg];exact (below_size (by repeat (first|(with_reducible first|exact HB.out|apply below_alloc|apply pw_below_drewN|apply below_drew1)|exact HB.out))):w.heap.size≤gb227));have n3_:=Aside0.mk ((by rw [hg];exact (below_size (by repeat (first|(with_reducible first|exact HB.out|apply below_alloc|apply pw_below_drewN|apply below_drew1)|exact HB.out))):w.heap.size≤gb227));clear HB;have HB:=n0_;have BK227:=n1_;have GW227:=n2_;have GE227:=n3_;clear n0_ n1_ n2_ n3_;clear hb hbox hg))
 (try simp only [Act.put,List.setIfInBounds_toArray,List.set_cons_zero,List.set_cons_succ])
 go_cut [30] (fun v30 wc=>∃ (kq:Nat) (x30_3:Bool),v30 = .bool x30_3∧Aside0 (impl_Build.j0 kq l0 a1 a2 x30_3=some (r1,r2,r3))∧Aside0 (kq≤k)∧Aside0 (wc.heap[gb227]?=some (.cells #[.int .i64 0,(.slice none 0 0)] 43 (0,0)))∧Aside0 (Below w.heap.size w wc))
 case first=>
  have H:=HC4.out
  clear HC4
  replace H:=Option.bind_eq_some_iff.mp H
  obtain ⟨t228,A60,H⟩:=H
  replace H:(if t228=true then ((impl_in.f a1 1 64).bind fun t229=>(if t229=true then ((impl_in.f a2 1 5).bind fun t230=>(if t230=true then (impl_Build.j0 k l0 a1 a2 (decide ((l0.length:Int) < a2))) else (impl_Build.j0 k l0 a1 a2 true))) else (impl_Build.j0 k l0 a1 a2 true))) else (impl_Build.j0 k l0 a1 a2 true))=some (r1,r2,r3):=H
  have A6:=Aside0.mk A60
  clear A60
  by_cases c7:t228=true
  ·subst c7
   have H1:((impl_in.f a1 1 64).bind fun t229=>(if t229=true then ((impl_in.f a2 1 5).bind fun t230=>(if t230=true then (impl_Build.j0 k l0 a1 a2 (decide ((l0.length:Int) < a2))) else (impl_Build.j0 k l0 a1 a2 true))) else (impl_Build.j0 k l0 a1 a2 true)))=some (r1,r2,r3):=by rw [if_pos rfl] at H;exact H
   clear H
   have H:=H1
   clear H1
   replace H:=Option.bind_eq_some_iff.mp H
   obtain ⟨t229,A80,H⟩:=H
   replace H:(if t229=true then ((impl_in.f a2 1 5).bind fun t230=>(if t230=true then (impl_Build.j0 k l0 a1 a2 (decide ((l0.length:Int) < a2))) else (impl_Build.j0 k l0 a1 a2 true))) else (impl_Build.j0 k l0 a1 a2 true))=some (r1,r2,r3):=H
   have A8:=Aside0.mk A80
   clear A80
   by_cases c9:t229=true
   ·subst c9
    have H1:((impl_in.f a2 1 5).bind fun t230=>(if t230=true then (impl_Build.j0 k l0 a1 a2 (decide ((l0.length:Int) < a2))) else (impl_Build.j0 k l0 a1 a2 true)))=some (r1,r2,r3):=by rw [if_pos rfl] at H;exact H
    clear H
    have H:=H1
    clear H1
    replace H:=Option.bind_eq_some_iff.mp H
    obtain ⟨t230,A100,H⟩:=H
    replace H:(if t230=true then (impl_Build.j0 k l0 a1 a2 (decide ((l0.length:Int) < a2))) else (impl_Build.j0 k l0 a1 a2 true))=some (r1,r2,r3):=H
    have A10:=Aside0.mk A100
    clear A100
    by_cases c11:t230=true
    ·subst c11
     have H1:(impl_Build.j0 k l0 a1 a2 (decide ((l0.length:Int) < a2)))=some (r1,r2,r3):=by rw [if_pos rfl] at H;exact H
     clear H
     have H:=H1
     clear H1
     have H':=Aside0.mk H
     clear H
     go_wp2_with (first|((with_reducible refine gate_callee (f:=100) rfl ?_);refine goesL_ (some 13) rfl rfl Try.func100 (by kernel_rfl) rfl #[.slice A0 l0.length c0] rfl (by (try simp only [List.map_toArray,List.map_cons,List.map_nil]);first|done|rfl|(simp only [List.length_drop,List.length_take];rfl)) ?_;(with_reducible refine (impl_DevsOk.calls k _ _ l0 true _ ?side1 ?side2 A6.out).mono ?_);(case side1=>repeat (first|exact (Kd.C_below HR0.out HB.out)|(with_reducible refine Kd.C_alloc ?_ _)|(with_reducible refine Kd.C_drewN ?_ _)|(with_reducible refine Kd.C_drew ?_)));(case side2=>exact HC0.out);rintro e w12 ⟨rfl,hb⟩;refine ⟨_,rfl,?_⟩;have n0_:=Aside0.mk (blk_below (g:=gb227) (o:=.cells #[.int .i64 0,.slice none 0 0] 43 (0,0)) (by (with_reducible repeat (first|refine blk_drewN ?_ _|refine blk_drew ?_|refine blk_alloc ?_ _));exact BK227.out) hb);have n1_:=Aside0.mk (below_step (by repeat (first|(with_reducible first|exact HB.out|apply below_alloc|apply pw_below_drewN|apply below_drew1|refine below_set ?_ GE227.out)|exact HB.out)) hb);clear BK227;clear HB;have BK227:=n0_;have HB:=n1_;clear n0_ n1_;(try clear hb);(try clear hb2);(try clear hk);(try clear hi))|(go_at_call 101;(with_reducible refine (impl_in.calls a1 1 64 true _ A8.out).mono ?_);rintro e w' ⟨rfl,⟨nd,rfl⟩⟩)|(go_at_call 101;(with_reducible refine (impl_in.calls a2 1 5 true _ A10.out).mono ?_);rintro e w' ⟨rfl,⟨nd,rfl⟩⟩))
     go_meet
     case rel=>exact ⟨_,(decide ((l0.length:Int) < a2)),(by first|rfl|(simp;done)|(simp [*];done)),H',⟨by first|omega|exact Nat.le_refl _⟩,⟨by (with_reducible repeat (first|refine blk_drewN ?_ _|refine blk_drew ?_|refine blk_alloc ?_ _));exact BK227.out⟩,⟨by repeat (first|(with_reducible first|exact HB.out|apply below_alloc|apply pw_below_drewN|apply below_drew1|refine below_set ?_ GE227.out)|exact HB.out)⟩⟩
    ·replace c11:=Bool.eq_false_iff.mpr c11
     subst c11
     have H1:(impl_Build.j0 k l0 a1 a2 true)=some (r1,r2,r3):=by rw [if_neg (show ¬ (false=true) by decide)] at H;exact H
     clear H
     have H:=H1
     clear H1
     have H':=Aside0.mk H
     clear H
     go_wp2_with (first|((with_reducible refine gate_callee (f:=100) rfl ?_);refine goesL_ (some 13) rfl rfl Try.func100 (by kernel_rfl) rfl #[.slice A0 l0.length c0] rfl (by (try simp only [List.map_toArray,List.map_cons,List.map_nil]);first|done|rfl|(simp only [List.length_drop,List.length_take];rfl)) ?_;(with_reducible refine (impl_DevsOk.calls k _ _ l0 true _ ?side1 ?side2 A6.out).mono ?_);(case side1=>repeat (first|exact (Kd.C_below HR0.out HB.out)|(with_reducible refine Kd.C_alloc ?_ _)|(with_reducible refine Kd.C_drewN ?_ _)|(with_reducible refine Kd.C_drew ?_)));(case side2=>exact HC0.out);rintro e w13 ⟨rfl,hb⟩;refine ⟨_,rfl,?_⟩;have n0_:=Aside0.mk (blk_below (g:=gb227) (o:=.cells #[.int .i64 0,.slice none 0 0] 43 (0,0)) (by (with_reducible repeat (first|refine blk_drewN ?_ _|refine blk_drew ?_|refine blk_alloc ?_ _));exact BK227.out) hb);have n1_:=Aside0.mk (below_step (by repeat (first|(with_reducible first|exact HB.out|apply below_alloc|apply pw_below_drewN|apply below_drew1|refine below_set ?_ GE227.out)|exact HB.out)) hb);clear BK227;clear HB;have BK227:=n0_;have HB:=n1_;clear n0_ n1_;(try clear hb);(try clear hb2);(try clear hk);(try clear hi))|(go_at_call 101;(with_reducible refine (impl_in.calls a1 1 64 true _ A8.out).mono ?_);rintro e w' ⟨rfl,⟨nd,rfl⟩⟩)|(go_at_call 101;(with_reducible refine (impl_in.calls a2 1 5 false _ A10.out).mono ?_);rintro e w' ⟨rfl,⟨nd,rfl⟩⟩))
     go_meet
     case rel=>exact ⟨_,(true),(by first|rfl|(simp;done)|(simp [*];done)),H',⟨by first|omega|exact Nat.le_refl _⟩,⟨by (with_reducible repeat (first|refine blk_drewN ?_ _|refine blk_drew ?_|refine blk_alloc ?_ _));exact BK227.out⟩,⟨by repeat (first|(with_reducible first|exact HB.out|apply below_alloc|apply pw_below_drewN|apply below_drew1|refine below_set ?_ GE227.out)|exact HB.out)⟩⟩
   ·replace c9:=Bool.eq_false_iff.mpr c9
    subst c9
    have H1:(impl_Build.j0 k l0 a1 a2 true)=some (r1,r2,r3):=by rw [if_neg (show ¬ (false=true) by decide)] at H;exact H
    clear H
    have H:=H1
    clear H1
    have H':=Aside0.mk H
    clear H
    go_wp2_with (first|((with_reducible refine gate_callee (f:=100) rfl ?_);refine goesL_ (some 13) rfl rfl Try.func100 (by kernel_rfl) rfl #[.slice A0 l0.length c0] rfl (by (try simp only [List.map_toArray,List.map_cons,List.map_nil]);first|done|rfl|(simp only [List.length_drop,List.length_take];rfl)) ?_;(with_reducible refine (impl_DevsOk.calls k _ _ l0 true _ ?side1 ?side2 A6.out).mono ?_);(case side1=>repeat (first|exact (Kd.C_below HR0.out HB.out)|(with_reducible refine Kd.C_alloc ?_ _)|(with_reducible refine Kd.C_drewN ?_ _)|(with_reducible refine Kd.C_drew ?_)));(case side2=>exact HC0.out);rintro e w14 ⟨rfl,hb⟩;refine ⟨_,rfl,?_⟩;have n0_:=Aside0.mk (blk_below (g:=gb227) (o:=.cells #[.int .i64 0,.slice none 0 0] 43 (0,0)) (by (with_reducible repeat (first|refine blk_drewN ?_ _|refine blk_drew ?_|refine blk_alloc ?_ _));exact BK227.out) hb);have n1_:=Aside0.mk (below_step (by repeat (first|(with_reducible first|exact HB.out|apply below_alloc|apply pw_below_drewN|apply below_drew1|refine below_set ?_ GE227.out)|exact HB.out)) hb);clear BK227;clear HB;have BK227:=n0_;have HB:=n1_;clear n0_ n1_;(try clear hb);(try clear hb2);(try clear hk);(try clear hi))|(go_at_call 101;(with_reducible refine (impl_in.calls a1 1 64 false _ A8.out).mono ?_);rintro e w' ⟨rfl,⟨nd,rfl⟩⟩))
    go_meet
    case rel=>exact ⟨_,(true),(by first|rfl|(simp;done)|(simp [*];done)),H',⟨by first|omega|exact Nat.le_refl _⟩,⟨by (with_reducible repeat (first|refine blk_drewN ?_ _|refine blk_drew ?_|refine blk_alloc ?_ _));exact BK227.out⟩,⟨by repeat (first|(with_reducible first|exact HB.out|apply below_alloc|apply pw_below_drewN|apply below_drew1|refine below_set ?_ GE227.out)|exact HB.out)⟩⟩
  ·replace c7:=Bool.eq_false_iff.mpr c7
   subst c7
   have H1:(impl_Build.j0 k l0 a1 a2 true)=some (r1,r2,r3):=by rw [if_neg (show ¬ (false=true) by decide)] at H;exact H
   clear H
   have H:=H1
   clear H1
   have H':=Aside0.mk H
   clear H
   go_wp2_with (first|((with_reducible refine gate_callee (f:=100) rfl ?_);refine goesL_ (some 13) rfl rfl Try.func100 (by kernel_rfl) rfl #[.slice A0 l0.length c0] rfl (by (try simp only [List.map_toArray,List.map_cons,List.map_nil]);first|done|rfl|(simp only [List.length_drop,List.length_take];rfl)) ?_;(with_reducible refine (impl_DevsOk.calls k _ _ l0 false _ ?side1 ?side2 A6.out).mono ?_);(case side1=>repeat (first|exact (Kd.C_below HR0.out HB.out)|(with_reducible refine Kd.C_alloc ?_ _)|(with_reducible refine Kd.C_drewN ?_ _)|(with_reducible refine Kd.C_drew ?_)));(case side2=>exact HC0.out);rintro e w15 ⟨rfl,hb⟩;refine ⟨_,rfl,?_⟩;have n0_:=Aside0.mk (blk_below (g:=gb227) (o:=.cells #[.int .i64 0,.slice none 0 0] 43 (0,0)) (by (with_reducible repeat (first|refine blk_drewN ?_ _|refine blk_drew ?_|refine blk_alloc ?_ _));exact BK227.out) hb);have n1_:=Aside0.mk (below_step (by repeat (first|(with_reducible first|exact HB.out|apply below_alloc|apply pw_below_drewN|apply below_drew1|refine below_set ?_ GE227.out)|exact HB.out)) hb);clear BK227;clear HB;have BK227:=n0_;have HB:=n1_;clear n0_ n1_;(try clear hb);(try clear hb2);(try clear hk);(try clear hi)))
   go_meet
   case rel=>exact ⟨_,(true),(by first|rfl|(simp;done)|(simp [*];done)),H',⟨by first|omega|exact Nat.le_refl _⟩,⟨by (with_reducible repeat (first|refine blk_drewN ?_ _|refine blk_drew ?_|refine blk_alloc ?_ _));exact BK227.out⟩,⟨by repeat (first|(with_reducible first|exact HB.out|apply below_alloc|apply pw_below_drewN|apply below_drew1|refine below_set ?_ GE227.out)|exact HB.out)⟩⟩
 case rest=>
  clear HC4
  try clear c1
  try clear p2
  try clear c6
  try clear c7
  try clear c9
  try clear c10
  try clear c11
  obtain ⟨kq,x30_3,rfl,HA,HJ3,BK227,HB⟩:=hcut
  cases kq with
  | zero=>exact absurd HA.out (by simp [impl_Build.j0])
  | succ kj3=>
   have H:=HA.out
   clear HA
   simp only [impl_Build.j0] at H
   by_cases c16:x30_3=true
   ·subst c16
    have H1:(some (0,([]:List (S29)),false))=some (r1,r2,r3):=by rw [if_pos rfl] at H;exact H
    clear H
    have H:=H1
    clear H1
    simp only [Option.some.injEq,Prod.mk.injEq] at H
    obtain ⟨rfl,rfl,rfl⟩:=H
    have hcz17_0:wc.cell? ⟨gb227,0,none⟩=some (.int .i64 0):=(blk_cell BK227.out 0).trans rfl
    have hcz17_1:wc.cell? ⟨gb227,1,none⟩=some (.slice none 0 0):=(blk_cell BK227.out 1).trans rfl
    have hfz17_0:=blk_frozen BK227.out 0
    have hfz17_1:=blk_frozen BK227.out 1
    go_wp2
    refine bodyPost_ret (results_ct rfl _ _ gb227 43 #[.int .i64 0,.slice none 0 0] (0,0) _ rfl (by (with_reducible repeat (first|refine blk_drewN ?_ _|refine blk_drew ?_|refine blk_alloc ?_ _));refine blk_put (cs:=#[.int .i64 0,.slice none 0 0]) ?_ 1 _ rfl;(with_reducible repeat (first|refine blk_drewN ?_ _|refine blk_drew ?_|refine blk_alloc ?_ _));refine blk_put (cs:=#[.int .i64 0,.slice none 0 0]) ?_ 0 _ rfl;(with_reducible repeat (first|refine blk_drewN ?_ _|refine blk_drew ?_|refine blk_alloc ?_ _));exact BK227.out) Try.underlying43 rfl (by kernel_rfl)) rfl ?_
    exact ⟨_,by first|rfl|(simp [errW_none,errW_some] <;> rfl)|(simp [*,errW_none,errW_some] <;> rfl),by first|exact Kd.S_nil _ _ _ _ _|exact Kd.N_nil _ _ _ _ _|exact Kd.V_nil _ _ _ _ _|exact Kd.Q_nil _ _ _ _ _|exact Kd.R_nil _ _ _ _ _,by repeat (first|(with_reducible first|exact HB.out|apply below_alloc|apply pw_below_drewN|apply below_drew1|refine below_set ?_ GE227.out)|exact HB.out)⟩
   ·replace c16:=Bool.eq_false_iff.mpr c16
    subst c16
    have H1:(impl_Build.l0 kj3 l0 a2 a1 0 a2 ([]:List (S29)))=some (r1,r2,r3):=by rw [if_neg (show ¬ (false=true) by decide)] at H;exact H
    clear H
    have H:=H1
    clear H1
    have H':=Aside0.mk H
    clear H
    go_wp2_with (first|((with_reducible refine gate_dst (N:=8) rfl ?_);(try (refine gate_guard (by rfl) ?_;dsimp only));refine box_event ?hg (N:=8) ?hd (cs:=#[.int .i64 0,.slice none 0 0]) (t:=43) ?hr ?_;(case hd=>rfl);(case hg=>rfl);(case hr=>first|(go_simp;done)|(go_simp;rfl));intro gb231 hg w18 hbox hb;have n0_:=Aside0.mk (blk_below (g:=gb227) (o:=.cells #[.int .i64 0,.slice none 0 0] 43 (0,0)) (by (with_reducible repeat (first|refine blk_drewN ?_ _|refine blk_drew ?_|refine blk_alloc ?_ _));exact BK227.out) hb);have n1_:=Aside0.mk (below_step (by repeat (first|(with_reducible first|exact HB.out|apply below_alloc|apply pw_below_drewN|apply below_drew1|refine below_set ?_ GE227.out)|exact HB.out)) hb);have n2_:=Aside0.mk (hbox);have n3_:=Aside0.mk ((by rw [hg];exact (below_size (by repeat (first|(with_reducible first|exact HB.out|apply below_alloc|apply pw_below_drewN|apply below_drew1|refine below_set ?_ GE227.out)|exact HB.out))):w.heap.size≤gb231));have n4_:=Aside0.mk ((by rw [hg];exact (below_size (by repeat (first|(with_reducible first|exact HB.out|apply below_alloc|apply pw_below_drewN|apply below_drew1|refine below_set ?_ GE227.out)|exact HB.out))):w.heap.size≤gb231));have n5_:=Aside0.mk ((by rw [hg];exact Nat.ne_of_lt (blk_lt (g:=gb227) (o:=.cells #[.int .i64 0,.slice none 0 0] 43 (0,0)) (by (with_reducible repeat (first|refine blk_drewN ?_ _|refine blk_drew ?_|refine blk_alloc ?_ _));exact BK227.out)):gb227 ≠ gb231));have n6_:=Aside0.mk ((by rw [hg];exact Nat.ne_of_gt (blk_lt (g:=gb227) (o:=.cells #[.int .i64 0,.slice none 0 0] 43 (0,0)) (by (with_reducible repeat (first|refine blk_drewN ?_ _|refine blk_drew ?_|refine blk_alloc ?_ _));exact BK227.out)):gb231 ≠ gb227));clear BK227;clear HB;have BK227:=n0_;have HB:=n1_;have BK231:=n2_;have GW231:=n3_;have GE231:=n4_;have NB227_231:=n5_;have NB231_227:=n6_;clear n0_ n1_ n2_ n3_ n4_ n5_ n6_;clear hb hbox hg;have hnb19:=NB231_227.out;have hnc19:=NB227_231.out;have hcz20_0:w18.cell? ⟨gb231,0,none⟩=some (.int .i64 0):=(blk_cell BK231.out 0).trans rfl;have hcz20_1:w18.cell? ⟨gb231,1,none⟩=some (.slice none 0 0):=(blk_cell BK231.out 1).trans rfl;have hfz20_0:=blk_frozen BK231.out 0;have hfz20_1:=blk_frozen BK231.out 1))
    go_loopg [35] kj3 (fun kq v35 w'=>∃ (x35_2:Int) (x232001_2:List (S29)) (u232001:Value),v35 = .int .i64 x35_2∧Aside0 (impl_Build.l0 kq l0 a2 a1 x35_2 a2 x232001_2=some (r1,r2,r3))∧Aside0 (kq≤kj3)∧Aside0 (Kd.S k29 29 w' w.heap.size (fun _=>True) u232001 x232001_2)∧Aside0 (w'.heap[gb227]?=some (.cells #[.int .i64 0,(.slice none 0 0)] 43 (0,0)))∧Aside0 (w'.heap[gb231]?=some (.cells #[.int .i64 a2,u232001] 43 (0,0)))∧Aside0 (Below w.heap.size w w'))
    case atStart=>exact ⟨(0),(([]:List (S29))),(.slice none 0 0),(by first|rfl|(simp;done)|(simp [*];done)),H',⟨Nat.le_refl _⟩,⟨by first|exact Kd.S_nil _ _ _ _ _|exact Kd.N_nil _ _ _ _ _|exact Kd.V_nil _ _ _ _ _|exact Kd.Q_nil _ _ _ _ _|exact Kd.R_nil _ _ _ _ _⟩,⟨by (with_reducible repeat (first|refine blk_drewN ?_ _|refine blk_drew ?_|refine blk_alloc ?_ _));refine blk_far ?_ NB227_231.out _;(with_reducible repeat (first|refine blk_drewN ?_ _|refine blk_drew ?_|refine blk_alloc ?_ _));refine blk_far ?_ NB227_231.out _;(with_reducible repeat (first|refine blk_drewN ?_ _|refine blk_drew ?_|refine blk_alloc ?_ _));exact BK227.out⟩,⟨by (with_reducible repeat (first|refine blk_drewN ?_ _|refine blk_drew ?_|refine blk_alloc ?_ _));refine blk_put (cs:=#[.int .i64 a2,.slice none 0 0]) ?_ 1 _ rfl;(with_reducible repeat (first|refine blk_drewN ?_ _|refine blk_drew ?_|refine blk_alloc ?_ _));refine blk_put (cs:=#[.int .i64 0,.slice none 0 0]) ?_ 0 _ rfl;(with_reducible repeat (first|refine blk_drewN ?_ _|refine blk_drew ?_|refine blk_alloc ?_ _));exact BK231.out⟩,⟨by repeat (first|(with_reducible first|exact HB.out|apply below_alloc|apply pw_below_drewN|apply below_drew1|refine below_set ?_ GE227.out|refine below_set ?_ GE231.out)|exact HB.out)⟩⟩
    case round=>
     clear H'
     try clear c1
     try clear p2
     try clear c6
     try clear c7
     try clear c9
     try clear c10
     try clear c11
     try clear c16
     try clear c19
     try clear hcz17_0
     try clear hcz17_1
     try clear hcz20_0
     try clear hcz20_1
     try clear hfz17_0
     try clear hfz17_1
     try clear hfz20_0
     try clear hfz20_1
     try clear p2
     obtain ⟨x35_2,x232001_2,u232001,rfl,HA,HK2,HO_232001,BK227,BK231,HB⟩:=hrel
     cases gk with
     | zero=>exact absurd HA.out (by simp [impl_Build.l0])
     | succ k2=>
      have H:=HA.out
      clear HA
      simp only [impl_Build.l0] at H
      by_cases c21:x35_2 < a1
      ·rw [if_pos c21] at H
       have c21b0:decide (x35_2 < a1)=true:=decide_eq_true c21
       clear c21
       by_cases c22:x232001_2.length < 5864062014805
       ·rw [if_pos c22] at H
        have LMc22:=Aside0.mk c22
        clear c22
        obtain ⟨y232,hy232⟩ : ∃ y_:List (S29),y_=(x232001_2 ++ [(⟨([]:List Int)⟩:S29)]):=⟨_,rfl⟩
        replace H:(impl_Build.l1 k2 l0 a2 x35_2 a1 x35_2 a2 0 a2 y232)=some (r1,r2,r3):=by first|(rw [hy232];with_reducible exact H)|(have H2_:=(Option.bind_some _ _).symm.trans H;rw [hy232];with_reducible exact H2_)|(have H2_:=(Option.bind_some _ _).symm.trans H;with_reducible exact H2_)|with_reducible exact H|(rw [hy232];exact H)|exact H
        have Ny232:=Aside0.mk hy232
        clear hy232
        have H':=Aside0.mk H
        clear H
        have hnb23:=NB231_227.out
        have hnc23:=NB227_231.out
        have hcz24_0:wr.cell? ⟨gb231,0,none⟩=some (.int .i64 a2):=(blk_cell BK231.out 0).trans rfl
        have hcz24_1:wr.cell? ⟨gb231,1,none⟩=some (u232001):=(blk_cell BK231.out 1).trans rfl
        have hfz24_0:=blk_frozen BK231.out 0
        have hfz24_1:=blk_frozen BK231.out 1
        go_wp2_with (first|((with_reducible refine gate_builtin (b:=.append) (xs:=#[.tmp 39,.tmp 41]) rfl ?_);(try (refine gate_guard (by rfl) ?_;dsimp only));at_builtin;refine Kd.S_append k29 (w0:=w) w.heap.size rfl (.tmp 39) (.tmp 41) 41 29 (.agg #[(.slice none 0 0)]) 24 rfl Try.underlying41 info29 rfl (by decide) (by omega) u232001 x232001_2 (⟨([]:List Int)⟩:S29) [.slice none 0 0] (fun _=>True) (fun _=>False) rfl rfl ?aP (fun k_ hk_=>hk_.elim) ?aF ?aO ?aB ?aS ?aL ?_;(case aP=>exact k29_mkM _ _ _ (⟨([]:List Int)⟩:S29) (Kd.R_nil _ _ _ _ _));(case aB=>exact (by repeat (first|(with_reducible first|exact HB.out|apply below_alloc|apply pw_below_drewN|apply below_drew1|refine below_set ?_ GE227.out|refine below_set ?_ GE231.out)|exact HB.out)));(case aF=>exact (fun _ _=>trivial));(case aO=>exact (by (with_reducible repeat (first|apply Kd.S_alloc|apply Kd.S_drewN|apply Kd.S_drew));exact Kd.S_mono HO_232001.out (fun k_ hk=>⟨trivial,fun e_=>e_⟩)));(case aS=>exact (below_size (by repeat (first|(with_reducible first|exact HB.out|apply below_alloc|apply pw_below_drewN|apply below_drew1|refine below_set ?_ GE227.out|refine below_set ?_ GE231.out)|exact HB.out))));(case aL=>have:=LMc22.out;omega);intro v233 w25 ho hb hg hat;rw [← Ny232.out] at ho;have n0_:=Aside0.mk (blk_grown (g:=gb227) (o:=.cells #[.int .i64 0,.slice none 0 0] 43 (0,0)) (by (with_reducible repeat (first|refine blk_drewN ?_ _|refine blk_drew ?_|refine blk_alloc ?_ _));exact BK227.out) hg (Kd.S_ne HO_232001.out BK227.out (by decide)));have n1_:=Aside0.mk (blk_grown (g:=gb231) (o:=.cells #[.int .i64 a2,u232001] 43 (0,0)) (by (with_reducible repeat (first|refine blk_drewN ?_ _|refine blk_drew ?_|refine blk_alloc ?_ _));exact BK231.out) hg (Kd.S_ne HO_232001.out BK231.out (by decide)));have n2_:=Aside0.mk (hb);have n3_:=Aside0.mk (ho);clear BK227;clear BK231;clear HB;clear HO_232001;have BK227:=n0_;have BK231:=n1_;have HB:=n2_;have HO234:=n3_;clear n0_ n1_ n2_ n3_;clear ho hb hg hat;obtain ⟨Ao26,co26,eo26⟩:=Kd.S_slice HO234.out;subst eo26;have hcz27_0:w25.cell? ⟨gb231,0,none⟩=some (.int .i64 a2):=(blk_cell BK231.out 0).trans rfl;have hcz27_1:w25.cell? ⟨gb231,1,none⟩=some (u232001):=(blk_cell BK231.out 1).trans rfl;have hfz27_0:=blk_frozen BK231.out 0;have hfz27_1:=blk_frozen BK231.out 1))
        go_loopg [45] k2 (fun kq v45 w'=>∃ (x45_3:Int) (x232001_3:List (S29)) (u232001:Value),v45 = .int .i64 x45_3∧Aside0 (impl_Build.l1 kq l0 a2 x35_2 a1 x35_2 a2 x45_3 a2 x232001_3=some (r1,r2,r3))∧Aside0 (kq≤k2)∧Aside0 (Kd.S k29 29 w' w.heap.size (fun _=>True) u232001 x232001_3)∧Aside0 (w'.heap[gb227]?=some (.cells #[.int .i64 0,(.slice none 0 0)] 43 (0,0)))∧Aside0 (w'.heap[gb231]?=some (.cells #[.int .i64 a2,u232001] 43 (0,0)))∧Aside0 (Below w.heap.size w w'))
        case atStart=>exact ⟨(0),(y232),(.slice Ao26 y232.length co26),(by first|rfl|(simp;done)|(simp [*];done)),H',⟨Nat.le_refl _⟩,⟨by (with_reducible repeat (first|apply Kd.S_alloc|apply Kd.S_drewN|apply Kd.S_drew));exact Kd.S_mono (Kd.S_far (p:=⟨gb231,1,none⟩) (Kd.S_types HO234.out BK231.out (by decide)) (fun _ hk=>hk.2) (.slice Ao26 y232.length co26)) (fun _ hk=>trivial)⟩,⟨by (with_reducible repeat (first|refine blk_drewN ?_ _|refine blk_drew ?_|refine blk_alloc ?_ _));refine blk_far ?_ NB227_231.out _;(with_reducible repeat (first|refine blk_drewN ?_ _|refine blk_drew ?_|refine blk_alloc ?_ _));exact BK227.out⟩,⟨by (with_reducible repeat (first|refine blk_drewN ?_ _|refine blk_drew ?_|refine blk_alloc ?_ _));refine blk_put (cs:=#[.int .i64 a2,u232001]) ?_ 1 _ rfl;(with_reducible repeat (first|refine blk_drewN ?_ _|refine blk_drew ?_|refine blk_alloc ?_ _));exact BK231.out⟩,⟨by repeat (first|(with_reducible first|exact HB.out|apply below_alloc|apply pw_below_drewN|apply below_drew1|refine below_set ?_ GE227.out|refine below_set ?_ GE231.out)|exact HB.out)⟩⟩
        case round=>
         clear H'
         try clear c1
         try clear c2
         try clear p2
         try clear c6
         try clear c7
         try clear c9
         try clear c10
         try clear c11
         try clear c16
         try clear c19
         try clear c21
         try clear c21b0
         try clear c22
         try clear c23
         try clear hcz17_0
         try clear hcz17_1
         try clear hcz20_0
         try clear hcz20_1
         try clear hcz24_0
         try clear hcz24_1
         try clear hcz27_0
         try clear hcz27_1
         try clear hfz17_0
         try clear hfz17_1
         try clear hfz20_0
         try clear hfz20_1
         try clear hfz24_0
         try clear hfz24_1
         try clear hfz27_0
         try clear hfz27_1
         try clear p2
         obtain ⟨x45_3,x232001_3,u232001,rfl,HA,HK3,HO_232001,BK227,BK231,HB⟩:=hrel
         cases gk with
         | zero=>exact absurd HA.out (by simp [impl_Build.l1])
         | succ k3=>
          have H:=HA.out
          clear HA
          simp only [impl_Build.l1] at H
          by_cases c28:x45_3 < a2
          ·rw [if_pos c28] at H
           have c28b0:decide (x45_3 < a2)=true:=decide_eq_true c28
           clear c28
           by_cases c29:0≤x35_2
           ·rw [if_pos c29] at H
            have c29b0:decide (0≤x35_2)=true:=decide_eq_true c29
            clear c29
            by_cases c30:x35_2 < (x232001_3.length:Int)
            ·rw [if_pos c30] at H
             have c30b0:decide (x35_2 < (x232001_3.length:Int))=true:=decide_eq_true c30
             clear c30
             replace H:=Option.bind_eq_some_iff.mp H
             obtain ⟨t237,A310,H⟩:=H
             replace H:(if ((rd_T29 x232001_3 x35_2).f0).length < 17592186044416 then (impl_Build.l1 k3 l0 a2 x35_2 a1 x35_2 a2 (wrap64 (x45_3+1)) a2 (x232001_3.set (x35_2:Int).toNat (⟨(((rd_T29 x232001_3 x35_2).f0) ++ [t237])⟩:S29))) else (none))=some (r1,r2,r3):=H
             have A31:=Aside0.mk A310
             clear A310
             by_cases c32:((rd_T29 x232001_3 x35_2).f0).length < 17592186044416
             ·rw [if_pos c32] at H
              have LMc32:=Aside0.mk c32
              clear c32
              obtain ⟨y239,hy239⟩ : ∃ y_:List Int,y_=(((rd_T29 x232001_3 x35_2).f0) ++ [t237]):=⟨_,rfl⟩
              replace H:(impl_Build.l1 k3 l0 a2 x35_2 a1 x35_2 a2 (wrap64 (x45_3+1)) a2 (x232001_3.set (x35_2:Int).toNat (⟨y239⟩:S29)))=some (r1,r2,r3):=by first|(rw [hy239];with_reducible exact H)|(have H2_:=(Option.bind_some _ _).symm.trans H;rw [hy239];with_reducible exact H2_)|(have H2_:=(Option.bind_some _ _).symm.trans H;with_reducible exact H2_)|with_reducible exact H|(rw [hy239];exact H)|exact H
              have Ny239:=Aside0.mk hy239
              clear hy239
              obtain ⟨y242,hy242⟩ : ∃ y_:List (S29),y_=(x232001_3.set (x35_2:Int).toNat (⟨y239⟩:S29)):=⟨_,rfl⟩
              replace H:(impl_Build.l1 k3 l0 a2 x35_2 a1 x35_2 a2 (wrap64 (x45_3+1)) a2 y242)=some (r1,r2,r3):=by first|(rw [hy242];with_reducible exact H)|(have H2_:=(Option.bind_some _ _).symm.trans H;rw [hy242];with_reducible exact H2_)|(have H2_:=(Option.bind_some _ _).symm.trans H;with_reducible exact H2_)|with_reducible exact H|(rw [hy242];exact H)|exact H
              have Ny242:=Aside0.mk hy242
              clear hy242
              have H':=Aside0.mk H
              clear H
              have hnb33:=NB231_227.out
              have hnc33:=NB227_231.out
              have hcz34_0:wr.cell? ⟨gb231,0,none⟩=some (.int .i64 a2):=(blk_cell BK231.out 0).trans rfl
              have hcz34_1:wr.cell? ⟨gb231,1,none⟩=some (u232001):=(blk_cell BK231.out 1).trans rfl
              have hfz34_0:=blk_frozen BK231.out 0
              have hfz34_1:=blk_frozen BK231.out 1
              obtain ⟨Ao35,co35,eo35⟩:=Kd.S_slice HO_232001.out
              subst eo35
              have p235:0≤(x35_2:Int):=of_decide_eq_true (by first|(with_reducible assumption)|assumption)
              have q235:x35_2 < (x232001_3.length:Int):=of_decide_eq_true (by first|(with_reducible assumption)|assumption)
              obtain ⟨ad235,A235_0,c235_0,e235,hx235_0,hl235_0,hi235_0⟩:=at_T29 (Kd.S_reads' HO_232001.out).2.2 x35_2 p235 q235
              cases e235
              obtain ⟨ce235,hce235,hMe235,hcc235⟩:=Kd.S_get HO_232001.out z29 x35_2 p235 (by first|exact q235|exact of_decide_eq_true (by first|(with_reducible assumption)|assumption)|(have e_:=(Kd.S_reads' HO_232001.out).1;omega))
              obtain ⟨ve235_0,rfl,ge235_0⟩:=k29_openM hMe235
              have hv235_0:=hcc235 0 _ rfl
              rw [Nat.add_zero,show (k29).sz=1 from rfl,Nat.mul_one] at hv235_0
              replace hv235_0:=Option.some.inj (hv235_0.symm.trans hx235_0)
              rw [hv235_0] at ge235_0
              have HL235_0:=Aside0.mk (show Kd.R (Kd.int .i64) 3 _ _ _ _ ((rd_T29 x232001_3 x35_2).f0) from ge235_0)
              clear hv235_0 ge235_0
              have HX235_0:=Aside0.mk hx235_0
              clear hcc235 hce235
              have HR235_0:=Aside0.mk hi235_0
              have HC235_0:=Aside0.mk hl235_0
              clear hi235_0 hl235_0
              replace p235:=eq_true p235
              replace q235:=eq_true q235
              try go_wp2
              have n0_:=Aside0.mk (Kd.S_drew HO_232001.out)
              have n1_:=Aside0.mk (Kd.R_drew HL235_0.out)
              have n2_:=Aside0.mk (blk_drew BK227.out)
              have n3_:=Aside0.mk (blk_drew BK231.out)
              have n4_:=Aside0.mk (Kd.C_drew HR235_0.out)
              have n5_:=Aside0.mk (below_drew1 HB.out)
              clear HO_232001
              clear HL235_0
              clear BK227
              clear BK231
              clear HR235_0
              clear HB
              have HO_232001:=n0_
              have HL235_0:=n1_
              have BK227:=n2_
              have BK231:=n3_
              have HR235_0:=n4_
              have HB:=n5_
              clear n0_ n1_ n2_ n3_ n4_ n5_
              have p236:0≤(x35_2:Int):=of_decide_eq_true (by first|(with_reducible assumption)|assumption)
              have q236:x35_2 < (x232001_3.length:Int):=of_decide_eq_true (by first|(with_reducible assumption)|assumption)
              obtain ⟨ad236,A236_0,c236_0,e236,hx236_0,hl236_0,hi236_0⟩:=at_T29 (Kd.S_reads' HO_232001.out).2.2 x35_2 p236 q236
              obtain rfl:ad235=ad236:=(by injection e236)
              obtain ⟨ce236,hce236,hMe236,hcc236⟩:=Kd.S_get HO_232001.out z29 x35_2 p236 (by first|exact q236|exact of_decide_eq_true (by first|(with_reducible assumption)|assumption)|(have e_:=(Kd.S_reads' HO_232001.out).1;omega))
              obtain ⟨ve236_0,rfl,ge236_0⟩:=k29_openM hMe236
              have hv236_0:=hcc236 0 _ rfl
              rw [Nat.add_zero,show (k29).sz=1 from rfl,Nat.mul_one] at hv236_0
              replace hv236_0:=Option.some.inj (hv236_0.symm.trans hx236_0)
              rw [hv236_0] at ge236_0
              have HL236_0:=Aside0.mk (show Kd.R (Kd.int .i64) 3 _ _ _ _ ((rd_T29 x232001_3 x35_2).f0) from ge236_0)
              clear hv236_0 ge236_0
              have HX236_0:=Aside0.mk hx236_0
              clear hcc236 hce236
              have HR236_0:=Aside0.mk hi236_0
              have HC236_0:=Aside0.mk hl236_0
              clear hi236_0 hl236_0
              replace p236:=eq_true p236
              replace q236:=eq_true q236
              refine start_ (n:=7) (S:=fun w'=>w'.cell? ⟨gb231,0,none⟩=some (.int .i64 a2)∧w'.cell? ⟨gb231,1,none⟩=some (.slice (some ad235) x232001_3.length co35)∧w'.cell? (ad235.add (x35_2).toNat)=some (.slice A236_0 ((rd_T29 x232001_3 x35_2).f0).length c236_0)) (ds:=[]) #[false,false,false,false,false,false,false] (by kernel_rfl) rfl rfl ⟨(blk_cell BK231.out 0).trans rfl,(blk_cell BK231.out 1).trans rfl,hx236_0⟩ (fun hHeld=>?_)
              generalize wr.drew=w36 at HO_232001 HL235_0 BK227 BK231 HR235_0 HB HL236_0 HR236_0 HX236_0 hx236_0 hHeld ⊢
              refine pure_ (i:=1) (N:=some 52) (v:=?_) (a':=?_) #[false,true,false,false,false,false,false] rfl rfl (by kernel_rfl) (fun _ _ _ h=>h) (Or.inl ⟨by rfl,?_⟩) ?_ ?_
              rotate_left
              ·intro w'
               go_simp
               with_reducible rfl
              rotate_left
              ·simp only [Act.put,List.setIfInBounds_toArray,List.set_cons_zero,List.set_cons_succ,i64_w,i32_w]
               rfl
              refine pure_ (i:=2) (N:=some 53) (v:=?_) (a':=?_) #[false,true,true,false,false,false,false] rfl rfl (by kernel_rfl) (fun _ _ _ h=>h) (Or.inl ⟨by rfl,?_⟩) ?_ ?_
              rotate_left
              ·intro w'
               go_simp
               with_reducible rfl
              rotate_left
              ·simp only [Act.put,List.setIfInBounds_toArray,List.set_cons_zero,List.set_cons_succ,i64_w,i32_w]
               rfl
              refine pure_ (i:=4) (N:=some 55) (v:=?_) (a':=?_) #[false,true,true,false,true,false,false] rfl rfl (by kernel_rfl) (fun _ _ _ h=>h) (Or.inl ⟨by rfl,?_⟩) ?_ ?_
              rotate_left
              ·intro w'
               go_simp
               with_reducible rfl
              rotate_left
              ·simp only [Act.put,List.setIfInBounds_toArray,List.set_cons_zero,List.set_cons_succ,i64_w,i32_w]
               rfl
              refine take_ (i:=0) (N:=some 51) (v:=?_) (a':=?_) #[true,true,true,false,true,false,false] rfl rfl (by kernel_rfl) (fun _ _ _ h=>h) (Or.inl ⟨by rfl,?_⟩) hHeld ?_ ?_
              rotate_left
              ·rintro w' ⟨s0,s1,s2⟩
               go_simp
               with_reducible rfl
              rotate_left
              ·simp only [Act.put,List.setIfInBounds_toArray,List.set_cons_zero,List.set_cons_succ,i64_w,i32_w]
               rfl
              refine take_ (i:=3) (N:=some 54) (v:=?_) (a':=?_) #[true,true,true,true,true,false,false] rfl rfl (by kernel_rfl) (fun _ _ _ h=>h) (Or.inl ⟨by rfl,?_⟩) hHeld ?_ ?_
              rotate_left
              ·rintro w' ⟨s0,s1,s2⟩
               go_simp
               with_reducible rfl
              rotate_left
              ·simp only [Act.put,List.setIfInBounds_toArray,List.set_cons_zero,List.set_cons_succ,i64_w,i32_w]
               rfl
              refine one_ (i:=5) (N:=some 56) #[true,true,true,true,true,true,false] rfl rfl (by kernel_rfl) (by decide) (fun K hK=>?_)
              refine goes_ Try.func47 (by kernel_rfl) rfl #[.agg #[.int .i64 a2,.slice (some ad235) x232001_3.length co35],.agg #[.slice A236_0 ((rd_T29 x232001_3 x35_2).f0).length c236_0],.slice A0 l0.length c0] (by rfl) rfl rfl (by (try simp only [List.map_toArray,List.map_cons,List.map_nil]);first|done|rfl|(simp only [List.length_drop,List.length_take];rfl)) ?_
              with_reducible refine (impl_Best.calls k3 a2 _ _ x232001_3 _ _ ((rd_T29 x232001_3 x35_2).f0) _ _ l0 t237 _ ?side1 ?side2 ?side3 ?side4 ?side5 ?side6 A31.out).mono ?_
              (case side1=>repeat (first|exact (Kd.S_reads' HO_232001.out).2.2|(with_reducible refine Kd.C_alloc ?_ _)|(with_reducible refine Kd.C_drewN ?_ _)|(with_reducible refine Kd.C_drew ?_)))
              (case side2=>exact (Kd.S_reads' HO_232001.out).2.1)
              (case side3=>repeat (first|exact (by repeat (first|(with_reducible exact HR236_0.out)|(with_reducible refine Kd.C_alloc ?_ _)|(with_reducible refine Kd.C_drewN ?_ _)|(with_reducible refine Kd.C_drew ?_)|exact HR236_0.out))|(with_reducible refine Kd.C_alloc ?_ _)|(with_reducible refine Kd.C_drewN ?_ _)|(with_reducible refine Kd.C_drew ?_)))
              (case side4=>exact HC236_0.out)
              (case side5=>repeat (first|exact (Kd.C_below HR0.out HB.out)|(with_reducible refine Kd.C_alloc ?_ _)|(with_reducible refine Kd.C_drewN ?_ _)|(with_reducible refine Kd.C_drew ?_)))
              (case side6=>exact HC0.out)
              rintro e w37 ⟨rfl,hb⟩
              have HS2_:=(hb.cell (World.block_lt_of_cell? _ _ (hHeld.2.2))).trans (hHeld.2.2)
              refine ⟨_,rfl,?_⟩
              have n0_:=Aside0.mk (Kd.S_below ((by (with_reducible repeat (first|apply Kd.S_alloc|apply Kd.S_drewN|apply Kd.S_drew));exact HO_232001.out)) hb)
              have n1_:=Aside0.mk (Kd.R_below ((by (with_reducible repeat (first|apply Kd.R_alloc|apply Kd.R_drewN|apply Kd.R_drew));exact HL235_0.out)) hb)
              have n2_:=Aside0.mk (Kd.R_below ((by (with_reducible repeat (first|apply Kd.R_alloc|apply Kd.R_drewN|apply Kd.R_drew));exact HL236_0.out)) hb)
              have n3_:=Aside0.mk (blk_below (g:=gb227) (o:=.cells #[.int .i64 0,.slice none 0 0] 43 (0,0)) (by (with_reducible repeat (first|refine blk_drewN ?_ _|refine blk_drew ?_|refine blk_alloc ?_ _));exact BK227.out) hb)
              have n4_:=Aside0.mk (blk_below (g:=gb231) (o:=.cells #[.int .i64 a2,.slice (some ad235) x232001_3.length co35] 43 (0,0)) (by (with_reducible repeat (first|refine blk_drewN ?_ _|refine blk_drew ?_|refine blk_alloc ?_ _));exact BK231.out) hb)
              have n5_:=Aside0.mk (Kd.C_below (by repeat (first|(with_reducible exact HR235_0.out)|(with_reducible refine Kd.C_alloc ?_ _)|(with_reducible refine Kd.C_drewN ?_ _)|(with_reducible refine Kd.C_drew ?_)|exact HR235_0.out)) hb)
              have n6_:=Aside0.mk (Kd.C_below (by repeat (first|(with_reducible exact HR236_0.out)|(with_reducible refine Kd.C_alloc ?_ _)|(with_reducible refine Kd.C_drewN ?_ _)|(with_reducible refine Kd.C_drew ?_)|exact HR236_0.out)) hb)
              have n7_:=Aside0.mk (pw_cell_below hb HX236_0.out)
              have n8_:=Aside0.mk (below_step (by repeat (first|(with_reducible first|exact HB.out|apply below_alloc|apply pw_below_drewN|apply below_drew1|refine below_set ?_ GE227.out|refine below_set ?_ GE231.out)|exact HB.out)) hb)
              clear HO_232001
              clear HL235_0
              clear HL236_0
              clear BK227
              clear BK231
              clear HR235_0
              clear HR236_0
              clear HX236_0
              clear HB
              have HO_232001:=n0_
              have HL235_0:=n1_
              have HL236_0:=n2_
              have BK227:=n3_
              have BK231:=n4_
              have HR235_0:=n5_
              have HR236_0:=n6_
              have HX236_0:=n7_
              have HB:=n8_
              clear n0_ n1_ n2_ n3_ n4_ n5_ n6_ n7_ n8_
              (try clear hb)
              (try clear hb2)
              (try clear hk)
              (try clear hi)
              refine hK.out _ _ ⟨(blk_cell BK231.out 0).trans rfl,(blk_cell BK231.out 1).trans rfl,HS2_⟩ (fun hHeld=>?_)
              clear hK K
              refine norm_ (a':=?_) ?_ ?_
              rotate_left
              ·show Act.put _ (some 56) _=_
               simp only [Act.put,List.setIfInBounds_toArray,List.set_cons_zero,List.set_cons_succ,i64_w,i32_w]
               rfl
              refine pure_ (i:=6) (N:=some 11) (v:=?_) (a':=?_) #[true,true,true,true,true,true,true] rfl rfl (by kernel_rfl) (fun _ _ _ h=>h) (Or.inl ⟨by rfl,?_⟩) ?_ ?_
              rotate_left
              ·intro w'
               go_simp
               with_reducible rfl
              rotate_left
              ·simp only [Act.put,List.setIfInBounds_toArray,List.set_cons_zero,List.set_cons_succ,i64_w,i32_w]
               rfl
              refine done_ (by kernel_rfl) ?_
              have p238:0≤(x35_2:Int):=of_decide_eq_true (by first|(with_reducible assumption)|assumption)
              have q238:x35_2 < (x232001_3.length:Int):=of_decide_eq_true (by first|(with_reducible assumption)|assumption)
              obtain ⟨ad238,A238_0,c238_0,e238,hx238_0,hl238_0,hi238_0⟩:=at_T29 (Kd.S_reads' HO_232001.out).2.2 x35_2 p238 q238
              obtain rfl:ad235=ad238:=(by injection e238)
              obtain ⟨ce238,hce238,hMe238,hcc238⟩:=Kd.S_get HO_232001.out z29 x35_2 p238 (by first|exact q238|exact of_decide_eq_true (by first|(with_reducible assumption)|assumption)|(have e_:=(Kd.S_reads' HO_232001.out).1;omega))
              obtain ⟨ve238_0,rfl,ge238_0⟩:=k29_openM hMe238
              have hv238_0:=hcc238 0 _ rfl
              rw [Nat.add_zero,show (k29).sz=1 from rfl,Nat.mul_one] at hv238_0
              replace hv238_0:=Option.some.inj (hv238_0.symm.trans hx238_0)
              rw [hv238_0] at ge238_0
              have HL238_0:=Aside0.mk (show Kd.R (Kd.int .i64) 3 _ _ _ _ ((rd_T29 x232001_3 x35_2).f0) from ge238_0)
              clear hv238_0 ge238_0
              have HX238_0:=Aside0.mk hx238_0
              clear hcc238 hce238
              have HR238_0:=Aside0.mk hi238_0
              have HC238_0:=Aside0.mk hl238_0
              clear hi238_0 hl238_0
              replace p238:=eq_true p238
              replace q238:=eq_true q238
              obtain ⟨go38,co38,eo38,gb38,gl38,cl38,HG38⟩:=Kd.S_form HO_232001.out (by have h_:(x35_2:Int) < ((x232001_3.length:Int):Int):=of_decide_eq_true (by first|(with_reducible assumption)|assumption);have h2_:0≤(x35_2:Int):=(of_decide_eq_true (by first|(with_reducible assumption)|assumption));omega)
              (first|cases eo38|(injection eo38 with ea_ en_ ec_;(first|subst ea_|(injection ea_ with ea_;subst ea_));subst ec_;clear en_))
              have GB38:=Aside0.mk gb38
              have GG38:=Aside0.mk HG38
              clear gb38 gl38 HG38
              (first|simp only [add_plain] at hx235_0|skip)
              (first|simp only [add_plain] at hx236_0|skip)
              (first|simp only [add_plain] at hx238_0|skip)
              obtain ⟨oki38,ce38,hcl38,hM38,hcc38,_,_,hH38⟩:=Kd.S_elem HO_232001.out z29 (x35_2:Int) (of_decide_eq_true (by first|(with_reducible assumption)|assumption)) (by have h_:(x35_2:Int) < ((x232001_3.length:Int):Int):=of_decide_eq_true (by first|(with_reducible assumption)|assumption);first|exact h_|(have e_:=(Kd.S_reads' HO_232001.out).1;omega)|simpa using h_)
              obtain ⟨ve38_0,rfl,ge38_0⟩:=k29_openM hM38
              have hv38:=hcc38 0 _ rfl
              have hX38:=HX238_0.out
              (try simp only [add_plain] at hX38)
              (try simp only [Nat.add_zero] at hv38)
              (try rw [show (k29).sz=1 from rfl,Nat.mul_one] at hv38)
              replace hv38:=Option.some.inj (hv38.symm.trans hX38)
              subst hv38
              clear hX38 hcc38 hcl38
              have UU38:=Aside0.mk (show Kd.R (Kd.int .i64) 3 _ w.heap.size oki38 (.slice A238_0 ((rd_T29 x232001_3 x35_2).f0).length c238_0) ((rd_T29 x232001_3 x35_2).f0) from ge38_0)
              have HH38:=Aside0.mk hH38
              have HN38:=Aside0.mk (Kd.S_reads' HO_232001.out).1
              clear hH38 ge38_0
              try go_wp2_with (first|((with_reducible refine gate_builtin (b:=.append) (xs:=#[.tmp 61,.tmp 63]) rfl ?_);(try (refine gate_guard (by rfl) ?_;dsimp only));at_builtin;refine Kd.R_append (Kd.int .i64) (w0:=w) w.heap.size rfl (.tmp 61) (.tmp 63) 22 3 (.int .i64 0) 8 rfl Try.underlying22 info3 rfl (by decide) (by omega) (.slice A238_0 ((rd_T29 x232001_3 x35_2).f0).length c238_0) ((rd_T29 x232001_3 x35_2).f0) t237 [.int .i64 t237] (fun k_=>oki38 k_ ∨ ((fun _=>True)) k_∧w37.heap.size≤k_) (fun _=>False) rfl rfl ?aP (fun _ hk=>hk.elim) ?aF ?aO ?aB ?aS ?aL ?_;(case aP=>exact rfl);(case aB=>exact (by repeat (first|(with_reducible first|exact HB.out|apply below_alloc|apply pw_below_drewN|apply below_drew1|refine below_set ?_ GE227.out|refine below_set ?_ GE231.out)|exact HB.out)));(case aF=>exact (fun k_ hk=>.inr ⟨trivial,hk⟩));(case aO=>exact (by (with_reducible repeat (first|apply Kd.R_alloc|apply Kd.R_drewN|apply Kd.R_drew));exact Kd.R_mono UU38.out (fun _ hk=>.inl hk)));(case aS=>exact (below_size (by repeat (first|(with_reducible first|exact HB.out|apply below_alloc|apply pw_below_drewN|apply below_drew1|refine below_set ?_ GE227.out|refine below_set ?_ GE231.out)|exact HB.out))));(case aL=>have:=LMc32.out;omega);intro v240 w39 ho hb hg hat;rw [← Ny239.out] at ho;have n0_:=Aside0.mk (blk_grown (g:=gb227) (o:=.cells #[.int .i64 0,.slice none 0 0] 43 (0,0)) (by (with_reducible repeat (first|refine blk_drewN ?_ _|refine blk_drew ?_|refine blk_alloc ?_ _));exact BK227.out) hg (Kd.R_ne HL238_0.out BK227.out (by decide)));have n1_:=Aside0.mk (blk_grown (g:=gb231) (o:=.cells #[.int .i64 a2,.slice (some ⟨go38,0,none⟩) x232001_3.length co35] 43 (0,0)) (by (with_reducible repeat (first|refine blk_drewN ?_ _|refine blk_drew ?_|refine blk_alloc ?_ _));exact BK231.out) hg (Kd.R_ne HL238_0.out BK231.out (by decide)));have n2_:=Aside0.mk (hb);have n3_:=Aside0.mk (Kd.H_grown (Kd.H_widen (by repeat (first|exact HH38.out|refine Kd.H_alloc ?_ _|refine Kd.H_drewN ?_ _|refine Kd.H_drew ?_))) hg (fun k_ e_=>.inl (UU38.out.1 k_ e_)));have n4_:=Aside0.mk (ho);clear BK227;clear BK231;clear HB;clear HH38;clear HO_232001;clear UU38;clear HL235_0;clear HL236_0;clear HL238_0;have BK227:=n0_;have BK231:=n1_;have HB:=n2_;have HH38:=n3_;have HO241:=n4_;clear n0_ n1_ n2_ n3_ n4_;clear ho hb hg hat;obtain ⟨Ao42,co42,eo42⟩:=Kd.R_slice HO241.out;subst eo42;obtain ⟨_,_,hraw40,_,_,hcc40,_⟩:=Kd.H_raw HH38.out (of_decide_eq_true (by first|(with_reducible assumption)|assumption)) (by have h_:(x35_2:Int) < ((x232001_3.length:Int):Int):=of_decide_eq_true (by first|(with_reducible assumption)|assumption);first|exact h_|(have e_:=(HN38.out);omega)|simpa using h_);obtain ⟨_,hfr40⟩:=Kd.H_at HH38.out (of_decide_eq_true (by first|(with_reducible assumption)|assumption)) (by have h_:(x35_2:Int) < ((x232001_3.length:Int):Int):=of_decide_eq_true (by first|(with_reducible assumption)|assumption);first|exact h_|(have e_:=(HN38.out);omega)|simpa using h_);have hx40_0:=hcc40 0 _ rfl;have hf40_0:=hfr40 0;(try simp only [Nat.add_zero] at hx40_0 hf40_0);(try rw [show (k29).sz=1 from rfl,Nat.mul_one] at hx40_0);(try rw [show (k29).sz=1 from rfl,Nat.mul_one] at hf40_0);have HP40:=Kd.S_seg0 HH38.out (of_decide_eq_true (by first|(with_reducible assumption)|assumption)) (by have h_:(x35_2:Int) < ((x232001_3.length:Int):Int):=of_decide_eq_true (by first|(with_reducible assumption)|assumption);first|exact h_|(have e_:=(HN38.out);omega)|simpa using h_) (seg:=[.slice Ao42 y239.length co42]) (j:=0) (show 1≤1 from by decide) (x':=(⟨y239⟩:S29)) (k29_mkM _ _ _ (⟨y239⟩:S29) HO241.out) (fun _ hk=>hk);(try simp only [show (k29).sz=1 from rfl,Nat.mul_one,Nat.add_zero] at HP40);clear hcc40 hfr40)|((with_reducible refine gate_store (t:=22) (p:=66) rfl ?_);refine store_event (t:=22) (p:=66) (v:=?vo_w41) (w1:=(w39.setCell ⟨go38,(x35_2:Int).toNat,none⟩ (.slice Ao42 y239.length co42))) ?hg ?ho ?hn ?hr ?_;(case ho=>rfl);(case hg=>rfl);(case hn=>rfl);(case hr=>first|(go_simp;done)|(go_simp;rfl));intro w41 hw;have hg:w39.grownBy w41 (some go38):=(by rw [hw];exact HP40.2);have hp_:Kd.S k29 29 w41 w.heap.size (fun _=>True) (.slice (some ⟨go38,0,none⟩) x232001_3.length co35) y242:=(by rw [hw,Ny242.out];exact HP40.1);clear HP40;have n0_:=Aside0.mk (blk_grown (g:=gb227) (o:=.cells #[.int .i64 0,.slice none 0 0] 43 (0,0)) (by (with_reducible repeat (first|refine blk_drewN ?_ _|refine blk_drew ?_|refine blk_alloc ?_ _));exact BK227.out) hg (Kd.R_ne hraw40 BK227.out (by decide)));have n1_:=Aside0.mk (blk_grown (g:=gb231) (o:=.cells #[.int .i64 a2,.slice (some ⟨go38,0,none⟩) x232001_3.length co35] 43 (0,0)) (by (with_reducible repeat (first|refine blk_drewN ?_ _|refine blk_drew ?_|refine blk_alloc ?_ _));exact BK231.out) hg (Kd.R_ne hraw40 BK231.out (by decide)));have n2_:=Aside0.mk ((by rw [hw];exact below_set HB.out GB38.out:Below w.heap.size w w41));have n3_:=Aside0.mk (hp_);clear BK227;clear BK231;clear HB;clear HO241;clear HH38;have BK227:=n0_;have BK231:=n1_;have HB:=n2_;have HO_232001:=n3_;clear n0_ n1_ n2_ n3_;clear hg hw hp_ hraw40))
              go_roundg k3
              case measure=>have:=HJ3.out;have:=HK2.out;have:=HK3.out;omega
              case rel=>exact ⟨(wrap64 (x45_3+1)),(y242),(.slice (some ⟨go38,0,none⟩) x232001_3.length co35),(by first|rfl|(simp;done)|(simp [*];done)),H',⟨by have:=HJ3.out;have:=HK2.out;have:=HK3.out;omega⟩,⟨by (with_reducible repeat (first|apply Kd.S_alloc|apply Kd.S_drewN|apply Kd.S_drew));exact HO_232001.out⟩,⟨by (with_reducible repeat (first|refine blk_drewN ?_ _|refine blk_drew ?_|refine blk_alloc ?_ _));exact BK227.out⟩,⟨by (with_reducible repeat (first|refine blk_drewN ?_ _|refine blk_drew ?_|refine blk_alloc ?_ _));exact BK231.out⟩,⟨by repeat (first|(with_reducible first|exact HB.out|apply below_alloc|apply pw_below_drewN|apply below_drew1|refine below_set ?_ GE227.out|refine below_set ?_ GE231.out)|exact HB.out)⟩⟩
             ·rw [if_neg c32] at H
              exact absurd H (by simp)
            ·rw [if_neg c30] at H
             exact absurd H (by simp)
           ·rw [if_neg c29] at H
            exact absurd H (by simp)
          ·rw [if_neg c28] at H
           have c28b0:decide (x45_3 < a2)=false:=decide_eq_false c28
           clear c28
           have H':=Aside0.mk H
           clear H
           go_wp2
           go_roundg k3
           case measure=>have:=HJ3.out;have:=HK2.out;have:=HK3.out;omega
           case rel=>exact ⟨(wrap64 (x35_2+1)),(x232001_3),(u232001),(by first|rfl|(simp;done)|(simp [*];done)),H',⟨by have:=HJ3.out;have:=HK2.out;have:=HK3.out;omega⟩,⟨by (with_reducible repeat (first|apply Kd.S_alloc|apply Kd.S_drewN|apply Kd.S_drew));exact HO_232001.out⟩,⟨by (with_reducible repeat (first|refine blk_drewN ?_ _|refine blk_drew ?_|refine blk_alloc ?_ _));exact BK227.out⟩,⟨by (with_reducible repeat (first|refine blk_drewN ?_ _|refine blk_drew ?_|refine blk_alloc ?_ _));exact BK231.out⟩,⟨by repeat (first|(with_reducible first|exact HB.out|apply below_alloc|apply pw_below_drewN|apply below_drew1|refine below_set ?_ GE227.out|refine below_set ?_ GE231.out)|exact HB.out)⟩⟩
       ·rw [if_neg c22] at H
        exact absurd H (by simp)
      ·rw [if_neg c21] at H
       have c21b0:decide (x35_2 < a1)=false:=decide_eq_false c21
       clear c21
       simp only [Option.some.injEq,Prod.mk.injEq] at H
       obtain ⟨rfl,rfl,rfl⟩:=H
       have hnb43:=NB231_227.out
       have hnc43:=NB227_231.out
       have hcz44_0:wr.cell? ⟨gb231,0,none⟩=some (.int .i64 a2):=(blk_cell BK231.out 0).trans rfl
       have hcz44_1:wr.cell? ⟨gb231,1,none⟩=some (u232001):=(blk_cell BK231.out 1).trans rfl
       have hfz44_0:=blk_frozen BK231.out 0
       have hfz44_1:=blk_frozen BK231.out 1
       have hcz45_0:wr.cell? ⟨gb227,0,none⟩=some (.int .i64 0):=(blk_cell BK227.out 0).trans rfl
       have hcz45_1:wr.cell? ⟨gb227,1,none⟩=some (.slice none 0 0):=(blk_cell BK227.out 1).trans rfl
       have hfz45_0:=blk_frozen BK227.out 0
       have hfz45_1:=blk_frozen BK227.out 1
       obtain ⟨Ao46,co46,eo46⟩:=Kd.S_slice HO_232001.out
       subst eo46
       go_wp2
       refine bodyPost_ret (results_ct rfl _ _ gb227 43 #[.int .i64 a2,.slice Ao46 x232001_2.length co46] (0,0) _ rfl (by (with_reducible repeat (first|refine blk_drewN ?_ _|refine blk_drew ?_|refine blk_alloc ?_ _));refine blk_put (cs:=#[.int .i64 a2,.slice none 0 0]) ?_ 1 _ rfl;(with_reducible repeat (first|refine blk_drewN ?_ _|refine blk_drew ?_|refine blk_alloc ?_ _));refine blk_put (cs:=#[.int .i64 0,.slice none 0 0]) ?_ 0 _ rfl;(with_reducible repeat (first|refine blk_drewN ?_ _|refine blk_drew ?_|refine blk_alloc ?_ _));exact BK227.out) Try.underlying43 rfl (by kernel_rfl)) rfl ?_
       exact ⟨_,by first|rfl|(simp [errW_none,errW_some] <;> rfl)|(simp [*,errW_none,errW_some] <;> rfl),by (with_reducible repeat (first|apply Kd.S_alloc|apply Kd.S_drewN|apply Kd.S_drew));exact Kd.S_mono (Kd.S_far (p:=⟨gb227,1,none⟩) (Kd.S_far (p:=⟨gb227,0,none⟩) (Kd.S_types HO_232001.out BK227.out (by decide)) (fun _ hk=>hk.2) (.int .i64 a2)) (fun _ hk=>hk.2) (.slice Ao46 x232001_2.length co46)) (fun _ hk=>trivial),by repeat (first|(with_reducible first|exact HB.out|apply below_alloc|apply pw_below_drewN|apply below_drew1|refine below_set ?_ GE227.out|refine below_set ?_ GE231.out)|exact HB.out)⟩
def laws_heldIntS.l0:Nat→List Int→Int→Int→Option (Int)
 | 0,_,_,_=>none
 | k+1,x0,x1,x5=>if x5 < (x0.length:Int) then (if 0≤x5 then (if (rd x0 x5)=x1 then (laws_heldIntS.l0 k x0 (wrap64 (x1+1)) (wrap64 (x5+1))) else (some (-1))) else (none)) else (some x1)
def laws_heldIntS.f (k:Nat) (l0:List Int) (a1:Int):Option (Int):=laws_heldIntS.l0 k l0 a1 0
set_option maxHeartbeats 8000000 in
set_option maxRecDepth 100000 in
theorem laws_heldIntS.calls (k:Nat) (A0:Option Addr) (c0:Nat) (l0:List Int) (a1:Int) (r:Int) (w:World) (hr0:Kd.C (Kd.int .i64) w A0 l0.length l0) (hc0:l0.length≤c0) (h:laws_heldIntS.f k l0 a1=some r) :
  Calls Try.prog 33 #[.slice A0 l0.length c0,.int .i64 a1] w fun e w'=>e = .returned (.int .i64 r)∧Drawn0 w w':=by
 have HR0:=Aside0.mk hr0
 have HC0:=Aside0.mk hc0
 clear hr0 hc0
 have H:(laws_heldIntS.l0 k l0 a1 0)=some r:=h
 clear h
 have H':=Aside0.mk H
 clear H
 go_enter Try.func33,Try.ntmps33
 go_wp2
 go_loopg [1,5] k (fun kq v1 v5 w'=>∃ (x1_1:Int) (x5_1:Int),v1 = .int .i64 x1_1∧v5 = .int .i64 x5_1∧Aside0 (laws_heldIntS.l0 kq l0 x1_1 x5_1=some r)∧Aside0 (kq≤k)∧Drawn0 w w')
 case atStart=>exact ⟨(a1),(0),(by first|rfl|(simp;done)|(simp [*];done)),(by first|rfl|(simp;done)|(simp [*];done)),H',⟨Nat.le_refl _⟩,by repeat (first|exact Drawn0.refl _|apply Drawn0.step)⟩
 case round=>
  clear H'
  try clear p2
  obtain ⟨x1_1,x5_1,rfl,rfl,HA,HK1,⟨m1,rfl⟩⟩:=hrel
  cases gk with
  | zero=>exact absurd HA.out (by simp [laws_heldIntS.l0])
  | succ k1=>
   have H:=HA.out
   clear HA
   simp only [laws_heldIntS.l0] at H
   by_cases c3:x5_1 < (l0.length:Int)
   ·rw [if_pos c3] at H
    have c3b0:decide (x5_1 < (l0.length:Int))=true:=decide_eq_true c3
    clear c3
    by_cases c4:0≤x5_1
    ·rw [if_pos c4] at H
     have c4b0:decide (0≤x5_1)=true:=decide_eq_true c4
     clear c4
     by_cases c5:(rd l0 x5_1)=x1_1
     ·rw [if_pos c5] at H
      have c5b0:((rd l0 x5_1) == x1_1)=true:=beq_iff_eq.mpr c5
      have c5b1:((rd l0 x5_1) != x1_1)=false:=bne_eq_false_iff_eq.mpr c5
      clear c5
      have H':=Aside0.mk H
      clear H
      have p243:0≤(x5_1:Int):=of_decide_eq_true (by first|(with_reducible assumption)|assumption)
      have q243:x5_1 < (l0.length:Int):=of_decide_eq_true (by first|(with_reducible assumption)|assumption)
      obtain ⟨ad243,e243,hx243_0⟩:=Kd.at_int HR0.out x5_1 p243 q243
      cases e243
      replace p243:=eq_true p243
      replace q243:=eq_true q243
      go_wp2
      go_roundg k1
      case measure=>have:=HK1.out;omega
      case rel=>exact ⟨(wrap64 (x1_1+1)),(wrap64 (x5_1+1)),(by first|rfl|(simp;done)|(simp [*];done)),(by first|rfl|(simp;done)|(simp [*];done)),H',⟨by have:=HK1.out;omega⟩,by repeat (first|exact Drawn0.refl _|apply Drawn0.step)⟩
     ·rw [if_neg c5] at H
      have c5b0:((rd l0 x5_1) == x1_1)=false:=beq_eq_false_iff_ne.mpr c5
      have c5b1:((rd l0 x5_1) != x1_1)=true:=bne_iff_ne.mpr c5
      obtain rfl:=Option.some.inj H
      have p243:0≤(x5_1:Int):=of_decide_eq_true (by first|(with_reducible assumption)|assumption)
      have q243:x5_1 < (l0.length:Int):=of_decide_eq_true (by first|(with_reducible assumption)|assumption)
      obtain ⟨ad243,e243,hx243_0⟩:=Kd.at_int HR0.out x5_1 p243 q243
      cases e243
      replace p243:=eq_true p243
      replace q243:=eq_true q243
      go_wp2
      go_ret
      exact ⟨by first|rfl|(simp;done)|(simp [*];done),by repeat (first|exact Drawn0.refl _|apply Drawn0.step)⟩
    ·rw [if_neg c4] at H
     exact absurd H (by simp)
   ·rw [if_neg c3] at H
    have c3b0:decide (x5_1 < (l0.length:Int))=false:=decide_eq_false c3
    clear c3
    obtain rfl:=Option.some.inj H
    go_wp2
    go_ret
    exact ⟨by first|rfl|(simp;done)|(simp [*];done),by repeat (first|exact Drawn0.refl _|apply Drawn0.step)⟩
def laws_heldPartS.l0:Nat→List (S29)→Int→Int→Option (Int)
 | 0,_,_,_=>none
 | k+1,x0,x1,x5=>if x5 < (x0.length:Int) then (if 0≤x5 then ((laws_heldIntS.f k ((rd_T29 x0 x5).f0) x1).bind fun t245=>(if t245 < 0 then (some (-1)) else (laws_heldPartS.l0 k x0 t245 (wrap64 (x5+1))))) else (none)) else (some x1)
def laws_heldPartS.f (k:Nat) (l0:List (S29)) (a1:Int):Option (Int):=laws_heldPartS.l0 k l0 a1 0
set_option maxHeartbeats 8000000 in
set_option maxRecDepth 100000 in
theorem laws_heldPartS.calls (k:Nat) (A0:Option Addr) (c0:Nat) (l0:List (S29)) (a1:Int) (r:Int) (w:World) (hr0:Kd.C k29 w A0 l0.length l0) (hc0:l0.length≤c0) (h:laws_heldPartS.f k l0 a1=some r) :
  Calls Try.prog 112 #[.slice A0 l0.length c0,.int .i64 a1] w fun e w'=>e = .returned (.int .i64 r)∧Drawn0 w w':=by
 have HR0:=Aside0.mk hr0
 have HC0:=Aside0.mk hc0
 clear hr0 hc0
 have H:(laws_heldPartS.l0 k l0 a1 0)=some r:=h
 clear h
 have H':=Aside0.mk H
 clear H
 go_enter Try.func112,Try.ntmps112
 go_wp2
 go_loopg [1,5] k (fun kq v1 v5 w'=>∃ (x1_1:Int) (x5_1:Int),v1 = .int .i64 x1_1∧v5 = .int .i64 x5_1∧Aside0 (laws_heldPartS.l0 kq l0 x1_1 x5_1=some r)∧Aside0 (kq≤k)∧Drawn0 w w')
 case atStart=>exact ⟨(a1),(0),(by first|rfl|(simp;done)|(simp [*];done)),(by first|rfl|(simp;done)|(simp [*];done)),H',⟨Nat.le_refl _⟩,by repeat (first|exact Drawn0.refl _|apply Drawn0.step)⟩
 case round=>
  clear H'
  try clear c1
  try clear p2
  obtain ⟨x1_1,x5_1,rfl,rfl,HA,HK1,⟨m1,rfl⟩⟩:=hrel
  cases gk with
  | zero=>exact absurd HA.out (by simp [laws_heldPartS.l0])
  | succ k1=>
   have H:=HA.out
   clear HA
   simp only [laws_heldPartS.l0] at H
   by_cases c3:x5_1 < (l0.length:Int)
   ·rw [if_pos c3] at H
    have c3b0:decide (x5_1 < (l0.length:Int))=true:=decide_eq_true c3
    clear c3
    by_cases c4:0≤x5_1
    ·rw [if_pos c4] at H
     have c4b0:decide (0≤x5_1)=true:=decide_eq_true c4
     clear c4
     replace H:=Option.bind_eq_some_iff.mp H
     obtain ⟨t245,A50,H⟩:=H
     replace H:(if t245 < 0 then (some (-1)) else (laws_heldPartS.l0 k1 l0 t245 (wrap64 (x5_1+1))))=some r:=H
     have A5:=Aside0.mk A50
     clear A50
     by_cases c6:t245 < 0
     ·rw [if_pos c6] at H
      have c6b0:decide (t245 < 0)=true:=decide_eq_true c6
      clear c6
      obtain rfl:=Option.some.inj H
      have p244:0≤(x5_1:Int):=of_decide_eq_true (by first|(with_reducible assumption)|assumption)
      have q244:x5_1 < (l0.length:Int):=of_decide_eq_true (by first|(with_reducible assumption)|assumption)
      obtain ⟨ad244,A244_0,c244_0,e244,hx244_0,hl244_0,hi244_0⟩:=at_T29 HR0.out x5_1 p244 q244
      cases e244
      have HR244_0:=Aside0.mk hi244_0
      have HC244_0:=Aside0.mk hl244_0
      clear hi244_0 hl244_0
      replace p244:=eq_true p244
      replace q244:=eq_true q244
      go_wp2_with (first|((with_reducible refine gate_callee (f:=33) rfl ?_);refine goesL_ (some 18) rfl rfl Try.func33 (by kernel_rfl) rfl #[.slice A244_0 ((rd_T29 l0 x5_1).f0).length c244_0,.int .i64 x1_1] rfl (by (try simp only [List.map_toArray,List.map_cons,List.map_nil]);first|done|rfl|(simp only [List.length_drop,List.length_take];rfl)) ?_;(with_reducible refine (laws_heldIntS.calls k1 _ _ ((rd_T29 l0 x5_1).f0) x1_1 t245 _ ?side1 ?side2 A5.out).mono ?_);(case side1=>repeat (first|exact HR244_0.out|(with_reducible refine Kd.C_alloc ?_ _)|(with_reducible refine Kd.C_drewN ?_ _)|(with_reducible refine Kd.C_drew ?_)));(case side2=>exact HC244_0.out);rintro e w' ⟨rfl,⟨nd,rfl⟩⟩;refine ⟨_,rfl,?_⟩))
      go_ret
      exact ⟨by first|rfl|(simp;done)|(simp [*];done),by repeat (first|exact Drawn0.refl _|apply Drawn0.step)⟩
     ·rw [if_neg c6] at H
      have c6b0:decide (t245 < 0)=false:=decide_eq_false c6
      clear c6
      have H':=Aside0.mk H
      clear H
      have p244:0≤(x5_1:Int):=of_decide_eq_true (by first|(with_reducible assumption)|assumption)
      have q244:x5_1 < (l0.length:Int):=of_decide_eq_true (by first|(with_reducible assumption)|assumption)
      obtain ⟨ad244,A244_0,c244_0,e244,hx244_0,hl244_0,hi244_0⟩:=at_T29 HR0.out x5_1 p244 q244
      cases e244
      have HR244_0:=Aside0.mk hi244_0
      have HC244_0:=Aside0.mk hl244_0
      clear hi244_0 hl244_0
      replace p244:=eq_true p244
      replace q244:=eq_true q244
      go_wp2_with (first|((with_reducible refine gate_callee (f:=33) rfl ?_);refine goesL_ (some 18) rfl rfl Try.func33 (by kernel_rfl) rfl #[.slice A244_0 ((rd_T29 l0 x5_1).f0).length c244_0,.int .i64 x1_1] rfl (by (try simp only [List.map_toArray,List.map_cons,List.map_nil]);first|done|rfl|(simp only [List.length_drop,List.length_take];rfl)) ?_;(with_reducible refine (laws_heldIntS.calls k1 _ _ ((rd_T29 l0 x5_1).f0) x1_1 t245 _ ?side1 ?side2 A5.out).mono ?_);(case side1=>repeat (first|exact HR244_0.out|(with_reducible refine Kd.C_alloc ?_ _)|(with_reducible refine Kd.C_drewN ?_ _)|(with_reducible refine Kd.C_drew ?_)));(case side2=>exact HC244_0.out);rintro e w' ⟨rfl,⟨nd,rfl⟩⟩;refine ⟨_,rfl,?_⟩))
      go_roundg k1
      case measure=>have:=HK1.out;omega
      case rel=>exact ⟨(t245),(wrap64 (x5_1+1)),(by first|rfl|(simp;done)|(simp [*];done)),(by first|rfl|(simp;done)|(simp [*];done)),H',⟨by have:=HK1.out;omega⟩,by repeat (first|exact Drawn0.refl _|apply Drawn0.step)⟩
    ·rw [if_neg c4] at H
     exact absurd H (by simp)
   ·rw [if_neg c3] at H
    have c3b0:decide (x5_1 < (l0.length:Int))=false:=decide_eq_false c3
    clear c3
    obtain rfl:=Option.some.inj H
    go_wp2
    go_ret
    exact ⟨by first|rfl|(simp;done)|(simp [*];done),by repeat (first|exact Drawn0.refl _|apply Drawn0.step)⟩
def laws_heldRing.f (k:Nat) (a0_0:Int) (l0_1:List (S29)) (a1:Int):Option (Int):=(laws_heldPartS.f k l0_1 a1).bind fun t247=>(if t247 < 0 then (some (-1)) else (some t247))
set_option maxHeartbeats 8000000 in
set_option maxRecDepth 100000 in
theorem laws_heldRing.calls (k:Nat) (a0_0:Int) (A0_1:Option Addr) (c0_1:Nat) (l0_1:List (S29)) (a1:Int) (r:Int) (w:World) (hr0_1:Kd.C k29 w A0_1 l0_1.length l0_1) (hc0_1:l0_1.length≤c0_1) (h:laws_heldRing.f k a0_0 l0_1 a1=some r) :
  Calls Try.prog 62 #[.agg #[.int .i64 a0_0,.slice A0_1 l0_1.length c0_1],.int .i64 a1] w fun e w'=>e = .returned (.int .i64 r)∧Below w.heap.size w w':=by
 have hu43:=Try.underlying43
 have HR0_1:=Aside0.mk hr0_1
 have HC0_1:=Aside0.mk hc0_1
 clear hr0_1 hc0_1
 have HB:=Aside0.mk (Below.refl w.heap.size w)
 have H:((laws_heldPartS.f k l0_1 a1).bind fun t247=>(if t247 < 0 then (some (-1)) else (some t247)))=some r:=h
 clear h
 replace H:=Option.bind_eq_some_iff.mp H
 obtain ⟨t247,A30,H⟩:=H
 replace H:(if t247 < 0 then (some (-1)) else (some t247))=some r:=H
 have A3:=Aside0.mk A30
 clear A30
 by_cases c4:t247 < 0
 ·rw [if_pos c4] at H
  have c4b0:decide (t247 < 0)=true:=decide_eq_true c4
  clear c4
  obtain rfl:=Option.some.inj H
  go_enter Try.func62,Try.ntmps62
  go_wp2_with (first|((with_reducible refine gate_dst (N:=2) rfl ?_);refine box_event ?hg (N:=2) ?hd (cs:=#[.int .i64 a0_0,.slice A0_1 l0_1.length c0_1]) (t:=43) ?hr ?_;(case hd=>rfl);(case hg=>rfl);(case hr=>first|(go_simp;done)|(go_simp;rfl));intro gb246 hg w5 hbox hb;have n0_:=Aside0.mk (below_step (by repeat (first|(with_reducible first|exact HB.out|apply below_alloc|apply pw_below_drewN|apply below_drew1)|exact HB.out)) hb);have n1_:=Aside0.mk (hbox);have n2_:=Aside0.mk ((by rw [hg];exact (below_size (by repeat (first|(with_reducible first|exact HB.out|apply below_alloc|apply pw_below_drewN|apply below_drew1)|exact HB.out))):w.heap.size≤gb246));have n3_:=Aside0.mk ((by rw [hg];exact (below_size (by repeat (first|(with_reducible first|exact HB.out|apply below_alloc|apply pw_below_drewN|apply below_drew1)|exact HB.out))):w.heap.size≤gb246));clear HB;have HB:=n0_;have BK246:=n1_;have GW246:=n2_;have GE246:=n3_;clear n0_ n1_ n2_ n3_;clear hb hbox hg;have hcz6_0:w5.cell? ⟨gb246,0,none⟩=some (.int .i64 a0_0):=(blk_cell BK246.out 0).trans rfl;have hcz6_1:w5.cell? ⟨gb246,1,none⟩=some (.slice A0_1 l0_1.length c0_1):=(blk_cell BK246.out 1).trans rfl;have hfz6_0:=blk_frozen BK246.out 0;have hfz6_1:=blk_frozen BK246.out 1)|((with_reducible refine gate_callee (f:=112) rfl ?_);refine goesL_ (some 8) rfl rfl Try.func112 (by kernel_rfl) rfl #[.slice A0_1 l0_1.length c0_1,.int .i64 a1] rfl (by (try simp only [List.map_toArray,List.map_cons,List.map_nil]);first|done|rfl|(simp only [List.length_drop,List.length_take];rfl)) ?_;(with_reducible refine (laws_heldPartS.calls k _ _ l0_1 a1 t247 _ ?side1 ?side2 A3.out).mono ?_);(case side1=>repeat (first|exact (Kd.C_below HR0_1.out HB.out)|(with_reducible refine Kd.C_alloc ?_ _)|(with_reducible refine Kd.C_drewN ?_ _)|(with_reducible refine Kd.C_drew ?_)));(case side2=>exact HC0_1.out);rintro e w' ⟨rfl,⟨nd,rfl⟩⟩;refine ⟨_,rfl,?_⟩))
  go_ret
  exact ⟨by first|rfl|(simp [errW_none,errW_some] <;> rfl)|(simp [*,errW_none,errW_some] <;> rfl),by repeat (first|(with_reducible first|exact HB.out|apply below_alloc|apply pw_below_drewN|apply below_drew1|refine below_set ?_ GE246.out)|exact HB.out)⟩
 ·rw [if_neg c4] at H
  have c4b0:decide (t247 < 0)=false:=decide_eq_false c4
  clear c4
  obtain rfl:=Option.some.inj H
  go_enter Try.func62,Try.ntmps62
  go_wp2_with (first|((with_reducible refine gate_dst (N:=2) rfl ?_);refine box_event ?hg (N:=2) ?hd (cs:=#[.int .i64 a0_0,.slice A0_1 l0_1.length c0_1]) (t:=43) ?hr ?_;(case hd=>rfl);(case hg=>rfl);(case hr=>first|(go_simp;done)|(go_simp;rfl));intro gb246 hg w7 hbox hb;have n0_:=Aside0.mk (below_step (by repeat (first|(with_reducible first|exact HB.out|apply below_alloc|apply pw_below_drewN|apply below_drew1)|exact HB.out)) hb);have n1_:=Aside0.mk (hbox);have n2_:=Aside0.mk ((by rw [hg];exact (below_size (by repeat (first|(with_reducible first|exact HB.out|apply below_alloc|apply pw_below_drewN|apply below_drew1)|exact HB.out))):w.heap.size≤gb246));have n3_:=Aside0.mk ((by rw [hg];exact (below_size (by repeat (first|(with_reducible first|exact HB.out|apply below_alloc|apply pw_below_drewN|apply below_drew1)|exact HB.out))):w.heap.size≤gb246));clear HB;have HB:=n0_;have BK246:=n1_;have GW246:=n2_;have GE246:=n3_;clear n0_ n1_ n2_ n3_;clear hb hbox hg;have hcz8_0:w7.cell? ⟨gb246,0,none⟩=some (.int .i64 a0_0):=(blk_cell BK246.out 0).trans rfl;have hcz8_1:w7.cell? ⟨gb246,1,none⟩=some (.slice A0_1 l0_1.length c0_1):=(blk_cell BK246.out 1).trans rfl;have hfz8_0:=blk_frozen BK246.out 0;have hfz8_1:=blk_frozen BK246.out 1)|((with_reducible refine gate_callee (f:=112) rfl ?_);refine goesL_ (some 8) rfl rfl Try.func112 (by kernel_rfl) rfl #[.slice A0_1 l0_1.length c0_1,.int .i64 a1] rfl (by (try simp only [List.map_toArray,List.map_cons,List.map_nil]);first|done|rfl|(simp only [List.length_drop,List.length_take];rfl)) ?_;(with_reducible refine (laws_heldPartS.calls k _ _ l0_1 a1 t247 _ ?side1 ?side2 A3.out).mono ?_);(case side1=>repeat (first|exact (Kd.C_below HR0_1.out HB.out)|(with_reducible refine Kd.C_alloc ?_ _)|(with_reducible refine Kd.C_drewN ?_ _)|(with_reducible refine Kd.C_drew ?_)));(case side2=>exact HC0_1.out);rintro e w' ⟨rfl,⟨nd,rfl⟩⟩;refine ⟨_,rfl,?_⟩))
  go_ret
  exact ⟨by first|rfl|(simp [errW_none,errW_some] <;> rfl)|(simp [*,errW_none,errW_some] <;> rfl),by repeat (first|(with_reducible first|exact HB.out|apply below_alloc|apply pw_below_drewN|apply below_drew1|refine below_set ?_ GE246.out)|exact HB.out)⟩
end Go.Proofs.Ytbhllgifciaepaa.PFnExactBuild
