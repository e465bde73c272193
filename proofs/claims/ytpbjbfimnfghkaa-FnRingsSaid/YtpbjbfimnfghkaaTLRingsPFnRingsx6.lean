/- Trimmed by a program of this session (trim.py). Not trusted: Lean checks it. -/
import Derived.Test.YtpbjbfimnfghkaaTLRingsPFnRingsx0
import Derived.Test.YtpbjbfimnfghkaaTLRingsPFnRingsx1
import Derived.Test.YtpbjbfimnfghkaaTLRingsPFnRingsx5
namespace Go.Proofs.Ytpbjbfimnfghkaa.PFnRings
open Go.RowKit Go.Proofs.YtpbjbfimnfghkaaW.PrintWords Go.Proofs.YtpbjbfimnfghkaaW.PrintLast Go.Proofs.YtpbjbfimnfghkaaW.PrintMore Go.Proofs.Ytpbjbfimnfghkaa.St
attribute [local go_sem] max2_int min2_int max_two min_two max_three min_three max_four min_four
set_option linter.unusedVariables false
set_option linter.unusedSimpArgs false
mutual
def impl_Build.j0:Nat→List (S61)→Int→Int→Bool→Option (Int × (List (S35)) × Bool)
 | 0,_,_,_,_=>none
 | k+1,x0,x1,x2,x30=>if x30=true then (some (0,([]:List (S35)),false)) else (impl_Build.l0 k x0 x2 x1 0 x2 ([]:List (S35)))
def impl_Build.l0:Nat→List (S61)→Int→Int→Int→Int→List (S35)→Option (Int × (List (S35)) × Bool)
 | 0,_,_,_,_,_,_=>none
 | k+1,x0,x2,x34,x35,x269000,x269001=>if x35 < x34 then (if x269001.length < 5864062014805 then (impl_Build.l1 k x0 x2 x35 x34 x35 x2 0 x269000 (x269001 ++ [(⟨([]:List Int)⟩:S35)])) else (none)) else (some (x269000,x269001,true))
def impl_Build.l1:Nat→List (S61)→Int→Int→Int→Int→Int→Int→Int→List (S35)→Option (Int × (List (S35)) × Bool)
 | 0,_,_,_,_,_,_,_,_,_=>none
 | k+1,x0,x2,x9,x34,x35,x44,x45,x269000,x269001=>if x45 < x44 then (if 0≤x9 then (if x9 < (x269001.length:Int) then ((impl_Best.f k x269000 x269001 ((rd_T35 x269001 x9).f0) x0).bind fun t274=>(if ((rd_T35 x269001 x9).f0).length < 17592186044416 then (impl_Build.l1 k x0 x2 x9 x34 x35 x44 (wrap64 (x45+1)) x269000 (x269001.set (x9:Int).toNat (⟨(((rd_T35 x269001 x9).f0) ++ [t274])⟩:S35))) else (none))) else (none)) else (none)) else (impl_Build.l0 k x0 x2 x34 (wrap64 (x35+1)) x269000 x269001)
end
def impl_Build.f (k:Nat) (l0:List (S61)) (a1:Int) (a2:Int):Option (Int × (List (S35)) × Bool):=(impl_DevsOk.f k l0).bind fun t265=>(if t265=true then ((impl_in.f a1 1 64).bind fun t266=>(if t266=true then ((impl_in.f a2 1 5).bind fun t267=>(if t267=true then (impl_Build.j0 k l0 a1 a2 (decide ((l0.length:Int) < a2))) else (impl_Build.j0 k l0 a1 a2 true))) else (impl_Build.j0 k l0 a1 a2 true))) else (impl_Build.j0 k l0 a1 a2 true))
set_option maxHeartbeats 8000000 in
set_option maxRecDepth 100000 in
theorem impl_Build.calls (k:Nat) (A0:Option Addr) (c0:Nat) (l0:List (S61)) (a1:Int) (a2:Int) (r1:Int) (r2:List (S35)) (r3:Bool) (w:World) (hr0:Kd.C k61 w A0 l0.length l0) (hc0:l0.length≤c0) (h:impl_Build.f k l0 a1 a2=some (r1,r2,r3)) :
  Calls Try.prog 31 #[.slice A0 l0.length c0,.int .i64 a1,.int .i64 a2] w fun e w'=>∃ v1_:Value,e = .returned (.tuple #[.agg #[.int .i64 r1,v1_],.bool r3])∧Kd.S k35 35 w' w.heap.size (fun _=>True) v1_ r2∧Below w.heap.size w w':=by
 have hu26:=Try.underlying26
 have hu35:=Try.underlying35
 have HR0:=Aside0.mk hr0
 have HC0:=Aside0.mk hc0
 clear hr0 hc0
 have HB:=Aside0.mk (Below.refl w.heap.size w)
 have H:((impl_DevsOk.f k l0).bind fun t265=>(if t265=true then ((impl_in.f a1 1 64).bind fun t266=>(if t266=true then ((impl_in.f a2 1 5).bind fun t267=>(if t267=true then (impl_Build.j0 k l0 a1 a2 (decide ((l0.length:Int) < a2))) else (impl_Build.j0 k l0 a1 a2 true))) else (impl_Build.j0 k l0 a1 a2 true))) else (impl_Build.j0 k l0 a1 a2 true)))=some (r1,r2,r3):=h
 clear h
 have HC4:=Aside0.mk H
 clear H
 go_enter Try.func31,Try.ntmps31
 go_upto_region 1 with (first|((with_reducible refine gate_dst (N:=6) rfl ?_);(try (refine gate_guard (by rfl) ?_;dsimp only));refine box_event ?hg (N:=6) ?hd (cs:=#[.int .i64 0,.slice none 0 0]) (t:=26) ?hr ?_;(case hd=>rfl);(case hg=>rfl);(case hr=>first|(go_simp;done)|(go_simp;rfl));intro gb264 hg w5 hbox hb;have n0_:=bs hb;have n1_:=Aside0.mk (hbox);have n2_:=Aside0.mk ((by rw [hg];exact (below_size be):w.heap.size≤gb264));have n3_:=Aside0.mk ((by rw [hg];exact (below_size be):w.heap.size≤gb264));clear HB;have HB:=n0_;have BK264:=n1_;have GW264:=n2_;have GE264:=n3_;clear n0_ n1_ n2_ n3_;clear hb hbox hg))
 (try simp only [Act.put,List.setIfInBounds_toArray,List.set_cons_zero,List.set_cons_succ])
 go_cut [30] (fun v30 wc=>∃ (kq:Nat) (x30_3:Bool),v30 = .bool x30_3∧Aside0 (impl_Build.j0 kq l0 a1 a2 x30_3=some (r1,r2,r3))∧Aside0 (kq≤k)∧Aside0 (wc.heap[gb264]?=some (.cells #[.int .i64 0,(.slice none 0 0)] 26 (0,0)))∧Aside0 (Below w.heap.size w wc))
 case first=>
  have H:=HC4.out
  clear HC4
  replace H:=Option.bind_eq_some_iff.mp H
  obtain ⟨t265,A60,H⟩:=H
  try dsimp only at H
  have A6:=Aside0.mk A60
  clear A60
  by_cases c7:t265=true
  ·subst c7
   rw [if_pos rfl] at H
   replace H:=Option.bind_eq_some_iff.mp H
   obtain ⟨t266,A80,H⟩:=H
   try dsimp only at H
   have A8:=Aside0.mk A80
   clear A80
   by_cases c9:t266=true
   ·subst c9
    rw [if_pos rfl] at H
    replace H:=Option.bind_eq_some_iff.mp H
    obtain ⟨t267,A100,H⟩:=H
    try dsimp only at H
    have A10:=Aside0.mk A100
    clear A100
    by_cases c11:t267=true
    ·subst c11
     rw [if_pos rfl] at H
     have H':=Aside0.mk H
     clear H
     go_wp2_with (first|((with_reducible refine gate_callee (f:=57) rfl ?_);refine goesL_ (some 13) rfl rfl Try.func57 (by kernel_rfl) rfl #[.slice A0 l0.length c0] rfl (by (try simp only [List.map_toArray,List.map_cons,List.map_nil]);first|done|rfl|(simp only [List.length_drop,List.length_take];rfl)) ?_;(with_reducible refine (impl_DevsOk.calls k _ _ l0 true _ ?side1 ?side2 A6.out).mono ?_);(case side1=>exact rC HR0);(case side2=>exact HC0.out);rintro e w12 ⟨rfl,hb⟩;refine ⟨_,rfl,?_⟩;have n0_:=Aside0.mk (blk_below (g:=gb264) (o:=.cells #[.int .i64 0,.slice none 0 0] 26 (0,0)) (bk BK264) hb);have n1_:=bs hb;clear BK264;clear HB;have BK264:=n0_;have HB:=n1_;clear n0_ n1_;(try clear hb);(try clear hb2);(try clear hk);(try clear hi))|(go_at_call 58;(with_reducible refine (impl_in.calls a1 1 64 true _ A8.out).mono ?_);rintro e w' ⟨rfl,⟨nd,rfl⟩⟩)|(go_at_call 58;(with_reducible refine (impl_in.calls a2 1 5 true _ A10.out).mono ?_);rintro e w' ⟨rfl,⟨nd,rfl⟩⟩))
     go_meet
     case rel=>exact ⟨_,(decide ((l0.length:Int) < a2)),rd_,H',⟨by first|omega|exact Nat.le_refl _⟩,⟨bk BK264⟩,⟨be⟩⟩
    ·replace c11:=Bool.eq_false_iff.mpr c11
     subst c11
     have H1:(impl_Build.j0 k l0 a1 a2 true)=some (r1,r2,r3):=by rw [if_neg (show ¬ (false=true) by decide)] at H;exact H
     clear H
     have H:=H1
     clear H1
     have H':=Aside0.mk H
     clear H
     go_wp2_with (first|((with_reducible refine gate_callee (f:=57) rfl ?_);refine goesL_ (some 13) rfl rfl Try.func57 (by kernel_rfl) rfl #[.slice A0 l0.length c0] rfl (by (try simp only [List.map_toArray,List.map_cons,List.map_nil]);first|done|rfl|(simp only [List.length_drop,List.length_take];rfl)) ?_;(with_reducible refine (impl_DevsOk.calls k _ _ l0 true _ ?side1 ?side2 A6.out).mono ?_);(case side1=>exact rC HR0);(case side2=>exact HC0.out);rintro e w13 ⟨rfl,hb⟩;refine ⟨_,rfl,?_⟩;have n0_:=Aside0.mk (blk_below (g:=gb264) (o:=.cells #[.int .i64 0,.slice none 0 0] 26 (0,0)) (bk BK264) hb);have n1_:=bs hb;clear BK264;clear HB;have BK264:=n0_;have HB:=n1_;clear n0_ n1_;(try clear hb);(try clear hb2);(try clear hk);(try clear hi))|(go_at_call 58;(with_reducible refine (impl_in.calls a1 1 64 true _ A8.out).mono ?_);rintro e w' ⟨rfl,⟨nd,rfl⟩⟩)|(go_at_call 58;(with_reducible refine (impl_in.calls a2 1 5 false _ A10.out).mono ?_);rintro e w' ⟨rfl,⟨nd,rfl⟩⟩))
     go_meet
     case rel=>exact ⟨_,(true),rd_,H',⟨by first|omega|exact Nat.le_refl _⟩,⟨bk BK264⟩,⟨be⟩⟩
   ·replace c9:=Bool.eq_false_iff.mpr c9
    subst c9
    have H1:(impl_Build.j0 k l0 a1 a2 true)=some (r1,r2,r3):=by rw [if_neg (show ¬ (false=true) by decide)] at H;exact H
    clear H
    have H:=H1
    clear H1
    have H':=Aside0.mk H
    clear H
    go_wp2_with (first|((with_reducible refine gate_callee (f:=57) rfl ?_);refine goesL_ (some 13) rfl rfl Try.func57 (by kernel_rfl) rfl #[.slice A0 l0.length c0] rfl (by (try simp only [List.map_toArray,List.map_cons,List.map_nil]);first|done|rfl|(simp only [List.length_drop,List.length_take];rfl)) ?_;(with_reducible refine (impl_DevsOk.calls k _ _ l0 true _ ?side1 ?side2 A6.out).mono ?_);(case side1=>exact rC HR0);(case side2=>exact HC0.out);rintro e w14 ⟨rfl,hb⟩;refine ⟨_,rfl,?_⟩;have n0_:=Aside0.mk (blk_below (g:=gb264) (o:=.cells #[.int .i64 0,.slice none 0 0] 26 (0,0)) (bk BK264) hb);have n1_:=bs hb;clear BK264;clear HB;have BK264:=n0_;have HB:=n1_;clear n0_ n1_;(try clear hb);(try clear hb2);(try clear hk);(try clear hi))|(go_at_call 58;(with_reducible refine (impl_in.calls a1 1 64 false _ A8.out).mono ?_);rintro e w' ⟨rfl,⟨nd,rfl⟩⟩))
    go_meet
    case rel=>exact ⟨_,(true),rd_,H',⟨by first|omega|exact Nat.le_refl _⟩,⟨bk BK264⟩,⟨be⟩⟩
  ·replace c7:=Bool.eq_false_iff.mpr c7
   subst c7
   have H1:(impl_Build.j0 k l0 a1 a2 true)=some (r1,r2,r3):=by rw [if_neg (show ¬ (false=true) by decide)] at H;exact H
   clear H
   have H:=H1
   clear H1
   have H':=Aside0.mk H
   clear H
   go_wp2_with (first|((with_reducible refine gate_callee (f:=57) rfl ?_);refine goesL_ (some 13) rfl rfl Try.func57 (by kernel_rfl) rfl #[.slice A0 l0.length c0] rfl (by (try simp only [List.map_toArray,List.map_cons,List.map_nil]);first|done|rfl|(simp only [List.length_drop,List.length_take];rfl)) ?_;(with_reducible refine (impl_DevsOk.calls k _ _ l0 false _ ?side1 ?side2 A6.out).mono ?_);(case side1=>exact rC HR0);(case side2=>exact HC0.out);rintro e w15 ⟨rfl,hb⟩;refine ⟨_,rfl,?_⟩;have n0_:=Aside0.mk (blk_below (g:=gb264) (o:=.cells #[.int .i64 0,.slice none 0 0] 26 (0,0)) (bk BK264) hb);have n1_:=bs hb;clear BK264;clear HB;have BK264:=n0_;have HB:=n1_;clear n0_ n1_;(try clear hb);(try clear hb2);(try clear hk);(try clear hi)))
   go_meet
   case rel=>exact ⟨_,(true),rd_,H',⟨by first|omega|exact Nat.le_refl _⟩,⟨bk BK264⟩,⟨be⟩⟩
 case rest=>
  clear HC4
  try clear c1
  try clear p2
  try clear c3
  try clear c5
  try clear c7
  try clear c9
  try clear c11
  obtain ⟨kq,x30_3,rfl,HA,HJ3,BK264,HB⟩:=hcut
  cases kq with
  | zero=>exact absurd HA.out (by simp [impl_Build.j0])
  | succ kj3=>
   have H:=HA.out
   clear HA
   simp only [impl_Build.j0] at H
   by_cases c16:x30_3=true
   ·subst c16
    rw [if_pos rfl] at H
    simp only [Option.some.injEq,Prod.mk.injEq] at H
    obtain ⟨rfl,rfl,rfl⟩:=H
    have hcz17_0:wc.cell? ⟨gb264,0,none⟩=some (.int .i64 0):=(blk_cell BK264.out 0).trans rfl
    have hcz17_1:wc.cell? ⟨gb264,1,none⟩=some (.slice none 0 0):=(blk_cell BK264.out 1).trans rfl
    have hfz17_0:=blk_frozen BK264.out 0
    have hfz17_1:=blk_frozen BK264.out 1
    go_wp2
    refine bodyPost_ret (results_ct rfl _ _ gb264 26 #[.int .i64 0,.slice none 0 0] (0,0) _ rfl (by (with_reducible repeat (first|refine blk_drewN ?_ _|refine blk_drew ?_|refine blk_alloc ?_ _));refine blk_put (cs:=#[.int .i64 0,.slice none 0 0]) ?_ 1 _ rfl;(with_reducible repeat (first|refine blk_drewN ?_ _|refine blk_drew ?_|refine blk_alloc ?_ _));refine blk_put (cs:=#[.int .i64 0,.slice none 0 0]) ?_ 0 _ rfl;(with_reducible repeat (first|refine blk_drewN ?_ _|refine blk_drew ?_|refine blk_alloc ?_ _));exact BK264.out) Try.underlying26 rfl (by kernel_rfl)) rfl ?_
    exact ⟨_,rz,by first|exact Kd.S_nil _ _ _ _ _|exact Kd.N_nil _ _ _ _ _|exact Kd.V_nil _ _ _ _ _|exact Kd.Q_nil _ _ _ _ _|exact Kd.R_nil _ _ _ _ _,be⟩
   ·replace c16:=Bool.eq_false_iff.mpr c16
    subst c16
    have H1:(impl_Build.l0 kj3 l0 a2 a1 0 a2 ([]:List (S35)))=some (r1,r2,r3):=by rw [if_neg (show ¬ (false=true) by decide)] at H;exact H
    clear H
    have H:=H1
    clear H1
    have H':=Aside0.mk H
    clear H
    go_wp2_with (first|((with_reducible refine gate_dst (N:=8) rfl ?_);(try (refine gate_guard (by rfl) ?_;dsimp only));refine box_event ?hg (N:=8) ?hd (cs:=#[.int .i64 0,.slice none 0 0]) (t:=26) ?hr ?_;(case hd=>rfl);(case hg=>rfl);(case hr=>first|(go_simp;done)|(go_simp;rfl));intro gb268 hg w18 hbox hb;have n0_:=Aside0.mk (blk_below (g:=gb264) (o:=.cells #[.int .i64 0,.slice none 0 0] 26 (0,0)) (bk BK264) hb);have n1_:=bs hb;have n2_:=Aside0.mk (hbox);have n3_:=Aside0.mk ((by rw [hg];exact (below_size be):w.heap.size≤gb268));have n4_:=Aside0.mk ((by rw [hg];exact (below_size be):w.heap.size≤gb268));have n5_:=Aside0.mk ((by rw [hg];exact Nat.ne_of_lt (blk_lt (g:=gb264) (o:=.cells #[.int .i64 0,.slice none 0 0] 26 (0,0)) (bk BK264)):gb264 ≠ gb268));have n6_:=Aside0.mk ((by rw [hg];exact Nat.ne_of_gt (blk_lt (g:=gb264) (o:=.cells #[.int .i64 0,.slice none 0 0] 26 (0,0)) (bk BK264)):gb268 ≠ gb264));clear BK264;clear HB;have BK264:=n0_;have HB:=n1_;have BK268:=n2_;have GW268:=n3_;have GE268:=n4_;have NB264_268:=n5_;have NB268_264:=n6_;clear n0_ n1_ n2_ n3_ n4_ n5_ n6_;clear hb hbox hg;have hnb19:=NB268_264.out;have hnc19:=NB264_268.out;have hcz20_0:w18.cell? ⟨gb268,0,none⟩=some (.int .i64 0):=(blk_cell BK268.out 0).trans rfl;have hcz20_1:w18.cell? ⟨gb268,1,none⟩=some (.slice none 0 0):=(blk_cell BK268.out 1).trans rfl;have hfz20_0:=blk_frozen BK268.out 0;have hfz20_1:=blk_frozen BK268.out 1))
    go_loopg [35] kj3 (fun kq v35 w'=>∃ (x35_2:Int) (x269001_2:List (S35)) (u269001:Value),v35 = .int .i64 x35_2∧Aside0 (impl_Build.l0 kq l0 a2 a1 x35_2 a2 x269001_2=some (r1,r2,r3))∧Aside0 (kq≤kj3)∧Aside0 (Kd.S k35 35 w' w.heap.size (fun _=>True) u269001 x269001_2)∧Aside0 (w'.heap[gb264]?=some (.cells #[.int .i64 0,(.slice none 0 0)] 26 (0,0)))∧Aside0 (w'.heap[gb268]?=some (.cells #[.int .i64 a2,u269001] 26 (0,0)))∧Aside0 (Below w.heap.size w w'))
    case atStart=>exact ⟨(0),(([]:List (S35))),(.slice none 0 0),rd_,H',⟨Nat.le_refl _⟩,⟨by first|exact Kd.S_nil _ _ _ _ _|exact Kd.N_nil _ _ _ _ _|exact Kd.V_nil _ _ _ _ _|exact Kd.Q_nil _ _ _ _ _|exact Kd.R_nil _ _ _ _ _⟩,⟨by (with_reducible repeat (first|refine blk_drewN ?_ _|refine blk_drew ?_|refine blk_alloc ?_ _));refine blk_far ?_ NB264_268.out _;(with_reducible repeat (first|refine blk_drewN ?_ _|refine blk_drew ?_|refine blk_alloc ?_ _));refine blk_far ?_ NB264_268.out _;(with_reducible repeat (first|refine blk_drewN ?_ _|refine blk_drew ?_|refine blk_alloc ?_ _));exact BK264.out⟩,⟨by (with_reducible repeat (first|refine blk_drewN ?_ _|refine blk_drew ?_|refine blk_alloc ?_ _));refine blk_put (cs:=#[.int .i64 a2,.slice none 0 0]) ?_ 1 _ rfl;(with_reducible repeat (first|refine blk_drewN ?_ _|refine blk_drew ?_|refine blk_alloc ?_ _));refine blk_put (cs:=#[.int .i64 0,.slice none 0 0]) ?_ 0 _ rfl;(with_reducible repeat (first|refine blk_drewN ?_ _|refine blk_drew ?_|refine blk_alloc ?_ _));exact BK268.out⟩,⟨be⟩⟩
    case round=>
     clear H'
     try clear c1
     try clear p2
     try clear c3
     try clear c5
     try clear c7
     try clear c9
     try clear c11
     try clear c16
     try clear c19
     try clear hcz17_0
     try clear hcz17_1
     try clear hcz20_0
     try clear hcz20_1
     try clear hfz17_0
     try clear hfz17_1
     try clear hfz20_0
     try clear hfz20_1
     try clear p2
     obtain ⟨x35_2,x269001_2,u269001,rfl,HA,HK2,HO_269001,BK264,BK268,HB⟩:=hrel
     cases gk with
     | zero=>exact absurd HA.out (by simp [impl_Build.l0])
     | succ k2=>
      have H:=HA.out
      clear HA
      simp only [impl_Build.l0] at H
      by_cases c21:x35_2 < a1
      ·rw [if_pos c21] at H
       have c21b0:decide (x35_2 < a1)=true:=decide_eq_true c21
       clear c21
       by_cases c22:x269001_2.length < 5864062014805
       ·rw [if_pos c22] at H
        have LMc22:=Aside0.mk c22
        clear c22
        obtain ⟨y269,hy269⟩ : ∃ y_:List (S35),y_=(x269001_2 ++ [(⟨([]:List Int)⟩:S35)]):=⟨_,rfl⟩
        replace H:(impl_Build.l1 k2 l0 a2 x35_2 a1 x35_2 a2 0 a2 y269)=some (r1,r2,r3):=by first|(rw [hy269];with_reducible exact H)|(have H2_:=(Option.bind_some _ _).symm.trans H;rw [hy269];with_reducible exact H2_)|(have H2_:=(Option.bind_some _ _).symm.trans H;with_reducible exact H2_)|with_reducible exact H|(rw [hy269];exact H)|exact H
        have Ny269:=Aside0.mk hy269
        clear hy269
        have H':=Aside0.mk H
        clear H
        have hnb23:=NB268_264.out
        have hnc23:=NB264_268.out
        have hcz24_0:wr.cell? ⟨gb268,0,none⟩=some (.int .i64 a2):=(blk_cell BK268.out 0).trans rfl
        have hcz24_1:wr.cell? ⟨gb268,1,none⟩=some (u269001):=(blk_cell BK268.out 1).trans rfl
        have hfz24_0:=blk_frozen BK268.out 0
        have hfz24_1:=blk_frozen BK268.out 1
        go_wp2_with (first|((with_reducible refine gate_builtin (b:=.append) (xs:=#[.tmp 39,.tmp 41]) rfl ?_);(try (refine gate_guard (by rfl) ?_;dsimp only));at_builtin;refine Kd.S_append k35 (w0:=w) w.heap.size rfl (.tmp 39) (.tmp 41) 24 35 (.agg #[(.slice none 0 0)]) 24 rfl Try.underlying24 info35 rfl (by decide) (by omega) u269001 x269001_2 (⟨([]:List Int)⟩:S35) [.slice none 0 0] (fun _=>True) (fun _=>False) rfl rfl ?aP (fun k_ hk_=>hk_.elim) ?aF ?aO ?aB ?aS ?aL ?_;(case aP=>exact k35_mkM _ _ _ (⟨([]:List Int)⟩:S35) (Kd.R_nil _ _ _ _ _));(case aB=>exact be);(case aF=>exact (fun _ _=>trivial));(case aO=>exact (by (with_reducible repeat (first|apply Kd.S_alloc|apply Kd.S_drewN|apply Kd.S_drew));exact Kd.S_mono HO_269001.out (fun k_ hk=>⟨trivial,fun e_=>e_⟩)));(case aS=>exact (below_size be));(case aL=>have:=LMc22.out;omega);intro v270 w25 ho hb hg hat;rw [← Ny269.out] at ho;have n0_:=Aside0.mk (blk_grown (g:=gb264) (o:=.cells #[.int .i64 0,.slice none 0 0] 26 (0,0)) (bk BK264) hg (Kd.S_ne HO_269001.out BK264.out (by decide)));have n1_:=Aside0.mk (blk_grown (g:=gb268) (o:=.cells #[.int .i64 a2,u269001] 26 (0,0)) (bk BK268) hg (Kd.S_ne HO_269001.out BK268.out (by decide)));have n2_:=Aside0.mk (hb);have n3_:=Aside0.mk (ho);clear BK264;clear BK268;clear HB;clear HO_269001;have BK264:=n0_;have BK268:=n1_;have HB:=n2_;have HO271:=n3_;clear n0_ n1_ n2_ n3_;clear ho hb hg hat;obtain ⟨Ao26,co26,eo26⟩:=Kd.S_slice HO271.out;subst eo26;have hcz27_0:w25.cell? ⟨gb268,0,none⟩=some (.int .i64 a2):=(blk_cell BK268.out 0).trans rfl;have hcz27_1:w25.cell? ⟨gb268,1,none⟩=some (u269001):=(blk_cell BK268.out 1).trans rfl;have hfz27_0:=blk_frozen BK268.out 0;have hfz27_1:=blk_frozen BK268.out 1))
        go_loopg [45] k2 (fun kq v45 w'=>∃ (x45_3:Int) (x269001_3:List (S35)) (u269001:Value),v45 = .int .i64 x45_3∧Aside0 (impl_Build.l1 kq l0 a2 x35_2 a1 x35_2 a2 x45_3 a2 x269001_3=some (r1,r2,r3))∧Aside0 (kq≤k2)∧Aside0 (Kd.S k35 35 w' w.heap.size (fun _=>True) u269001 x269001_3)∧Aside0 (w'.heap[gb264]?=some (.cells #[.int .i64 0,(.slice none 0 0)] 26 (0,0)))∧Aside0 (w'.heap[gb268]?=some (.cells #[.int .i64 a2,u269001] 26 (0,0)))∧Aside0 (Below w.heap.size w w'))
        case atStart=>exact ⟨(0),(y269),(.slice Ao26 y269.length co26),rd_,H',⟨Nat.le_refl _⟩,⟨by (with_reducible repeat (first|apply Kd.S_alloc|apply Kd.S_drewN|apply Kd.S_drew));exact Kd.S_mono (Kd.S_far (p:=⟨gb268,1,none⟩) (Kd.S_types HO271.out BK268.out (by decide)) (fun _ hk=>hk.2) (.slice Ao26 y269.length co26)) (fun _ hk=>trivial)⟩,⟨by (with_reducible repeat (first|refine blk_drewN ?_ _|refine blk_drew ?_|refine blk_alloc ?_ _));refine blk_far ?_ NB264_268.out _;(with_reducible repeat (first|refine blk_drewN ?_ _|refine blk_drew ?_|refine blk_alloc ?_ _));exact BK264.out⟩,⟨by (with_reducible repeat (first|refine blk_drewN ?_ _|refine blk_drew ?_|refine blk_alloc ?_ _));refine blk_put (cs:=#[.int .i64 a2,u269001]) ?_ 1 _ rfl;(with_reducible repeat (first|refine blk_drewN ?_ _|refine blk_drew ?_|refine blk_alloc ?_ _));exact BK268.out⟩,⟨be⟩⟩
        case round=>
         clear H'
         try clear c1
         try clear c2
         try clear p2
         try clear c3
         try clear c5
         try clear c7
         try clear c9
         try clear c11
         try clear c16
         try clear c19
         try clear c21
         try clear c21b0
         try clear c22
         try clear c23
         try clear hcz17_0
         try clear hcz17_1
         try clear hcz20_0
         try clear hcz20_1
         try clear hcz24_0
         try clear hcz24_1
         try clear hcz27_0
         try clear hcz27_1
         try clear hfz17_0
         try clear hfz17_1
         try clear hfz20_0
         try clear hfz20_1
         try clear hfz24_0
         try clear hfz24_1
         try clear hfz27_0
         try clear hfz27_1
         try clear p2
         obtain ⟨x45_3,x269001_3,u269001,rfl,HA,HK3,HO_269001,BK264,BK268,HB⟩:=hrel
         cases gk with
         | zero=>exact absurd HA.out (by simp [impl_Build.l1])
         | succ k3=>
          have H:=HA.out
          clear HA
          simp only [impl_Build.l1] at H
          by_cases c28:x45_3 < a2
          ·rw [if_pos c28] at H
           have c28b0:decide (x45_3 < a2)=true:=decide_eq_true c28
           clear c28
           by_cases c29:0≤x35_2
           ·rw [if_pos c29] at H
            have c29b0:decide (0≤x35_2)=true:=decide_eq_true c29
            clear c29
            by_cases c30:x35_2 < (x269001_3.length:Int)
            ·rw [if_pos c30] at H
             have c30b0:decide (x35_2 < (x269001_3.length:Int))=true:=decide_eq_true c30
             clear c30
             replace H:=Option.bind_eq_some_iff.mp H
             obtain ⟨t274,A310,H⟩:=H
             try dsimp only at H
             have A31:=Aside0.mk A310
             clear A310
             by_cases c32:((rd_T35 x269001_3 x35_2).f0).length < 17592186044416
             ·rw [if_pos c32] at H
              have LMc32:=Aside0.mk c32
              clear c32
              obtain ⟨y276,hy276⟩ : ∃ y_:List Int,y_=(((rd_T35 x269001_3 x35_2).f0) ++ [t274]):=⟨_,rfl⟩
              replace H:(impl_Build.l1 k3 l0 a2 x35_2 a1 x35_2 a2 (wrap64 (x45_3+1)) a2 (x269001_3.set (x35_2:Int).toNat (⟨y276⟩:S35)))=some (r1,r2,r3):=by first|(rw [hy276];with_reducible exact H)|(have H2_:=(Option.bind_some _ _).symm.trans H;rw [hy276];with_reducible exact H2_)|(have H2_:=(Option.bind_some _ _).symm.trans H;with_reducible exact H2_)|with_reducible exact H|(rw [hy276];exact H)|exact H
              have Ny276:=Aside0.mk hy276
              clear hy276
              obtain ⟨y279,hy279⟩ : ∃ y_:List (S35),y_=(x269001_3.set (x35_2:Int).toNat (⟨y276⟩:S35)):=⟨_,rfl⟩
              replace H:(impl_Build.l1 k3 l0 a2 x35_2 a1 x35_2 a2 (wrap64 (x45_3+1)) a2 y279)=some (r1,r2,r3):=by first|(rw [hy279];with_reducible exact H)|(have H2_:=(Option.bind_some _ _).symm.trans H;rw [hy279];with_reducible exact H2_)|(have H2_:=(Option.bind_some _ _).symm.trans H;with_reducible exact H2_)|with_reducible exact H|(rw [hy279];exact H)|exact H
              have Ny279:=Aside0.mk hy279
              clear hy279
              have H':=Aside0.mk H
              clear H
              have hnb33:=NB268_264.out
              have hnc33:=NB264_268.out
              have hcz34_0:wr.cell? ⟨gb268,0,none⟩=some (.int .i64 a2):=(blk_cell BK268.out 0).trans rfl
              have hcz34_1:wr.cell? ⟨gb268,1,none⟩=some (u269001):=(blk_cell BK268.out 1).trans rfl
              have hfz34_0:=blk_frozen BK268.out 0
              have hfz34_1:=blk_frozen BK268.out 1
              obtain ⟨Ao35,co35,eo35⟩:=Kd.S_slice HO_269001.out
              subst eo35
              have p272:0≤(x35_2:Int):=of_decide_eq_true (by first|(with_reducible assumption)|assumption)
              have q272:x35_2 < (x269001_3.length:Int):=of_decide_eq_true (by first|(with_reducible assumption)|assumption)
              obtain ⟨ad272,A272_0,c272_0,e272,hx272_0,hl272_0,hi272_0⟩:=at_T35 (Kd.S_reads' HO_269001.out).2.2 x35_2 p272 q272
              cases e272
              obtain ⟨ce272,hce272,hMe272,hcc272⟩:=Kd.S_get HO_269001.out z35 x35_2 p272 (by first|exact q272|exact of_decide_eq_true (by first|(with_reducible assumption)|assumption)|(have e_:=(Kd.S_reads' HO_269001.out).1;omega))
              obtain ⟨ve272_0,rfl,ge272_0⟩:=k35_openM hMe272
              have hv272_0:=hcc272 0 _ rfl
              rw [Nat.add_zero,show (k35).sz=1 from rfl,Nat.mul_one] at hv272_0
              replace hv272_0:=Option.some.inj (hv272_0.symm.trans hx272_0)
              rw [hv272_0] at ge272_0
              have HL272_0:=Aside0.mk (show Kd.R (Kd.int .i64) 3 _ _ _ _ ((rd_T35 x269001_3 x35_2).f0) from ge272_0)
              clear hv272_0 ge272_0
              have HX272_0:=Aside0.mk hx272_0
              clear hcc272 hce272
              have HR272_0:=Aside0.mk hi272_0
              have HC272_0:=Aside0.mk hl272_0
              clear hi272_0 hl272_0
              replace p272:=eq_true p272
              replace q272:=eq_true q272
              try go_wp2
              have n0_:=Aside0.mk (Kd.S_drew HO_269001.out)
              have n1_:=Aside0.mk (Kd.R_drew HL272_0.out)
              have n2_:=Aside0.mk (blk_drew BK264.out)
              have n3_:=Aside0.mk (blk_drew BK268.out)
              have n4_:=Aside0.mk (Kd.C_drew HR272_0.out)
              have n5_:=Aside0.mk (below_drew1 HB.out)
              clear HO_269001
              clear HL272_0
              clear BK264
              clear BK268
              clear HR272_0
              clear HB
              have HO_269001:=n0_
              have HL272_0:=n1_
              have BK264:=n2_
              have BK268:=n3_
              have HR272_0:=n4_
              have HB:=n5_
              clear n0_ n1_ n2_ n3_ n4_ n5_
              have p273:0≤(x35_2:Int):=of_decide_eq_true (by first|(with_reducible assumption)|assumption)
              have q273:x35_2 < (x269001_3.length:Int):=of_decide_eq_true (by first|(with_reducible assumption)|assumption)
              obtain ⟨ad273,A273_0,c273_0,e273,hx273_0,hl273_0,hi273_0⟩:=at_T35 (Kd.S_reads' HO_269001.out).2.2 x35_2 p273 q273
              obtain rfl:ad272=ad273:=(by injection e273)
              obtain ⟨ce273,hce273,hMe273,hcc273⟩:=Kd.S_get HO_269001.out z35 x35_2 p273 (by first|exact q273|exact of_decide_eq_true (by first|(with_reducible assumption)|assumption)|(have e_:=(Kd.S_reads' HO_269001.out).1;omega))
              obtain ⟨ve273_0,rfl,ge273_0⟩:=k35_openM hMe273
              have hv273_0:=hcc273 0 _ rfl
              rw [Nat.add_zero,show (k35).sz=1 from rfl,Nat.mul_one] at hv273_0
              replace hv273_0:=Option.some.inj (hv273_0.symm.trans hx273_0)
              rw [hv273_0] at ge273_0
              have HL273_0:=Aside0.mk (show Kd.R (Kd.int .i64) 3 _ _ _ _ ((rd_T35 x269001_3 x35_2).f0) from ge273_0)
              clear hv273_0 ge273_0
              have HX273_0:=Aside0.mk hx273_0
              clear hcc273 hce273
              have HR273_0:=Aside0.mk hi273_0
              have HC273_0:=Aside0.mk hl273_0
              clear hi273_0 hl273_0
              replace p273:=eq_true p273
              replace q273:=eq_true q273
              refine start_ (n:=7) (S:=fun w'=>w'.cell? ⟨gb268,0,none⟩=some (.int .i64 a2)∧w'.cell? ⟨gb268,1,none⟩=some (.slice (some ad272) x269001_3.length co35)∧w'.cell? (ad272.add (x35_2).toNat)=some (.slice A273_0 ((rd_T35 x269001_3 x35_2).f0).length c273_0)) (ds:=[]) (fl 7 0) (by kernel_rfl) rfl rfl ⟨(blk_cell BK268.out 0).trans rfl,(blk_cell BK268.out 1).trans rfl,hx273_0⟩ (fun hHeld=>?_)
              generalize wr.drew=w36 at HO_269001 HL272_0 BK264 BK268 HR272_0 HB HL273_0 HR273_0 HX273_0 hx273_0 hHeld ⊢
              refine pu 1 52 (fl 7 2) ?_
              refine pu 2 53 (fl 7 6) ?_
              refine pu 4 55 (fl 7 22) ?_
              refine ta 0 51 (fl 7 23) hHeld ?_
              refine ta 3 54 (fl 7 31) hHeld ?_
              refine on 5 (some 56) (fl 7 63) (fun K hK=>?_)
              refine goes_ Try.func45 (by kernel_rfl) rfl #[.agg #[.int .i64 a2,.slice (some ad272) x269001_3.length co35],.agg #[.slice A273_0 ((rd_T35 x269001_3 x35_2).f0).length c273_0],.slice A0 l0.length c0] (by rfl) rfl rfl (by (try simp only [List.map_toArray,List.map_cons,List.map_nil]);first|done|rfl|(simp only [List.length_drop,List.length_take];rfl)) ?_
              with_reducible refine (impl_Best.calls k3 a2 _ _ x269001_3 _ _ ((rd_T35 x269001_3 x35_2).f0) _ _ l0 t274 _ ?side1 ?side2 ?side3 ?side4 ?side5 ?side6 A31.out).mono ?_
              (case side1=>exact sS HO_269001)
              (case side2=>exact (Kd.S_reads' HO_269001.out).2.1)
              (case side3=>repeat (first|exact (by repeat (first|(with_reducible exact HR273_0.out)|(with_reducible refine Kd.C_alloc ?_ _)|(with_reducible refine Kd.C_drewN ?_ _)|(with_reducible refine Kd.C_drew ?_)|exact HR273_0.out))|(with_reducible refine Kd.C_alloc ?_ _)|(with_reducible refine Kd.C_drewN ?_ _)|(with_reducible refine Kd.C_drew ?_)))
              (case side4=>exact HC273_0.out)
              (case side5=>exact rC HR0)
              (case side6=>exact HC0.out)
              rintro e w37 ⟨rfl,hb⟩
              have HS2_:=(hb.cell (World.block_lt_of_cell? _ _ (hHeld.2.2))).trans (hHeld.2.2)
              refine ⟨_,rfl,?_⟩
              have n0_:=Aside0.mk (Kd.S_below ((rS HO_269001)) hb)
              have n1_:=Aside0.mk (Kd.R_below ((by (with_reducible repeat (first|apply Kd.R_alloc|apply Kd.R_drewN|apply Kd.R_drew));exact HL272_0.out)) hb)
              have n2_:=Aside0.mk (Kd.R_below ((by (with_reducible repeat (first|apply Kd.R_alloc|apply Kd.R_drewN|apply Kd.R_drew));exact HL273_0.out)) hb)
              have n3_:=Aside0.mk (blk_below (g:=gb264) (o:=.cells #[.int .i64 0,.slice none 0 0] 26 (0,0)) (bk BK264) hb)
              have n4_:=Aside0.mk (blk_below (g:=gb268) (o:=.cells #[.int .i64 a2,.slice (some ad272) x269001_3.length co35] 26 (0,0)) (bk BK268) hb)
              have n5_:=Aside0.mk (Kd.C_below (by repeat (first|(with_reducible exact HR272_0.out)|(with_reducible refine Kd.C_alloc ?_ _)|(with_reducible refine Kd.C_drewN ?_ _)|(with_reducible refine Kd.C_drew ?_)|exact HR272_0.out)) hb)
              have n6_:=Aside0.mk (Kd.C_below (by repeat (first|(with_reducible exact HR273_0.out)|(with_reducible refine Kd.C_alloc ?_ _)|(with_reducible refine Kd.C_drewN ?_ _)|(with_reducible refine Kd.C_drew ?_)|exact HR273_0.out)) hb)
              have n7_:=Aside0.mk (pw_cell_below hb HX273_0.out)
              have n8_:=bs hb
              clear HO_269001
              clear HL272_0
              clear HL273_0
              clear BK264
              clear BK268
              clear HR272_0
              clear HR273_0
              clear HX273_0
              clear HB
              have HO_269001:=n0_
              have HL272_0:=n1_
              have HL273_0:=n2_
              have BK264:=n3_
              have BK268:=n4_
              have HR272_0:=n5_
              have HR273_0:=n6_
              have HX273_0:=n7_
              have HB:=n8_
              clear n0_ n1_ n2_ n3_ n4_ n5_ n6_ n7_ n8_
              (try clear hb)
              (try clear hb2)
              (try clear hk)
              (try clear hi)
              refine hK.out _ _ ⟨(blk_cell BK268.out 0).trans rfl,(blk_cell BK268.out 1).trans rfl,HS2_⟩ (fun hHeld=>?_)
              clear hK K
              refine no 56 ?_
              refine pu 6 11 (fl 7 127) ?_
              refine done_ (by kernel_rfl) ?_
              have p275:0≤(x35_2:Int):=of_decide_eq_true (by first|(with_reducible assumption)|assumption)
              have q275:x35_2 < (x269001_3.length:Int):=of_decide_eq_true (by first|(with_reducible assumption)|assumption)
              obtain ⟨ad275,A275_0,c275_0,e275,hx275_0,hl275_0,hi275_0⟩:=at_T35 (Kd.S_reads' HO_269001.out).2.2 x35_2 p275 q275
              obtain rfl:ad272=ad275:=(by injection e275)
              obtain ⟨ce275,hce275,hMe275,hcc275⟩:=Kd.S_get HO_269001.out z35 x35_2 p275 (by first|exact q275|exact of_decide_eq_true (by first|(with_reducible assumption)|assumption)|(have e_:=(Kd.S_reads' HO_269001.out).1;omega))
              obtain ⟨ve275_0,rfl,ge275_0⟩:=k35_openM hMe275
              have hv275_0:=hcc275 0 _ rfl
              rw [Nat.add_zero,show (k35).sz=1 from rfl,Nat.mul_one] at hv275_0
              replace hv275_0:=Option.some.inj (hv275_0.symm.trans hx275_0)
              rw [hv275_0] at ge275_0
              have HL275_0:=Aside0.mk (show Kd.R (Kd.int .i64) 3 _ _ _ _ ((rd_T35 x269001_3 x35_2).f0) from ge275_0)
              clear hv275_0 ge275_0
              have HX275_0:=Aside0.mk hx275_0
              clear hcc275 hce275
              have HR275_0:=Aside0.mk hi275_0
              have HC275_0:=Aside0.mk hl275_0
              clear hi275_0 hl275_0
              replace p275:=eq_true p275
              replace q275:=eq_true q275
              obtain ⟨go38,co38,eo38,gb38,gl38,cl38,HG38⟩:=Kd.S_form HO_269001.out (by have h_:(x35_2:Int) < ((x269001_3.length:Int):Int):=of_decide_eq_true (by first|(with_reducible assumption)|assumption);have h2_:0≤(x35_2:Int):=(of_decide_eq_true (by first|(with_reducible assumption)|assumption));omega)
              (first|cases eo38|(injection eo38 with ea_ en_ ec_;(first|subst ea_|(injection ea_ with ea_;subst ea_));subst ec_;clear en_))
              have GB38:=Aside0.mk gb38
              have GG38:=Aside0.mk HG38
              clear gb38 gl38 HG38
              (first|simp only [add_plain] at hx272_0|skip)
              (first|simp only [add_plain] at hx273_0|skip)
              (first|simp only [add_plain] at hx275_0|skip)
              obtain ⟨oki38,ce38,hcl38,hM38,hcc38,_,_,hH38⟩:=Kd.S_elem HO_269001.out z35 (x35_2:Int) (of_decide_eq_true (by first|(with_reducible assumption)|assumption)) (by have h_:(x35_2:Int) < ((x269001_3.length:Int):Int):=of_decide_eq_true (by first|(with_reducible assumption)|assumption);first|exact h_|(have e_:=(Kd.S_reads' HO_269001.out).1;omega)|simpa using h_)
              obtain ⟨ve38_0,rfl,ge38_0⟩:=k35_openM hM38
              have hv38:=hcc38 0 _ rfl
              have hX38:=HX275_0.out
              (try simp only [add_plain] at hX38)
              (try simp only [Nat.add_zero] at hv38)
              (try rw [show (k35).sz=1 from rfl,Nat.mul_one] at hv38)
              replace hv38:=Option.some.inj (hv38.symm.trans hX38)
              subst hv38
              clear hX38 hcc38 hcl38
              have UU38:=Aside0.mk (show Kd.R (Kd.int .i64) 3 _ w.heap.size oki38 (.slice A275_0 ((rd_T35 x269001_3 x35_2).f0).length c275_0) ((rd_T35 x269001_3 x35_2).f0) from ge38_0)
              have HH38:=Aside0.mk hH38
              have HN38:=Aside0.mk (Kd.S_reads' HO_269001.out).1
              clear hH38 ge38_0
              try go_wp2_with (first|((with_reducible refine gate_builtin (b:=.append) (xs:=#[.tmp 61,.tmp 63]) rfl ?_);(try (refine gate_guard (by rfl) ?_;dsimp only));at_builtin;refine Kd.R_append (Kd.int .i64) (w0:=w) w.heap.size rfl (.tmp 61) (.tmp 63) 33 3 (.int .i64 0) 8 rfl Try.underlying33 info3 rfl (by decide) (by omega) (.slice A275_0 ((rd_T35 x269001_3 x35_2).f0).length c275_0) ((rd_T35 x269001_3 x35_2).f0) t274 [.int .i64 t274] (fun k_=>oki38 k_ ∨ ((fun _=>True)) k_∧w37.heap.size≤k_) (fun _=>False) rfl rfl ?aP (fun _ hk=>hk.elim) ?aF ?aO ?aB ?aS ?aL ?_;(case aP=>exact rfl);(case aB=>exact be);(case aF=>exact (fun k_ hk=>.inr ⟨trivial,hk⟩));(case aO=>exact (by (with_reducible repeat (first|apply Kd.R_alloc|apply Kd.R_drewN|apply Kd.R_drew));exact Kd.R_mono UU38.out (fun _ hk=>.inl hk)));(case aS=>exact (below_size be));(case aL=>have:=LMc32.out;omega);intro v277 w39 ho hb hg hat;rw [← Ny276.out] at ho;have n0_:=Aside0.mk (blk_grown (g:=gb264) (o:=.cells #[.int .i64 0,.slice none 0 0] 26 (0,0)) (bk BK264) hg (Kd.R_ne HL275_0.out BK264.out (by decide)));have n1_:=Aside0.mk (blk_grown (g:=gb268) (o:=.cells #[.int .i64 a2,.slice (some ⟨go38,0,none⟩) x269001_3.length co35] 26 (0,0)) (bk BK268) hg (Kd.R_ne HL275_0.out BK268.out (by decide)));have n2_:=Aside0.mk (hb);have n3_:=Aside0.mk (Kd.H_grown (Kd.H_widen (by repeat (first|exact HH38.out|refine Kd.H_alloc ?_ _|refine Kd.H_drewN ?_ _|refine Kd.H_drew ?_))) hg (fun k_ e_=>.inl (UU38.out.1 k_ e_)));have n4_:=Aside0.mk (ho);clear BK264;clear BK268;clear HB;clear HH38;clear HO_269001;clear UU38;clear HL272_0;clear HL273_0;clear HL275_0;have BK264:=n0_;have BK268:=n1_;have HB:=n2_;have HH38:=n3_;have HO278:=n4_;clear n0_ n1_ n2_ n3_ n4_;clear ho hb hg hat;obtain ⟨Ao42,co42,eo42⟩:=Kd.R_slice HO278.out;subst eo42;obtain ⟨_,_,hraw40,_,_,hcc40,_⟩:=Kd.H_raw HH38.out (of_decide_eq_true (by first|(with_reducible assumption)|assumption)) (by have h_:(x35_2:Int) < ((x269001_3.length:Int):Int):=of_decide_eq_true (by first|(with_reducible assumption)|assumption);first|exact h_|(have e_:=(HN38.out);omega)|simpa using h_);obtain ⟨_,hfr40⟩:=Kd.H_at HH38.out (of_decide_eq_true (by first|(with_reducible assumption)|assumption)) (by have h_:(x35_2:Int) < ((x269001_3.length:Int):Int):=of_decide_eq_true (by first|(with_reducible assumption)|assumption);first|exact h_|(have e_:=(HN38.out);omega)|simpa using h_);have hx40_0:=hcc40 0 _ rfl;have hf40_0:=hfr40 0;(try simp only [Nat.add_zero] at hx40_0 hf40_0);(try rw [show (k35).sz=1 from rfl,Nat.mul_one] at hx40_0);(try rw [show (k35).sz=1 from rfl,Nat.mul_one] at hf40_0);have HP40:=Kd.S_seg0 HH38.out (of_decide_eq_true (by first|(with_reducible assumption)|assumption)) (by have h_:(x35_2:Int) < ((x269001_3.length:Int):Int):=of_decide_eq_true (by first|(with_reducible assumption)|assumption);first|exact h_|(have e_:=(HN38.out);omega)|simpa using h_) (seg:=[.slice Ao42 y276.length co42]) (j:=0) (show 1≤1 from by decide) (x':=(⟨y276⟩:S35)) (k35_mkM _ _ _ (⟨y276⟩:S35) HO278.out) (fun _ hk=>hk);(try simp only [show (k35).sz=1 from rfl,Nat.mul_one,Nat.add_zero] at HP40);clear hcc40 hfr40)|((with_reducible refine gate_store (t:=33) (p:=66) rfl ?_);refine store_event (t:=33) (p:=66) (v:=?vo_w41) (w1:=(w39.setCell ⟨go38,(x35_2:Int).toNat,none⟩ (.slice Ao42 y276.length co42))) ?hg ?ho ?hn ?hr ?_;(case ho=>rfl);(case hg=>rfl);(case hn=>rfl);(case hr=>first|(go_simp;done)|(go_simp;rfl));intro w41 hw;have hg:w39.grownBy w41 (some go38):=(by rw [hw];exact HP40.2);have hp_:Kd.S k35 35 w41 w.heap.size (fun _=>True) (.slice (some ⟨go38,0,none⟩) x269001_3.length co35) y279:=(by rw [hw,Ny279.out];exact HP40.1);clear HP40;have n0_:=Aside0.mk (blk_grown (g:=gb264) (o:=.cells #[.int .i64 0,.slice none 0 0] 26 (0,0)) (bk BK264) hg (Kd.R_ne hraw40 BK264.out (by decide)));have n1_:=Aside0.mk (blk_grown (g:=gb268) (o:=.cells #[.int .i64 a2,.slice (some ⟨go38,0,none⟩) x269001_3.length co35] 26 (0,0)) (bk BK268) hg (Kd.R_ne hraw40 BK268.out (by decide)));have n2_:=Aside0.mk ((by rw [hw];exact below_set HB.out GB38.out:Below w.heap.size w w41));have n3_:=Aside0.mk (hp_);clear BK264;clear BK268;clear HB;clear HO278;clear HH38;have BK264:=n0_;have BK268:=n1_;have HB:=n2_;have HO_269001:=n3_;clear n0_ n1_ n2_ n3_;clear hg hw hp_ hraw40))
              go_roundg k3
              case measure=>have:=HJ3.out;have:=HK2.out;have:=HK3.out;omega
              case rel=>exact ⟨(wrap64 (x45_3+1)),(y279),(.slice (some ⟨go38,0,none⟩) x269001_3.length co35),rd_,H',⟨by have:=HJ3.out;have:=HK2.out;have:=HK3.out;omega⟩,⟨rS HO_269001⟩,⟨bk BK264⟩,⟨bk BK268⟩,⟨be⟩⟩
             ·rw [if_neg c32] at H
              exact absurd H (by simp)
            ·rw [if_neg c30] at H
             exact absurd H (by simp)
           ·rw [if_neg c29] at H
            exact absurd H (by simp)
          ·rw [if_neg c28] at H
           have c28b0:decide (x45_3 < a2)=false:=decide_eq_false c28
           clear c28
           have H':=Aside0.mk H
           clear H
           go_wp2
           go_roundg k3
           case measure=>have:=HJ3.out;have:=HK2.out;have:=HK3.out;omega
           case rel=>exact ⟨(wrap64 (x35_2+1)),(x269001_3),(u269001),rd_,H',⟨by have:=HJ3.out;have:=HK2.out;have:=HK3.out;omega⟩,⟨rS HO_269001⟩,⟨bk BK264⟩,⟨bk BK268⟩,⟨be⟩⟩
       ·rw [if_neg c22] at H
        exact absurd H (by simp)
      ·rw [if_neg c21] at H
       have c21b0:decide (x35_2 < a1)=false:=decide_eq_false c21
       clear c21
       simp only [Option.some.injEq,Prod.mk.injEq] at H
       obtain ⟨rfl,rfl,rfl⟩:=H
       have hnb43:=NB268_264.out
       have hnc43:=NB264_268.out
       have hcz44_0:wr.cell? ⟨gb268,0,none⟩=some (.int .i64 a2):=(blk_cell BK268.out 0).trans rfl
       have hcz44_1:wr.cell? ⟨gb268,1,none⟩=some (u269001):=(blk_cell BK268.out 1).trans rfl
       have hfz44_0:=blk_frozen BK268.out 0
       have hfz44_1:=blk_frozen BK268.out 1
       have hcz45_0:wr.cell? ⟨gb264,0,none⟩=some (.int .i64 0):=(blk_cell BK264.out 0).trans rfl
       have hcz45_1:wr.cell? ⟨gb264,1,none⟩=some (.slice none 0 0):=(blk_cell BK264.out 1).trans rfl
       have hfz45_0:=blk_frozen BK264.out 0
       have hfz45_1:=blk_frozen BK264.out 1
       obtain ⟨Ao46,co46,eo46⟩:=Kd.S_slice HO_269001.out
       subst eo46
       go_wp2
       refine bodyPost_ret (results_ct rfl _ _ gb264 26 #[.int .i64 a2,.slice Ao46 x269001_2.length co46] (0,0) _ rfl (by (with_reducible repeat (first|refine blk_drewN ?_ _|refine blk_drew ?_|refine blk_alloc ?_ _));refine blk_put (cs:=#[.int .i64 a2,.slice none 0 0]) ?_ 1 _ rfl;(with_reducible repeat (first|refine blk_drewN ?_ _|refine blk_drew ?_|refine blk_alloc ?_ _));refine blk_put (cs:=#[.int .i64 0,.slice none 0 0]) ?_ 0 _ rfl;(with_reducible repeat (first|refine blk_drewN ?_ _|refine blk_drew ?_|refine blk_alloc ?_ _));exact BK264.out) Try.underlying26 rfl (by kernel_rfl)) rfl ?_
       exact ⟨_,rz,by (with_reducible repeat (first|apply Kd.S_alloc|apply Kd.S_drewN|apply Kd.S_drew));exact Kd.S_mono (Kd.S_far (p:=⟨gb264,1,none⟩) (Kd.S_far (p:=⟨gb264,0,none⟩) (Kd.S_types HO_269001.out BK264.out (by decide)) (fun _ hk=>hk.2) (.int .i64 a2)) (fun _ hk=>hk.2) (.slice Ao46 x269001_2.length co46)) (fun _ hk=>trivial),be⟩
def spec_l1In.f (a0:Int) (a1:Int) (a2:Int):Option (Bool):=if a0 ≥ a1 then (some (decide (a0≤a2))) else (some false)
set_option maxHeartbeats 8000000 in
set_option maxRecDepth 100000 in
theorem spec_l1In.calls (a0:Int) (a1:Int) (a2:Int) (r:Bool) (w:World) (h:spec_l1In.f a0 a1 a2=some r) :
  Calls Try.prog 54 #[.int .i64 a0,.int .i64 a1,.int .i64 a2] w fun e w'=>e = .returned (.bool r)∧Drawn0 w w':=by
 have H:(if a0 ≥ a1 then (some (decide (a0≤a2))) else (some false))=some r:=h
 clear h
 by_cases c4:a0 ≥ a1
 ·rw [if_pos c4] at H
  have c4b0:decide (a1≤a0)=true:=decide_eq_true c4
  clear c4
  obtain rfl:=Option.some.inj H
  go_enter Try.func54,Try.ntmps54
  go_wp2
  go_ret
  exact ⟨by first|rfl|(simp;done)|(simp [*];done),by repeat (first|exact Drawn0.refl _|apply Drawn0.step)⟩
 ·rw [if_neg c4] at H
  have c4b0:decide (a1≤a0)=false:=decide_eq_false c4
  clear c4
  obtain rfl:=Option.some.inj H
  go_enter Try.func54,Try.ntmps54
  go_wp2
  go_ret
  exact ⟨by first|rfl|(simp;done)|(simp [*];done),by repeat (first|exact Drawn0.refl _|apply Drawn0.step)⟩
end Go.Proofs.Ytpbjbfimnfghkaa.PFnRings
