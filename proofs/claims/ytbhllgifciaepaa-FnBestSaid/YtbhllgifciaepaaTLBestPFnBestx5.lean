/- Trimmed by a program of this session (trim.py). Not trusted: Lean checks it. -/
import Derived.Test.YtbhllgifciaepaaTLBestPFnBestx0
import Derived.Test.YtbhllgifciaepaaTLBestPFnBestx1
import Derived.Test.YtbhllgifciaepaaTLBestPFnBestx2
import Derived.Test.YtbhllgifciaepaaTLBestPFnBestx4
namespace Go.Proofs.Ytbhllgifciaepaa.PFnBest
open Go.RowKit Go.Proofs.YtbhllgifciaepaaW.PrintWords Go.Proofs.YtbhllgifciaepaaW.PrintLast Go.Proofs.YtbhllgifciaepaaW.PrintMore Go.Proofs.Ytbhllgifciaepaa.St
attribute [local go_sem] max2_int min2_int max_two min_two max_three min_three max_four min_four
set_option linter.unusedVariables false
set_option linter.unusedSimpArgs false
mutual
def spec_Build.j0:Nat→List (S76)→Int→Int→Bool→Option (Int × (List (S29)) × Bool)
 | 0,_,_,_,_=>none
 | k+1,x0,x1,x2,x30=>if x30=true then (some (0,([]:List (S29)),false)) else (spec_Build.l0 k x0 x1 x2 0 x2 ([]:List (S29)))
def spec_Build.l0:Nat→List (S76)→Int→Int→Int→Int→List (S29)→Option (Int × (List (S29)) × Bool)
 | 0,_,_,_,_,_,_=>none
 | k+1,x0,x1,x2,x9,x183000,x183001=>if x9 < x1 then (if x183001.length < 5864062014805 then (spec_Build.l1 k x0 x1 x2 x9 0 x183000 (x183001 ++ [(⟨([]:List Int)⟩:S29)])) else (none)) else (some (x183000,x183001,true))
def spec_Build.l1:Nat→List (S76)→Int→Int→Int→Int→Int→List (S29)→Option (Int × (List (S29)) × Bool)
 | 0,_,_,_,_,_,_,_=>none
 | k+1,x0,x1,x2,x9,x10,x183000,x183001=>if x10 < x2 then (if 0≤x9 then (if x9 < (x183001.length:Int) then ((spec_Best.f k x183000 x183001 ((rd_T29 x183001 x9).f0) x0).bind fun t187=>(if ((rd_T29 x183001 x9).f0).length < 17592186044416 then (spec_Build.l1 k x0 x1 x2 x9 (wrap64 (x10+1)) x183000 (x183001.set (x9:Int).toNat (⟨(((rd_T29 x183001 x9).f0) ++ [t187])⟩:S29))) else (none))) else (none)) else (none)) else (spec_Build.l0 k x0 x1 x2 (wrap64 (x9+1)) x183000 x183001)
end
def spec_Build.f (k:Nat) (l0:List (S76)) (a1:Int) (a2:Int):Option (Int × (List (S29)) × Bool):=(spec_DevsOk.f k l0).bind fun t179=>(if t179=true then ((spec_l1In.f a1 1 64).bind fun t180=>(if t180=true then ((spec_l1In.f a2 1 5).bind fun t181=>(if t181=true then (spec_Build.j0 k l0 a1 a2 (decide (a2 > (l0.length:Int)))) else (spec_Build.j0 k l0 a1 a2 true))) else (spec_Build.j0 k l0 a1 a2 true))) else (spec_Build.j0 k l0 a1 a2 true))
def spec_Build.T11:Bool × List (List Nat × List Nat):=(true,[([],[]),([],[]),([1],[1]),([],[]),([2,3],[2,3]),([4],[4]),([],[]),([0,5,6],[0,5,6]),([7,7,0,1,2,3,4,5,6,7],[7])])
def spec_Build.B11:List Nat:=[0,0,2,0,14,30,0,127,255]
theorem spec_Build.tab11:rtab .any (opsOf Try.f60 11)=spec_Build.T11:=by kernel_rfl
theorem spec_Build.bits11:waitsOk spec_Build.T11.2 spec_Build.B11=true:=by kernel_rfl
def spec_Build.T12:Bool × List (List Nat × List Nat):=(true,[([],[]),([0],[0]),([],[]),([],[]),([3],[3]),([],[]),([4,5],[4,5]),([6],[6]),([7],[7]),([],[]),([9],[9]),([8,10],[8,10]),([1,2,0,1,2,3,4,5,6,7,8,9,10,11],[1,2]),([12,0,1,2,3,4,5,6,7,8,9,10,11],[12]),([13,11,11,0,1,2,3,4,5,6,7,8,9,10,11],[11,13])])
def spec_Build.B12:List Nat:=[0,1,0,0,8,0,56,120,248,0,512,2040,4095,8191,16383]
theorem spec_Build.tab12:rtab .any (opsOf Try.f60 12)=spec_Build.T12:=by kernel_rfl
theorem spec_Build.bits12:waitsOk spec_Build.T12.2 spec_Build.B12=true:=by kernel_rfl
set_option maxHeartbeats 8000000 in
set_option maxRecDepth 100000 in
theorem spec_Build.calls (k:Nat) (A0:Option Addr) (c0:Nat) (l0:List (S76)) (a1:Int) (a2:Int) (r1:Int) (r2:List (S29)) (r3:Bool) (w:World) (hr0:Kd.C k76 w A0 l0.length l0) (hc0:l0.length≤c0) (h:spec_Build.f k l0 a1 a2=some (r1,r2,r3)) :
  Calls Try.prog 60 #[.slice A0 l0.length c0,.int .i64 a1,.int .i64 a2] w fun e w'=>∃ v1_:Value,e = .returned (.tuple #[.agg #[.int .i64 r1,v1_],.bool r3])∧Kd.S k29 29 w' w.heap.size (fun _=>True) v1_ r2∧Below w.heap.size w w':=by
 have hu43:=Try.underlying43
 have hu29:=Try.underlying29
 have HR0:=Aside0.mk hr0
 have HC0:=Aside0.mk hc0
 clear hr0 hc0
 have HB:=Aside0.mk (Below.refl w.heap.size w)
 have H:((spec_DevsOk.f k l0).bind fun t179=>(if t179=true then ((spec_l1In.f a1 1 64).bind fun t180=>(if t180=true then ((spec_l1In.f a2 1 5).bind fun t181=>(if t181=true then (spec_Build.j0 k l0 a1 a2 (decide (a2 > (l0.length:Int)))) else (spec_Build.j0 k l0 a1 a2 true))) else (spec_Build.j0 k l0 a1 a2 true))) else (spec_Build.j0 k l0 a1 a2 true)))=some (r1,r2,r3):=h
 clear h
 have HC4:=Aside0.mk H
 clear H
 go_enter Try.func60,Try.ntmps60
 go_upto_region 1 with (first|((with_reducible refine gate_dst (N:=6) rfl ?_);(try (refine gate_guard (by rfl) ?_;dsimp only));refine box_event ?hg (N:=6) ?hd (cs:=#[.int .i64 0,.slice none 0 0]) (t:=43) ?hr ?_;(case hd=>rfl);(case hg=>rfl);(case hr=>first|(go_simp;done)|(go_simp;rfl));intro gb178 hg w5 hbox hb;have n0_:=bs hb;have n1_:=Aside0.mk (hbox);have n2_:=Aside0.mk ((by rw [hg];exact (below_size be):w.heap.size≤gb178));have n3_:=Aside0.mk ((by rw [hg];exact (below_size be):w.heap.size≤gb178));clear HB;have HB:=n0_;have BK178:=n1_;have GW178:=n2_;have GE178:=n3_;clear n0_ n1_ n2_ n3_;clear hb hbox hg))
 (try simp only [Act.put,List.setIfInBounds_toArray,List.set_cons_zero,List.set_cons_succ])
 go_cut [30] (fun v30 wc=>∃ (kq:Nat) (x30_3:Bool),v30 = .bool x30_3∧Aside0 (spec_Build.j0 kq l0 a1 a2 x30_3=some (r1,r2,r3))∧Aside0 (kq≤k)∧Aside0 (wc.heap[gb178]?=some (.cells #[.int .i64 0,(.slice none 0 0)] 43 (0,0)))∧Aside0 (Below w.heap.size w wc))
 case first=>
  have H:=HC4.out
  clear HC4
  replace H:=Option.bind_eq_some_iff.mp H
  obtain ⟨t179,A60,H⟩:=H
  try dsimp only at H
  have A6:=Aside0.mk A60
  clear A60
  by_cases c7:t179=true
  ·subst c7
   rw [if_pos rfl] at H
   replace H:=Option.bind_eq_some_iff.mp H
   obtain ⟨t180,A80,H⟩:=H
   try dsimp only at H
   have A8:=Aside0.mk A80
   clear A80
   by_cases c9:t180=true
   ·subst c9
    rw [if_pos rfl] at H
    replace H:=Option.bind_eq_some_iff.mp H
    obtain ⟨t181,A100,H⟩:=H
    try dsimp only at H
    have A10:=Aside0.mk A100
    clear A100
    by_cases c11:t181=true
    ·subst c11
     rw [if_pos rfl] at H
     have H':=Aside0.mk H
     clear H
     go_wp2_with (first|((with_reducible refine gate_callee (f:=49) rfl ?_);refine goesL_ (some 13) rfl rfl Try.func49 (by kernel_rfl) rfl #[.slice A0 l0.length c0] rfl (by (try simp only [List.map_toArray,List.map_cons,List.map_nil]);first|done|rfl|(simp only [List.length_drop,List.length_take];rfl)) ?_;(with_reducible refine (spec_DevsOk.calls k _ _ l0 true _ ?side1 ?side2 A6.out).mono ?_);(case side1=>exact rC HR0);(case side2=>exact HC0.out);rintro e w12 ⟨rfl,hb⟩;refine ⟨_,rfl,?_⟩;have n0_:=Aside0.mk (blk_below (g:=gb178) (o:=.cells #[.int .i64 0,.slice none 0 0] 43 (0,0)) (bk BK178) hb);have n1_:=bs hb;clear BK178;clear HB;have BK178:=n0_;have HB:=n1_;clear n0_ n1_;(try clear hb);(try clear hb2);(try clear hk);(try clear hi))|(go_at_call 97;(with_reducible refine (spec_l1In.calls a1 1 64 true _ A8.out).mono ?_);rintro e w' ⟨rfl,⟨nd,rfl⟩⟩)|(go_at_call 97;(with_reducible refine (spec_l1In.calls a2 1 5 true _ A10.out).mono ?_);rintro e w' ⟨rfl,⟨nd,rfl⟩⟩))
     go_meet
     case rel=>exact ⟨_,(decide (a2 > (l0.length:Int))),rd_,H',⟨by first|omega|exact Nat.le_refl _⟩,⟨bk BK178⟩,⟨be⟩⟩
    ·replace c11:=Bool.eq_false_iff.mpr c11
     subst c11
     replace H:=(if_neg (show ¬ (false=true) by decide)).symm.trans H
     have H':=Aside0.mk H
     clear H
     go_wp2_with (first|((with_reducible refine gate_callee (f:=49) rfl ?_);refine goesL_ (some 13) rfl rfl Try.func49 (by kernel_rfl) rfl #[.slice A0 l0.length c0] rfl (by (try simp only [List.map_toArray,List.map_cons,List.map_nil]);first|done|rfl|(simp only [List.length_drop,List.length_take];rfl)) ?_;(with_reducible refine (spec_DevsOk.calls k _ _ l0 true _ ?side1 ?side2 A6.out).mono ?_);(case side1=>exact rC HR0);(case side2=>exact HC0.out);rintro e w13 ⟨rfl,hb⟩;refine ⟨_,rfl,?_⟩;have n0_:=Aside0.mk (blk_below (g:=gb178) (o:=.cells #[.int .i64 0,.slice none 0 0] 43 (0,0)) (bk BK178) hb);have n1_:=bs hb;clear BK178;clear HB;have BK178:=n0_;have HB:=n1_;clear n0_ n1_;(try clear hb);(try clear hb2);(try clear hk);(try clear hi))|(go_at_call 97;(with_reducible refine (spec_l1In.calls a1 1 64 true _ A8.out).mono ?_);rintro e w' ⟨rfl,⟨nd,rfl⟩⟩)|(go_at_call 97;(with_reducible refine (spec_l1In.calls a2 1 5 false _ A10.out).mono ?_);rintro e w' ⟨rfl,⟨nd,rfl⟩⟩))
     go_meet
     case rel=>exact ⟨_,(true),rd_,H',⟨by first|omega|exact Nat.le_refl _⟩,⟨bk BK178⟩,⟨be⟩⟩
   ·replace c9:=Bool.eq_false_iff.mpr c9
    subst c9
    replace H:=(if_neg (show ¬ (false=true) by decide)).symm.trans H
    have H':=Aside0.mk H
    clear H
    go_wp2_with (first|((with_reducible refine gate_callee (f:=49) rfl ?_);refine goesL_ (some 13) rfl rfl Try.func49 (by kernel_rfl) rfl #[.slice A0 l0.length c0] rfl (by (try simp only [List.map_toArray,List.map_cons,List.map_nil]);first|done|rfl|(simp only [List.length_drop,List.length_take];rfl)) ?_;(with_reducible refine (spec_DevsOk.calls k _ _ l0 true _ ?side1 ?side2 A6.out).mono ?_);(case side1=>exact rC HR0);(case side2=>exact HC0.out);rintro e w14 ⟨rfl,hb⟩;refine ⟨_,rfl,?_⟩;have n0_:=Aside0.mk (blk_below (g:=gb178) (o:=.cells #[.int .i64 0,.slice none 0 0] 43 (0,0)) (bk BK178) hb);have n1_:=bs hb;clear BK178;clear HB;have BK178:=n0_;have HB:=n1_;clear n0_ n1_;(try clear hb);(try clear hb2);(try clear hk);(try clear hi))|(go_at_call 97;(with_reducible refine (spec_l1In.calls a1 1 64 false _ A8.out).mono ?_);rintro e w' ⟨rfl,⟨nd,rfl⟩⟩))
    go_meet
    case rel=>exact ⟨_,(true),rd_,H',⟨by first|omega|exact Nat.le_refl _⟩,⟨bk BK178⟩,⟨be⟩⟩
  ·replace c7:=Bool.eq_false_iff.mpr c7
   subst c7
   replace H:=(if_neg (show ¬ (false=true) by decide)).symm.trans H
   have H':=Aside0.mk H
   clear H
   go_wp2_with (first|((with_reducible refine gate_callee (f:=49) rfl ?_);refine goesL_ (some 13) rfl rfl Try.func49 (by kernel_rfl) rfl #[.slice A0 l0.length c0] rfl (by (try simp only [List.map_toArray,List.map_cons,List.map_nil]);first|done|rfl|(simp only [List.length_drop,List.length_take];rfl)) ?_;(with_reducible refine (spec_DevsOk.calls k _ _ l0 false _ ?side1 ?side2 A6.out).mono ?_);(case side1=>exact rC HR0);(case side2=>exact HC0.out);rintro e w15 ⟨rfl,hb⟩;refine ⟨_,rfl,?_⟩;have n0_:=Aside0.mk (blk_below (g:=gb178) (o:=.cells #[.int .i64 0,.slice none 0 0] 43 (0,0)) (bk BK178) hb);have n1_:=bs hb;clear BK178;clear HB;have BK178:=n0_;have HB:=n1_;clear n0_ n1_;(try clear hb);(try clear hb2);(try clear hk);(try clear hi)))
   go_meet
   case rel=>exact ⟨_,(true),rd_,H',⟨by first|omega|exact Nat.le_refl _⟩,⟨bk BK178⟩,⟨be⟩⟩
 case rest=>
  clear HC4
  try clear c1
  try clear p2
  try clear c4
  try clear c6
  try clear c7
  try clear c9
  try clear c11
  obtain ⟨kq,x30_3,rfl,HA,HJ3,BK178,HB⟩:=hcut
  cases kq with
  | zero=>exact absurd HA.out (by simp [spec_Build.j0])
  | succ kj3=>
   have H:=HA.out
   clear HA
   simp only [spec_Build.j0] at H
   by_cases c16:x30_3=true
   ·subst c16
    rw [if_pos rfl] at H
    simp only [Option.some.injEq,Prod.mk.injEq] at H
    obtain ⟨rfl,rfl,rfl⟩:=H
    have hcz17_0:wc.cell? ⟨gb178,0,none⟩=some (.int .i64 0):=(blk_cell BK178.out 0).trans rfl
    have hcz17_1:wc.cell? ⟨gb178,1,none⟩=some (.slice none 0 0):=(blk_cell BK178.out 1).trans rfl
    have hfz17_0:=blk_frozen BK178.out 0
    have hfz17_1:=blk_frozen BK178.out 1
    go_wp2
    refine bodyPost_ret (results_ct rfl _ _ gb178 43 #[.int .i64 0,.slice none 0 0] (0,0) _ rfl (by (with_reducible repeat (first|refine blk_drewN ?_ _|refine blk_drew ?_|refine blk_alloc ?_ _));refine blk_put (cs:=#[.int .i64 0,.slice none 0 0]) ?_ 1 _ rfl;(with_reducible repeat (first|refine blk_drewN ?_ _|refine blk_drew ?_|refine blk_alloc ?_ _));refine blk_put (cs:=#[.int .i64 0,.slice none 0 0]) ?_ 0 _ rfl;(with_reducible repeat (first|refine blk_drewN ?_ _|refine blk_drew ?_|refine blk_alloc ?_ _));exact BK178.out) Try.underlying43 rfl (by kernel_rfl)) rfl ?_
    exact ⟨_,rz,by first|exact Kd.S_nil _ _ _ _ _|exact Kd.N_nil _ _ _ _ _|exact Kd.V_nil _ _ _ _ _|exact Kd.Q_nil _ _ _ _ _|exact Kd.R_nil _ _ _ _ _,be⟩
   ·replace c16:=Bool.eq_false_iff.mpr c16
    subst c16
    replace H:=(if_neg (show ¬ (false=true) by decide)).symm.trans H
    have H':=Aside0.mk H
    clear H
    go_wp2_with (first|((with_reducible refine gate_dst (N:=8) rfl ?_);(try (refine gate_guard (by rfl) ?_;dsimp only));refine box_event ?hg (N:=8) ?hd (cs:=#[.int .i64 0,.slice none 0 0]) (t:=43) ?hr ?_;(case hd=>rfl);(case hg=>rfl);(case hr=>first|(go_simp;done)|(go_simp;rfl));intro gb182 hg w18 hbox hb;have n0_:=Aside0.mk (blk_below (g:=gb178) (o:=.cells #[.int .i64 0,.slice none 0 0] 43 (0,0)) (bk BK178) hb);have n1_:=bs hb;have n2_:=Aside0.mk (hbox);have n3_:=Aside0.mk ((by rw [hg];exact (below_size be):w.heap.size≤gb182));have n4_:=Aside0.mk ((by rw [hg];exact (below_size be):w.heap.size≤gb182));have n5_:=Aside0.mk ((by rw [hg];exact Nat.ne_of_lt (blk_lt (g:=gb178) (o:=.cells #[.int .i64 0,.slice none 0 0] 43 (0,0)) (bk BK178)):gb178 ≠ gb182));have n6_:=Aside0.mk ((by rw [hg];exact Nat.ne_of_gt (blk_lt (g:=gb178) (o:=.cells #[.int .i64 0,.slice none 0 0] 43 (0,0)) (bk BK178)):gb182 ≠ gb178));clear BK178;clear HB;have BK178:=n0_;have HB:=n1_;have BK182:=n2_;have GW182:=n3_;have GE182:=n4_;have NB178_182:=n5_;have NB182_178:=n6_;clear n0_ n1_ n2_ n3_ n4_ n5_ n6_;clear hb hbox hg;have hnb19:=NB182_178.out;have hnc19:=NB178_182.out;have hcz20_0:w18.cell? ⟨gb182,0,none⟩=some (.int .i64 0):=(blk_cell BK182.out 0).trans rfl;have hcz20_1:w18.cell? ⟨gb182,1,none⟩=some (.slice none 0 0):=(blk_cell BK182.out 1).trans rfl;have hfz20_0:=blk_frozen BK182.out 0;have hfz20_1:=blk_frozen BK182.out 1))
    go_loopg [9] kj3 (fun kq v9 w'=>∃ (x9_2:Int) (x183001_2:List (S29)) (u183001:Value),v9 = .int .i64 x9_2∧Aside0 (spec_Build.l0 kq l0 a1 a2 x9_2 a2 x183001_2=some (r1,r2,r3))∧Aside0 (kq≤kj3)∧Aside0 (Kd.S k29 29 w' w.heap.size (fun _=>True) u183001 x183001_2)∧Aside0 (w'.heap[gb178]?=some (.cells #[.int .i64 0,(.slice none 0 0)] 43 (0,0)))∧Aside0 (w'.heap[gb182]?=some (.cells #[.int .i64 a2,u183001] 43 (0,0)))∧Aside0 (Below w.heap.size w w'))
    case atStart=>exact ⟨(0),(([]:List (S29))),(.slice none 0 0),rd_,H',⟨Nat.le_refl _⟩,⟨by first|exact Kd.S_nil _ _ _ _ _|exact Kd.N_nil _ _ _ _ _|exact Kd.V_nil _ _ _ _ _|exact Kd.Q_nil _ _ _ _ _|exact Kd.R_nil _ _ _ _ _⟩,⟨by (with_reducible repeat (first|refine blk_drewN ?_ _|refine blk_drew ?_|refine blk_alloc ?_ _));refine blk_far ?_ NB178_182.out _;(with_reducible repeat (first|refine blk_drewN ?_ _|refine blk_drew ?_|refine blk_alloc ?_ _));refine blk_far ?_ NB178_182.out _;(with_reducible repeat (first|refine blk_drewN ?_ _|refine blk_drew ?_|refine blk_alloc ?_ _));exact BK178.out⟩,⟨by (with_reducible repeat (first|refine blk_drewN ?_ _|refine blk_drew ?_|refine blk_alloc ?_ _));refine blk_put (cs:=#[.int .i64 a2,.slice none 0 0]) ?_ 1 _ rfl;(with_reducible repeat (first|refine blk_drewN ?_ _|refine blk_drew ?_|refine blk_alloc ?_ _));refine blk_put (cs:=#[.int .i64 0,.slice none 0 0]) ?_ 0 _ rfl;(with_reducible repeat (first|refine blk_drewN ?_ _|refine blk_drew ?_|refine blk_alloc ?_ _));exact BK182.out⟩,⟨be⟩⟩
    case round=>
     clear H'
     try clear c1
     try clear p2
     try clear c4
     try clear c6
     try clear c7
     try clear c9
     try clear c11
     try clear c16
     try clear c19
     try clear hcz17_0
     try clear hcz17_1
     try clear hcz20_0
     try clear hcz20_1
     try clear hfz17_0
     try clear hfz17_1
     try clear hfz20_0
     try clear hfz20_1
     try clear p2
     obtain ⟨x9_2,x183001_2,u183001,rfl,HA,HK2,HO_183001,BK178,BK182,HB⟩:=hrel
     cases gk with
     | zero=>exact absurd HA.out (by simp [spec_Build.l0])
     | succ k2=>
      have H:=HA.out
      clear HA
      simp only [spec_Build.l0] at H
      by_cases c21:x9_2 < a1
      ·rw [if_pos c21] at H
       have c21b0:decide (x9_2 < a1)=true:=decide_eq_true c21
       clear c21
       by_cases c22:x183001_2.length < 5864062014805
       ·rw [if_pos c22] at H
        have LMc22:=Aside0.mk c22
        clear c22
        obtain ⟨y183,hy183⟩ : ∃ y_:List (S29),y_=(x183001_2 ++ [(⟨([]:List Int)⟩:S29)]):=⟨_,rfl⟩
        replace H:(spec_Build.l1 k2 l0 a1 a2 x9_2 0 a2 y183)=some (r1,r2,r3):=by first|(rw [hy183];with_reducible exact H)|(have H2_:=(Option.bind_some _ _).symm.trans H;rw [hy183];with_reducible exact H2_)|(have H2_:=(Option.bind_some _ _).symm.trans H;with_reducible exact H2_)|with_reducible exact H|(rw [hy183];exact H)|exact H
        have Ny183:=Aside0.mk hy183
        clear hy183
        have H':=Aside0.mk H
        clear H
        have hnb23:=NB182_178.out
        have hnc23:=NB178_182.out
        have hcz24_0:wr.cell? ⟨gb182,0,none⟩=some (.int .i64 a2):=(blk_cell BK182.out 0).trans rfl
        have hcz24_1:wr.cell? ⟨gb182,1,none⟩=some (u183001):=(blk_cell BK182.out 1).trans rfl
        have hfz24_0:=blk_frozen BK182.out 0
        have hfz24_1:=blk_frozen BK182.out 1
        go_wp2_with (first|((with_reducible refine gate_builtin (b:=.append) (xs:=#[.tmp 40,.tmp 42]) rfl ?_);(try (refine gate_guard (by rfl) ?_;dsimp only));at_builtin;refine Kd.S_append k29 (w0:=w) w.heap.size rfl (.tmp 40) (.tmp 42) 41 29 (.agg #[(.slice none 0 0)]) 24 rfl Try.underlying41 info29 rfl (by decide) (by omega) u183001 x183001_2 (⟨([]:List Int)⟩:S29) [.slice none 0 0] (fun _=>True) (fun _=>False) rfl rfl ?aP (fun k_ hk_=>hk_.elim) ?aF ?aO ?aB ?aS ?aL ?_;(case aP=>exact k29_mkM _ _ _ (⟨([]:List Int)⟩:S29) (Kd.R_nil _ _ _ _ _));(case aB=>exact be);(case aF=>exact (fun _ _=>trivial));(case aO=>exact (by (with_reducible repeat (first|apply Kd.S_alloc|apply Kd.S_drewN|apply Kd.S_drew));exact Kd.S_mono HO_183001.out (fun k_ hk=>⟨trivial,fun e_=>e_⟩)));(case aS=>exact (below_size be));(case aL=>have:=LMc22.out;omega);intro v184 w25 ho hb hg hat;rw [← Ny183.out] at ho;have n0_:=Aside0.mk (blk_grown (g:=gb178) (o:=.cells #[.int .i64 0,.slice none 0 0] 43 (0,0)) (bk BK178) hg (Kd.S_ne HO_183001.out BK178.out (by decide)));have n1_:=Aside0.mk (blk_grown (g:=gb182) (o:=.cells #[.int .i64 a2,u183001] 43 (0,0)) (bk BK182) hg (Kd.S_ne HO_183001.out BK182.out (by decide)));have n2_:=Aside0.mk (hb);have n3_:=Aside0.mk (ho);clear BK178;clear BK182;clear HB;clear HO_183001;have BK178:=n0_;have BK182:=n1_;have HB:=n2_;have HO185:=n3_;clear n0_ n1_ n2_ n3_;clear ho hb hg hat;obtain ⟨Ao26,co26,eo26⟩:=Kd.S_slice HO185.out;subst eo26;have hcz27_0:w25.cell? ⟨gb182,0,none⟩=some (.int .i64 a2):=(blk_cell BK182.out 0).trans rfl;have hcz27_1:w25.cell? ⟨gb182,1,none⟩=some (u183001):=(blk_cell BK182.out 1).trans rfl;have hfz27_0:=blk_frozen BK182.out 0;have hfz27_1:=blk_frozen BK182.out 1))
        go_loopg [10] k2 (fun kq v10 w'=>∃ (x10_3:Int) (x183001_3:List (S29)) (u183001:Value),v10 = .int .i64 x10_3∧Aside0 (spec_Build.l1 kq l0 a1 a2 x9_2 x10_3 a2 x183001_3=some (r1,r2,r3))∧Aside0 (kq≤k2)∧Aside0 (Kd.S k29 29 w' w.heap.size (fun _=>True) u183001 x183001_3)∧Aside0 (w'.heap[gb178]?=some (.cells #[.int .i64 0,(.slice none 0 0)] 43 (0,0)))∧Aside0 (w'.heap[gb182]?=some (.cells #[.int .i64 a2,u183001] 43 (0,0)))∧Aside0 (Below w.heap.size w w'))
        case atStart=>exact ⟨(0),(y183),(.slice Ao26 y183.length co26),rd_,H',⟨Nat.le_refl _⟩,⟨by (with_reducible repeat (first|apply Kd.S_alloc|apply Kd.S_drewN|apply Kd.S_drew));exact Kd.S_mono (Kd.S_far (p:=⟨gb182,1,none⟩) (Kd.S_types HO185.out BK182.out (by decide)) (fun _ hk=>hk.2) (.slice Ao26 y183.length co26)) (fun _ hk=>trivial)⟩,⟨by (with_reducible repeat (first|refine blk_drewN ?_ _|refine blk_drew ?_|refine blk_alloc ?_ _));refine blk_far ?_ NB178_182.out _;(with_reducible repeat (first|refine blk_drewN ?_ _|refine blk_drew ?_|refine blk_alloc ?_ _));exact BK178.out⟩,⟨by (with_reducible repeat (first|refine blk_drewN ?_ _|refine blk_drew ?_|refine blk_alloc ?_ _));refine blk_put (cs:=#[.int .i64 a2,u183001]) ?_ 1 _ rfl;(with_reducible repeat (first|refine blk_drewN ?_ _|refine blk_drew ?_|refine blk_alloc ?_ _));exact BK182.out⟩,⟨be⟩⟩
        case round=>
         clear H'
         try clear c1
         try clear c2
         try clear p2
         try clear c4
         try clear c6
         try clear c7
         try clear c9
         try clear c11
         try clear c16
         try clear c19
         try clear c21
         try clear c21b0
         try clear c22
         try clear c23
         try clear hcz17_0
         try clear hcz17_1
         try clear hcz20_0
         try clear hcz20_1
         try clear hcz24_0
         try clear hcz24_1
         try clear hcz27_0
         try clear hcz27_1
         try clear hfz17_0
         try clear hfz17_1
         try clear hfz20_0
         try clear hfz20_1
         try clear hfz24_0
         try clear hfz24_1
         try clear hfz27_0
         try clear hfz27_1
         try clear p2
         obtain ⟨x10_3,x183001_3,u183001,rfl,HA,HK3,HO_183001,BK178,BK182,HB⟩:=hrel
         cases gk with
         | zero=>exact absurd HA.out (by simp [spec_Build.l1])
         | succ k3=>
          have H:=HA.out
          clear HA
          simp only [spec_Build.l1] at H
          by_cases c28:x10_3 < a2
          ·rw [if_pos c28] at H
           have c28b0:decide (x10_3 < a2)=true:=decide_eq_true c28
           clear c28
           by_cases c29:0≤x9_2
           ·rw [if_pos c29] at H
            have c29b0:decide (0≤x9_2)=true:=decide_eq_true c29
            clear c29
            by_cases c30:x9_2 < (x183001_3.length:Int)
            ·rw [if_pos c30] at H
             have c30b0:decide (x9_2 < (x183001_3.length:Int))=true:=decide_eq_true c30
             clear c30
             replace H:=Option.bind_eq_some_iff.mp H
             obtain ⟨t187,A310,H⟩:=H
             try dsimp only at H
             have A31:=Aside0.mk A310
             clear A310
             by_cases c32:((rd_T29 x183001_3 x9_2).f0).length < 17592186044416
             ·rw [if_pos c32] at H
              have LMc32:=Aside0.mk c32
              clear c32
              obtain ⟨y189,hy189⟩ : ∃ y_:List Int,y_=(((rd_T29 x183001_3 x9_2).f0) ++ [t187]):=⟨_,rfl⟩
              replace H:(spec_Build.l1 k3 l0 a1 a2 x9_2 (wrap64 (x10_3+1)) a2 (x183001_3.set (x9_2:Int).toNat (⟨y189⟩:S29)))=some (r1,r2,r3):=by first|(rw [hy189];with_reducible exact H)|(have H2_:=(Option.bind_some _ _).symm.trans H;rw [hy189];with_reducible exact H2_)|(have H2_:=(Option.bind_some _ _).symm.trans H;with_reducible exact H2_)|with_reducible exact H|(rw [hy189];exact H)|exact H
              have Ny189:=Aside0.mk hy189
              clear hy189
              obtain ⟨y192,hy192⟩ : ∃ y_:List (S29),y_=(x183001_3.set (x9_2:Int).toNat (⟨y189⟩:S29)):=⟨_,rfl⟩
              replace H:(spec_Build.l1 k3 l0 a1 a2 x9_2 (wrap64 (x10_3+1)) a2 y192)=some (r1,r2,r3):=by first|(rw [hy192];with_reducible exact H)|(have H2_:=(Option.bind_some _ _).symm.trans H;rw [hy192];with_reducible exact H2_)|(have H2_:=(Option.bind_some _ _).symm.trans H;with_reducible exact H2_)|with_reducible exact H|(rw [hy192];exact H)|exact H
              have Ny192:=Aside0.mk hy192
              clear hy192
              have H':=Aside0.mk H
              clear H
              try go_wp2
              have n0_:=Aside0.mk (Kd.S_drew HO_183001.out);have n1_:=Aside0.mk (blk_drew BK178.out);have n2_:=Aside0.mk (blk_drew BK182.out);have n3_:=Aside0.mk (below_drew1 HB.out);clear HO_183001 BK178 BK182 HB;have HO_183001:=n0_;have BK178:=n1_;have BK182:=n2_;have HB:=n3_;clear n0_ n1_ n2_ n3_
              obtain ⟨Ao35,co35,eo35⟩:=Kd.S_slice HO_183001.out
              (first|subst eo35|(injection eo35 with f1_ f2_ f3_;have f4_:=f1_.symm;have f5_:=f3_.symm;clear f1_ f2_ f3_;subst f4_;subst f5_))
              have p186:0≤(x9_2:Int):=of_decide_eq_true (by first|(with_reducible assumption)|assumption)
              have q186:x9_2 < (x183001_3.length:Int):=of_decide_eq_true (by first|(with_reducible assumption)|assumption)
              obtain ⟨ad186,A186_0,c186_0,e186,hx186_0,hl186_0,hi186_0⟩:=at_T29 (Kd.S_reads' HO_183001.out).2.2 x9_2 p186 q186
              cases e186
              obtain ⟨ce186,hce186,hMe186,hcc186⟩:=Kd.S_get HO_183001.out z29 x9_2 p186 (by first|exact q186|exact of_decide_eq_true (by first|(with_reducible assumption)|assumption)|(have e_:=(Kd.S_reads' HO_183001.out).1;omega))
              obtain ⟨ve186_0,rfl,ge186_0⟩:=k29_openM hMe186
              have hv186_0:=hcc186 0 _ rfl
              rw [Nat.add_zero,show (k29).sz=1 from rfl,Nat.mul_one] at hv186_0
              replace hv186_0:=Option.some.inj (hv186_0.symm.trans hx186_0)
              rw [hv186_0] at ge186_0
              have HL186_0:=Aside0.mk (show Kd.R (Kd.int .i64) 3 _ _ _ _ ((rd_T29 x183001_3 x9_2).f0) from ge186_0)
              clear hv186_0 ge186_0
              have HX186_0:=Aside0.mk hx186_0
              clear hcc186 hce186
              have HR186_0:=Aside0.mk hi186_0
              have HC186_0:=Aside0.mk hl186_0
              clear hi186_0 hl186_0
              replace p186:=eq_true p186
              replace q186:=eq_true q186
              refine start_ (n:=9) (S:=fun w'=>w'.cell? ⟨gb182,0,none⟩=some (.int .i64 a2)∧w'.cell? ⟨gb182,1,none⟩=some (.slice (some ad186) x183001_3.length co35)∧w'.cell? (ad186.add (x9_2).toNat)=some (.slice A186_0 ((rd_T29 x183001_3 x9_2).f0).length c186_0)) (ds:=[]) (fl 9 0) (by kernel_rfl) rfl rfl ⟨(blk_cell BK182.out 0).trans rfl,(blk_cell BK182.out 1).trans rfl,hx186_0⟩ (fun hHeld=>?_);refine with_tabW spec_Build.tab11 spec_Build.bits11 (fun HT_ HW_=>?_)
              generalize wr.drew=w34 at HO_183001 BK178 BK182 HB HL186_0 HR186_0 HX186_0 hx186_0 hHeld ⊢
              refine pt 1 51 (fl 9 2) HT_ ?_
              refine pt 3 53 (fl 9 10) HT_ ?_
              refine pt 6 56 (fl 9 74) HT_ ?_
              refine tt 0 50 (fl 9 75) HT_ HW_ hHeld ?_
              refine tt 2 52 (fl 9 79) HT_ HW_ hHeld ?_
              refine pt 4 54 (fl 9 95) HT_ ?_
              refine tt 5 55 (fl 9 127) HT_ HW_ hHeld ?_
              refine ot 7 (some 57) (fl 9 255) HT_ (fun K hK=>?_)
              refine goes_ Try.func48 (by kernel_rfl) rfl #[.agg #[.int .i64 a2,.slice (some ad186) x183001_3.length co35],.agg #[.slice A186_0 ((rd_T29 x183001_3 x9_2).f0).length c186_0],.slice A0 l0.length c0] (by rfl) rfl rfl (by (try simp only [List.map_toArray,List.map_cons,List.map_nil]);first|done|rfl|(simp only [List.length_drop,List.length_take];rfl)) ?_
              with_reducible refine (spec_Best.calls k3 a2 _ _ x183001_3 _ _ ((rd_T29 x183001_3 x9_2).f0) _ _ l0 t187 _ ?side1 ?side2 ?side3 ?side4 ?side5 ?side6 A31.out).mono ?_
              (case side1=>exact sS HO_183001)
              (case side2=>exact (Kd.S_reads' HO_183001.out).2.1)
              (case side3=>repeat (first|exact (by repeat (first|(with_reducible exact HR186_0.out)|(with_reducible refine Kd.C_alloc ?_ _)|(with_reducible refine Kd.C_drewN ?_ _)|(with_reducible refine Kd.C_drew ?_)|exact HR186_0.out))|(with_reducible refine Kd.C_alloc ?_ _)|(with_reducible refine Kd.C_drewN ?_ _)|(with_reducible refine Kd.C_drew ?_)))
              (case side4=>exact HC186_0.out)
              (case side5=>exact rC HR0)
              (case side6=>exact HC0.out)
              rintro e w36 ⟨rfl,hb⟩
              have HS2_:=(hb.cell (World.block_lt_of_cell? _ _ (hHeld.2.2))).trans (hHeld.2.2)
              refine ⟨_,rfl,?_⟩
              have n0_:=Aside0.mk (Kd.S_below ((rS HO_183001)) hb);have n1_:=Aside0.mk (Kd.R_below ((by (with_reducible repeat (first|apply Kd.R_alloc|apply Kd.R_drewN|apply Kd.R_drew));exact HL186_0.out)) hb);have n2_:=Aside0.mk (blk_below (bk BK178) hb);have n3_:=Aside0.mk (blk_below (bk BK182) hb);have n4_:=Aside0.mk (Kd.C_below (by repeat (first|(with_reducible exact HR186_0.out)|(with_reducible refine Kd.C_alloc ?_ _)|(with_reducible refine Kd.C_drewN ?_ _)|(with_reducible refine Kd.C_drew ?_)|exact HR186_0.out)) hb);have n5_:=Aside0.mk (pw_cell_below hb HX186_0.out);have n6_:=bs hb;clear HO_183001 HL186_0 BK178 BK182 HR186_0 HX186_0 HB;have HO_183001:=n0_;have HL186_0:=n1_;have BK178:=n2_;have BK182:=n3_;have HR186_0:=n4_;have HX186_0:=n5_;have HB:=n6_;clear n0_ n1_ n2_ n3_ n4_ n5_ n6_;(try clear hb);(try clear hb2);(try clear hk);(try clear hi)
              refine hK.out _ _ ⟨(blk_cell BK182.out 0).trans rfl,(blk_cell BK182.out 1).trans rfl,HS2_⟩ (fun hHeld=>?_)
              clear hK K
              refine no 57 ?_
              refine pt 8 11 (fl 9 511) HT_ ?_
              refine done_ (done_of HT_.out (by kernel_rfl)) ?_
              try go_wp2
              have n0_:=Aside0.mk (Kd.S_drew HO_183001.out);have n1_:=Aside0.mk (Kd.R_drew HL186_0.out);have n2_:=Aside0.mk (blk_drew BK178.out);have n3_:=Aside0.mk (blk_drew BK182.out);have n4_:=Aside0.mk (Kd.C_drew HR186_0.out);have n5_:=Aside0.mk (below_drew1 HB.out);clear HO_183001 HL186_0 BK178 BK182 HR186_0 HB;have HO_183001:=n0_;have HL186_0:=n1_;have BK178:=n2_;have BK182:=n3_;have HR186_0:=n4_;have HB:=n5_;clear n0_ n1_ n2_ n3_ n4_ n5_
              have p188:0≤(x9_2:Int):=of_decide_eq_true (by first|(with_reducible assumption)|assumption)
              have q188:x9_2 < (x183001_3.length:Int):=of_decide_eq_true (by first|(with_reducible assumption)|assumption)
              obtain ⟨ad188,A188_0,c188_0,e188,hx188_0,hl188_0,hi188_0⟩:=at_T29 (Kd.S_reads' HO_183001.out).2.2 x9_2 p188 q188
              obtain rfl:ad186=ad188:=(by injection e188)
              obtain ⟨ce188,hce188,hMe188,hcc188⟩:=Kd.S_get HO_183001.out z29 x9_2 p188 (by first|exact q188|exact of_decide_eq_true (by first|(with_reducible assumption)|assumption)|(have e_:=(Kd.S_reads' HO_183001.out).1;omega))
              obtain ⟨ve188_0,rfl,ge188_0⟩:=k29_openM hMe188
              have hv188_0:=hcc188 0 _ rfl
              rw [Nat.add_zero,show (k29).sz=1 from rfl,Nat.mul_one] at hv188_0
              replace hv188_0:=Option.some.inj (hv188_0.symm.trans hx188_0)
              rw [hv188_0] at ge188_0
              have HL188_0:=Aside0.mk (show Kd.R (Kd.int .i64) 3 _ _ _ _ ((rd_T29 x183001_3 x9_2).f0) from ge188_0)
              clear hv188_0 ge188_0
              have HX188_0:=Aside0.mk hx188_0
              clear hcc188 hce188
              have HR188_0:=Aside0.mk hi188_0
              have HC188_0:=Aside0.mk hl188_0
              clear hi188_0 hl188_0
              replace p188:=eq_true p188
              replace q188:=eq_true q188
              obtain ⟨go38,co38,eo38,gb38,gl38,cl38,HG38⟩:=Kd.S_form HO_183001.out (by have h_:(x9_2:Int) < ((x183001_3.length:Int):Int):=of_decide_eq_true (by first|(with_reducible assumption)|assumption);have h2_:0≤(x9_2:Int):=(of_decide_eq_true (by first|(with_reducible assumption)|assumption));omega)
              (first|cases eo38|(injection eo38 with ea_ en_ ec_;(first|subst ea_|(injection ea_ with ea_;subst ea_));subst ec_;clear en_))
              have GB38:=Aside0.mk gb38
              have GG38:=Aside0.mk HG38
              clear gb38 gl38 HG38
              (first|simp only [add_plain] at hx186_0|skip)
              (first|simp only [add_plain] at hx188_0|skip)
              obtain ⟨oki38,ce38,hcl38,hM38,hcc38,_,_,hH38⟩:=Kd.S_elem HO_183001.out z29 (x9_2:Int) (of_decide_eq_true (by first|(with_reducible assumption)|assumption)) (by have h_:(x9_2:Int) < ((x183001_3.length:Int):Int):=of_decide_eq_true (by first|(with_reducible assumption)|assumption);first|exact h_|(have e_:=(Kd.S_reads' HO_183001.out).1;omega)|simpa using h_)
              obtain ⟨ve38_0,rfl,ge38_0⟩:=k29_openM hM38
              have hv38:=hcc38 0 _ rfl
              have hX38:=HX188_0.out
              (try simp only [add_plain] at hX38)
              (try simp only [Nat.add_zero] at hv38)
              (try rw [show (k29).sz=1 from rfl,Nat.mul_one] at hv38)
              replace hv38:=Option.some.inj (hv38.symm.trans hX38)
              subst hv38
              clear hX38 hcc38 hcl38
              have UU38:=Aside0.mk (show Kd.R (Kd.int .i64) 3 _ w.heap.size oki38 (.slice A188_0 ((rd_T29 x183001_3 x9_2).f0).length c188_0) ((rd_T29 x183001_3 x9_2).f0) from ge38_0)
              have HH38:=Aside0.mk hH38
              have HN38:=Aside0.mk (Kd.S_reads' HO_183001.out).1
              clear hH38 ge38_0
              refine start_ (n:=15) (S:=fun w'=>w'.cell? ⟨gb182,0,none⟩=some (.int .i64 a2)∧w'.cell? ⟨gb182,1,none⟩=some (.slice (some ⟨go38,0,none⟩) x183001_3.length co35)∧w'.cell? ⟨go38,(x9_2).toNat,none⟩=some (.slice A188_0 ((rd_T29 x183001_3 x9_2).f0).length c188_0)) (ds:=[14]) (fl 15 0) (by kernel_rfl) rfl rfl ⟨(blk_cell BK182.out 0).trans rfl,(blk_cell BK182.out 1).trans rfl,hx188_0⟩ (fun hHeld=>?_);refine with_tabW spec_Build.tab12 spec_Build.bits12 (fun HT_ HW_=>?_)
              generalize w36.drew=w37 at HO_183001 HL186_0 BK178 BK182 HR186_0 HB GG38 HH38 HL188_0 HR188_0 HX188_0 UU38 hx186_0 hx188_0 hHeld ⊢
              refine pt 0 58 (fl 15 1) HT_ ?_
              refine pt 2 60 (fl 15 5) HT_ ?_
              refine pt 3 61 (fl 15 13) HT_ ?_
              refine pt 5 63 (fl 15 45) HT_ ?_
              refine pt 9 67 (fl 15 557) HT_ ?_
              refine tt 1 59 (fl 15 559) HT_ HW_ hHeld ?_
              refine tt 4 62 (fl 15 575) HT_ HW_ hHeld ?_
              refine pt 6 64 (fl 15 639) HT_ ?_
              refine pt 7 65 (fl 15 767) HT_ ?_
              refine tt 8 66 (fl 15 1023) HT_ HW_ hHeld ?_
              refine ot 10 (some 68) (fl 15 2047) HT_ (fun K hK=>?_)
              refine value_ (w1:=?_) (v:=?_) (by rfl) rfl ?_ ?_
              rotate_left 2
              ·go_simp
               constructor
               ·rfl
               ·rfl
              refine hK.out _ _ ⟨(blk_cell (blk_alloc BK182.out _) 0).trans rfl,(blk_cell (blk_alloc BK182.out _) 1).trans rfl,(World.cell?_alloc_lt _ _ _ (World.block_lt_of_cell? _ _ (hHeld.2.2))).trans (hHeld.2.2)⟩ (fun hHeld=>?_)
              clear hK K
              refine no 68 ?_
              refine ot 11 (some 69) (fl 15 4095) HT_ (fun K hK=>?_)
              refine Kd.R_append_step (Kd.int .i64) (w0:=w) w.heap.size (by rfl) (.tmp 66) (.tmp 68) 22 3 (.int .i64 0) 8 rfl Try.underlying22 info3 rfl (by decide) (by omega) (.slice A188_0 ((rd_T29 x183001_3 x9_2).f0).length c188_0) ((rd_T29 x183001_3 x9_2).f0) t187 [.int .i64 t187] (fun k_=>oki38 k_ ∨ ((fun _=>True)) k_∧w37.heap.size≤k_) (fun _=>False) rfl rfl ?aP (fun _ hk=>hk.elim) ?aF ?aO ?aB ?aS ?aL ?_
              (case aP=>exact rfl)
              (case aB=>exact be)
              (case aF=>exact (fun k_ hk=>.inr ⟨trivial,hk⟩))
              (case aO=>exact (by (with_reducible repeat (first|apply Kd.R_alloc|apply Kd.R_drewN|apply Kd.R_drew));exact Kd.R_mono UU38.out (fun _ hk=>.inl hk)))
              (case aS=>exact (below_size be))
              (case aL=>have:=LMc32.out;omega)
              intro v190 w39 ho hb hg hat
              (first|have HS2_:=cell_grown hg (hHeld.2.2) (by first|(rw [add_block];exact (fun e_=>((HL188_0.out.1 _ e_.symm).2) rfl))|(show some (Addr.add _ _).block ≠ _;rw [add_block];exact (fun e_=>((HL188_0.out.1 _ e_.symm).2) rfl))|exact (fun e_=>((HL188_0.out.1 _ e_.symm).2) rfl))|have HS2_:=cell_grown hg (cell_unalloc (hHeld.2.2) (by first|(rw [add_block];exact Kd.S_lt HO_183001.out _ rfl)|(show (Addr.add _ _).block < _;rw [add_block];exact Kd.S_lt HO_183001.out _ rfl)|exact Kd.S_lt HO_183001.out _ rfl)) (by first|(rw [add_block];exact (fun e_=>((HL188_0.out.1 _ e_.symm).2) rfl))|(show some (Addr.add _ _).block ≠ _;rw [add_block];exact (fun e_=>((HL188_0.out.1 _ e_.symm).2) rfl))|exact (fun e_=>((HL188_0.out.1 _ e_.symm).2) rfl)))
              rw [← Ny189.out] at ho
              have n0_:=Aside0.mk (blk_grown (g:=gb178) (o:=.cells #[.int .i64 0,.slice none 0 0] 43 (0,0)) (bk BK178) hg (Kd.R_ne HL188_0.out BK178.out (by decide)));have n1_:=Aside0.mk (blk_grown (g:=gb182) (o:=.cells #[.int .i64 a2,.slice (some ⟨go38,0,none⟩) x183001_3.length co35] 43 (0,0)) (bk BK182) hg (Kd.R_ne HL188_0.out BK182.out (by decide)));have n2_:=Aside0.mk (hb);have n3_:=Aside0.mk (Kd.H_grown (Kd.H_widen (by repeat (first|exact HH38.out|refine Kd.H_alloc ?_ _|refine Kd.H_drewN ?_ _|refine Kd.H_drew ?_))) hg (fun k_ e_=>.inl (UU38.out.1 k_ e_)));have n4_:=Aside0.mk (ho);clear BK178 BK182 HB HH38 HO_183001 UU38 HL186_0 HL188_0;have BK178:=n0_;have BK182:=n1_;have HB:=n2_;have HH38:=n3_;have HO191:=n4_;clear n0_ n1_ n2_ n3_ n4_ ho hb hg hat
              have p33:0≤(x9_2:Int):=of_decide_eq_true (by first|(with_reducible assumption)|assumption)
              have q33:(x9_2:Int) < ((x183001_3.length:Int):Int):=of_decide_eq_true (by first|(with_reducible assumption)|assumption)
              replace p33:=eq_true p33
              replace q33:=eq_true q33
              obtain ⟨Ao42,co42,eo42⟩:=Kd.R_slice HO191.out
              (first|subst eo42|(injection eo42 with f1_ f2_ f3_;have f4_:=f1_.symm;have f5_:=f3_.symm;clear f1_ f2_ f3_;subst f4_;subst f5_))
              obtain ⟨_,_,hraw40,_,_,hcc40,_⟩:=Kd.H_raw HH38.out (of_decide_eq_true (by first|(with_reducible assumption)|assumption)) (by have h_:(x9_2:Int) < ((x183001_3.length:Int):Int):=of_decide_eq_true (by first|(with_reducible assumption)|assumption);first|exact h_|(have e_:=(HN38.out);omega)|simpa using h_)
              obtain ⟨_,hfr40⟩:=Kd.H_at HH38.out (of_decide_eq_true (by first|(with_reducible assumption)|assumption)) (by have h_:(x9_2:Int) < ((x183001_3.length:Int):Int):=of_decide_eq_true (by first|(with_reducible assumption)|assumption);first|exact h_|(have e_:=(HN38.out);omega)|simpa using h_)
              have hx40_0:=hcc40 0 _ rfl
              have hf40_0:=hfr40 0
              (try simp only [Nat.add_zero] at hx40_0 hf40_0)
              (try rw [show (k29).sz=1 from rfl,Nat.mul_one] at hx40_0)
              (try rw [show (k29).sz=1 from rfl,Nat.mul_one] at hf40_0)
              have HP40:=Kd.S_seg0 HH38.out (of_decide_eq_true (by first|(with_reducible assumption)|assumption)) (by have h_:(x9_2:Int) < ((x183001_3.length:Int):Int):=of_decide_eq_true (by first|(with_reducible assumption)|assumption);first|exact h_|(have e_:=(HN38.out);omega)|simpa using h_) (seg:=[.slice Ao42 y189.length co42]) (j:=0) (show 1≤1 from by decide) (x':=(⟨y189⟩:S29)) (k29_mkM _ _ _ (⟨y189⟩:S29) HO191.out) (fun _ hk=>hk)
              (try simp only [show (k29).sz=1 from rfl,Nat.mul_one,Nat.add_zero] at HP40)
              clear hcc40 hfr40
              have HNB178_go38:=Aside0.mk (show gb178 ≠ go38 from by have h_:=Kd.R_ne hraw40 BK178.out (by decide);intro e_;exact h_ (by rw [e_];rfl))
              have HNB182_go38:=Aside0.mk (show gb182 ≠ go38 from by have h_:=Kd.R_ne hraw40 BK182.out (by decide);intro e_;exact h_ (by rw [e_];rfl))
              have HS40:=HP40.1
              rw [← Ny192.out] at HS40
              have HQ40:=Aside0.mk HS40
              obtain ⟨_,hgg40⟩:=Kd.R_typed hraw40 go38 rfl
              have GG40_:=Aside0.mk hgg40
              clear HP40 HS40 hgg40
              refine hK.out _ _ ⟨(blk_cell BK182.out 0).trans rfl,(blk_cell BK182.out 1).trans rfl,HS2_⟩ (fun hHeld=>?_)
              clear hK K
              refine no 69 ?_
              refine pt 12 70 (fl 15 8191) HT_ ?_
              refine pt 13 71 (fl 15 16383) HT_ ?_
              refine last_ (i:=14) (N:=none) (fl 15 32767) rfl rfl (one_of HT_.out (by kernel_rfl)) (by decide) (fun K hK=>?_)
              refine skip_ (w1:=?_) (by rfl) rfl ?_ ?_
              rotate_left
              ·go_simp
               rfl
              refine hK.out _ _ ?_
              clear hK K
              refine done_ (done_of HT_.out (by kernel_rfl)) ?_
              try go_wp2
              go_roundg k3
              case measure=>have:=HJ3.out;have:=HK2.out;have:=HK3.out;omega
              case rel=>exact ⟨(wrap64 (x10_3+1)),(y192),(.slice (some ⟨go38,0,none⟩) x183001_3.length co35),rd_,H',⟨by have:=HJ3.out;have:=HK2.out;have:=HK3.out;omega⟩,⟨by (with_reducible repeat (first|apply Kd.S_alloc|apply Kd.S_drewN|apply Kd.S_drew));exact HQ40.out⟩,⟨by (with_reducible repeat (first|refine blk_drewN ?_ _|refine blk_drew ?_|refine blk_alloc ?_ _));refine blk_far ?_ HNB178_go38.out _;(with_reducible repeat (first|refine blk_drewN ?_ _|refine blk_drew ?_|refine blk_alloc ?_ _));exact BK178.out⟩,⟨by (with_reducible repeat (first|refine blk_drewN ?_ _|refine blk_drew ?_|refine blk_alloc ?_ _));refine blk_far ?_ HNB182_go38.out _;(with_reducible repeat (first|refine blk_drewN ?_ _|refine blk_drew ?_|refine blk_alloc ?_ _));exact BK182.out⟩,⟨be⟩⟩
             ·rw [if_neg c32] at H
              exact absurd H (by simp)
            ·rw [if_neg c30] at H
             exact absurd H (by simp)
           ·rw [if_neg c29] at H
            exact absurd H (by simp)
          ·rw [if_neg c28] at H
           have c28b0:decide (x10_3 < a2)=false:=decide_eq_false c28
           clear c28
           have H':=Aside0.mk H
           clear H
           go_wp2
           go_roundg k3
           case measure=>have:=HJ3.out;have:=HK2.out;have:=HK3.out;omega
           case rel=>exact ⟨(wrap64 (x9_2+1)),(x183001_3),(u183001),rd_,H',⟨by have:=HJ3.out;have:=HK2.out;have:=HK3.out;omega⟩,⟨rS HO_183001⟩,⟨bk BK178⟩,⟨bk BK182⟩,⟨be⟩⟩
       ·rw [if_neg c22] at H
        exact absurd H (by simp)
      ·rw [if_neg c21] at H
       have c21b0:decide (x9_2 < a1)=false:=decide_eq_false c21
       clear c21
       simp only [Option.some.injEq,Prod.mk.injEq] at H
       obtain ⟨rfl,rfl,rfl⟩:=H
       have hnb43:=NB182_178.out
       have hnc43:=NB178_182.out
       have hcz44_0:wr.cell? ⟨gb182,0,none⟩=some (.int .i64 a2):=(blk_cell BK182.out 0).trans rfl
       have hcz44_1:wr.cell? ⟨gb182,1,none⟩=some (u183001):=(blk_cell BK182.out 1).trans rfl
       have hfz44_0:=blk_frozen BK182.out 0
       have hfz44_1:=blk_frozen BK182.out 1
       have hcz45_0:wr.cell? ⟨gb178,0,none⟩=some (.int .i64 0):=(blk_cell BK178.out 0).trans rfl
       have hcz45_1:wr.cell? ⟨gb178,1,none⟩=some (.slice none 0 0):=(blk_cell BK178.out 1).trans rfl
       have hfz45_0:=blk_frozen BK178.out 0
       have hfz45_1:=blk_frozen BK178.out 1
       obtain ⟨Ao46,co46,eo46⟩:=Kd.S_slice HO_183001.out
       subst eo46
       go_wp2
       refine bodyPost_ret (results_ct rfl _ _ gb178 43 #[.int .i64 a2,.slice Ao46 x183001_2.length co46] (0,0) _ rfl (by (with_reducible repeat (first|refine blk_drewN ?_ _|refine blk_drew ?_|refine blk_alloc ?_ _));refine blk_put (cs:=#[.int .i64 a2,.slice none 0 0]) ?_ 1 _ rfl;(with_reducible repeat (first|refine blk_drewN ?_ _|refine blk_drew ?_|refine blk_alloc ?_ _));refine blk_put (cs:=#[.int .i64 0,.slice none 0 0]) ?_ 0 _ rfl;(with_reducible repeat (first|refine blk_drewN ?_ _|refine blk_drew ?_|refine blk_alloc ?_ _));exact BK178.out) Try.underlying43 rfl (by kernel_rfl)) rfl ?_
       exact ⟨_,rz,by (with_reducible repeat (first|apply Kd.S_alloc|apply Kd.S_drewN|apply Kd.S_drew));exact Kd.S_mono (Kd.S_far (p:=⟨gb178,1,none⟩) (Kd.S_far (p:=⟨gb178,0,none⟩) (Kd.S_types HO_183001.out BK178.out (by decide)) (fun _ hk=>hk.2) (.int .i64 a2)) (fun _ hk=>hk.2) (.slice Ao46 x183001_2.length co46)) (fun _ hk=>trivial),be⟩
def spec_l1Int.f (s0_0:List Int) (s0_1:Int) (s0_2:Int) (l1:List Int):Option (Int × Int × Int):=(spec_l1Below.f s0_0 s0_1 s0_2 (l1.length:Int)).bind fun bt193=>(if 0≤bt193.1 then (if bt193.1 < (l1.length:Int) then (some (rd l1 bt193.1,bt193.2.1,bt193.2.2)) else (none)) else (none))
set_option maxHeartbeats 8000000 in
set_option maxRecDepth 100000 in
theorem spec_l1Int.calls (g:Nat) (s0_0:List Int) (s0_1:Int) (s0_2:Int) (A1:Option Addr) (c1:Nat) (l1:List Int) (r1:Int) (r2:Int) (r3:Int) (w0 w:World) (hI:IsS142 w0 w g s0_0 s0_1 s0_2) (hB:Below w0.heap.size w0 w) (hr1:Kd.C (Kd.int .i64) w A1 l1.length l1) (hc1:l1.length≤c1) (hf1 : ∀ ad,A1=some ad→0 < l1.length→ad.block ≠ g) (h:spec_l1Int.f s0_0 s0_1 s0_2 l1=some (r1,r2,r3)) :
  Calls Try.prog 124 #[.pointer (some ⟨g,0,none⟩),.slice A1 l1.length c1] w fun e w'=>e = .returned (.int .i64 r1)∧IsS142 w0 w' g s0_0 r2 r3∧Below w0.heap.size w0 w' ∧ KeepBut w w' g none:=by
 have HR1:=Aside0.mk hr1
 have HC1:=Aside0.mk hc1
 clear hr1 hc1
 have HI0:=Aside0.mk hI
 have HK:=Aside0.mk (KeepBut.refl w g none)
 have HL:=Aside0.mk hB.size
 clear hI
 have HW0:=Aside0.mk hB.size
 have HB:=Aside0.mk hB
 clear hB
 have H:((spec_l1Below.f s0_0 s0_1 s0_2 (l1.length:Int)).bind fun bt193=>(if 0≤bt193.1 then (if bt193.1 < (l1.length:Int) then (some (rd l1 bt193.1,bt193.2.1,bt193.2.2)) else (none)) else (none)))=some (r1,r2,r3):=h
 clear h
 replace H:=Option.bind_eq_some_iff.mp H
 obtain ⟨⟨t193,t194,t195⟩,A30,H⟩:=H
 try dsimp only at H
 have A3:=Aside0.mk A30
 clear A30
 by_cases c4:0≤t193
 ·rw [if_pos c4] at H
  have c4b0:decide (0≤t193)=true:=decide_eq_true c4
  clear c4
  by_cases c5:t193 < (l1.length:Int)
  ·rw [if_pos c5] at H
   have c5b0:decide (t193 < (l1.length:Int))=true:=decide_eq_true c5
   clear c5
   simp only [Option.some.injEq,Prod.mk.injEq] at H
   obtain ⟨rfl,rfl,rfl⟩:=H
   go_enter Try.func124,Try.ntmps124
   go_wp2_with (first|((with_reducible refine gate_callee (f:=105) rfl ?_);refine goesL_ (some 9) rfl rfl Try.func105 (by kernel_rfl) rfl #[.pointer (some ⟨g,0,none⟩),.int .i64 (l1.length:Int)] rfl (by (try simp only [List.map_toArray,List.map_cons,List.map_nil]);first|done|rfl|(simp only [List.length_drop,List.length_take];rfl)) ?_;(with_reducible refine (spec_l1Below.calls g s0_0 s0_1 s0_2 (l1.length:Int) t193 t194 t195 w0 _ ?side1 ?side2 A3.out).mono ?_);(case side1=>repeat (first|(with_reducible first|exact HI0.out|apply IsS142.alloc|apply IsS142.drewN|apply IsS142.drew|apply IsS142.set_1|apply IsS142.set_2)|exact HI0.out));(case side2=>repeat (first|(with_reducible first|exact HB.out|apply below_alloc|apply pw_below_drewN|apply below_drew1|refine below_set ?_ (IsS142.ge HI0.out))|exact HB.out));rintro e w6 ⟨rfl,hi,hb,hk⟩;refine ⟨_,rfl,?_⟩;have n0_:=Aside0.mk (KeepBut.trans (by repeat (first|(with_reducible first|exact HK.out|apply KeepBut.set_|apply keep_drewN|apply keep_drew|apply keep_alloc)|exact HK.out)) hk (.inl rfl));have n1_:=Aside0.mk (hb);have n2_:=Aside0.mk (hi);clear HK;clear HB;clear HI0;have HK:=n0_;have HB:=n1_;have HI0:=n2_;clear n0_ n1_ n2_;(try clear hb);(try clear hb2);(try clear hk);(try clear hi);have p196:0≤(t193:Int):=of_decide_eq_true (by first|(with_reducible assumption)|assumption);have q196:t193 < (l1.length:Int):=of_decide_eq_true (by first|(with_reducible assumption)|assumption);obtain ⟨ad196,e196,hx196_0⟩:=Kd.at_int HR1.out t193 p196 q196;cases e196;replace hx196_0:=keep_cell HK.out hx196_0 (by first|(rw [add_block];exact hf1 _ rfl (by omega))|exact hf1 _ rfl (by omega)|exact hf1 ad196 rfl (by omega));replace p196:=eq_true p196;replace q196:=eq_true q196))
   go_ret
   exact ⟨rz,by repeat (first|(with_reducible first|exact HI0.out|apply IsS142.alloc|apply IsS142.drewN|apply IsS142.drew|apply IsS142.set_1|apply IsS142.set_2)|exact HI0.out),by repeat (first|(with_reducible first|exact HB.out|apply below_alloc|apply pw_below_drewN|apply below_drew1|refine below_set ?_ (IsS142.ge HI0.out))|exact HB.out),by repeat (first|(with_reducible first|exact HK.out|apply KeepBut.set_|apply keep_drewN|apply keep_drew|apply keep_alloc)|exact HK.out)⟩
  ·rw [if_neg c5] at H
   exact absurd H (by simp)
 ·rw [if_neg c4] at H
  exact absurd H (by simp)
def spec_l4Draw.l0:Nat→List (S76)→Int→Int→Int→List Int→Int→Int→Option ((List (S76)) × Int × Int)
 | 0,_,_,_,_,_,_,_=>none
 | k+1,x3,x4,x5,x6,x1000,x1001,x1002=>if x6 > 0 then ((spec_l1Int.f x1000 x1001 x1002 (([1,1,2]:List Int))).bind fun bt209=>((spec_l1Below.f x1000 bt209.2.1 bt209.2.2 x4).bind fun bt212=>((spec_l1Int.f x1000 bt212.2.1 bt212.2.2 (([1,1,1,2,10,100]:List Int))).bind fun bt218=>(if x3.length < 5864062014805 then (spec_l4Draw.l0 k (x3 ++ [(⟨wrap64 (x5+bt209.1),bt212.1,bt218.1⟩:S76)]) x4 (wrap64 (x5+bt209.1)) (wrap64 (x6 - 1)) x1000 bt218.2.1 bt218.2.2) else (none))))) else (some (x3,x1001,x1002))
def spec_l4Draw.f (k:Nat) (s0_0:List Int) (s0_1:Int) (s0_2:Int):Option ((List (S76)) × Int × Int):=(spec_l1Below.f s0_0 s0_1 s0_2 4).bind fun bt200=>((spec_l1Below.f s0_0 bt200.2.1 bt200.2.2 5).bind fun bt203=>(spec_l4Draw.l0 k (([]:List (S76))) (wrap64 (1+bt200.1)) 0 (wrap64 (2+bt203.1)) s0_0 bt203.2.1 bt203.2.2))
set_option maxHeartbeats 8000000 in
set_option maxRecDepth 100000 in
theorem spec_l4Draw.calls (k:Nat) (g:Nat) (s0_0:List Int) (s0_1:Int) (s0_2:Int) (r1:List (S76)) (r2:Int) (r3:Int) (w0 w:World) (hI:IsS142 w0 w g s0_0 s0_1 s0_2) (hB:Below w0.heap.size w0 w) (h:spec_l4Draw.f k s0_0 s0_1 s0_2=some (r1,r2,r3)) :
  Calls Try.prog 134 #[.pointer (some ⟨g,0,none⟩)] w fun e w'=>∃ v0_:Value,e = .returned (v0_)∧Kd.R k76 76 w' w.heap.size (fun _=>True) v0_ r1∧IsS142 w0 w' g s0_0 r2 r3∧Below w0.heap.size w0 w' ∧ KeepBut w w' g none:=by
 have hu76:=Try.underlying76
 have HI0:=Aside0.mk hI
 have HK:=Aside0.mk (KeepBut.refl w g none)
 have HL:=Aside0.mk hB.size
 clear hI
 have HW0:=Aside0.mk hB.size
 have HB:=Aside0.mk hB
 clear hB
 have H:((spec_l1Below.f s0_0 s0_1 s0_2 4).bind fun bt200=>((spec_l1Below.f s0_0 bt200.2.1 bt200.2.2 5).bind fun bt203=>(spec_l4Draw.l0 k (([]:List (S76))) (wrap64 (1+bt200.1)) 0 (wrap64 (2+bt203.1)) s0_0 bt203.2.1 bt203.2.2)))=some (r1,r2,r3):=h
 clear h
 obtain ⟨y197,hy197⟩ : ∃ y_:List (S76),y_=(([]:List (S76))):=⟨_,rfl⟩
 replace H:((spec_l1Below.f s0_0 s0_1 s0_2 4).bind fun bt200=>((spec_l1Below.f s0_0 bt200.2.1 bt200.2.2 5).bind fun bt203=>(spec_l4Draw.l0 k y197 (wrap64 (1+bt200.1)) 0 (wrap64 (2+bt203.1)) s0_0 bt203.2.1 bt203.2.2)))=some (r1,r2,r3):=by first|(rw [hy197];with_reducible exact H)|(have H2_:=(Option.bind_some _ _).symm.trans H;rw [hy197];with_reducible exact H2_)|(have H2_:=(Option.bind_some _ _).symm.trans H;with_reducible exact H2_)|with_reducible exact H|(rw [hy197];exact H)|exact H
 have Ny197:=Aside0.mk hy197
 clear hy197
 replace H:=Option.bind_eq_some_iff.mp H
 obtain ⟨⟨t200,t201,t202⟩,A20,H⟩:=H
 try dsimp only at H
 have A2:=Aside0.mk A20
 clear A20
 replace H:=Option.bind_eq_some_iff.mp H
 obtain ⟨⟨t203,t204,t205⟩,A30,H⟩:=H
 try dsimp only at H
 have A3:=Aside0.mk A30
 clear A30
 have H':=Aside0.mk H
 clear H
 go_enter Try.func134,Try.ntmps134
 go_wp2_with (first|((with_reducible refine gate_dst (N:=7) rfl ?_);refine Kd.R_lit k76 _ 76 ?hg (N:=7) ?hd (xs:=([]:List (S76))) (inner:=[]) (ok:=fun _=>True) (okp:=fun _=>True) ?hr ?hp (fun _ hk=>hk) trivial (Below.refl _ _) (Nat.le_refl _) (by simp) ?_;(case hd=>rfl);(case hg=>rfl);(case hr=>first|(go_simp;done)|(go_simp;rfl));(case hp=>exact (Reps.none _ _));intro v198 w4 ho5 hb hg_ hnew_;clear hg_ hnew_;(first|rw [← Ny197.out] at ho5|(simp only [Int.reduceToNat] at ho5;rw [← Ny197.out] at ho5));have n0_:=Aside0.mk (Kd.R_lower ho5 (keep_size (w:=w) (g:=g) (row:=none) (by repeat (first|(with_reducible first|exact HK.out|apply KeepBut.set_|apply keep_drewN|apply keep_drew|apply keep_alloc)|exact HK.out))));have n1_:=Aside0.mk (IsS142.below (by repeat (first|(with_reducible first|exact HI0.out|apply IsS142.alloc|apply IsS142.drewN|apply IsS142.drew|apply IsS142.set_1|apply IsS142.set_2)|exact HI0.out)) hb);have n2_:=Aside0.mk (KeepBut.trans (by repeat (first|(with_reducible first|exact HK.out|apply KeepBut.set_|apply keep_drewN|apply keep_drew|apply keep_alloc)|exact HK.out)) (KeepBut.of_below hb g none) (.inl rfl));have n3_:=Aside0.mk (below_step (by repeat (first|(with_reducible first|exact HB.out|apply below_alloc|apply pw_below_drewN|apply below_drew1|refine below_set ?_ (IsS142.ge HI0.out))|exact HB.out)) hb);clear HI0;clear HK;clear HB;have HO199:=n0_;have HI0:=n1_;have HK:=n2_;have HB:=n3_;clear n0_ n1_ n2_ n3_;clear hb ho5)|((with_reducible refine gate_callee (f:=105) rfl ?_);refine goesL_ (some 9) rfl rfl Try.func105 (by kernel_rfl) rfl #[.pointer (some ⟨g,0,none⟩),.int .i64 4] rfl (by (try simp only [List.map_toArray,List.map_cons,List.map_nil]);first|done|rfl|(simp only [List.length_drop,List.length_take];rfl)) ?_;(with_reducible refine (spec_l1Below.calls g s0_0 s0_1 s0_2 4 t200 t201 t202 w0 _ ?side1 ?side2 A2.out).mono ?_);(case side1=>repeat (first|(with_reducible first|exact HI0.out|apply IsS142.alloc|apply IsS142.drewN|apply IsS142.drew|apply IsS142.set_1|apply IsS142.set_2)|exact HI0.out));(case side2=>repeat (first|(with_reducible first|exact HB.out|apply below_alloc|apply pw_below_drewN|apply below_drew1|refine below_set ?_ (IsS142.ge HI0.out))|exact HB.out));rintro e w6 ⟨rfl,hi,hb,hk⟩;refine ⟨_,rfl,?_⟩;have n0_:=Aside0.mk (Kd.R_mono (Kd.R_keep (IsS142.apart (show IsS142 w0 _ g s0_0 s0_1 s0_2 from by repeat (first|(with_reducible first|exact HI0.out|apply IsS142.alloc|apply IsS142.drewN|apply IsS142.drew|apply IsS142.set_1|apply IsS142.set_2)|exact HI0.out)) (rR HO199) (by decide)) hk (fun _ h=>h.2)) (fun _ h=>h.1));have n1_:=Aside0.mk (KeepBut.trans (by repeat (first|(with_reducible first|exact HK.out|apply KeepBut.set_|apply keep_drewN|apply keep_drew|apply keep_alloc)|exact HK.out)) hk (.inl rfl));have n2_:=Aside0.mk (hb);have n3_:=Aside0.mk (hi);clear HO199;clear HK;clear HB;clear HI0;have HO199:=n0_;have HK:=n1_;have HB:=n2_;have HI0:=n3_;clear n0_ n1_ n2_ n3_;(try clear hb);(try clear hb2);(try clear hk);(try clear hi))|((with_reducible refine gate_callee (f:=105) rfl ?_);refine goesL_ (some 12) rfl rfl Try.func105 (by kernel_rfl) rfl #[.pointer (some ⟨g,0,none⟩),.int .i64 5] rfl (by (try simp only [List.map_toArray,List.map_cons,List.map_nil]);first|done|rfl|(simp only [List.length_drop,List.length_take];rfl)) ?_;(with_reducible refine (spec_l1Below.calls g s0_0 t201 t202 5 t203 t204 t205 w0 _ ?side1 ?side2 A3.out).mono ?_);(case side1=>repeat (first|(with_reducible first|exact HI0.out|apply IsS142.alloc|apply IsS142.drewN|apply IsS142.drew|apply IsS142.set_1|apply IsS142.set_2)|exact HI0.out));(case side2=>repeat (first|(with_reducible first|exact HB.out|apply below_alloc|apply pw_below_drewN|apply below_drew1|refine below_set ?_ (IsS142.ge HI0.out))|exact HB.out));rintro e w7 ⟨rfl,hi,hb,hk⟩;refine ⟨_,rfl,?_⟩;have n0_:=Aside0.mk (Kd.R_mono (Kd.R_keep (IsS142.apart (show IsS142 w0 _ g s0_0 t201 t202 from by repeat (first|(with_reducible first|exact HI0.out|apply IsS142.alloc|apply IsS142.drewN|apply IsS142.drew|apply IsS142.set_1|apply IsS142.set_2)|exact HI0.out)) (rR HO199) (by decide)) hk (fun _ h=>h.2)) (fun _ h=>h.1));have n1_:=Aside0.mk (KeepBut.trans (by repeat (first|(with_reducible first|exact HK.out|apply KeepBut.set_|apply keep_drewN|apply keep_drew|apply keep_alloc)|exact HK.out)) hk (.inl rfl));have n2_:=Aside0.mk (hb);have n3_:=Aside0.mk (hi);clear HO199;clear HK;clear HB;clear HI0;have HO199:=n0_;have HK:=n1_;have HB:=n2_;have HI0:=n3_;clear n0_ n1_ n2_ n3_;(try clear hb);(try clear hb2);(try clear hk);(try clear hi)))
 go_loopg [3,5,6] k (fun kq v3 v5 v6 w'=>∃ (x3_1:List (S76)) (x5_1:Int) (x6_1:Int) (x1001_1:Int) (x1002_1:Int),v5 = .int .i64 x5_1∧v6 = .int .i64 x6_1∧Aside0 (spec_l4Draw.l0 kq x3_1 (wrap64 (1+t200)) x5_1 x6_1 s0_0 x1001_1 x1002_1=some (r1,r2,r3))∧Aside0 (kq≤k)∧Aside0 (Kd.R k76 76 w' w.heap.size (fun _=>True) v3 x3_1)∧Aside0 (IsS142 w0 w' g s0_0 x1001_1 x1002_1)∧Aside0 (KeepBut w w' g none)∧Aside0 (Below w0.heap.size w0 w'))
 case atStart=>exact ⟨(y197),(0),(wrap64 (2+t203)),(t204),(t205),rd_,rd_,H',⟨Nat.le_refl _⟩,⟨rR HO199⟩,⟨by repeat (first|(with_reducible first|exact HI0.out|apply IsS142.alloc|apply IsS142.drewN|apply IsS142.drew|apply IsS142.set_1|apply IsS142.set_2)|exact HI0.out)⟩,⟨by repeat (first|(with_reducible first|exact HK.out|apply KeepBut.set_|apply keep_drewN|apply keep_drew|apply keep_alloc)|exact HK.out)⟩,⟨by repeat (first|(with_reducible first|exact HB.out|apply below_alloc|apply pw_below_drewN|apply below_drew1|refine below_set ?_ (IsS142.ge HI0.out))|exact HB.out)⟩⟩
 case round=>
  clear H'
  try clear c1
  try clear p2
  try clear p6
  obtain ⟨x3_1,x5_1,x6_1,x1001_1,x1002_1,rfl,rfl,HA,HK1,HO_3,HI0,HK,HB⟩:=hrel
  cases gk with
  | zero=>exact absurd HA.out (by simp [spec_l4Draw.l0])
  | succ k1=>
   have H:=HA.out
   clear HA
   simp only [spec_l4Draw.l0] at H
   by_cases c8:x6_1 > 0
   ·rw [if_pos c8] at H
    have c8b0:decide (0 < x6_1)=true:=decide_eq_true c8
    clear c8
    obtain ⟨y206,hy206⟩ : ∃ y_:List Int,y_=(([1,1,2]:List Int)):=⟨_,rfl⟩
    replace H:((spec_l1Int.f s0_0 x1001_1 x1002_1 y206).bind fun bt209=>((spec_l1Below.f s0_0 bt209.2.1 bt209.2.2 (wrap64 (1+t200))).bind fun bt212=>((spec_l1Int.f s0_0 bt212.2.1 bt212.2.2 (([1,1,1,2,10,100]:List Int))).bind fun bt218=>(if x3_1.length < 5864062014805 then (spec_l4Draw.l0 k1 (x3_1 ++ [(⟨wrap64 (x5_1+bt209.1),bt212.1,bt218.1⟩:S76)]) (wrap64 (1+t200)) (wrap64 (x5_1+bt209.1)) (wrap64 (x6_1 - 1)) s0_0 bt218.2.1 bt218.2.2) else (none)))))=some (r1,r2,r3):=by first|(rw [hy206];with_reducible exact H)|(have H2_:=(Option.bind_some _ _).symm.trans H;rw [hy206];with_reducible exact H2_)|(have H2_:=(Option.bind_some _ _).symm.trans H;with_reducible exact H2_)|with_reducible exact H|(rw [hy206];exact H)|exact H
    have Ny206:=Aside0.mk hy206
    clear hy206
    replace H:=Option.bind_eq_some_iff.mp H
    obtain ⟨⟨t209,t210,t211⟩,A90,H⟩:=H
    try dsimp only at H
    have A9:=Aside0.mk A90
    clear A90
    replace H:=Option.bind_eq_some_iff.mp H
    obtain ⟨⟨t212,t213,t214⟩,A100,H⟩:=H
    try dsimp only at H
    have A10:=Aside0.mk A100
    clear A100
    obtain ⟨y215,hy215⟩ : ∃ y_:List Int,y_=(([1,1,1,2,10,100]:List Int)):=⟨_,rfl⟩
    replace H:((spec_l1Int.f s0_0 t213 t214 y215).bind fun bt218=>(if x3_1.length < 5864062014805 then (spec_l4Draw.l0 k1 (x3_1 ++ [(⟨wrap64 (x5_1+t209),t212,bt218.1⟩:S76)]) (wrap64 (1+t200)) (wrap64 (x5_1+t209)) (wrap64 (x6_1 - 1)) s0_0 bt218.2.1 bt218.2.2) else (none)))=some (r1,r2,r3):=by first|(rw [hy215];with_reducible exact H)|(have H2_:=(Option.bind_some _ _).symm.trans H;rw [hy215];with_reducible exact H2_)|(have H2_:=(Option.bind_some _ _).symm.trans H;with_reducible exact H2_)|with_reducible exact H|(rw [hy215];exact H)|exact H
    have Ny215:=Aside0.mk hy215
    clear hy215
    replace H:=Option.bind_eq_some_iff.mp H
    obtain ⟨⟨t218,t219,t220⟩,A110,H⟩:=H
    try dsimp only at H
    have A11:=Aside0.mk A110
    clear A110
    by_cases c12:x3_1.length < 5864062014805
    ·rw [if_pos c12] at H
     have LMc12:=Aside0.mk c12
     clear c12
     obtain ⟨y221,hy221⟩ : ∃ y_:List (S76),y_=(x3_1 ++ [(⟨wrap64 (x5_1+t209),t212,t218⟩:S76)]):=⟨_,rfl⟩
     replace H:(spec_l4Draw.l0 k1 y221 (wrap64 (1+t200)) (wrap64 (x5_1+t209)) (wrap64 (x6_1 - 1)) s0_0 t219 t220)=some (r1,r2,r3):=by first|(rw [hy221];with_reducible exact H)|(have H2_:=(Option.bind_some _ _).symm.trans H;rw [hy221];with_reducible exact H2_)|(have H2_:=(Option.bind_some _ _).symm.trans H;with_reducible exact H2_)|with_reducible exact H|(rw [hy221];exact H)|exact H
     have Ny221:=Aside0.mk hy221
     clear hy221
     have H':=Aside0.mk H
     clear H
     go_wp2_with (first|((with_reducible refine gate_dst (N:=20) rfl ?_);refine Kd.R_lit (Kd.int .i64) _ 3 ?hg (N:=20) ?hd (xs:=([1,1,2]:List Int)) (inner:=[.int .i64 1,.int .i64 1,.int .i64 2]) (ok:=fun _=>True) (okp:=fun _=>True) ?hr ?hp (fun _ hk=>hk) trivial (Below.refl _ _) (Nat.le_refl _) (by simp) ?_;(case hd=>rfl);(case hg=>rfl);(case hr=>first|(go_simp;done)|(go_simp;rfl));(case hp=>exact (Reps.one (show Kd.M (Kd.int .i64) _ _ _ 1 [.int .i64 1] from rfl) (Reps.one (show Kd.M (Kd.int .i64) _ _ _ 1 [.int .i64 1] from rfl) (Reps.one (show Kd.M (Kd.int .i64) _ _ _ 2 [.int .i64 2] from rfl) (Reps.none _ _)))));intro v207 w13 ho14 hb hg_ hnew_;clear hg_ hnew_;(first|rw [← Ny206.out] at ho14|(simp only [Int.reduceToNat] at ho14;rw [← Ny206.out] at ho14));have n0_:=Aside0.mk (Kd.R_below ((rR HO_3)) hb);have n1_:=Aside0.mk (Kd.R_lower ho14 (keep_size (w:=w) (g:=g) (row:=none) (by repeat (first|(with_reducible first|exact HK.out|apply KeepBut.set_|apply keep_drewN|apply keep_drew|apply keep_alloc)|exact HK.out))));have n2_:=Aside0.mk (IsS142.below (by repeat (first|(with_reducible first|exact HI0.out|apply IsS142.alloc|apply IsS142.drewN|apply IsS142.drew|apply IsS142.set_1|apply IsS142.set_2)|exact HI0.out)) hb);have n3_:=Aside0.mk (KeepBut.trans (by repeat (first|(with_reducible first|exact HK.out|apply KeepBut.set_|apply keep_drewN|apply keep_drew|apply keep_alloc)|exact HK.out)) (KeepBut.of_below hb g none) (.inl rfl));have n4_:=Aside0.mk (below_step (by repeat (first|(with_reducible first|exact HB.out|apply below_alloc|apply pw_below_drewN|apply below_drew1|refine below_set ?_ (IsS142.ge HI0.out))|exact HB.out)) hb);clear HO_3;clear HI0;clear HK;clear HB;have HO_3:=n0_;have HO208:=n1_;have HI0:=n2_;have HK:=n3_;have HB:=n4_;clear n0_ n1_ n2_ n3_ n4_;clear hb ho14;obtain ⟨Ao15,co15,eo15⟩:=Kd.R_slice HO208.out;subst eo15)|((with_reducible refine gate_callee (f:=124) rfl ?_);refine goesL_ (some 21) rfl rfl Try.func124 (by kernel_rfl) rfl #[.pointer (some ⟨g,0,none⟩),.slice Ao15 y206.length co15] rfl (by (try simp only [List.map_toArray,List.map_cons,List.map_nil]);first|done|rfl|(simp only [List.length_drop,List.length_take];rfl)) ?_;(with_reducible refine (spec_l1Int.calls g s0_0 x1001_1 x1002_1 _ _ y206 t209 t210 t211 w0 _ ?side1 ?side2 ?side3 ?side4 ?side5 A9.out).mono ?_);(case side1=>repeat (first|(with_reducible first|exact HI0.out|apply IsS142.alloc|apply IsS142.drewN|apply IsS142.drew|apply IsS142.set_1|apply IsS142.set_2)|exact HI0.out));(case side2=>repeat (first|(with_reducible first|exact HB.out|apply below_alloc|apply pw_below_drewN|apply below_drew1|refine below_set ?_ (IsS142.ge HI0.out))|exact HB.out));(case side3=>exact sR HO208);(case side4=>exact (Kd.R_reads' HO208.out).2.1);(case side5=>exact far_slice (IsS142.own_ne HI0.out HO208.out (by decide)));rintro e w16 ⟨rfl,hi,hb,hk⟩;refine ⟨_,rfl,?_⟩;have n0_:=Aside0.mk (Kd.R_mono (Kd.R_keep (IsS142.apart (show IsS142 w0 _ g s0_0 x1001_1 x1002_1 from by repeat (first|(with_reducible first|exact HI0.out|apply IsS142.alloc|apply IsS142.drewN|apply IsS142.drew|apply IsS142.set_1|apply IsS142.set_2)|exact HI0.out)) (rR HO_3) (by decide)) hk (fun _ h=>h.2)) (fun _ h=>h.1));have n1_:=Aside0.mk (Kd.R_mono (Kd.R_keep (IsS142.apart (show IsS142 w0 _ g s0_0 x1001_1 x1002_1 from by repeat (first|(with_reducible first|exact HI0.out|apply IsS142.alloc|apply IsS142.drewN|apply IsS142.drew|apply IsS142.set_1|apply IsS142.set_2)|exact HI0.out)) (rR HO208) (by decide)) hk (fun _ h=>h.2)) (fun _ h=>h.1));have n2_:=Aside0.mk (KeepBut.trans (by repeat (first|(with_reducible first|exact HK.out|apply KeepBut.set_|apply keep_drewN|apply keep_drew|apply keep_alloc)|exact HK.out)) hk (.inl rfl));have n3_:=Aside0.mk (hb);have n4_:=Aside0.mk (hi);clear HO_3;clear HO208;clear HK;clear HB;clear HI0;have HO_3:=n0_;have HO208:=n1_;have HK:=n2_;have HB:=n3_;have HI0:=n4_;clear n0_ n1_ n2_ n3_ n4_;(try clear hb);(try clear hb2);(try clear hk);(try clear hi))|((with_reducible refine gate_callee (f:=105) rfl ?_);refine goesL_ (some 27) rfl rfl Try.func105 (by kernel_rfl) rfl #[.pointer (some ⟨g,0,none⟩),.int .i64 (wrap64 (1+t200))] rfl (by (try simp only [List.map_toArray,List.map_cons,List.map_nil]);first|done|rfl|(simp only [List.length_drop,List.length_take];rfl)) ?_;(with_reducible refine (spec_l1Below.calls g s0_0 t210 t211 (wrap64 (1+t200)) t212 t213 t214 w0 _ ?side1 ?side2 A10.out).mono ?_);(case side1=>repeat (first|(with_reducible first|exact HI0.out|apply IsS142.alloc|apply IsS142.drewN|apply IsS142.drew|apply IsS142.set_1|apply IsS142.set_2)|exact HI0.out));(case side2=>repeat (first|(with_reducible first|exact HB.out|apply below_alloc|apply pw_below_drewN|apply below_drew1|refine below_set ?_ (IsS142.ge HI0.out))|exact HB.out));rintro e w17 ⟨rfl,hi,hb,hk⟩;refine ⟨_,rfl,?_⟩;have n0_:=Aside0.mk (Kd.R_mono (Kd.R_keep (IsS142.apart (show IsS142 w0 _ g s0_0 t210 t211 from by repeat (first|(with_reducible first|exact HI0.out|apply IsS142.alloc|apply IsS142.drewN|apply IsS142.drew|apply IsS142.set_1|apply IsS142.set_2)|exact HI0.out)) (rR HO_3) (by decide)) hk (fun _ h=>h.2)) (fun _ h=>h.1));have n1_:=Aside0.mk (Kd.R_mono (Kd.R_keep (IsS142.apart (show IsS142 w0 _ g s0_0 t210 t211 from by repeat (first|(with_reducible first|exact HI0.out|apply IsS142.alloc|apply IsS142.drewN|apply IsS142.drew|apply IsS142.set_1|apply IsS142.set_2)|exact HI0.out)) (rR HO208) (by decide)) hk (fun _ h=>h.2)) (fun _ h=>h.1));have n2_:=Aside0.mk (KeepBut.trans (by repeat (first|(with_reducible first|exact HK.out|apply KeepBut.set_|apply keep_drewN|apply keep_drew|apply keep_alloc)|exact HK.out)) hk (.inl rfl));have n3_:=Aside0.mk (hb);have n4_:=Aside0.mk (hi);clear HO_3;clear HO208;clear HK;clear HB;clear HI0;have HO_3:=n0_;have HO208:=n1_;have HK:=n2_;have HB:=n3_;have HI0:=n4_;clear n0_ n1_ n2_ n3_ n4_;(try clear hb);(try clear hb2);(try clear hk);(try clear hi))|((with_reducible refine gate_dst (N:=29) rfl ?_);refine Kd.R_lit (Kd.int .i64) _ 3 ?hg (N:=29) ?hd (xs:=([1,1,1,2,10,100]:List Int)) (inner:=[.int .i64 1,.int .i64 1,.int .i64 1,.int .i64 2,.int .i64 10,.int .i64 100]) (ok:=fun _=>True) (okp:=fun _=>True) ?hr ?hp (fun _ hk=>hk) trivial (Below.refl _ _) (Nat.le_refl _) (by simp) ?_;(case hd=>rfl);(case hg=>rfl);(case hr=>first|(go_simp;done)|(go_simp;rfl));(case hp=>exact (Reps.one (show Kd.M (Kd.int .i64) _ _ _ 1 [.int .i64 1] from rfl) (Reps.one (show Kd.M (Kd.int .i64) _ _ _ 1 [.int .i64 1] from rfl) (Reps.one (show Kd.M (Kd.int .i64) _ _ _ 1 [.int .i64 1] from rfl) (Reps.one (show Kd.M (Kd.int .i64) _ _ _ 2 [.int .i64 2] from rfl) (Reps.one (show Kd.M (Kd.int .i64) _ _ _ 10 [.int .i64 10] from rfl) (Reps.one (show Kd.M (Kd.int .i64) _ _ _ 100 [.int .i64 100] from rfl) (Reps.none _ _))))))));intro v216 w18 ho19 hb hg_ hnew_;clear hg_ hnew_;(first|rw [← Ny215.out] at ho19|(simp only [Int.reduceToNat] at ho19;rw [← Ny215.out] at ho19));have n0_:=Aside0.mk (Kd.R_below ((rR HO_3)) hb);have n1_:=Aside0.mk (Kd.R_elder' (rR HO208) (Kd.R_base ho19) hb);have n2_:=Aside0.mk (Kd.R_lower (Kd.R_new' ho19 (Kd.R_lt (rR HO208))) (keep_size (w:=w) (g:=g) (row:=none) (by repeat (first|(with_reducible first|exact HK.out|apply KeepBut.set_|apply keep_drewN|apply keep_drew|apply keep_alloc)|exact HK.out))));have n3_:=Aside0.mk (IsS142.below (by repeat (first|(with_reducible first|exact HI0.out|apply IsS142.alloc|apply IsS142.drewN|apply IsS142.drew|apply IsS142.set_1|apply IsS142.set_2)|exact HI0.out)) hb);have n4_:=Aside0.mk (KeepBut.trans (by repeat (first|(with_reducible first|exact HK.out|apply KeepBut.set_|apply keep_drewN|apply keep_drew|apply keep_alloc)|exact HK.out)) (KeepBut.of_below hb g none) (.inl rfl));have n5_:=Aside0.mk (below_step (by repeat (first|(with_reducible first|exact HB.out|apply below_alloc|apply pw_below_drewN|apply below_drew1|refine below_set ?_ (IsS142.ge HI0.out))|exact HB.out)) hb);clear HO_3;clear HO208;clear HI0;clear HK;clear HB;have HO_3:=n0_;have HO208:=n1_;have HO217:=n2_;have HI0:=n3_;have HK:=n4_;have HB:=n5_;clear n0_ n1_ n2_ n3_ n4_ n5_;clear hb ho19;obtain ⟨Ao20,co20,eo20⟩:=Kd.R_slice HO217.out;subst eo20)|((with_reducible refine gate_callee (f:=124) rfl ?_);refine goesL_ (some 30) rfl rfl Try.func124 (by kernel_rfl) rfl #[.pointer (some ⟨g,0,none⟩),.slice Ao20 y215.length co20] rfl (by (try simp only [List.map_toArray,List.map_cons,List.map_nil]);first|done|rfl|(simp only [List.length_drop,List.length_take];rfl)) ?_;(with_reducible refine (spec_l1Int.calls g s0_0 t213 t214 _ _ y215 t218 t219 t220 w0 _ ?side1 ?side2 ?side3 ?side4 ?side5 A11.out).mono ?_);(case side1=>repeat (first|(with_reducible first|exact HI0.out|apply IsS142.alloc|apply IsS142.drewN|apply IsS142.drew|apply IsS142.set_1|apply IsS142.set_2)|exact HI0.out));(case side2=>repeat (first|(with_reducible first|exact HB.out|apply below_alloc|apply pw_below_drewN|apply below_drew1|refine below_set ?_ (IsS142.ge HI0.out))|exact HB.out));(case side3=>exact sR HO217);(case side4=>exact (Kd.R_reads' HO217.out).2.1);(case side5=>exact far_slice (IsS142.own_ne HI0.out HO217.out (by decide)));rintro e w21 ⟨rfl,hi,hb,hk⟩;refine ⟨_,rfl,?_⟩;have n0_:=Aside0.mk (Kd.R_mono (Kd.R_keep (IsS142.apart (show IsS142 w0 _ g s0_0 t213 t214 from by repeat (first|(with_reducible first|exact HI0.out|apply IsS142.alloc|apply IsS142.drewN|apply IsS142.drew|apply IsS142.set_1|apply IsS142.set_2)|exact HI0.out)) (rR HO_3) (by decide)) hk (fun _ h=>h.2)) (fun _ h=>h.1));have n1_:=Aside0.mk (Kd.R_mono (Kd.R_keep (IsS142.apart (show IsS142 w0 _ g s0_0 t213 t214 from by repeat (first|(with_reducible first|exact HI0.out|apply IsS142.alloc|apply IsS142.drewN|apply IsS142.drew|apply IsS142.set_1|apply IsS142.set_2)|exact HI0.out)) (rR HO208) (by decide)) hk (fun _ h=>h.2)) (fun _ h=>h.1));have n2_:=Aside0.mk (Kd.R_mono (Kd.R_keep (IsS142.apart (show IsS142 w0 _ g s0_0 t213 t214 from by repeat (first|(with_reducible first|exact HI0.out|apply IsS142.alloc|apply IsS142.drewN|apply IsS142.drew|apply IsS142.set_1|apply IsS142.set_2)|exact HI0.out)) (rR HO217) (by decide)) hk (fun _ h=>h.2)) (fun _ h=>h.1));have n3_:=Aside0.mk (KeepBut.trans (by repeat (first|(with_reducible first|exact HK.out|apply KeepBut.set_|apply keep_drewN|apply keep_drew|apply keep_alloc)|exact HK.out)) hk (.inl rfl));have n4_:=Aside0.mk (hb);have n5_:=Aside0.mk (hi);clear HO_3;clear HO208;clear HO217;clear HK;clear HB;clear HI0;have HO_3:=n0_;have HO208:=n1_;have HO217:=n2_;have HK:=n3_;have HB:=n4_;have HI0:=n5_;clear n0_ n1_ n2_ n3_ n4_ n5_;(try clear hb);(try clear hb2);(try clear hk);(try clear hi))|((with_reducible refine gate_builtin (b:=.append) (xs:=#[.tmp 23,.tmp 32]) rfl ?_);at_builtin;refine Kd.R_append k76 w.heap.size rfl (.tmp 23) (.tmp 32) 31 76 (.agg #[(.int .i64 0),(.int .i64 0),(.int .i64 0)]) 24 rfl Try.underlying31 info76 rfl (by decide) (by omega) u3 x3_1 (⟨wrap64 (x5_1+t209),t212,t218⟩:S76) [.int .i64 (wrap64 (x5_1+t209)),.int .i64 t212,.int .i64 t218] (fun _=>True) (fun _=>False) rfl rfl ?aP (fun _ hk=>hk.elim) ?aF ?aO (Below.refl _ _) ?aS ?aL ?_;(case aP=>exact k76_mkM _ _ _ (⟨wrap64 (x5_1+t209),t212,t218⟩:S76));(case aF=>exact (fun _ _=>trivial));(case aO=>exact (rR HO_3));(case aS=>exact (keep_size (w:=w) (g:=g) (row:=none) (by repeat (first|(with_reducible first|exact HK.out|apply KeepBut.set_|apply keep_drewN|apply keep_drew|apply keep_alloc)|exact HK.out))));(case aL=>have:=LMc12.out;omega);intro v222 w22 ho hb hg hat;rw [← Ny221.out] at ho;have n0_:=Aside0.mk (IsS142.grown (by repeat (first|(with_reducible first|exact HI0.out|apply IsS142.alloc|apply IsS142.drewN|apply IsS142.drew|apply IsS142.set_1|apply IsS142.set_2)|exact HI0.out)) hg (IsS142.own_ne HI0.out HO_3.out (by decide)));have n1_:=Aside0.mk (Kd.R_over' (rR HO208) (Kd.R_typed (rR HO_3)) (by decide) hg);have n2_:=Aside0.mk (Kd.R_over' (rR HO217) (Kd.R_typed (rR HO_3)) (by decide) hg);have n3_:=Aside0.mk (below_weaken (by repeat (first|(with_reducible first|exact HB.out|apply below_alloc|apply pw_below_drewN|apply below_drew1|refine below_set ?_ (IsS142.ge HI0.out))|exact HB.out)) HL.out hb);have n4_:=Aside0.mk (KeepBut.trans (by repeat (first|(with_reducible first|exact HK.out|apply KeepBut.set_|apply keep_drewN|apply keep_drew|apply keep_alloc)|exact HK.out)) (KeepBut.of_grown hg g) (Kd.R_base2 HO_3.out));have n5_:=Aside0.mk (ho);clear HI0;clear HO208;clear HO217;clear HB;clear HK;clear HO_3;have HI0:=n0_;have HO208:=n1_;have HO217:=n2_;have HB:=n3_;have HK:=n4_;have HO223:=n5_;clear n0_ n1_ n2_ n3_ n4_ n5_;clear ho hb hg hat))
     go_roundg k1
     case measure=>have:=HK1.out;omega
     case rel=>exact ⟨(y221),(wrap64 (x5_1+t209)),(wrap64 (x6_1 - 1)),(t219),(t220),rd_,rd_,H',⟨by have:=HK1.out;omega⟩,⟨rR HO223⟩,⟨by repeat (first|(with_reducible first|exact HI0.out|apply IsS142.alloc|apply IsS142.drewN|apply IsS142.drew|apply IsS142.set_1|apply IsS142.set_2)|exact HI0.out)⟩,⟨by repeat (first|(with_reducible first|exact HK.out|apply KeepBut.set_|apply keep_drewN|apply keep_drew|apply keep_alloc)|exact HK.out)⟩,⟨by repeat (first|(with_reducible first|exact HB.out|apply below_alloc|apply pw_below_drewN|apply below_drew1|refine below_set ?_ (IsS142.ge HI0.out))|exact HB.out)⟩⟩
    ·rw [if_neg c12] at H
     exact absurd H (by simp)
   ·rw [if_neg c8] at H
    have c8b0:decide (0 < x6_1)=false:=decide_eq_false c8
    clear c8
    simp only [Option.some.injEq,Prod.mk.injEq] at H
    obtain ⟨rfl,rfl,rfl⟩:=H
    go_wp2
    go_ret
    exact ⟨_,rz,rR HO_3,by repeat (first|(with_reducible first|exact HI0.out|apply IsS142.alloc|apply IsS142.drewN|apply IsS142.drew|apply IsS142.set_1|apply IsS142.set_2)|exact HI0.out),by repeat (first|(with_reducible first|exact HB.out|apply below_alloc|apply pw_below_drewN|apply below_drew1|refine below_set ?_ (IsS142.ge HI0.out))|exact HB.out),by repeat (first|(with_reducible first|exact HK.out|apply KeepBut.set_|apply keep_drewN|apply keep_drew|apply keep_alloc)|exact HK.out)⟩
def spec_l5Draw.f (k:Nat) (s0_0:List Int) (s0_1:Int) (s0_2:Int):Option ((List (S76)) × Int × (List (S29)) × Int × Int):=(spec_l4Draw.f k s0_0 s0_1 s0_2).bind fun bt225=>((spec_l1Below.f s0_0 bt225.2.1 bt225.2.2 3).bind fun bt230=>(if (wrap64 (1+bt230.1)) > (bt225.1.length:Int) then ((spec_l1Int.f s0_0 bt230.2.1 bt230.2.2 (([4,8,1,5,16]:List Int))).bind fun bt236=>((spec_Build.f k bt225.1 bt236.1 (bt225.1.length:Int)).bind fun bt239=>(some (bt225.1,bt239.1,bt239.2.1,bt236.2.1,bt236.2.2)))) else ((spec_l1Int.f s0_0 bt230.2.1 bt230.2.2 (([4,8,1,5,16]:List Int))).bind fun bt248=>((spec_Build.f k bt225.1 bt248.1 (wrap64 (1+bt230.1))).bind fun bt251=>(some (bt225.1,bt251.1,bt251.2.1,bt248.2.1,bt248.2.2))))))
set_option maxHeartbeats 8000000 in
set_option maxRecDepth 100000 in
theorem spec_l5Draw.calls (k:Nat) (g:Nat) (s0_0:List Int) (s0_1:Int) (s0_2:Int) (r1:List (S76)) (r2:Int) (r3:List (S29)) (r4:Int) (r5:Int) (w0 w:World) (hI:IsS142 w0 w g s0_0 s0_1 s0_2) (hB:Below w0.heap.size w0 w) (h:spec_l5Draw.f k s0_0 s0_1 s0_2=some (r1,r2,r3,r4,r5)) :
  Calls Try.prog 123 #[.pointer (some ⟨g,0,none⟩)] w fun e w'=>∃ v0_ v2_:Value,e = .returned (.tuple #[v0_,.agg #[.int .i64 r2,v2_]])∧Kd.R k76 76 w' w.heap.size (fun _=>True) v0_ r1∧Kd.S k29 29 w' w.heap.size (fun _=>True) v2_ r3∧IsS142 w0 w' g s0_0 r4 r5∧Below w0.heap.size w0 w' ∧ KeepBut w w' g none:=by
 have hu43:=Try.underlying43
 have HI0:=Aside0.mk hI
 have HK:=Aside0.mk (KeepBut.refl w g none)
 have HL:=Aside0.mk hB.size
 clear hI
 have HW0:=Aside0.mk hB.size
 have HB:=Aside0.mk hB
 clear hB
 have H:((spec_l4Draw.f k s0_0 s0_1 s0_2).bind fun bt225=>((spec_l1Below.f s0_0 bt225.2.1 bt225.2.2 3).bind fun bt230=>(if (wrap64 (1+bt230.1)) > (bt225.1.length:Int) then ((spec_l1Int.f s0_0 bt230.2.1 bt230.2.2 (([4,8,1,5,16]:List Int))).bind fun bt236=>((spec_Build.f k bt225.1 bt236.1 (bt225.1.length:Int)).bind fun bt239=>(some (bt225.1,bt239.1,bt239.2.1,bt236.2.1,bt236.2.2)))) else ((spec_l1Int.f s0_0 bt230.2.1 bt230.2.2 (([4,8,1,5,16]:List Int))).bind fun bt248=>((spec_Build.f k bt225.1 bt248.1 (wrap64 (1+bt230.1))).bind fun bt251=>(some (bt225.1,bt251.1,bt251.2.1,bt248.2.1,bt248.2.2)))))))=some (r1,r2,r3,r4,r5):=h
 clear h
 replace H:=Option.bind_eq_some_iff.mp H
 obtain ⟨⟨t225,t228,t229⟩,A20,H⟩:=H
 try dsimp only at H
 have A2:=Aside0.mk A20
 clear A20
 replace H:=Option.bind_eq_some_iff.mp H
 obtain ⟨⟨t230,t231,t232⟩,A30,H⟩:=H
 try dsimp only at H
 have A3:=Aside0.mk A30
 clear A30
 by_cases c4:(wrap64 (1+t230)) > (t225.length:Int)
 ·rw [if_pos c4] at H
  have c4b0:decide ((t225.length:Int) < (wrap64 (1+t230)))=true:=decide_eq_true c4
  clear c4
  obtain ⟨y233,hy233⟩ : ∃ y_:List Int,y_=(([4,8,1,5,16]:List Int)):=⟨_,rfl⟩
  replace H:((spec_l1Int.f s0_0 t231 t232 y233).bind fun bt236=>((spec_Build.f k t225 bt236.1 (t225.length:Int)).bind fun bt239=>(some (t225,bt239.1,bt239.2.1,bt236.2.1,bt236.2.2))))=some (r1,r2,r3,r4,r5):=by first|(rw [hy233];with_reducible exact H)|(have H2_:=(Option.bind_some _ _).symm.trans H;rw [hy233];with_reducible exact H2_)|(have H2_:=(Option.bind_some _ _).symm.trans H;with_reducible exact H2_)|with_reducible exact H|(rw [hy233];exact H)|exact H
  have Ny233:=Aside0.mk hy233
  clear hy233
  replace H:=Option.bind_eq_some_iff.mp H
  obtain ⟨⟨t236,t237,t238⟩,A50,H⟩:=H
  try dsimp only at H
  have A5:=Aside0.mk A50
  clear A50
  replace H:=Option.bind_eq_some_iff.mp H
  obtain ⟨⟨t239,t240,t243⟩,A60,H⟩:=H
  try dsimp only at H
  have A6:=Aside0.mk A60
  clear A60
  simp only [Option.some.injEq,Prod.mk.injEq] at H
  obtain ⟨rfl,rfl,rfl,rfl,rfl⟩:=H
  go_enter Try.func123,Try.ntmps123
  try go_wp2_with (first|((with_reducible refine gate_dst (N:=3) rfl ?_);refine box_event ?hg (N:=3) ?hd (cs:=#[.int .i64 0,.slice none 0 0]) (t:=43) ?hr ?_;(case hd=>rfl);(case hg=>rfl);(case hr=>first|(go_simp;done)|(go_simp;rfl));intro gb224 hg w7 hbox hb;have n0_:=Aside0.mk (IsS142.below (by repeat (first|(with_reducible first|exact HI0.out|apply IsS142.alloc|apply IsS142.drewN|apply IsS142.drew|apply IsS142.set_1|apply IsS142.set_2)|exact HI0.out)) hb);have n1_:=Aside0.mk (KeepBut.trans (by repeat (first|(with_reducible first|exact HK.out|apply KeepBut.set_|apply keep_drewN|apply keep_drew|apply keep_alloc)|exact HK.out)) (KeepBut.of_below hb g none) (.inl rfl));have n2_:=Aside0.mk (below_step (by repeat (first|(with_reducible first|exact HB.out|apply below_alloc|apply pw_below_drewN|apply below_drew1|refine below_set ?_ (IsS142.ge HI0.out))|exact HB.out)) hb);have n3_:=Aside0.mk (hbox);have n4_:=Aside0.mk ((by rw [hg];exact (keep_size (w:=w) (g:=g) (row:=none) (by repeat (first|(with_reducible first|exact HK.out|apply KeepBut.set_|apply keep_drewN|apply keep_drew|apply keep_alloc)|exact HK.out))):w.heap.size≤gb224));have n5_:=Aside0.mk ((Nat.le_trans HW0.out (by rw [hg];exact (keep_size (w:=w) (g:=g) (row:=none) (by repeat (first|(with_reducible first|exact HK.out|apply KeepBut.set_|apply keep_drewN|apply keep_drew|apply keep_alloc)|exact HK.out))):w.heap.size≤gb224):w0.heap.size≤gb224));have n6_:=Aside0.mk ((by rw [hg];exact Nat.ne_of_lt (IsS142.lt (show IsS142 w0 _ g s0_0 s0_1 s0_2 from by repeat (first|(with_reducible first|exact HI0.out|apply IsS142.alloc|apply IsS142.drewN|apply IsS142.drew|apply IsS142.set_1|apply IsS142.set_2)|exact HI0.out))):g ≠ gb224));have n7_:=Aside0.mk ((by rw [hg];exact Nat.ne_of_gt (IsS142.lt (show IsS142 w0 _ g s0_0 s0_1 s0_2 from by repeat (first|(with_reducible first|exact HI0.out|apply IsS142.alloc|apply IsS142.drewN|apply IsS142.drew|apply IsS142.set_1|apply IsS142.set_2)|exact HI0.out))):gb224 ≠ g));clear HI0;clear HK;clear HB;have HI0:=n0_;have HK:=n1_;have HB:=n2_;have BK224:=n3_;have GW224:=n4_;have GE224:=n5_;have NB0_224:=n6_;have NB224_0:=n7_;clear n0_ n1_ n2_ n3_ n4_ n5_ n6_ n7_;clear hb hbox hg)|((with_reducible refine gate_callee (f:=134) rfl ?_);refine goesL_ (some 9) rfl rfl Try.func134 (by kernel_rfl) rfl #[.pointer (some ⟨g,0,none⟩)] rfl (by (try simp only [List.map_toArray,List.map_cons,List.map_nil]);first|done|rfl|(simp only [List.length_drop,List.length_take];rfl)) ?_;(with_reducible refine (spec_l4Draw.calls k g s0_0 s0_1 s0_2 t225 t228 t229 w0 _ ?side1 ?side2 A2.out).mono ?_);(case side1=>repeat (first|(with_reducible first|exact HI0.out|apply IsS142.alloc|apply IsS142.drewN|apply IsS142.drew|apply IsS142.set_1|apply IsS142.set_2|refine IsS142.far ?_ NB0_224.out _)|exact HI0.out));(case side2=>repeat (first|(with_reducible first|exact HB.out|apply below_alloc|apply pw_below_drewN|apply below_drew1|refine below_set ?_ (IsS142.ge HI0.out)|refine below_set ?_ GE224.out)|exact HB.out));rintro e w8 ⟨v226,rfl,ho0,hi,hb,hk⟩;refine ⟨_,rfl,?_⟩;have n0_:=Aside0.mk (KeepBut.blk hk (g':=gb224) (o:=.cells #[.int .i64 0,.slice none 0 0] 43 (0,0)) (bk BK224) NB224_0.out (by simp));have n1_:=Aside0.mk (Kd.R_lower ho0 (keep_size (w:=w) (g:=g) (row:=none) (by repeat (first|(with_reducible first|exact HK.out|apply KeepBut.set_|apply keep_drewN|apply keep_drew|apply keep_alloc|refine keep_far ?_ GW224.out _)|exact HK.out))));have n2_:=Aside0.mk (KeepBut.trans (by repeat (first|(with_reducible first|exact HK.out|apply KeepBut.set_|apply keep_drewN|apply keep_drew|apply keep_alloc|refine keep_far ?_ GW224.out _)|exact HK.out)) hk (.inl rfl));have n3_:=Aside0.mk (hb);have n4_:=Aside0.mk (hi);clear BK224;clear HK;clear HB;clear HI0;have BK224:=n0_;have HO227:=n1_;have HK:=n2_;have HB:=n3_;have HI0:=n4_;clear n0_ n1_ n2_ n3_ n4_;(try clear hb);(try clear hb2);(try clear hk);(try clear hi);(try clear ho0))|((with_reducible refine gate_callee (f:=105) rfl ?_);refine goesL_ (some 11) rfl rfl Try.func105 (by kernel_rfl) rfl #[.pointer (some ⟨g,0,none⟩),.int .i64 3] rfl (by (try simp only [List.map_toArray,List.map_cons,List.map_nil]);first|done|rfl|(simp only [List.length_drop,List.length_take];rfl)) ?_;(with_reducible refine (spec_l1Below.calls g s0_0 t228 t229 3 t230 t231 t232 w0 _ ?side1 ?side2 A3.out).mono ?_);(case side1=>repeat (first|(with_reducible first|exact HI0.out|apply IsS142.alloc|apply IsS142.drewN|apply IsS142.drew|apply IsS142.set_1|apply IsS142.set_2|refine IsS142.far ?_ NB0_224.out _)|exact HI0.out));(case side2=>repeat (first|(with_reducible first|exact HB.out|apply below_alloc|apply pw_below_drewN|apply below_drew1|refine below_set ?_ (IsS142.ge HI0.out)|refine below_set ?_ GE224.out)|exact HB.out));rintro e w9 ⟨rfl,hi,hb,hk⟩;refine ⟨_,rfl,?_⟩;have n0_:=Aside0.mk (KeepBut.blk hk (g':=gb224) (o:=.cells #[.int .i64 0,.slice none 0 0] 43 (0,0)) (bk BK224) NB224_0.out (by simp));have n1_:=Aside0.mk (Kd.R_mono (Kd.R_keep (IsS142.apart (show IsS142 w0 _ g s0_0 t228 t229 from by repeat (first|(with_reducible first|exact HI0.out|apply IsS142.alloc|apply IsS142.drewN|apply IsS142.drew|apply IsS142.set_1|apply IsS142.set_2|refine IsS142.far ?_ NB0_224.out _)|exact HI0.out)) (rR HO227) (by decide)) hk (fun _ h=>h.2)) (fun _ h=>h.1));have n2_:=Aside0.mk (KeepBut.trans (by repeat (first|(with_reducible first|exact HK.out|apply KeepBut.set_|apply keep_drewN|apply keep_drew|apply keep_alloc|refine keep_far ?_ GW224.out _)|exact HK.out)) hk (.inl rfl));have n3_:=Aside0.mk (hb);have n4_:=Aside0.mk (hi);clear BK224;clear HO227;clear HK;clear HB;clear HI0;have BK224:=n0_;have HO227:=n1_;have HK:=n2_;have HB:=n3_;have HI0:=n4_;clear n0_ n1_ n2_ n3_ n4_;(try clear hb);(try clear hb2);(try clear hk);(try clear hi);obtain ⟨Ao10,co10,eo10⟩:=Kd.R_slice HO227.out;subst eo10)|((with_reducible refine gate_dst (N:=22) rfl ?_);refine Kd.R_lit (Kd.int .i64) _ 3 ?hg (N:=22) ?hd (xs:=([4,8,1,5,16]:List Int)) (inner:=[.int .i64 4,.int .i64 8,.int .i64 1,.int .i64 5,.int .i64 16]) (ok:=fun _=>True) (okp:=fun _=>True) ?hr ?hp (fun _ hk=>hk) trivial (Below.refl _ _) (Nat.le_refl _) (by simp) ?_;(case hd=>rfl);(case hg=>rfl);(case hr=>first|(go_simp;done)|(go_simp;rfl));(case hp=>exact (Reps.one (show Kd.M (Kd.int .i64) _ _ _ 4 [.int .i64 4] from rfl) (Reps.one (show Kd.M (Kd.int .i64) _ _ _ 8 [.int .i64 8] from rfl) (Reps.one (show Kd.M (Kd.int .i64) _ _ _ 1 [.int .i64 1] from rfl) (Reps.one (show Kd.M (Kd.int .i64) _ _ _ 5 [.int .i64 5] from rfl) (Reps.one (show Kd.M (Kd.int .i64) _ _ _ 16 [.int .i64 16] from rfl) (Reps.none _ _)))))));intro v234 w11 ho12 hb hg_ hnew_;clear hg_ hnew_;(first|rw [← Ny233.out] at ho12|(simp only [Int.reduceToNat] at ho12;rw [← Ny233.out] at ho12));have n0_:=Aside0.mk (Kd.R_below ((rR HO227)) hb);have n1_:=Aside0.mk (Kd.R_lower ho12 (keep_size (w:=w) (g:=g) (row:=none) (by repeat (first|(with_reducible first|exact HK.out|apply KeepBut.set_|apply keep_drewN|apply keep_drew|apply keep_alloc|refine keep_far ?_ GW224.out _)|exact HK.out))));have n2_:=Aside0.mk (IsS142.below (by repeat (first|(with_reducible first|exact HI0.out|apply IsS142.alloc|apply IsS142.drewN|apply IsS142.drew|apply IsS142.set_1|apply IsS142.set_2|refine IsS142.far ?_ NB0_224.out _)|exact HI0.out)) hb);have n3_:=Aside0.mk (blk_below (g:=gb224) (o:=.cells #[.int .i64 0,.slice none 0 0] 43 (0,0)) (bk BK224) hb);have n4_:=Aside0.mk (KeepBut.trans (by repeat (first|(with_reducible first|exact HK.out|apply KeepBut.set_|apply keep_drewN|apply keep_drew|apply keep_alloc|refine keep_far ?_ GW224.out _)|exact HK.out)) (KeepBut.of_below hb g none) (.inl rfl));have n5_:=Aside0.mk (below_step (by repeat (first|(with_reducible first|exact HB.out|apply below_alloc|apply pw_below_drewN|apply below_drew1|refine below_set ?_ (IsS142.ge HI0.out)|refine below_set ?_ GE224.out)|exact HB.out)) hb);clear HO227;clear HI0;clear BK224;clear HK;clear HB;have HO227:=n0_;have HO235:=n1_;have HI0:=n2_;have BK224:=n3_;have HK:=n4_;have HB:=n5_;clear n0_ n1_ n2_ n3_ n4_ n5_;clear hb ho12;obtain ⟨Ao13,co13,eo13⟩:=Kd.R_slice HO235.out;subst eo13)|((with_reducible refine gate_callee (f:=124) rfl ?_);refine goesL_ (some 23) rfl rfl Try.func124 (by kernel_rfl) rfl #[.pointer (some ⟨g,0,none⟩),.slice Ao13 y233.length co13] rfl (by (try simp only [List.map_toArray,List.map_cons,List.map_nil]);first|done|rfl|(simp only [List.length_drop,List.length_take];rfl)) ?_;(with_reducible refine (spec_l1Int.calls g s0_0 t231 t232 _ _ y233 t236 t237 t238 w0 _ ?side1 ?side2 ?side3 ?side4 ?side5 A5.out).mono ?_);(case side1=>repeat (first|(with_reducible first|exact HI0.out|apply IsS142.alloc|apply IsS142.drewN|apply IsS142.drew|apply IsS142.set_1|apply IsS142.set_2|refine IsS142.far ?_ NB0_224.out _)|exact HI0.out));(case side2=>repeat (first|(with_reducible first|exact HB.out|apply below_alloc|apply pw_below_drewN|apply below_drew1|refine below_set ?_ (IsS142.ge HI0.out)|refine below_set ?_ GE224.out)|exact HB.out));(case side3=>exact sR HO235);(case side4=>exact (Kd.R_reads' HO235.out).2.1);(case side5=>exact far_slice (IsS142.own_ne HI0.out HO235.out (by decide)));rintro e w14 ⟨rfl,hi,hb,hk⟩;refine ⟨_,rfl,?_⟩;have n0_:=Aside0.mk (KeepBut.blk hk (g':=gb224) (o:=.cells #[.int .i64 0,.slice none 0 0] 43 (0,0)) (bk BK224) NB224_0.out (by simp));have n1_:=Aside0.mk (Kd.R_mono (Kd.R_keep (IsS142.apart (show IsS142 w0 _ g s0_0 t231 t232 from by repeat (first|(with_reducible first|exact HI0.out|apply IsS142.alloc|apply IsS142.drewN|apply IsS142.drew|apply IsS142.set_1|apply IsS142.set_2|refine IsS142.far ?_ NB0_224.out _)|exact HI0.out)) (rR HO227) (by decide)) hk (fun _ h=>h.2)) (fun _ h=>h.1));have n2_:=Aside0.mk (Kd.R_mono (Kd.R_keep (IsS142.apart (show IsS142 w0 _ g s0_0 t231 t232 from by repeat (first|(with_reducible first|exact HI0.out|apply IsS142.alloc|apply IsS142.drewN|apply IsS142.drew|apply IsS142.set_1|apply IsS142.set_2|refine IsS142.far ?_ NB0_224.out _)|exact HI0.out)) (rR HO235) (by decide)) hk (fun _ h=>h.2)) (fun _ h=>h.1));have n3_:=Aside0.mk (KeepBut.trans (by repeat (first|(with_reducible first|exact HK.out|apply KeepBut.set_|apply keep_drewN|apply keep_drew|apply keep_alloc|refine keep_far ?_ GW224.out _)|exact HK.out)) hk (.inl rfl));have n4_:=Aside0.mk (hb);have n5_:=Aside0.mk (hi);clear BK224;clear HO227;clear HO235;clear HK;clear HB;clear HI0;have BK224:=n0_;have HO227:=n1_;have HO235:=n2_;have HK:=n3_;have HB:=n4_;have HI0:=n5_;clear n0_ n1_ n2_ n3_ n4_ n5_;(try clear hb);(try clear hb2);(try clear hk);(try clear hi))|((with_reducible refine gate_callee (f:=60) rfl ?_);refine goesL_ (some 25) rfl rfl Try.func60 (by kernel_rfl) rfl #[.slice Ao10 t225.length co10,.int .i64 t236,.int .i64 (t225.length:Int)] rfl (by (try simp only [List.map_toArray,List.map_cons,List.map_nil]);first|done|rfl|(simp only [List.length_drop,List.length_take];rfl)) ?_;(with_reducible refine (spec_Build.calls k _ _ t225 t236 (t225.length:Int) t239 t240 t243 _ ?side1 ?side2 A6.out).mono ?_);(case side1=>exact sR HO227);(case side2=>exact (Kd.R_reads' HO227.out).2.1);rintro e w15 ⟨v241,rfl,ho0,hb⟩;refine ⟨_,rfl,?_⟩;have n0_:=Aside0.mk (Kd.R_below ((rR HO227)) hb);have n1_:=Aside0.mk (Kd.R_below ((rR HO235)) hb);have n2_:=Aside0.mk (Kd.S_lower (Kd.S_new' ho0 (Kd.R_lt (rR HO235))) (keep_size (w:=w) (g:=g) (row:=none) (by repeat (first|(with_reducible first|exact HK.out|apply KeepBut.set_|apply keep_drewN|apply keep_drew|apply keep_alloc|refine keep_far ?_ GW224.out _)|exact HK.out))));have n3_:=Aside0.mk (IsS142.below (by repeat (first|(with_reducible first|exact HI0.out|apply IsS142.alloc|apply IsS142.drewN|apply IsS142.drew|apply IsS142.set_1|apply IsS142.set_2|refine IsS142.far ?_ NB0_224.out _)|exact HI0.out)) hb);have n4_:=Aside0.mk (blk_below (g:=gb224) (o:=.cells #[.int .i64 0,.slice none 0 0] 43 (0,0)) (bk BK224) hb);have n5_:=Aside0.mk (KeepBut.trans (by repeat (first|(with_reducible first|exact HK.out|apply KeepBut.set_|apply keep_drewN|apply keep_drew|apply keep_alloc|refine keep_far ?_ GW224.out _)|exact HK.out)) (KeepBut.of_below hb g none) (.inl rfl));have n6_:=Aside0.mk (below_step (by repeat (first|(with_reducible first|exact HB.out|apply below_alloc|apply pw_below_drewN|apply below_drew1|refine below_set ?_ (IsS142.ge HI0.out)|refine below_set ?_ GE224.out)|exact HB.out)) hb);clear HO227;clear HO235;clear HI0;clear BK224;clear HK;clear HB;have HO227:=n0_;have HO235:=n1_;have HO242:=n2_;have HI0:=n3_;have BK224:=n4_;have HK:=n5_;have HB:=n6_;clear n0_ n1_ n2_ n3_ n4_ n5_ n6_;(try clear hb);(try clear hb2);(try clear hk);(try clear hi);(try clear ho0))|((with_reducible refine gate_dst (N:=6) rfl ?_);refine box_event ?hg (N:=6) ?hd (cs:=#[.int .i64 0,.slice none 0 0]) (t:=43) ?hr ?_;(case hd=>rfl);(case hg=>rfl);(case hr=>first|(go_simp;done)|(go_simp;rfl));intro gb244 hg w16 hbox hb;have n0_:=Aside0.mk (Kd.R_below (rR HO227) hb);have n1_:=Aside0.mk (Kd.R_below (rR HO235) hb);have n2_:=Aside0.mk (Kd.S_below (rS HO242) hb);have n3_:=Aside0.mk (IsS142.below (by repeat (first|(with_reducible first|exact HI0.out|apply IsS142.alloc|apply IsS142.drewN|apply IsS142.drew|apply IsS142.set_1|apply IsS142.set_2|refine IsS142.far ?_ NB0_224.out _)|exact HI0.out)) hb);have n4_:=Aside0.mk (blk_below (g:=gb224) (o:=.cells #[.int .i64 0,.slice none 0 0] 43 (0,0)) (bk BK224) hb);have n5_:=Aside0.mk (KeepBut.trans (by repeat (first|(with_reducible first|exact HK.out|apply KeepBut.set_|apply keep_drewN|apply keep_drew|apply keep_alloc|refine keep_far ?_ GW224.out _)|exact HK.out)) (KeepBut.of_below hb g none) (.inl rfl));have n6_:=Aside0.mk (below_step (by repeat (first|(with_reducible first|exact HB.out|apply below_alloc|apply pw_below_drewN|apply below_drew1|refine below_set ?_ (IsS142.ge HI0.out)|refine below_set ?_ GE224.out)|exact HB.out)) hb);have n7_:=Aside0.mk (hbox);have n8_:=Aside0.mk ((by rw [hg];exact (keep_size (w:=w) (g:=g) (row:=none) (by repeat (first|(with_reducible first|exact HK.out|apply KeepBut.set_|apply keep_drewN|apply keep_drew|apply keep_alloc|refine keep_far ?_ GW224.out _)|exact HK.out))):w.heap.size≤gb244));have n9_:=Aside0.mk ((Nat.le_trans HW0.out (by rw [hg];exact (keep_size (w:=w) (g:=g) (row:=none) (by repeat (first|(with_reducible first|exact HK.out|apply KeepBut.set_|apply keep_drewN|apply keep_drew|apply keep_alloc|refine keep_far ?_ GW224.out _)|exact HK.out))):w.heap.size≤gb244):w0.heap.size≤gb244));have n10_:=Aside0.mk ((by rw [hg];exact Nat.ne_of_lt (blk_lt (g:=gb224) (o:=.cells #[.int .i64 0,.slice none 0 0] 43 (0,0)) (bk BK224)):gb224 ≠ gb244));have n11_:=Aside0.mk ((by rw [hg];exact Nat.ne_of_gt (blk_lt (g:=gb224) (o:=.cells #[.int .i64 0,.slice none 0 0] 43 (0,0)) (bk BK224)):gb244 ≠ gb224));have n12_:=Aside0.mk ((by rw [hg];exact Nat.ne_of_lt (IsS142.lt (show IsS142 w0 _ g s0_0 t237 t238 from by repeat (first|(with_reducible first|exact HI0.out|apply IsS142.alloc|apply IsS142.drewN|apply IsS142.drew|apply IsS142.set_1|apply IsS142.set_2|refine IsS142.far ?_ NB0_224.out _)|exact HI0.out))):g ≠ gb244));have n13_:=Aside0.mk ((by rw [hg];exact Nat.ne_of_gt (IsS142.lt (show IsS142 w0 _ g s0_0 t237 t238 from by repeat (first|(with_reducible first|exact HI0.out|apply IsS142.alloc|apply IsS142.drewN|apply IsS142.drew|apply IsS142.set_1|apply IsS142.set_2|refine IsS142.far ?_ NB0_224.out _)|exact HI0.out))):gb244 ≠ g));clear HO227;clear HO235;clear HO242;clear HI0;clear BK224;clear HK;clear HB;have HO227:=n0_;have HO235:=n1_;have HO242:=n2_;have HI0:=n3_;have BK224:=n4_;have HK:=n5_;have HB:=n6_;have BK244:=n7_;have GW244:=n8_;have GE244:=n9_;have NB224_244:=n10_;have NB244_224:=n11_;have NB0_244:=n12_;have NB244_0:=n13_;clear n0_ n1_ n2_ n3_ n4_ n5_ n6_ n7_ n8_ n9_ n10_ n11_ n12_ n13_;clear hb hbox hg;have hnb17:=NB244_224.out;have hnc17:=NB224_244.out;have hnb18:=NB244_0.out;have hnc18:=NB0_244.out;have hcz19_0:w16.cell? ⟨gb244,0,none⟩=some (.int .i64 0):=(blk_cell BK244.out 0).trans rfl;have hcz19_1:w16.cell? ⟨gb244,1,none⟩=some (.slice none 0 0):=(blk_cell BK244.out 1).trans rfl;have hfz19_0:=blk_frozen BK244.out 0;have hfz19_1:=blk_frozen BK244.out 1;obtain ⟨Ao20,co20,eo20⟩:=Kd.S_slice HO242.out;subst eo20))
  have n0_:Aside0 (Kd.R k76 76 ((w16.setCell ⟨gb244,0,none⟩ (.int .i64 t239)).setCell ⟨gb244,1,none⟩ (.slice Ao20 t240.length co20)) w.heap.size (fun _=>True) (.slice Ao10 t225.length co10) t225):=⟨by (with_reducible repeat (first|apply Kd.R_alloc|apply Kd.R_drewN|apply Kd.R_drew));exact Kd.R_mono (Kd.R_far (p:=⟨gb244,1,none⟩) (Kd.R_far (p:=⟨gb244,0,none⟩) (Kd.R_types HO227.out BK244.out (by decide)) (fun _ hk=>hk.2) (.int .i64 t239)) (fun _ hk=>hk.2) (.slice Ao20 t240.length co20)) (fun _ hk=>trivial)⟩
  have n1_:Aside0 (Kd.R (Kd.int .i64) 3 ((w16.setCell ⟨gb244,0,none⟩ (.int .i64 t239)).setCell ⟨gb244,1,none⟩ (.slice Ao20 t240.length co20)) w.heap.size (fun _=>True) (.slice Ao13 y233.length co13) y233):=⟨by (with_reducible repeat (first|apply Kd.R_alloc|apply Kd.R_drewN|apply Kd.R_drew));exact Kd.R_mono (Kd.R_far (p:=⟨gb244,1,none⟩) (Kd.R_far (p:=⟨gb244,0,none⟩) (Kd.R_types HO235.out BK244.out (by decide)) (fun _ hk=>hk.2) (.int .i64 t239)) (fun _ hk=>hk.2) (.slice Ao20 t240.length co20)) (fun _ hk=>trivial)⟩
  have n2_:Aside0 (Kd.S k29 29 ((w16.setCell ⟨gb244,0,none⟩ (.int .i64 t239)).setCell ⟨gb244,1,none⟩ (.slice Ao20 t240.length co20)) w.heap.size (fun k_=>some k_ ≠ (.slice Ao13 y233.length co13:Value).ownBlock) (.slice Ao20 t240.length co20) t240):=⟨by (with_reducible repeat (first|apply Kd.S_alloc|apply Kd.S_drewN|apply Kd.S_drew));exact Kd.S_mono (Kd.S_far (p:=⟨gb244,1,none⟩) (Kd.S_far (p:=⟨gb244,0,none⟩) (Kd.S_types HO242.out BK244.out (by decide)) (fun _ hk=>hk.2) (.int .i64 t239)) (fun _ hk=>hk.2) (.slice Ao20 t240.length co20)) (fun _ hk=>hk.1.2)⟩
  have n3_:Aside0 (((w16.setCell ⟨gb244,0,none⟩ (.int .i64 t239)).setCell ⟨gb244,1,none⟩ (.slice Ao20 t240.length co20)).heap[gb224]?=some (.cells #[.int .i64 0,.slice none 0 0] 43 (0,0))):=⟨by (with_reducible repeat (first|refine blk_drewN ?_ _|refine blk_drew ?_|refine blk_alloc ?_ _));refine blk_far ?_ NB224_244.out _;(with_reducible repeat (first|refine blk_drewN ?_ _|refine blk_drew ?_|refine blk_alloc ?_ _));refine blk_far ?_ NB224_244.out _;(with_reducible repeat (first|refine blk_drewN ?_ _|refine blk_drew ?_|refine blk_alloc ?_ _));exact BK224.out⟩
  have n4_:Aside0 (((w16.setCell ⟨gb244,0,none⟩ (.int .i64 t239)).setCell ⟨gb244,1,none⟩ (.slice Ao20 t240.length co20)).heap[gb244]?=some (.cells #[.int .i64 t239,.slice Ao20 t240.length co20] 43 (0,0))):=⟨by (with_reducible repeat (first|refine blk_drewN ?_ _|refine blk_drew ?_|refine blk_alloc ?_ _));refine blk_put (cs:=#[.int .i64 t239,.slice none 0 0]) ?_ 1 _ rfl;(with_reducible repeat (first|refine blk_drewN ?_ _|refine blk_drew ?_|refine blk_alloc ?_ _));refine blk_put (cs:=#[.int .i64 0,.slice none 0 0]) ?_ 0 _ rfl;(with_reducible repeat (first|refine blk_drewN ?_ _|refine blk_drew ?_|refine blk_alloc ?_ _));exact BK244.out⟩
  have n5_:Aside0 (IsS142 w0 ((w16.setCell ⟨gb244,0,none⟩ (.int .i64 t239)).setCell ⟨gb244,1,none⟩ (.slice Ao20 t240.length co20)) g s0_0 t237 t238):=⟨by repeat (first|(with_reducible first|exact HI0.out|apply IsS142.alloc|apply IsS142.drewN|apply IsS142.drew|apply IsS142.set_1|apply IsS142.set_2|refine IsS142.far ?_ NB0_224.out _|refine IsS142.far ?_ NB0_244.out _)|exact HI0.out)⟩
  have n6_:Aside0 (KeepBut w ((w16.setCell ⟨gb244,0,none⟩ (.int .i64 t239)).setCell ⟨gb244,1,none⟩ (.slice Ao20 t240.length co20)) g none):=⟨by repeat (first|(with_reducible first|exact HK.out|apply KeepBut.set_|apply keep_drewN|apply keep_drew|apply keep_alloc|refine keep_far ?_ GW224.out _|refine keep_far ?_ GW244.out _)|exact HK.out)⟩
  have n7_:Aside0 (Below w0.heap.size w0 ((w16.setCell ⟨gb244,0,none⟩ (.int .i64 t239)).setCell ⟨gb244,1,none⟩ (.slice Ao20 t240.length co20))):=⟨by repeat (first|(with_reducible first|exact HB.out|apply below_alloc|apply pw_below_drewN|apply below_drew1|refine below_set ?_ (IsS142.ge HI0.out)|refine below_set ?_ GE224.out|refine below_set ?_ GE244.out)|exact HB.out)⟩
  (try clear HO227);(try clear HO235);(try clear HO242);(try clear BK224);(try clear BK244);(try clear HI0);(try clear HK);(try clear HB)
  generalize ((w16.setCell ⟨gb244,0,none⟩ (.int .i64 t239)).setCell ⟨gb244,1,none⟩ (.slice Ao20 t240.length co20))=w21 at n0_ n1_ n2_ n3_ n4_ n5_ n6_ n7_ ⊢
  have HO227:=n0_;have HO235:=n1_;have HO242:=n2_;have BK224:=n3_;have BK244:=n4_;have HI0:=n5_;have HK:=n6_;have HB:=n7_;clear n0_ n1_ n2_ n3_ n4_ n5_ n6_ n7_;have n0_:=Aside0.mk (Kd.R_drew HO227.out);have n1_:=Aside0.mk (Kd.R_drew HO235.out);have n2_:=Aside0.mk (Kd.S_drew HO242.out);have n3_:=Aside0.mk (blk_drew BK224.out);have n4_:=Aside0.mk (blk_drew BK244.out);have n5_:=Aside0.mk (IsS142.drew HI0.out);have n6_:=Aside0.mk (keep_drew HK.out);have n7_:=Aside0.mk (below_drew1 HB.out);clear HO227 HO235 HO242 BK224 BK244 HI0 HK HB;have HO227:=n0_;have HO235:=n1_;have HO242:=n2_;have BK224:=n3_;have BK244:=n4_;have HI0:=n5_;have HK:=n6_;have HB:=n7_;clear n0_ n1_ n2_ n3_ n4_ n5_ n6_ n7_
  refine start_ (n:=4) (S:=fun w'=>w'.cell? ⟨gb244,0,none⟩=some (.int .i64 t239)∧w'.cell? ⟨gb244,1,none⟩=some (.slice Ao20 t240.length co20)) (ds:=[]) (fl 4 0) (by kernel_rfl) rfl rfl ⟨(blk_cell BK244.out 0).trans rfl,(blk_cell BK244.out 1).trans rfl⟩ (fun hHeld=>?_)
  generalize w21.drew=w22 at HO227 HO235 HO242 BK224 BK244 HI0 HK HB hHeld ⊢
  refine pu 0 28 (fl 4 1) ?_
  refine pu 2 2 (fl 4 5) ?_
  refine ta 1 29 (fl 4 7) hHeld ?_
  refine on 3 none (fl 4 15) (fun K hK=>?_)
  have hs23:w22.cell? ⟨gb224,0,none⟩=some (.int .i64 0):=(blk_cell BK224.out 0).trans rfl
  have hfs23:=blk_frozen BK224.out 0
  have hns23_1:=NB244_224.out
  have hms23_1:=NB224_244.out
  have hs24:w22.cell? ⟨gb224,1,none⟩=some (.slice none 0 0):=(blk_cell BK224.out 1).trans rfl
  have hfs24:=blk_frozen BK224.out 1
  have hns24_1:=NB244_224.out
  have hms24_1:=NB224_244.out
  refine skip_ (w1:=?_) (by rfl) rfl ?_ ?_
  rotate_left
  ·go_simp
   rfl
  refine hK.out _ _ ⟨((cell_far (p:=⟨gb224,_,none⟩) NB244_224.out _).trans (((cell_far (p:=⟨gb224,_,none⟩) NB244_224.out _).trans (hHeld.1)))),((cell_far (p:=⟨gb224,_,none⟩) NB244_224.out _).trans (((cell_far (p:=⟨gb224,_,none⟩) NB244_224.out _).trans (hHeld.2))))⟩ (fun hHeld=>?_)
  clear hK K
  refine done_ (by kernel_rfl) ?_
  try go_wp2
  refine bodyPost_ret (results_tc rfl _ _ gb224 43 #[.int .i64 t239,.slice Ao20 t240.length co20] (0,0) _ rfl (by (with_reducible repeat (first|refine blk_drewN ?_ _|refine blk_drew ?_|refine blk_alloc ?_ _));refine blk_put (cs:=#[.int .i64 t239,.slice none 0 0]) ?_ 1 _ rfl;(with_reducible repeat (first|refine blk_drewN ?_ _|refine blk_drew ?_|refine blk_alloc ?_ _));refine blk_put (cs:=#[.int .i64 0,.slice none 0 0]) ?_ 0 _ rfl;(with_reducible repeat (first|refine blk_drewN ?_ _|refine blk_drew ?_|refine blk_alloc ?_ _));exact BK224.out) Try.underlying43 rfl (by kernel_rfl)) rfl ?_
  exact ⟨_,_,rz,by (with_reducible repeat (first|apply Kd.R_alloc|apply Kd.R_drewN|apply Kd.R_drew));exact Kd.R_mono (Kd.R_far (p:=⟨gb224,1,none⟩) (Kd.R_far (p:=⟨gb224,0,none⟩) (Kd.R_types HO227.out BK224.out (by decide)) (fun _ hk=>hk.2) (.int .i64 t239)) (fun _ hk=>hk.2) (.slice Ao20 t240.length co20)) (fun _ hk=>trivial),by (with_reducible repeat (first|apply Kd.S_alloc|apply Kd.S_drewN|apply Kd.S_drew));exact Kd.S_mono (Kd.S_far (p:=⟨gb224,1,none⟩) (Kd.S_far (p:=⟨gb224,0,none⟩) (Kd.S_types HO242.out BK224.out (by decide)) (fun _ hk=>hk.2) (.int .i64 t239)) (fun _ hk=>hk.2) (.slice Ao20 t240.length co20)) (fun _ hk=>trivial),by repeat (first|(with_reducible first|exact HI0.out|apply IsS142.alloc|apply IsS142.drewN|apply IsS142.drew|apply IsS142.set_1|apply IsS142.set_2|refine IsS142.far ?_ NB0_224.out _|refine IsS142.far ?_ NB0_244.out _)|exact HI0.out),by repeat (first|(with_reducible first|exact HB.out|apply below_alloc|apply pw_below_drewN|apply below_drew1|refine below_set ?_ (IsS142.ge HI0.out)|refine below_set ?_ GE224.out|refine below_set ?_ GE244.out)|exact HB.out),by repeat (first|(with_reducible first|exact HK.out|apply KeepBut.set_|apply keep_drewN|apply keep_drew|apply keep_alloc|refine keep_far ?_ GW224.out _|refine keep_far ?_ GW244.out _)|exact HK.out)⟩
 ·rw [if_neg c4] at H
  have c4b0:decide ((t225.length:Int) < (wrap64 (1+t230)))=false:=decide_eq_false c4
  clear c4
  obtain ⟨y245,hy245⟩ : ∃ y_:List Int,y_=(([4,8,1,5,16]:List Int)):=⟨_,rfl⟩
  replace H:((spec_l1Int.f s0_0 t231 t232 y245).bind fun bt248=>((spec_Build.f k t225 bt248.1 (wrap64 (1+t230))).bind fun bt251=>(some (t225,bt251.1,bt251.2.1,bt248.2.1,bt248.2.2))))=some (r1,r2,r3,r4,r5):=by first|(rw [hy245];with_reducible exact H)|(have H2_:=(Option.bind_some _ _).symm.trans H;rw [hy245];with_reducible exact H2_)|(have H2_:=(Option.bind_some _ _).symm.trans H;with_reducible exact H2_)|with_reducible exact H|(rw [hy245];exact H)|exact H
  have Ny245:=Aside0.mk hy245
  clear hy245
  replace H:=Option.bind_eq_some_iff.mp H
  obtain ⟨⟨t248,t249,t250⟩,A250,H⟩:=H
  try dsimp only at H
  have A25:=Aside0.mk A250
  clear A250
  replace H:=Option.bind_eq_some_iff.mp H
  obtain ⟨⟨t251,t252,t255⟩,A260,H⟩:=H
  try dsimp only at H
  have A26:=Aside0.mk A260
  clear A260
  simp only [Option.some.injEq,Prod.mk.injEq] at H
  obtain ⟨rfl,rfl,rfl,rfl,rfl⟩:=H
  go_enter Try.func123,Try.ntmps123
  try go_wp2_with (first|((with_reducible refine gate_dst (N:=3) rfl ?_);refine box_event ?hg (N:=3) ?hd (cs:=#[.int .i64 0,.slice none 0 0]) (t:=43) ?hr ?_;(case hd=>rfl);(case hg=>rfl);(case hr=>first|(go_simp;done)|(go_simp;rfl));intro gb224 hg w27 hbox hb;have n0_:=Aside0.mk (IsS142.below (by repeat (first|(with_reducible first|exact HI0.out|apply IsS142.alloc|apply IsS142.drewN|apply IsS142.drew|apply IsS142.set_1|apply IsS142.set_2)|exact HI0.out)) hb);have n1_:=Aside0.mk (KeepBut.trans (by repeat (first|(with_reducible first|exact HK.out|apply KeepBut.set_|apply keep_drewN|apply keep_drew|apply keep_alloc)|exact HK.out)) (KeepBut.of_below hb g none) (.inl rfl));have n2_:=Aside0.mk (below_step (by repeat (first|(with_reducible first|exact HB.out|apply below_alloc|apply pw_below_drewN|apply below_drew1|refine below_set ?_ (IsS142.ge HI0.out))|exact HB.out)) hb);have n3_:=Aside0.mk (hbox);have n4_:=Aside0.mk ((by rw [hg];exact (keep_size (w:=w) (g:=g) (row:=none) (by repeat (first|(with_reducible first|exact HK.out|apply KeepBut.set_|apply keep_drewN|apply keep_drew|apply keep_alloc)|exact HK.out))):w.heap.size≤gb224));have n5_:=Aside0.mk ((Nat.le_trans HW0.out (by rw [hg];exact (keep_size (w:=w) (g:=g) (row:=none) (by repeat (first|(with_reducible first|exact HK.out|apply KeepBut.set_|apply keep_drewN|apply keep_drew|apply keep_alloc)|exact HK.out))):w.heap.size≤gb224):w0.heap.size≤gb224));have n6_:=Aside0.mk ((by rw [hg];exact Nat.ne_of_lt (IsS142.lt (show IsS142 w0 _ g s0_0 s0_1 s0_2 from by repeat (first|(with_reducible first|exact HI0.out|apply IsS142.alloc|apply IsS142.drewN|apply IsS142.drew|apply IsS142.set_1|apply IsS142.set_2)|exact HI0.out))):g ≠ gb224));have n7_:=Aside0.mk ((by rw [hg];exact Nat.ne_of_gt (IsS142.lt (show IsS142 w0 _ g s0_0 s0_1 s0_2 from by repeat (first|(with_reducible first|exact HI0.out|apply IsS142.alloc|apply IsS142.drewN|apply IsS142.drew|apply IsS142.set_1|apply IsS142.set_2)|exact HI0.out))):gb224 ≠ g));clear HI0;clear HK;clear HB;have HI0:=n0_;have HK:=n1_;have HB:=n2_;have BK224:=n3_;have GW224:=n4_;have GE224:=n5_;have NB0_224:=n6_;have NB224_0:=n7_;clear n0_ n1_ n2_ n3_ n4_ n5_ n6_ n7_;clear hb hbox hg)|((with_reducible refine gate_callee (f:=134) rfl ?_);refine goesL_ (some 9) rfl rfl Try.func134 (by kernel_rfl) rfl #[.pointer (some ⟨g,0,none⟩)] rfl (by (try simp only [List.map_toArray,List.map_cons,List.map_nil]);first|done|rfl|(simp only [List.length_drop,List.length_take];rfl)) ?_;(with_reducible refine (spec_l4Draw.calls k g s0_0 s0_1 s0_2 t225 t228 t229 w0 _ ?side1 ?side2 A2.out).mono ?_);(case side1=>repeat (first|(with_reducible first|exact HI0.out|apply IsS142.alloc|apply IsS142.drewN|apply IsS142.drew|apply IsS142.set_1|apply IsS142.set_2|refine IsS142.far ?_ NB0_224.out _)|exact HI0.out));(case side2=>repeat (first|(with_reducible first|exact HB.out|apply below_alloc|apply pw_below_drewN|apply below_drew1|refine below_set ?_ (IsS142.ge HI0.out)|refine below_set ?_ GE224.out)|exact HB.out));rintro e w28 ⟨v226,rfl,ho0,hi,hb,hk⟩;refine ⟨_,rfl,?_⟩;have n0_:=Aside0.mk (KeepBut.blk hk (g':=gb224) (o:=.cells #[.int .i64 0,.slice none 0 0] 43 (0,0)) (bk BK224) NB224_0.out (by simp));have n1_:=Aside0.mk (Kd.R_lower ho0 (keep_size (w:=w) (g:=g) (row:=none) (by repeat (first|(with_reducible first|exact HK.out|apply KeepBut.set_|apply keep_drewN|apply keep_drew|apply keep_alloc|refine keep_far ?_ GW224.out _)|exact HK.out))));have n2_:=Aside0.mk (KeepBut.trans (by repeat (first|(with_reducible first|exact HK.out|apply KeepBut.set_|apply keep_drewN|apply keep_drew|apply keep_alloc|refine keep_far ?_ GW224.out _)|exact HK.out)) hk (.inl rfl));have n3_:=Aside0.mk (hb);have n4_:=Aside0.mk (hi);clear BK224;clear HK;clear HB;clear HI0;have BK224:=n0_;have HO227:=n1_;have HK:=n2_;have HB:=n3_;have HI0:=n4_;clear n0_ n1_ n2_ n3_ n4_;(try clear hb);(try clear hb2);(try clear hk);(try clear hi);(try clear ho0))|((with_reducible refine gate_callee (f:=105) rfl ?_);refine goesL_ (some 11) rfl rfl Try.func105 (by kernel_rfl) rfl #[.pointer (some ⟨g,0,none⟩),.int .i64 3] rfl (by (try simp only [List.map_toArray,List.map_cons,List.map_nil]);first|done|rfl|(simp only [List.length_drop,List.length_take];rfl)) ?_;(with_reducible refine (spec_l1Below.calls g s0_0 t228 t229 3 t230 t231 t232 w0 _ ?side1 ?side2 A3.out).mono ?_);(case side1=>repeat (first|(with_reducible first|exact HI0.out|apply IsS142.alloc|apply IsS142.drewN|apply IsS142.drew|apply IsS142.set_1|apply IsS142.set_2|refine IsS142.far ?_ NB0_224.out _)|exact HI0.out));(case side2=>repeat (first|(with_reducible first|exact HB.out|apply below_alloc|apply pw_below_drewN|apply below_drew1|refine below_set ?_ (IsS142.ge HI0.out)|refine below_set ?_ GE224.out)|exact HB.out));rintro e w29 ⟨rfl,hi,hb,hk⟩;refine ⟨_,rfl,?_⟩;have n0_:=Aside0.mk (KeepBut.blk hk (g':=gb224) (o:=.cells #[.int .i64 0,.slice none 0 0] 43 (0,0)) (bk BK224) NB224_0.out (by simp));have n1_:=Aside0.mk (Kd.R_mono (Kd.R_keep (IsS142.apart (show IsS142 w0 _ g s0_0 t228 t229 from by repeat (first|(with_reducible first|exact HI0.out|apply IsS142.alloc|apply IsS142.drewN|apply IsS142.drew|apply IsS142.set_1|apply IsS142.set_2|refine IsS142.far ?_ NB0_224.out _)|exact HI0.out)) (rR HO227) (by decide)) hk (fun _ h=>h.2)) (fun _ h=>h.1));have n2_:=Aside0.mk (KeepBut.trans (by repeat (first|(with_reducible first|exact HK.out|apply KeepBut.set_|apply keep_drewN|apply keep_drew|apply keep_alloc|refine keep_far ?_ GW224.out _)|exact HK.out)) hk (.inl rfl));have n3_:=Aside0.mk (hb);have n4_:=Aside0.mk (hi);clear BK224;clear HO227;clear HK;clear HB;clear HI0;have BK224:=n0_;have HO227:=n1_;have HK:=n2_;have HB:=n3_;have HI0:=n4_;clear n0_ n1_ n2_ n3_ n4_;(try clear hb);(try clear hb2);(try clear hk);(try clear hi);obtain ⟨Ao30,co30,eo30⟩:=Kd.R_slice HO227.out;subst eo30)|((with_reducible refine gate_dst (N:=22) rfl ?_);refine Kd.R_lit (Kd.int .i64) _ 3 ?hg (N:=22) ?hd (xs:=([4,8,1,5,16]:List Int)) (inner:=[.int .i64 4,.int .i64 8,.int .i64 1,.int .i64 5,.int .i64 16]) (ok:=fun _=>True) (okp:=fun _=>True) ?hr ?hp (fun _ hk=>hk) trivial (Below.refl _ _) (Nat.le_refl _) (by simp) ?_;(case hd=>rfl);(case hg=>rfl);(case hr=>first|(go_simp;done)|(go_simp;rfl));(case hp=>exact (Reps.one (show Kd.M (Kd.int .i64) _ _ _ 4 [.int .i64 4] from rfl) (Reps.one (show Kd.M (Kd.int .i64) _ _ _ 8 [.int .i64 8] from rfl) (Reps.one (show Kd.M (Kd.int .i64) _ _ _ 1 [.int .i64 1] from rfl) (Reps.one (show Kd.M (Kd.int .i64) _ _ _ 5 [.int .i64 5] from rfl) (Reps.one (show Kd.M (Kd.int .i64) _ _ _ 16 [.int .i64 16] from rfl) (Reps.none _ _)))))));intro v246 w31 ho32 hb hg_ hnew_;clear hg_ hnew_;(first|rw [← Ny245.out] at ho32|(simp only [Int.reduceToNat] at ho32;rw [← Ny245.out] at ho32));have n0_:=Aside0.mk (Kd.R_below ((rR HO227)) hb);have n1_:=Aside0.mk (Kd.R_lower ho32 (keep_size (w:=w) (g:=g) (row:=none) (by repeat (first|(with_reducible first|exact HK.out|apply KeepBut.set_|apply keep_drewN|apply keep_drew|apply keep_alloc|refine keep_far ?_ GW224.out _)|exact HK.out))));have n2_:=Aside0.mk (IsS142.below (by repeat (first|(with_reducible first|exact HI0.out|apply IsS142.alloc|apply IsS142.drewN|apply IsS142.drew|apply IsS142.set_1|apply IsS142.set_2|refine IsS142.far ?_ NB0_224.out _)|exact HI0.out)) hb);have n3_:=Aside0.mk (blk_below (g:=gb224) (o:=.cells #[.int .i64 0,.slice none 0 0] 43 (0,0)) (bk BK224) hb);have n4_:=Aside0.mk (KeepBut.trans (by repeat (first|(with_reducible first|exact HK.out|apply KeepBut.set_|apply keep_drewN|apply keep_drew|apply keep_alloc|refine keep_far ?_ GW224.out _)|exact HK.out)) (KeepBut.of_below hb g none) (.inl rfl));have n5_:=Aside0.mk (below_step (by repeat (first|(with_reducible first|exact HB.out|apply below_alloc|apply pw_below_drewN|apply below_drew1|refine below_set ?_ (IsS142.ge HI0.out)|refine below_set ?_ GE224.out)|exact HB.out)) hb);clear HO227;clear HI0;clear BK224;clear HK;clear HB;have HO227:=n0_;have HO247:=n1_;have HI0:=n2_;have BK224:=n3_;have HK:=n4_;have HB:=n5_;clear n0_ n1_ n2_ n3_ n4_ n5_;clear hb ho32;obtain ⟨Ao33,co33,eo33⟩:=Kd.R_slice HO247.out;subst eo33)|((with_reducible refine gate_callee (f:=124) rfl ?_);refine goesL_ (some 23) rfl rfl Try.func124 (by kernel_rfl) rfl #[.pointer (some ⟨g,0,none⟩),.slice Ao33 y245.length co33] rfl (by (try simp only [List.map_toArray,List.map_cons,List.map_nil]);first|done|rfl|(simp only [List.length_drop,List.length_take];rfl)) ?_;(with_reducible refine (spec_l1Int.calls g s0_0 t231 t232 _ _ y245 t248 t249 t250 w0 _ ?side1 ?side2 ?side3 ?side4 ?side5 A25.out).mono ?_);(case side1=>repeat (first|(with_reducible first|exact HI0.out|apply IsS142.alloc|apply IsS142.drewN|apply IsS142.drew|apply IsS142.set_1|apply IsS142.set_2|refine IsS142.far ?_ NB0_224.out _)|exact HI0.out));(case side2=>repeat (first|(with_reducible first|exact HB.out|apply below_alloc|apply pw_below_drewN|apply below_drew1|refine below_set ?_ (IsS142.ge HI0.out)|refine below_set ?_ GE224.out)|exact HB.out));(case side3=>exact sR HO247);(case side4=>exact (Kd.R_reads' HO247.out).2.1);(case side5=>exact far_slice (IsS142.own_ne HI0.out HO247.out (by decide)));rintro e w34 ⟨rfl,hi,hb,hk⟩;refine ⟨_,rfl,?_⟩;have n0_:=Aside0.mk (KeepBut.blk hk (g':=gb224) (o:=.cells #[.int .i64 0,.slice none 0 0] 43 (0,0)) (bk BK224) NB224_0.out (by simp));have n1_:=Aside0.mk (Kd.R_mono (Kd.R_keep (IsS142.apart (show IsS142 w0 _ g s0_0 t231 t232 from by repeat (first|(with_reducible first|exact HI0.out|apply IsS142.alloc|apply IsS142.drewN|apply IsS142.drew|apply IsS142.set_1|apply IsS142.set_2|refine IsS142.far ?_ NB0_224.out _)|exact HI0.out)) (rR HO227) (by decide)) hk (fun _ h=>h.2)) (fun _ h=>h.1));have n2_:=Aside0.mk (Kd.R_mono (Kd.R_keep (IsS142.apart (show IsS142 w0 _ g s0_0 t231 t232 from by repeat (first|(with_reducible first|exact HI0.out|apply IsS142.alloc|apply IsS142.drewN|apply IsS142.drew|apply IsS142.set_1|apply IsS142.set_2|refine IsS142.far ?_ NB0_224.out _)|exact HI0.out)) (rR HO247) (by decide)) hk (fun _ h=>h.2)) (fun _ h=>h.1));have n3_:=Aside0.mk (KeepBut.trans (by repeat (first|(with_reducible first|exact HK.out|apply KeepBut.set_|apply keep_drewN|apply keep_drew|apply keep_alloc|refine keep_far ?_ GW224.out _)|exact HK.out)) hk (.inl rfl));have n4_:=Aside0.mk (hb);have n5_:=Aside0.mk (hi);clear BK224;clear HO227;clear HO247;clear HK;clear HB;clear HI0;have BK224:=n0_;have HO227:=n1_;have HO247:=n2_;have HK:=n3_;have HB:=n4_;have HI0:=n5_;clear n0_ n1_ n2_ n3_ n4_ n5_;(try clear hb);(try clear hb2);(try clear hk);(try clear hi))|((with_reducible refine gate_callee (f:=60) rfl ?_);refine goesL_ (some 25) rfl rfl Try.func60 (by kernel_rfl) rfl #[.slice Ao30 t225.length co30,.int .i64 t248,.int .i64 (wrap64 (1+t230))] rfl (by (try simp only [List.map_toArray,List.map_cons,List.map_nil]);first|done|rfl|(simp only [List.length_drop,List.length_take];rfl)) ?_;(with_reducible refine (spec_Build.calls k _ _ t225 t248 (wrap64 (1+t230)) t251 t252 t255 _ ?side1 ?side2 A26.out).mono ?_);(case side1=>exact sR HO227);(case side2=>exact (Kd.R_reads' HO227.out).2.1);rintro e w35 ⟨v253,rfl,ho0,hb⟩;refine ⟨_,rfl,?_⟩;have n0_:=Aside0.mk (Kd.R_below ((rR HO227)) hb);have n1_:=Aside0.mk (Kd.R_below ((rR HO247)) hb);have n2_:=Aside0.mk (Kd.S_lower (Kd.S_new' ho0 (Kd.R_lt (rR HO247))) (keep_size (w:=w) (g:=g) (row:=none) (by repeat (first|(with_reducible first|exact HK.out|apply KeepBut.set_|apply keep_drewN|apply keep_drew|apply keep_alloc|refine keep_far ?_ GW224.out _)|exact HK.out))));have n3_:=Aside0.mk (IsS142.below (by repeat (first|(with_reducible first|exact HI0.out|apply IsS142.alloc|apply IsS142.drewN|apply IsS142.drew|apply IsS142.set_1|apply IsS142.set_2|refine IsS142.far ?_ NB0_224.out _)|exact HI0.out)) hb);have n4_:=Aside0.mk (blk_below (g:=gb224) (o:=.cells #[.int .i64 0,.slice none 0 0] 43 (0,0)) (bk BK224) hb);have n5_:=Aside0.mk (KeepBut.trans (by repeat (first|(with_reducible first|exact HK.out|apply KeepBut.set_|apply keep_drewN|apply keep_drew|apply keep_alloc|refine keep_far ?_ GW224.out _)|exact HK.out)) (KeepBut.of_below hb g none) (.inl rfl));have n6_:=Aside0.mk (below_step (by repeat (first|(with_reducible first|exact HB.out|apply below_alloc|apply pw_below_drewN|apply below_drew1|refine below_set ?_ (IsS142.ge HI0.out)|refine below_set ?_ GE224.out)|exact HB.out)) hb);clear HO227;clear HO247;clear HI0;clear BK224;clear HK;clear HB;have HO227:=n0_;have HO247:=n1_;have HO254:=n2_;have HI0:=n3_;have BK224:=n4_;have HK:=n5_;have HB:=n6_;clear n0_ n1_ n2_ n3_ n4_ n5_ n6_;(try clear hb);(try clear hb2);(try clear hk);(try clear hi);(try clear ho0))|((with_reducible refine gate_dst (N:=6) rfl ?_);refine box_event ?hg (N:=6) ?hd (cs:=#[.int .i64 0,.slice none 0 0]) (t:=43) ?hr ?_;(case hd=>rfl);(case hg=>rfl);(case hr=>first|(go_simp;done)|(go_simp;rfl));intro gb256 hg w36 hbox hb;have n0_:=Aside0.mk (Kd.R_below (rR HO227) hb);have n1_:=Aside0.mk (Kd.R_below (rR HO247) hb);have n2_:=Aside0.mk (Kd.S_below (rS HO254) hb);have n3_:=Aside0.mk (IsS142.below (by repeat (first|(with_reducible first|exact HI0.out|apply IsS142.alloc|apply IsS142.drewN|apply IsS142.drew|apply IsS142.set_1|apply IsS142.set_2|refine IsS142.far ?_ NB0_224.out _)|exact HI0.out)) hb);have n4_:=Aside0.mk (blk_below (g:=gb224) (o:=.cells #[.int .i64 0,.slice none 0 0] 43 (0,0)) (bk BK224) hb);have n5_:=Aside0.mk (KeepBut.trans (by repeat (first|(with_reducible first|exact HK.out|apply KeepBut.set_|apply keep_drewN|apply keep_drew|apply keep_alloc|refine keep_far ?_ GW224.out _)|exact HK.out)) (KeepBut.of_below hb g none) (.inl rfl));have n6_:=Aside0.mk (below_step (by repeat (first|(with_reducible first|exact HB.out|apply below_alloc|apply pw_below_drewN|apply below_drew1|refine below_set ?_ (IsS142.ge HI0.out)|refine below_set ?_ GE224.out)|exact HB.out)) hb);have n7_:=Aside0.mk (hbox);have n8_:=Aside0.mk ((by rw [hg];exact (keep_size (w:=w) (g:=g) (row:=none) (by repeat (first|(with_reducible first|exact HK.out|apply KeepBut.set_|apply keep_drewN|apply keep_drew|apply keep_alloc|refine keep_far ?_ GW224.out _)|exact HK.out))):w.heap.size≤gb256));have n9_:=Aside0.mk ((Nat.le_trans HW0.out (by rw [hg];exact (keep_size (w:=w) (g:=g) (row:=none) (by repeat (first|(with_reducible first|exact HK.out|apply KeepBut.set_|apply keep_drewN|apply keep_drew|apply keep_alloc|refine keep_far ?_ GW224.out _)|exact HK.out))):w.heap.size≤gb256):w0.heap.size≤gb256));have n10_:=Aside0.mk ((by rw [hg];exact Nat.ne_of_lt (blk_lt (g:=gb224) (o:=.cells #[.int .i64 0,.slice none 0 0] 43 (0,0)) (bk BK224)):gb224 ≠ gb256));have n11_:=Aside0.mk ((by rw [hg];exact Nat.ne_of_gt (blk_lt (g:=gb224) (o:=.cells #[.int .i64 0,.slice none 0 0] 43 (0,0)) (bk BK224)):gb256 ≠ gb224));have n12_:=Aside0.mk ((by rw [hg];exact Nat.ne_of_lt (IsS142.lt (show IsS142 w0 _ g s0_0 t249 t250 from by repeat (first|(with_reducible first|exact HI0.out|apply IsS142.alloc|apply IsS142.drewN|apply IsS142.drew|apply IsS142.set_1|apply IsS142.set_2|refine IsS142.far ?_ NB0_224.out _)|exact HI0.out))):g ≠ gb256));have n13_:=Aside0.mk ((by rw [hg];exact Nat.ne_of_gt (IsS142.lt (show IsS142 w0 _ g s0_0 t249 t250 from by repeat (first|(with_reducible first|exact HI0.out|apply IsS142.alloc|apply IsS142.drewN|apply IsS142.drew|apply IsS142.set_1|apply IsS142.set_2|refine IsS142.far ?_ NB0_224.out _)|exact HI0.out))):gb256 ≠ g));clear HO227;clear HO247;clear HO254;clear HI0;clear BK224;clear HK;clear HB;have HO227:=n0_;have HO247:=n1_;have HO254:=n2_;have HI0:=n3_;have BK224:=n4_;have HK:=n5_;have HB:=n6_;have BK256:=n7_;have GW256:=n8_;have GE256:=n9_;have NB224_256:=n10_;have NB256_224:=n11_;have NB0_256:=n12_;have NB256_0:=n13_;clear n0_ n1_ n2_ n3_ n4_ n5_ n6_ n7_ n8_ n9_ n10_ n11_ n12_ n13_;clear hb hbox hg;have hnb37:=NB256_224.out;have hnc37:=NB224_256.out;have hnb38:=NB256_0.out;have hnc38:=NB0_256.out;have hcz39_0:w36.cell? ⟨gb256,0,none⟩=some (.int .i64 0):=(blk_cell BK256.out 0).trans rfl;have hcz39_1:w36.cell? ⟨gb256,1,none⟩=some (.slice none 0 0):=(blk_cell BK256.out 1).trans rfl;have hfz39_0:=blk_frozen BK256.out 0;have hfz39_1:=blk_frozen BK256.out 1;obtain ⟨Ao40,co40,eo40⟩:=Kd.S_slice HO254.out;subst eo40))
  have n0_:Aside0 (Kd.R k76 76 ((w36.setCell ⟨gb256,0,none⟩ (.int .i64 t251)).setCell ⟨gb256,1,none⟩ (.slice Ao40 t252.length co40)) w.heap.size (fun _=>True) (.slice Ao30 t225.length co30) t225):=⟨by (with_reducible repeat (first|apply Kd.R_alloc|apply Kd.R_drewN|apply Kd.R_drew));exact Kd.R_mono (Kd.R_far (p:=⟨gb256,1,none⟩) (Kd.R_far (p:=⟨gb256,0,none⟩) (Kd.R_types HO227.out BK256.out (by decide)) (fun _ hk=>hk.2) (.int .i64 t251)) (fun _ hk=>hk.2) (.slice Ao40 t252.length co40)) (fun _ hk=>trivial)⟩
  have n1_:Aside0 (Kd.R (Kd.int .i64) 3 ((w36.setCell ⟨gb256,0,none⟩ (.int .i64 t251)).setCell ⟨gb256,1,none⟩ (.slice Ao40 t252.length co40)) w.heap.size (fun _=>True) (.slice Ao33 y245.length co33) y245):=⟨by (with_reducible repeat (first|apply Kd.R_alloc|apply Kd.R_drewN|apply Kd.R_drew));exact Kd.R_mono (Kd.R_far (p:=⟨gb256,1,none⟩) (Kd.R_far (p:=⟨gb256,0,none⟩) (Kd.R_types HO247.out BK256.out (by decide)) (fun _ hk=>hk.2) (.int .i64 t251)) (fun _ hk=>hk.2) (.slice Ao40 t252.length co40)) (fun _ hk=>trivial)⟩
  have n2_:Aside0 (Kd.S k29 29 ((w36.setCell ⟨gb256,0,none⟩ (.int .i64 t251)).setCell ⟨gb256,1,none⟩ (.slice Ao40 t252.length co40)) w.heap.size (fun k_=>some k_ ≠ (.slice Ao33 y245.length co33:Value).ownBlock) (.slice Ao40 t252.length co40) t252):=⟨by (with_reducible repeat (first|apply Kd.S_alloc|apply Kd.S_drewN|apply Kd.S_drew));exact Kd.S_mono (Kd.S_far (p:=⟨gb256,1,none⟩) (Kd.S_far (p:=⟨gb256,0,none⟩) (Kd.S_types HO254.out BK256.out (by decide)) (fun _ hk=>hk.2) (.int .i64 t251)) (fun _ hk=>hk.2) (.slice Ao40 t252.length co40)) (fun _ hk=>hk.1.2)⟩
  have n3_:Aside0 (((w36.setCell ⟨gb256,0,none⟩ (.int .i64 t251)).setCell ⟨gb256,1,none⟩ (.slice Ao40 t252.length co40)).heap[gb224]?=some (.cells #[.int .i64 0,.slice none 0 0] 43 (0,0))):=⟨by (with_reducible repeat (first|refine blk_drewN ?_ _|refine blk_drew ?_|refine blk_alloc ?_ _));refine blk_far ?_ NB224_256.out _;(with_reducible repeat (first|refine blk_drewN ?_ _|refine blk_drew ?_|refine blk_alloc ?_ _));refine blk_far ?_ NB224_256.out _;(with_reducible repeat (first|refine blk_drewN ?_ _|refine blk_drew ?_|refine blk_alloc ?_ _));exact BK224.out⟩
  have n4_:Aside0 (((w36.setCell ⟨gb256,0,none⟩ (.int .i64 t251)).setCell ⟨gb256,1,none⟩ (.slice Ao40 t252.length co40)).heap[gb256]?=some (.cells #[.int .i64 t251,.slice Ao40 t252.length co40] 43 (0,0))):=⟨by (with_reducible repeat (first|refine blk_drewN ?_ _|refine blk_drew ?_|refine blk_alloc ?_ _));refine blk_put (cs:=#[.int .i64 t251,.slice none 0 0]) ?_ 1 _ rfl;(with_reducible repeat (first|refine blk_drewN ?_ _|refine blk_drew ?_|refine blk_alloc ?_ _));refine blk_put (cs:=#[.int .i64 0,.slice none 0 0]) ?_ 0 _ rfl;(with_reducible repeat (first|refine blk_drewN ?_ _|refine blk_drew ?_|refine blk_alloc ?_ _));exact BK256.out⟩
  have n5_:Aside0 (IsS142 w0 ((w36.setCell ⟨gb256,0,none⟩ (.int .i64 t251)).setCell ⟨gb256,1,none⟩ (.slice Ao40 t252.length co40)) g s0_0 t249 t250):=⟨by repeat (first|(with_reducible first|exact HI0.out|apply IsS142.alloc|apply IsS142.drewN|apply IsS142.drew|apply IsS142.set_1|apply IsS142.set_2|refine IsS142.far ?_ NB0_224.out _|refine IsS142.far ?_ NB0_256.out _)|exact HI0.out)⟩
  have n6_:Aside0 (KeepBut w ((w36.setCell ⟨gb256,0,none⟩ (.int .i64 t251)).setCell ⟨gb256,1,none⟩ (.slice Ao40 t252.length co40)) g none):=⟨by repeat (first|(with_reducible first|exact HK.out|apply KeepBut.set_|apply keep_drewN|apply keep_drew|apply keep_alloc|refine keep_far ?_ GW224.out _|refine keep_far ?_ GW256.out _)|exact HK.out)⟩
  have n7_:Aside0 (Below w0.heap.size w0 ((w36.setCell ⟨gb256,0,none⟩ (.int .i64 t251)).setCell ⟨gb256,1,none⟩ (.slice Ao40 t252.length co40))):=⟨by repeat (first|(with_reducible first|exact HB.out|apply below_alloc|apply pw_below_drewN|apply below_drew1|refine below_set ?_ (IsS142.ge HI0.out)|refine below_set ?_ GE224.out|refine below_set ?_ GE256.out)|exact HB.out)⟩
  (try clear HO227);(try clear HO247);(try clear HO254);(try clear BK224);(try clear BK256);(try clear HI0);(try clear HK);(try clear HB)
  generalize ((w36.setCell ⟨gb256,0,none⟩ (.int .i64 t251)).setCell ⟨gb256,1,none⟩ (.slice Ao40 t252.length co40))=w41 at n0_ n1_ n2_ n3_ n4_ n5_ n6_ n7_ ⊢
  have HO227:=n0_;have HO247:=n1_;have HO254:=n2_;have BK224:=n3_;have BK256:=n4_;have HI0:=n5_;have HK:=n6_;have HB:=n7_;clear n0_ n1_ n2_ n3_ n4_ n5_ n6_ n7_;have n0_:=Aside0.mk (Kd.R_drew HO227.out);have n1_:=Aside0.mk (Kd.R_drew HO247.out);have n2_:=Aside0.mk (Kd.S_drew HO254.out);have n3_:=Aside0.mk (blk_drew BK224.out);have n4_:=Aside0.mk (blk_drew BK256.out);have n5_:=Aside0.mk (IsS142.drew HI0.out);have n6_:=Aside0.mk (keep_drew HK.out);have n7_:=Aside0.mk (below_drew1 HB.out);clear HO227 HO247 HO254 BK224 BK256 HI0 HK HB;have HO227:=n0_;have HO247:=n1_;have HO254:=n2_;have BK224:=n3_;have BK256:=n4_;have HI0:=n5_;have HK:=n6_;have HB:=n7_;clear n0_ n1_ n2_ n3_ n4_ n5_ n6_ n7_
  refine start_ (n:=4) (S:=fun w'=>w'.cell? ⟨gb256,0,none⟩=some (.int .i64 t251)∧w'.cell? ⟨gb256,1,none⟩=some (.slice Ao40 t252.length co40)) (ds:=[]) (fl 4 0) (by kernel_rfl) rfl rfl ⟨(blk_cell BK256.out 0).trans rfl,(blk_cell BK256.out 1).trans rfl⟩ (fun hHeld=>?_)
  generalize w41.drew=w42 at HO227 HO247 HO254 BK224 BK256 HI0 HK HB hHeld ⊢
  refine pu 0 28 (fl 4 1) ?_
  refine pu 2 2 (fl 4 5) ?_
  refine ta 1 29 (fl 4 7) hHeld ?_
  refine on 3 none (fl 4 15) (fun K hK=>?_)
  have hs43:w42.cell? ⟨gb224,0,none⟩=some (.int .i64 0):=(blk_cell BK224.out 0).trans rfl
  have hfs43:=blk_frozen BK224.out 0
  have hns43_1:=NB256_224.out
  have hms43_1:=NB224_256.out
  have hs44:w42.cell? ⟨gb224,1,none⟩=some (.slice none 0 0):=(blk_cell BK224.out 1).trans rfl
  have hfs44:=blk_frozen BK224.out 1
  have hns44_1:=NB256_224.out
  have hms44_1:=NB224_256.out
  refine skip_ (w1:=?_) (by rfl) rfl ?_ ?_
  rotate_left
  ·go_simp
   rfl
  refine hK.out _ _ ⟨((cell_far (p:=⟨gb224,_,none⟩) NB256_224.out _).trans (((cell_far (p:=⟨gb224,_,none⟩) NB256_224.out _).trans (hHeld.1)))),((cell_far (p:=⟨gb224,_,none⟩) NB256_224.out _).trans (((cell_far (p:=⟨gb224,_,none⟩) NB256_224.out _).trans (hHeld.2))))⟩ (fun hHeld=>?_)
  clear hK K
  refine done_ (by kernel_rfl) ?_
  try go_wp2
  refine bodyPost_ret (results_tc rfl _ _ gb224 43 #[.int .i64 t251,.slice Ao40 t252.length co40] (0,0) _ rfl (by (with_reducible repeat (first|refine blk_drewN ?_ _|refine blk_drew ?_|refine blk_alloc ?_ _));refine blk_put (cs:=#[.int .i64 t251,.slice none 0 0]) ?_ 1 _ rfl;(with_reducible repeat (first|refine blk_drewN ?_ _|refine blk_drew ?_|refine blk_alloc ?_ _));refine blk_put (cs:=#[.int .i64 0,.slice none 0 0]) ?_ 0 _ rfl;(with_reducible repeat (first|refine blk_drewN ?_ _|refine blk_drew ?_|refine blk_alloc ?_ _));exact BK224.out) Try.underlying43 rfl (by kernel_rfl)) rfl ?_
  exact ⟨_,_,rz,by (with_reducible repeat (first|apply Kd.R_alloc|apply Kd.R_drewN|apply Kd.R_drew));exact Kd.R_mono (Kd.R_far (p:=⟨gb224,1,none⟩) (Kd.R_far (p:=⟨gb224,0,none⟩) (Kd.R_types HO227.out BK224.out (by decide)) (fun _ hk=>hk.2) (.int .i64 t251)) (fun _ hk=>hk.2) (.slice Ao40 t252.length co40)) (fun _ hk=>trivial),by (with_reducible repeat (first|apply Kd.S_alloc|apply Kd.S_drewN|apply Kd.S_drew));exact Kd.S_mono (Kd.S_far (p:=⟨gb224,1,none⟩) (Kd.S_far (p:=⟨gb224,0,none⟩) (Kd.S_types HO254.out BK224.out (by decide)) (fun _ hk=>hk.2) (.int .i64 t251)) (fun _ hk=>hk.2) (.slice Ao40 t252.length co40)) (fun _ hk=>trivial),by repeat (first|(with_reducible first|exact HI0.out|apply IsS142.alloc|apply IsS142.drewN|apply IsS142.drew|apply IsS142.set_1|apply IsS142.set_2|refine IsS142.far ?_ NB0_224.out _|refine IsS142.far ?_ NB0_256.out _)|exact HI0.out),by repeat (first|(with_reducible first|exact HB.out|apply below_alloc|apply pw_below_drewN|apply below_drew1|refine below_set ?_ (IsS142.ge HI0.out)|refine below_set ?_ GE224.out|refine below_set ?_ GE256.out)|exact HB.out),by repeat (first|(with_reducible first|exact HK.out|apply KeepBut.set_|apply keep_drewN|apply keep_drew|apply keep_alloc|refine keep_far ?_ GW224.out _|refine keep_far ?_ GW256.out _)|exact HK.out)⟩
end Go.Proofs.Ytbhllgifciaepaa.PFnBest
