/- Trimmed by a program of this session (trim.py). Not trusted: Lean checks it. -/
import Derived.Test.YtbhllgifciaepaaTXGetFilePFnExactGetFilex0
import Derived.Test.YtbhllgifciaepaaTXGetFilePFnExactGetFilex1
import Derived.Test.YtbhllgifciaepaaTXGetFilePFnExactGetFilex2
import Derived.Test.YtbhllgifciaepaaTXGetFilePFnExactGetFilex3
namespace Go.Proofs.Ytbhllgifciaepaa.PFnExactGetFile
open Go.RowKit Go.Proofs.YtbhllgifciaepaaW.PrintWords Go.Proofs.YtbhllgifciaepaaW.PrintLast Go.Proofs.YtbhllgifciaepaaW.PrintMore Go.Proofs.Ytbhllgifciaepaa.St
attribute [local go_sem] max2_int min2_int max_two min_two max_three min_three max_four min_four
set_option linter.unusedVariables false
set_option linter.unusedSimpArgs false
def spec_GetFile.j0:Nat→List Int→Int→ByteArray→Bool→Int→Int→Int→Option (Int × Int × Int × Bool × List Int × Bool)
 | 0,_,_,_,_,_,_,_=>none
 | k+1,x0,x7,x10,x54,x195000,x195001,x195002=>if x54=true then (some (0,0,0,false,([]:List Int),false)) else ((some (([]:List Int):List Int)).bind fun y201=>(if y201.length+x10.size < 140737488355328 then ((some (y201 ++ bytesOf x10:List Int)).bind fun y204=>((spec_FileOk.f x195000 x195001 x195002 (x7 == 1) y204).bind fun t208=>(if t208=true then ((spec_PutFile.f k x195000 x195001 x195002 (x7 == 1) y204).bind fun t209=>(if (strOfNums t209).toList=(strOfNums x0).toList then (some (x195000,x195001,x195002,(x7 == 1),y204,true)) else (some (0,0,0,false,([]:List Int),false)))) else (some (0,0,0,false,([]:List Int),false))))) else (none)))
def spec_GetFile.f (k:Nat) (l0:List Int):Option (Int × Int × Int × Bool × List Int × Bool):=(spec_l8GetStamp.f k l0 0).bind fun bt189=>((spec_GetNum.f k l0 bt189.2.2.2.1).bind fun bt195=>((spec_GetText.f k l0 bt195.2.1).bind fun bt198=>(if bt189.2.2.2.2=true then (if bt195.2.2=true then (if bt198.2.2=true then (if bt195.1 > 1 then (spec_GetFile.j0 k l0 bt195.1 bt198.1 true bt189.1 bt189.2.1 bt189.2.2.1) else (spec_GetFile.j0 k l0 bt195.1 bt198.1 ((wrap64 (bt198.2.1+4)) != (l0.length:Int)) bt189.1 bt189.2.1 bt189.2.2.1)) else (spec_GetFile.j0 k l0 bt195.1 bt198.1 true bt189.1 bt189.2.1 bt189.2.2.1)) else (spec_GetFile.j0 k l0 bt195.1 bt198.1 true bt189.1 bt189.2.1 bt189.2.2.1)) else (spec_GetFile.j0 k l0 bt195.1 bt198.1 true bt189.1 bt189.2.1 bt189.2.2.1))))
def spec_GetFile.T6:Bool × List (List Nat × List Nat):=(true,[([],[]),([],[]),([1],[1]),([],[]),([],[]),([3,4],[3,4]),([0,2,5],[0,2,5]),([],[]),([7,6,5,0,1,2,3,4,5,6,7],[6,7])])
def spec_GetFile.B6:List Nat:=[0,0,2,0,0,24,63,0,255]
theorem spec_GetFile.tab6:rtab .any (opsOf Try.f53 6)=spec_GetFile.T6:=by kernel_rfl
theorem spec_GetFile.bits6:waitsOk spec_GetFile.T6.2 spec_GetFile.B6=true:=by kernel_rfl
def spec_GetFile.T7:Bool × List (List Nat × List Nat):=(true,[([],[]),([0],[0]),([1],[1]),([2,1],[2]),([3],[3]),([4,3,3],[3,4]),([5,3],[3,5]),([3],[3]),([7,3],[3,7]),([6,8,3],[3,6,8]),([3,9],[3,9])])
def spec_GetFile.B7:List Nat:=[0,1,3,7,15,31,63,15,143,511,1023]
theorem spec_GetFile.tab7:rtab .any (opsOf Try.f53 7)=spec_GetFile.T7:=by kernel_rfl
theorem spec_GetFile.bits7:waitsOk spec_GetFile.T7.2 spec_GetFile.B7=true:=by kernel_rfl
set_option maxHeartbeats 8000000 in
set_option maxRecDepth 100000 in
theorem spec_GetFile.calls (k:Nat) (A0:Option Addr) (c0:Nat) (l0:List Int) (r1:Int) (r2:Int) (r3:Int) (r4:Bool) (r5:List Int) (r6:Bool) (w:World) (hr0:Kd.C (Kd.int .u8) w A0 l0.length l0) (hc0:l0.length≤c0) (h:spec_GetFile.f k l0=some (r1,r2,r3,r4,r5,r6)) :
  Calls Try.prog 53 #[.slice A0 l0.length c0] w fun e w'=>∃ v4_:Value,e = .returned (.tuple #[.agg #[.int .i64 r1,.int .i64 r2,.int .i64 r3,.bool r4,v4_],.bool r6])∧Kd.R (Kd.int .u8) 5 w' w.heap.size (fun _=>True) v4_ r5∧Below w.heap.size w w':=by
 have hu61:=Try.underlying61
 have hu59:=Try.underlying59
 have HR0:=Aside0.mk hr0
 have HC0:=Aside0.mk hc0
 clear hr0 hc0
 have HB:=Aside0.mk (Below.refl w.heap.size w)
 have H:((spec_l8GetStamp.f k l0 0).bind fun bt189=>((spec_GetNum.f k l0 bt189.2.2.2.1).bind fun bt195=>((spec_GetText.f k l0 bt195.2.1).bind fun bt198=>(if bt189.2.2.2.2=true then (if bt195.2.2=true then (if bt198.2.2=true then (if bt195.1 > 1 then (spec_GetFile.j0 k l0 bt195.1 bt198.1 true bt189.1 bt189.2.1 bt189.2.2.1) else (spec_GetFile.j0 k l0 bt195.1 bt198.1 ((wrap64 (bt198.2.1+4)) != (l0.length:Int)) bt189.1 bt189.2.1 bt189.2.2.1)) else (spec_GetFile.j0 k l0 bt195.1 bt198.1 true bt189.1 bt189.2.1 bt189.2.2.1)) else (spec_GetFile.j0 k l0 bt195.1 bt198.1 true bt189.1 bt189.2.1 bt189.2.2.1)) else (spec_GetFile.j0 k l0 bt195.1 bt198.1 true bt189.1 bt189.2.1 bt189.2.2.1)))))=some (r1,r2,r3,r4,r5,r6):=h
 clear h
 replace H:=Option.bind_eq_some_iff.mp H
 obtain ⟨⟨t189,t190,t191,t192,t193⟩,A20,H⟩:=H
 try dsimp only at H
 have A2:=Aside0.mk A20
 clear A20
 replace H:=Option.bind_eq_some_iff.mp H
 obtain ⟨⟨t195,t196,t197⟩,A30,H⟩:=H
 try dsimp only at H
 have A3:=Aside0.mk A30
 clear A30
 replace H:=Option.bind_eq_some_iff.mp H
 obtain ⟨⟨t198,t199,t200⟩,A40,H⟩:=H
 try dsimp only at H
 have A4:=Aside0.mk A40
 clear A40
 have HC5:=Aside0.mk H
 clear H
 go_enter Try.func53,Try.ntmps53
 go_upto_region 4 with (first|((with_reducible refine gate_dst (N:=2) rfl ?_);(try (refine gate_guard (by rfl) ?_;dsimp only));refine box_event ?hg (N:=2) ?hd (cs:=#[.int .i64 0,.int .i64 0,.int .i64 0,.bool false,.slice none 0 0]) (t:=61) ?hr ?_;(case hd=>rfl);(case hg=>rfl);(case hr=>first|(go_simp;done)|(go_simp;rfl));intro gb188 hg w6 hbox hb;have n0_:=bs hb;have n1_:=Aside0.mk (hbox);have n2_:=Aside0.mk ((by rw [hg];exact (below_size be):w.heap.size≤gb188));have n3_:=Aside0.mk ((by rw [hg];exact (below_size be):w.heap.size≤gb188));clear HB;have HB:=n0_;have BK188:=n1_;have GW188:=n2_;have GE188:=n3_;clear n0_ n1_ n2_ n3_;clear hb hbox hg)|((with_reducible refine gate_callee (f:=107) rfl ?_);refine goesL_ (some 16) rfl rfl Try.func107 (by kernel_rfl) rfl #[.slice A0 l0.length c0,.int .i64 0] rfl (by (try simp only [List.map_toArray,List.map_cons,List.map_nil]);first|done|rfl|(simp only [List.length_drop,List.length_take];rfl)) ?_;(with_reducible refine (spec_l8GetStamp.calls k _ _ l0 0 t189 t190 t191 t192 t193 _ ?side1 ?side2 A2.out).mono ?_);(case side1=>exact rC HR0);(case side2=>exact HC0.out);rintro e w7 ⟨rfl,hb⟩;refine ⟨_,rfl,?_⟩;have n0_:=Aside0.mk (blk_below (g:=gb188) (o:=.cells #[.int .i64 0,.int .i64 0,.int .i64 0,.bool false,.slice none 0 0] 61 (0,0)) (bk BK188) hb);have n1_:=bs hb;clear BK188;clear HB;have BK188:=n0_;have HB:=n1_;clear n0_ n1_;(try clear hb);(try clear hb2);(try clear hk);(try clear hi))|((with_reducible refine gate_dst (N:=4) rfl ?_);(try (refine gate_guard (by rfl) ?_;dsimp only));refine box_event ?hg (N:=4) ?hd (cs:=#[.int .i64 0,.int .i64 0,.int .i64 0]) (t:=59) ?hr ?_;(case hd=>rfl);(case hg=>rfl);(case hr=>first|(go_simp;done)|(go_simp;rfl));intro gb194 hg w8 hbox hb;have n0_:=Aside0.mk (blk_below (g:=gb188) (o:=.cells #[.int .i64 0,.int .i64 0,.int .i64 0,.bool false,.slice none 0 0] 61 (0,0)) (bk BK188) hb);have n1_:=bs hb;have n2_:=Aside0.mk (hbox);have n3_:=Aside0.mk ((by rw [hg];exact (below_size be):w.heap.size≤gb194));have n4_:=Aside0.mk ((by rw [hg];exact (below_size be):w.heap.size≤gb194));have n5_:=Aside0.mk ((by rw [hg];exact Nat.ne_of_lt (blk_lt (g:=gb188) (o:=.cells #[.int .i64 0,.int .i64 0,.int .i64 0,.bool false,.slice none 0 0] 61 (0,0)) (bk BK188)):gb188 ≠ gb194));have n6_:=Aside0.mk ((by rw [hg];exact Nat.ne_of_gt (blk_lt (g:=gb188) (o:=.cells #[.int .i64 0,.int .i64 0,.int .i64 0,.bool false,.slice none 0 0] 61 (0,0)) (bk BK188)):gb194 ≠ gb188));clear BK188;clear HB;have BK188:=n0_;have HB:=n1_;have BK194:=n2_;have GW194:=n3_;have GE194:=n4_;have NB188_194:=n5_;have NB194_188:=n6_;clear n0_ n1_ n2_ n3_ n4_ n5_ n6_;clear hb hbox hg;have hnb9:=NB194_188.out;have hnc9:=NB188_194.out;have hcz10_0:w8.cell? ⟨gb194,0,none⟩=some (.int .i64 0):=(blk_cell BK194.out 0).trans rfl;have hcz10_1:w8.cell? ⟨gb194,1,none⟩=some (.int .i64 0):=(blk_cell BK194.out 1).trans rfl;have hcz10_2:w8.cell? ⟨gb194,2,none⟩=some (.int .i64 0):=(blk_cell BK194.out 2).trans rfl;have hfz10_0:=blk_frozen BK194.out 0;have hfz10_1:=blk_frozen BK194.out 1;have hfz10_2:=blk_frozen BK194.out 2)|((with_reducible refine gate_callee (f:=108) rfl ?_);refine goesL_ (some 23) rfl rfl Try.func108 (by kernel_rfl) rfl #[.slice A0 l0.length c0,.int .i64 t192] rfl (by (try simp only [List.map_toArray,List.map_cons,List.map_nil]);first|done|rfl|(simp only [List.length_drop,List.length_take];rfl)) ?_;(with_reducible refine (spec_GetNum.calls k _ _ l0 t192 t195 t196 t197 _ ?side1 ?side2 A3.out).mono ?_);(case side1=>exact Kd.C_below HR0.out be);(case side2=>exact HC0.out);rintro e w' ⟨rfl,⟨nd,rfl⟩⟩;refine ⟨_,rfl,?_⟩)|((with_reducible refine gate_callee (f:=109) rfl ?_);refine goesL_ (some 30) rfl rfl Try.func109 (by kernel_rfl) rfl #[.slice A0 l0.length c0,.int .i64 t196] rfl (by (try simp only [List.map_toArray,List.map_cons,List.map_nil]);first|done|rfl|(simp only [List.length_drop,List.length_take];rfl)) ?_;(with_reducible refine (spec_GetText.calls k _ _ l0 t196 t198 t199 t200 _ ?side1 ?side2 A4.out).mono ?_);(case side1=>exact Kd.C_below HR0.out be);(case side2=>exact HC0.out);rintro e w' ⟨rfl,⟨nd,rfl⟩⟩;refine ⟨_,rfl,?_⟩))
 (try simp only [Act.put,List.setIfInBounds_toArray,List.set_cons_zero,List.set_cons_succ])
 go_cut [54] (fun v54 wc=>∃ (kq:Nat) (x54_4:Bool),v54 = .bool x54_4∧Aside0 (spec_GetFile.j0 kq l0 t195 t198 x54_4 t189 t190 t191=some (r1,r2,r3,r4,r5,r6))∧Aside0 (kq≤k)∧Aside0 (wc.heap[gb188]?=some (.cells #[.int .i64 0,.int .i64 0,.int .i64 0,.bool false,(.slice none 0 0)] 61 (0,0)))∧Aside0 (wc.heap[gb194]?=some (.cells #[.int .i64 t189,.int .i64 t190,.int .i64 t191] 59 (0,0)))∧Aside0 (Below w.heap.size w wc))
 case first=>
  have H:=HC5.out
  clear HC5
  by_cases c11:t193=true
  ·subst c11
   rw [if_pos rfl] at H
   by_cases c12:t197=true
   ·subst c12
    rw [if_pos rfl] at H
    by_cases c13:t200=true
    ·subst c13
     rw [if_pos rfl] at H
     by_cases c14:t195 > 1
     ·rw [if_pos c14] at H
      have c14b0:decide (1 < t195)=true:=decide_eq_true c14
      clear c14
      (first|rw [c14b0]|(simp only [i64_w,i32_w];rw [c14b0])|skip)
      have H':=Aside0.mk H
      clear H
      go_wp2
      go_meet
      case rel=>exact ⟨_,(true),rd_,H',⟨by first|omega|exact Nat.le_refl _⟩,⟨by (with_reducible repeat (first|refine blk_drewN ?_ _|refine blk_drew ?_|refine blk_alloc ?_ _));refine blk_far ?_ NB188_194.out _;(with_reducible repeat (first|refine blk_drewN ?_ _|refine blk_drew ?_|refine blk_alloc ?_ _));refine blk_far ?_ NB188_194.out _;(with_reducible repeat (first|refine blk_drewN ?_ _|refine blk_drew ?_|refine blk_alloc ?_ _));refine blk_far ?_ NB188_194.out _;(with_reducible repeat (first|refine blk_drewN ?_ _|refine blk_drew ?_|refine blk_alloc ?_ _));exact BK188.out⟩,⟨by (with_reducible repeat (first|refine blk_drewN ?_ _|refine blk_drew ?_|refine blk_alloc ?_ _));refine blk_put (cs:=#[.int .i64 t189,.int .i64 t190,.int .i64 0]) ?_ 2 _ rfl;(with_reducible repeat (first|refine blk_drewN ?_ _|refine blk_drew ?_|refine blk_alloc ?_ _));refine blk_put (cs:=#[.int .i64 t189,.int .i64 0,.int .i64 0]) ?_ 1 _ rfl;(with_reducible repeat (first|refine blk_drewN ?_ _|refine blk_drew ?_|refine blk_alloc ?_ _));refine blk_put (cs:=#[.int .i64 0,.int .i64 0,.int .i64 0]) ?_ 0 _ rfl;(with_reducible repeat (first|refine blk_drewN ?_ _|refine blk_drew ?_|refine blk_alloc ?_ _));exact BK194.out⟩,⟨be⟩⟩
     ·rw [if_neg c14] at H
      have c14b0:decide (1 < t195)=false:=decide_eq_false c14
      clear c14
      (first|rw [c14b0]|(simp only [i64_w,i32_w];rw [c14b0])|skip)
      have H':=Aside0.mk H
      clear H
      go_wp2
      go_meet
      case rel=>exact ⟨_,(((wrap64 (t199+4)) != (l0.length:Int))),rd_,H',⟨by first|omega|exact Nat.le_refl _⟩,⟨by (with_reducible repeat (first|refine blk_drewN ?_ _|refine blk_drew ?_|refine blk_alloc ?_ _));refine blk_far ?_ NB188_194.out _;(with_reducible repeat (first|refine blk_drewN ?_ _|refine blk_drew ?_|refine blk_alloc ?_ _));refine blk_far ?_ NB188_194.out _;(with_reducible repeat (first|refine blk_drewN ?_ _|refine blk_drew ?_|refine blk_alloc ?_ _));refine blk_far ?_ NB188_194.out _;(with_reducible repeat (first|refine blk_drewN ?_ _|refine blk_drew ?_|refine blk_alloc ?_ _));exact BK188.out⟩,⟨by (with_reducible repeat (first|refine blk_drewN ?_ _|refine blk_drew ?_|refine blk_alloc ?_ _));refine blk_put (cs:=#[.int .i64 t189,.int .i64 t190,.int .i64 0]) ?_ 2 _ rfl;(with_reducible repeat (first|refine blk_drewN ?_ _|refine blk_drew ?_|refine blk_alloc ?_ _));refine blk_put (cs:=#[.int .i64 t189,.int .i64 0,.int .i64 0]) ?_ 1 _ rfl;(with_reducible repeat (first|refine blk_drewN ?_ _|refine blk_drew ?_|refine blk_alloc ?_ _));refine blk_put (cs:=#[.int .i64 0,.int .i64 0,.int .i64 0]) ?_ 0 _ rfl;(with_reducible repeat (first|refine blk_drewN ?_ _|refine blk_drew ?_|refine blk_alloc ?_ _));exact BK194.out⟩,⟨be⟩⟩
    ·replace c13:=Bool.eq_false_iff.mpr c13
     subst c13
     replace H:=(if_neg (show ¬ (false=true) by decide)).symm.trans H
     have H':=Aside0.mk H
     clear H
     go_wp2
     go_meet
     case rel=>exact ⟨_,(true),rd_,H',⟨by first|omega|exact Nat.le_refl _⟩,⟨by (with_reducible repeat (first|refine blk_drewN ?_ _|refine blk_drew ?_|refine blk_alloc ?_ _));refine blk_far ?_ NB188_194.out _;(with_reducible repeat (first|refine blk_drewN ?_ _|refine blk_drew ?_|refine blk_alloc ?_ _));refine blk_far ?_ NB188_194.out _;(with_reducible repeat (first|refine blk_drewN ?_ _|refine blk_drew ?_|refine blk_alloc ?_ _));refine blk_far ?_ NB188_194.out _;(with_reducible repeat (first|refine blk_drewN ?_ _|refine blk_drew ?_|refine blk_alloc ?_ _));exact BK188.out⟩,⟨by (with_reducible repeat (first|refine blk_drewN ?_ _|refine blk_drew ?_|refine blk_alloc ?_ _));refine blk_put (cs:=#[.int .i64 t189,.int .i64 t190,.int .i64 0]) ?_ 2 _ rfl;(with_reducible repeat (first|refine blk_drewN ?_ _|refine blk_drew ?_|refine blk_alloc ?_ _));refine blk_put (cs:=#[.int .i64 t189,.int .i64 0,.int .i64 0]) ?_ 1 _ rfl;(with_reducible repeat (first|refine blk_drewN ?_ _|refine blk_drew ?_|refine blk_alloc ?_ _));refine blk_put (cs:=#[.int .i64 0,.int .i64 0,.int .i64 0]) ?_ 0 _ rfl;(with_reducible repeat (first|refine blk_drewN ?_ _|refine blk_drew ?_|refine blk_alloc ?_ _));exact BK194.out⟩,⟨be⟩⟩
   ·replace c12:=Bool.eq_false_iff.mpr c12
    subst c12
    replace H:=(if_neg (show ¬ (false=true) by decide)).symm.trans H
    have H':=Aside0.mk H
    clear H
    go_wp2
    go_meet
    case rel=>exact ⟨_,(true),rd_,H',⟨by first|omega|exact Nat.le_refl _⟩,⟨by (with_reducible repeat (first|refine blk_drewN ?_ _|refine blk_drew ?_|refine blk_alloc ?_ _));refine blk_far ?_ NB188_194.out _;(with_reducible repeat (first|refine blk_drewN ?_ _|refine blk_drew ?_|refine blk_alloc ?_ _));refine blk_far ?_ NB188_194.out _;(with_reducible repeat (first|refine blk_drewN ?_ _|refine blk_drew ?_|refine blk_alloc ?_ _));refine blk_far ?_ NB188_194.out _;(with_reducible repeat (first|refine blk_drewN ?_ _|refine blk_drew ?_|refine blk_alloc ?_ _));exact BK188.out⟩,⟨by (with_reducible repeat (first|refine blk_drewN ?_ _|refine blk_drew ?_|refine blk_alloc ?_ _));refine blk_put (cs:=#[.int .i64 t189,.int .i64 t190,.int .i64 0]) ?_ 2 _ rfl;(with_reducible repeat (first|refine blk_drewN ?_ _|refine blk_drew ?_|refine blk_alloc ?_ _));refine blk_put (cs:=#[.int .i64 t189,.int .i64 0,.int .i64 0]) ?_ 1 _ rfl;(with_reducible repeat (first|refine blk_drewN ?_ _|refine blk_drew ?_|refine blk_alloc ?_ _));refine blk_put (cs:=#[.int .i64 0,.int .i64 0,.int .i64 0]) ?_ 0 _ rfl;(with_reducible repeat (first|refine blk_drewN ?_ _|refine blk_drew ?_|refine blk_alloc ?_ _));exact BK194.out⟩,⟨be⟩⟩
  ·replace c11:=Bool.eq_false_iff.mpr c11
   subst c11
   replace H:=(if_neg (show ¬ (false=true) by decide)).symm.trans H
   have H':=Aside0.mk H
   clear H
   go_wp2
   go_meet
   case rel=>exact ⟨_,(true),rd_,H',⟨by first|omega|exact Nat.le_refl _⟩,⟨by (with_reducible repeat (first|refine blk_drewN ?_ _|refine blk_drew ?_|refine blk_alloc ?_ _));refine blk_far ?_ NB188_194.out _;(with_reducible repeat (first|refine blk_drewN ?_ _|refine blk_drew ?_|refine blk_alloc ?_ _));refine blk_far ?_ NB188_194.out _;(with_reducible repeat (first|refine blk_drewN ?_ _|refine blk_drew ?_|refine blk_alloc ?_ _));refine blk_far ?_ NB188_194.out _;(with_reducible repeat (first|refine blk_drewN ?_ _|refine blk_drew ?_|refine blk_alloc ?_ _));exact BK188.out⟩,⟨by (with_reducible repeat (first|refine blk_drewN ?_ _|refine blk_drew ?_|refine blk_alloc ?_ _));refine blk_put (cs:=#[.int .i64 t189,.int .i64 t190,.int .i64 0]) ?_ 2 _ rfl;(with_reducible repeat (first|refine blk_drewN ?_ _|refine blk_drew ?_|refine blk_alloc ?_ _));refine blk_put (cs:=#[.int .i64 t189,.int .i64 0,.int .i64 0]) ?_ 1 _ rfl;(with_reducible repeat (first|refine blk_drewN ?_ _|refine blk_drew ?_|refine blk_alloc ?_ _));refine blk_put (cs:=#[.int .i64 0,.int .i64 0,.int .i64 0]) ?_ 0 _ rfl;(with_reducible repeat (first|refine blk_drewN ?_ _|refine blk_drew ?_|refine blk_alloc ?_ _));exact BK194.out⟩,⟨be⟩⟩
 case rest=>
  clear HC5
  try clear c1
  try clear p2
  try clear c5
  try clear p6
  try clear c9
  try clear c10
  try clear c11
  try clear c12
  try clear c13
  try clear c14
  try clear c14b0
  try clear hcz10_0
  try clear hcz10_1
  try clear hcz10_2
  try clear hfz10_0
  try clear hfz10_1
  try clear hfz10_2
  obtain ⟨kq,x54_4,rfl,HA,HJ4,BK188,BK194,HB⟩:=hcut
  cases kq with
  | zero=>exact absurd HA.out (by simp [spec_GetFile.j0])
  | succ kj4=>
   have H:=HA.out
   clear HA
   simp only [spec_GetFile.j0] at H
   by_cases c15:x54_4=true
   ·subst c15
    rw [if_pos rfl] at H
    simp only [Option.some.injEq,Prod.mk.injEq] at H
    obtain ⟨rfl,rfl,rfl,rfl,rfl,rfl⟩:=H
    have hnb16:=NB188_194.out
    have hnc16:=NB194_188.out
    have hcz17_0:wc.cell? ⟨gb188,0,none⟩=some (.int .i64 0):=(blk_cell BK188.out 0).trans rfl
    have hcz17_1:wc.cell? ⟨gb188,1,none⟩=some (.int .i64 0):=(blk_cell BK188.out 1).trans rfl
    have hcz17_2:wc.cell? ⟨gb188,2,none⟩=some (.int .i64 0):=(blk_cell BK188.out 2).trans rfl
    have hcz17_3:wc.cell? ⟨gb188,3,none⟩=some (.bool false):=(blk_cell BK188.out 3).trans rfl
    have hcz17_4:wc.cell? ⟨gb188,4,none⟩=some (.slice none 0 0):=(blk_cell BK188.out 4).trans rfl
    have hfz17_0:=blk_frozen BK188.out 0
    have hfz17_1:=blk_frozen BK188.out 1
    have hfz17_2:=blk_frozen BK188.out 2
    have hfz17_3:=blk_frozen BK188.out 3
    have hfz17_4:=blk_frozen BK188.out 4
    go_wp2
    refine bodyPost_ret (results_ct rfl _ _ gb188 61 #[.int .i64 0,.int .i64 0,.int .i64 0,.bool false,.slice none 0 0] (0,0) _ rfl (by (with_reducible repeat (first|refine blk_drewN ?_ _|refine blk_drew ?_|refine blk_alloc ?_ _));refine blk_put (cs:=#[.int .i64 0,.int .i64 0,.int .i64 0,.bool false,.slice none 0 0]) ?_ 4 _ rfl;(with_reducible repeat (first|refine blk_drewN ?_ _|refine blk_drew ?_|refine blk_alloc ?_ _));refine blk_put (cs:=#[.int .i64 0,.int .i64 0,.int .i64 0,.bool false,.slice none 0 0]) ?_ 3 _ rfl;(with_reducible repeat (first|refine blk_drewN ?_ _|refine blk_drew ?_|refine blk_alloc ?_ _));refine blk_put (cs:=#[.int .i64 0,.int .i64 0,.int .i64 0,.bool false,.slice none 0 0]) ?_ 2 _ rfl;(with_reducible repeat (first|refine blk_drewN ?_ _|refine blk_drew ?_|refine blk_alloc ?_ _));refine blk_put (cs:=#[.int .i64 0,.int .i64 0,.int .i64 0,.bool false,.slice none 0 0]) ?_ 1 _ rfl;(with_reducible repeat (first|refine blk_drewN ?_ _|refine blk_drew ?_|refine blk_alloc ?_ _));refine blk_put (cs:=#[.int .i64 0,.int .i64 0,.int .i64 0,.bool false,.slice none 0 0]) ?_ 0 _ rfl;(with_reducible repeat (first|refine blk_drewN ?_ _|refine blk_drew ?_|refine blk_alloc ?_ _));exact BK188.out) Try.underlying61 rfl (by kernel_rfl)) rfl ?_
    exact ⟨_,rz,by first|exact Kd.R_nil _ _ _ _ _|exact Kd.N_nil _ _ _ _ _|exact Kd.V_nil _ _ _ _ _|exact Kd.Q_nil _ _ _ _ _|exact Kd.S_nil _ _ _ _ _,be⟩
   ·replace c15:=Bool.eq_false_iff.mpr c15
    subst c15
    replace H:=(if_neg (show ¬ (false=true) by decide)).symm.trans H
    obtain ⟨y201,hy201⟩ : ∃ y_:List Int,y_=(([]:List Int)):=⟨_,rfl⟩
    replace H:(if y201.length+t198.size < 140737488355328 then ((some (y201 ++ bytesOf t198:List Int)).bind fun y204=>((spec_FileOk.f t189 t190 t191 (t195 == 1) y204).bind fun t208=>(if t208=true then ((spec_PutFile.f kj4 t189 t190 t191 (t195 == 1) y204).bind fun t209=>(if (strOfNums t209).toList=(strOfNums l0).toList then (some (t189,t190,t191,(t195 == 1),y204,true)) else (some (0,0,0,false,([]:List Int),false)))) else (some (0,0,0,false,([]:List Int),false))))) else (none))=some (r1,r2,r3,r4,r5,r6):=by first|(rw [hy201];with_reducible exact H)|(have H2_:=(Option.bind_some _ _).symm.trans H;rw [hy201];with_reducible exact H2_)|(have H2_:=(Option.bind_some _ _).symm.trans H;with_reducible exact H2_)|with_reducible exact H|(rw [hy201];exact H)|exact H
    have Ny201:=Aside0.mk hy201
    clear hy201
    by_cases c18:y201.length+t198.size < 140737488355328
    ·rw [if_pos c18] at H
     have LMc18:=Aside0.mk c18
     clear c18
     obtain ⟨y204,hy204⟩ : ∃ y_:List Int,y_=(y201 ++ bytesOf t198):=⟨_,rfl⟩
     replace H:((spec_FileOk.f t189 t190 t191 (t195 == 1) y204).bind fun t208=>(if t208=true then ((spec_PutFile.f kj4 t189 t190 t191 (t195 == 1) y204).bind fun t209=>(if (strOfNums t209).toList=(strOfNums l0).toList then (some (t189,t190,t191,(t195 == 1),y204,true)) else (some (0,0,0,false,([]:List Int),false)))) else (some (0,0,0,false,([]:List Int),false))))=some (r1,r2,r3,r4,r5,r6):=by first|(rw [hy204];with_reducible exact H)|(have H2_:=(Option.bind_some _ _).symm.trans H;rw [hy204];with_reducible exact H2_)|(have H2_:=(Option.bind_some _ _).symm.trans H;with_reducible exact H2_)|with_reducible exact H|(rw [hy204];exact H)|exact H
     have Ny204:=Aside0.mk hy204
     clear hy204
     replace H:=Option.bind_eq_some_iff.mp H
     obtain ⟨t208,A190,H⟩:=H
     try dsimp only at H
     have A19:=Aside0.mk A190
     clear A190
     by_cases c20:t208=true
     ·subst c20
      rw [if_pos rfl] at H
      replace H:=Option.bind_eq_some_iff.mp H
      obtain ⟨t209,A210,H⟩:=H
      try dsimp only at H
      have A21:=Aside0.mk A210
      clear A210
      by_cases c22:(strOfNums t209).toList=(strOfNums l0).toList
      ·rw [if_pos c22] at H
       have c22b0:((strOfNums t209).toList == (strOfNums l0).toList)=true:=beq_iff_eq.mpr c22
       have c22b1:((strOfNums t209).toList != (strOfNums l0).toList)=false:=bne_eq_false_iff_eq.mpr c22
       clear c22
       simp only [Option.some.injEq,Prod.mk.injEq] at H
       obtain ⟨rfl,rfl,rfl,rfl,rfl,rfl⟩:=H
       try go_wp2
       have n0_:=Aside0.mk (blk_drew BK188.out);have n1_:=Aside0.mk (blk_drew BK194.out);have n2_:=Aside0.mk (below_drew1 HB.out);clear BK188 BK194 HB;have BK188:=n0_;have BK194:=n1_;have HB:=n2_;clear n0_ n1_ n2_
       refine start_ (n:=9) (S:=fun w'=>w'.cell? ⟨gb194,0,none⟩=some (.int .i64 t189)∧w'.cell? ⟨gb194,1,none⟩=some (.int .i64 t190)∧w'.cell? ⟨gb194,2,none⟩=some (.int .i64 t191)) (ds:=[]) (fl 9 0) (by kernel_rfl) rfl rfl ⟨(blk_cell BK194.out 0).trans rfl,(blk_cell BK194.out 1).trans rfl,(blk_cell BK194.out 2).trans rfl⟩ (fun hHeld=>?_);refine with_tabW spec_GetFile.tab6 spec_GetFile.bits6 (fun HT_ HW_=>?_)
       generalize wc.drew=w23 at BK188 BK194 HB hHeld ⊢
       refine pt 1 57 (fl 9 2) HT_ ?_
       refine pt 2 58 (fl 9 6) HT_ ?_
       refine pt 4 60 (fl 9 22) HT_ ?_
       refine tt 0 56 (fl 9 23) HT_ HW_ hHeld ?_
       refine join_ (σ:=Value × Value × Nat) 1 (fl 9 255) (fun s_=>[(59,s_.1),(61,s_.2.1),(13,.pointer (some ⟨s_.2.2,0,none⟩)),(62,.agg #[.int .i64 t189,.int .i64 t190,.int .i64 t191,.bool (t195 == 1),s_.2.1])]) (fun s_ w'=>(w'.cell? ⟨gb194,0,none⟩=some (.int .i64 t189)∧w'.cell? ⟨gb194,1,none⟩=some (.int .i64 t190)∧w'.cell? ⟨gb194,2,none⟩=some (.int .i64 t191))∧(Kd.R (Kd.int .u8) 5 w' w.heap.size (fun _=>True) s_.2.1 y204)∧(w'.heap[gb188]?=some (.cells #[.int .i64 0,.int .i64 0,.int .i64 0,.bool false,.slice none 0 0] 61 (0,0)))∧(w'.heap[gb194]?=some (.cells #[.int .i64 t189,.int .i64 t190,.int .i64 t191] 59 (0,0)))∧(w'.heap[s_.2.2]?=some (.cells #[.int .i64 0,.int .i64 0,.int .i64 0,.bool false,.slice none 0 0] 61 (0,0)))∧(w.heap.size≤s_.2.2)∧(w.heap.size≤s_.2.2)∧(gb188 ≠ s_.2.2)∧(s_.2.2 ≠ gb188)∧(gb194 ≠ s_.2.2)∧(s_.2.2 ≠ gb194)∧(Below w.heap.size w w')) ?_ ?_
       rotate_left
       ·intro hCont
        refine two_ (i:=3) (j:=7) (Ni:=some 59) (Nj:=some 13) (fl 9 31) (fl 9 151) rfl rfl rfl rfl (two_of HT_.out (by kernel_rfl)) (by decide) (by decide) (fun K hK=>?_) (fun K hK=>?_)
        ·skip
         refine Kd.R_lit_step (Kd.int .u8) _ 5 ?hg (N:=59) ?hd (xs:=([]:List Int)) (inner:=[]) (ok:=fun _=>True) (okp:=fun _=>True) ?hr ?hp (fun _ hk=>hk) trivial (Below.refl _ _) (Nat.le_refl _) (by simp) ?_;(case hd=>rfl);(case hg=>rfl);(case hr=>first|(go_simp;done)|(go_simp;rfl));(case hp=>exact (Reps.none _ _))
         intro v202 w24 ho25 hb hg_ hnew_
         clear hg_ hnew_
         (first|rw [← Ny201.out] at ho25|(simp only [Int.reduceToNat] at ho25;rw [← Ny201.out] at ho25))
         have n0_:=Aside0.mk (Kd.R_lower ho25 (below_size be));have n1_:=Aside0.mk (blk_below (bk BK188) hb);have n2_:=Aside0.mk (blk_below (bk BK194) hb);have n3_:=bs hb;clear BK188 BK194 HB;have HO203:=n0_;have BK188:=n1_;have BK194:=n2_;have HB:=n3_;clear n0_ n1_ n2_ n3_ hb ho25
         refine hK.out _ _ ⟨(blk_cell BK194.out 0).trans rfl,(blk_cell BK194.out 1).trans rfl,(blk_cell BK194.out 2).trans rfl⟩ (fun hHeld=>?_)
         clear hK K
         refine no 59 ?_
         refine two_ (i:=5) (j:=7) (Ni:=some 61) (Nj:=some 13) (fl 9 63) (fl 9 159) rfl rfl rfl rfl (two_of HT_.out (by kernel_rfl)) (by decide) (by decide) (fun K hK=>?_) (fun K hK=>?_)
         ·skip
          refine Aid.append_str_step (w0:=w) w.heap.size (by rfl) (.tmp 59) _ 54 9 5 rfl Try.underlying54 Try.underlying9 info5 v202 y201 t198 rfl rfl ?aO ?aB ?aS ?aL ?_
          (case aB=>exact be)
          (case aO=>exact (Kd.own_of_R (rR HO203)))
          (case aS=>exact (below_size be))
          (case aL=>have:=LMc18.out;omega)
          intro v205 w26 ho0 hb hg hat
          have ho:=Kd.R_of_own (h1:=fun _=>rfl) (ok:=(fun _=>True)) ho0 (fun k_ hk_=>Or.elim hat (fun he_=>trivial) (fun ⟨_,hb1_,hb2_⟩=>(fun _ _=>trivial) k_ (Option.some.inj (hb1_.symm.trans hk_) ▸ hb2_)))
          clear ho0
          rw [← Ny204.out] at ho
          change Kd.R (Kd.int .u8) 5 w26 w.heap.size (fun _=>True) v205 y204 at ho
          have n0_:=Aside0.mk (blk_grown (g:=gb188) (o:=.cells #[.int .i64 0,.int .i64 0,.int .i64 0,.bool false,.slice none 0 0] 61 (0,0)) (bk BK188) hg (Kd.R_ne HO203.out BK188.out (by decide)));have n1_:=Aside0.mk (blk_grown (g:=gb194) (o:=.cells #[.int .i64 t189,.int .i64 t190,.int .i64 t191] 59 (0,0)) (bk BK194) hg (Kd.R_ne HO203.out BK194.out (by decide)));have n2_:=Aside0.mk (hb);have n3_:=Aside0.mk (ho);clear BK188 BK194 HB HO203;have BK188:=n0_;have BK194:=n1_;have HB:=n2_;have HO206:=n3_;clear n0_ n1_ n2_ n3_ ho hb hg hat
          obtain ⟨Ao27,co27,eo27⟩:=Kd.R_slice HO206.out
          (first|subst eo27|(injection eo27 with f1_ f2_ f3_;have f4_:=f1_.symm;have f5_:=f3_.symm;clear f1_ f2_ f3_;subst f4_;subst f5_))
          refine hK.out _ _ ⟨(blk_cell BK194.out 0).trans rfl,(blk_cell BK194.out 1).trans rfl,(blk_cell BK194.out 2).trans rfl⟩ (fun hHeld=>?_)
          clear hK K
          refine no 61 ?_
          refine pt 6 62 (fl 9 127) HT_ ?_
          refine ot 7 (some 13) (fl 9 255) HT_ (fun K hK=>?_)
          refine box_step ?hg (N:=13) ?hd (cs:=#[.int .i64 0,.int .i64 0,.int .i64 0,.bool false,.slice none 0 0]) (t:=61) ?hr ?_;(case hd=>rfl);(case hg=>rfl);(case hr=>first|(go_simp;done)|(go_simp;rfl))
          intro gb207 hg w28 hbox hb
          have n0_:=Aside0.mk (Kd.R_below (rR HO206) hb);have n1_:=Aside0.mk (blk_below (bk BK188) hb);have n2_:=Aside0.mk (blk_below (bk BK194) hb);have n3_:=bs hb;have n4_:=Aside0.mk (hbox);have n5_:=Aside0.mk ((by rw [hg];exact (below_size be):w.heap.size≤gb207));have n6_:=Aside0.mk ((by rw [hg];exact (below_size be):w.heap.size≤gb207));have n7_:=Aside0.mk ((by rw [hg];exact Nat.ne_of_lt (blk_lt (g:=gb188) (o:=.cells #[.int .i64 0,.int .i64 0,.int .i64 0,.bool false,.slice none 0 0] 61 (0,0)) (bk BK188)):gb188 ≠ gb207));have n8_:=Aside0.mk ((by rw [hg];exact Nat.ne_of_gt (blk_lt (g:=gb188) (o:=.cells #[.int .i64 0,.int .i64 0,.int .i64 0,.bool false,.slice none 0 0] 61 (0,0)) (bk BK188)):gb207 ≠ gb188));have n9_:=Aside0.mk ((by rw [hg];exact Nat.ne_of_lt (blk_lt (g:=gb194) (o:=.cells #[.int .i64 t189,.int .i64 t190,.int .i64 t191] 59 (0,0)) (bk BK194)):gb194 ≠ gb207));have n10_:=Aside0.mk ((by rw [hg];exact Nat.ne_of_gt (blk_lt (g:=gb194) (o:=.cells #[.int .i64 t189,.int .i64 t190,.int .i64 t191] 59 (0,0)) (bk BK194)):gb207 ≠ gb194));clear HO206 BK188 BK194 HB;have HO206:=n0_;have BK188:=n1_;have BK194:=n2_;have HB:=n3_;have BK207:=n4_;have GW207:=n5_;have GE207:=n6_;have NB188_207:=n7_;have NB207_188:=n8_;have NB194_207:=n9_;have NB207_194:=n10_;clear n0_ n1_ n2_ n3_ n4_ n5_ n6_ n7_ n8_ n9_ n10_ hb hbox hg
          refine hK.out _ _ ⟨(blk_cell BK194.out 0).trans rfl,(blk_cell BK194.out 1).trans rfl,(blk_cell BK194.out 2).trans rfl⟩ (fun hHeld=>?_)
          clear hK K
          refine no 13 ?_
          exact norm_ (by simp only [putAll,Act.put,List.setIfInBounds_toArray,List.set_cons_zero,List.set_cons_succ]) (hCont (v202,.slice Ao27 y204.length co27,gb207) _ ⟨hHeld,(rR HO206),(bk BK188),(bk BK194),(bk BK207),GW207.out,GE207.out,NB188_207.out,NB207_188.out,NB194_207.out,NB207_194.out,be⟩)
         ·skip
          refine box_step ?hg (N:=13) ?hd (cs:=#[.int .i64 0,.int .i64 0,.int .i64 0,.bool false,.slice none 0 0]) (t:=61) ?hr ?_;(case hd=>rfl);(case hg=>rfl);(case hr=>first|(go_simp;done)|(go_simp;rfl))
          intro gb207 hg w26 hbox hb
          have n0_:=Aside0.mk (Kd.R_below (rR HO203) hb);have n1_:=Aside0.mk (blk_below (bk BK188) hb);have n2_:=Aside0.mk (blk_below (bk BK194) hb);have n3_:=bs hb;have n4_:=Aside0.mk (hbox);have n5_:=Aside0.mk ((by rw [hg];exact (below_size be):w.heap.size≤gb207));have n6_:=Aside0.mk ((by rw [hg];exact (below_size be):w.heap.size≤gb207));have n7_:=Aside0.mk ((by rw [hg];exact Nat.ne_of_lt (blk_lt (g:=gb188) (o:=.cells #[.int .i64 0,.int .i64 0,.int .i64 0,.bool false,.slice none 0 0] 61 (0,0)) (bk BK188)):gb188 ≠ gb207));have n8_:=Aside0.mk ((by rw [hg];exact Nat.ne_of_gt (blk_lt (g:=gb188) (o:=.cells #[.int .i64 0,.int .i64 0,.int .i64 0,.bool false,.slice none 0 0] 61 (0,0)) (bk BK188)):gb207 ≠ gb188));have n9_:=Aside0.mk ((by rw [hg];exact Nat.ne_of_lt (blk_lt (g:=gb194) (o:=.cells #[.int .i64 t189,.int .i64 t190,.int .i64 t191] 59 (0,0)) (bk BK194)):gb194 ≠ gb207));have n10_:=Aside0.mk ((by rw [hg];exact Nat.ne_of_gt (blk_lt (g:=gb194) (o:=.cells #[.int .i64 t189,.int .i64 t190,.int .i64 t191] 59 (0,0)) (bk BK194)):gb207 ≠ gb194));clear HO203 BK188 BK194 HB;have HO203:=n0_;have BK188:=n1_;have BK194:=n2_;have HB:=n3_;have BK207:=n4_;have GW207:=n5_;have GE207:=n6_;have NB188_207:=n7_;have NB207_188:=n8_;have NB194_207:=n9_;have NB207_194:=n10_;clear n0_ n1_ n2_ n3_ n4_ n5_ n6_ n7_ n8_ n9_ n10_ hb hbox hg
          refine hK.out _ _ ⟨(blk_cell BK194.out 0).trans rfl,(blk_cell BK194.out 1).trans rfl,(blk_cell BK194.out 2).trans rfl⟩ (fun hHeld=>?_)
          clear hK K
          refine no 13 ?_
          refine ot 5 (some 61) (fl 9 191) HT_ (fun K hK=>?_)
          refine Aid.append_str_step (w0:=w) w.heap.size (by rfl) (.tmp 59) _ 54 9 5 rfl Try.underlying54 Try.underlying9 info5 v202 y201 t198 rfl rfl ?aO ?aB ?aS ?aL ?_
          (case aB=>exact be)
          (case aO=>exact (Kd.own_of_R (rR HO203)))
          (case aS=>exact (below_size be))
          (case aL=>have:=LMc18.out;omega)
          intro v205 w27 ho0 hb hg hat
          have ho:=Kd.R_of_own (h1:=fun _=>rfl) (ok:=(fun _=>True)) ho0 (fun k_ hk_=>Or.elim hat (fun he_=>trivial) (fun ⟨_,hb1_,hb2_⟩=>(fun _ _=>trivial) k_ (Option.some.inj (hb1_.symm.trans hk_) ▸ hb2_)))
          clear ho0
          rw [← Ny204.out] at ho
          change Kd.R (Kd.int .u8) 5 w27 w.heap.size (fun _=>True) v205 y204 at ho
          have n0_:=Aside0.mk (blk_grown (g:=gb188) (o:=.cells #[.int .i64 0,.int .i64 0,.int .i64 0,.bool false,.slice none 0 0] 61 (0,0)) (bk BK188) hg (Kd.R_ne HO203.out BK188.out (by decide)));have n1_:=Aside0.mk (blk_grown (g:=gb194) (o:=.cells #[.int .i64 t189,.int .i64 t190,.int .i64 t191] 59 (0,0)) (bk BK194) hg (Kd.R_ne HO203.out BK194.out (by decide)));have n2_:=Aside0.mk (blk_grown (g:=gb207) (o:=.cells #[.int .i64 0,.int .i64 0,.int .i64 0,.bool false,.slice none 0 0] 61 (0,0)) (bk BK207) hg (Kd.R_ne HO203.out BK207.out (by decide)));have n3_:=Aside0.mk (hb);have n4_:=Aside0.mk (ho);clear BK188 BK194 BK207 HB HO203;have BK188:=n0_;have BK194:=n1_;have BK207:=n2_;have HB:=n3_;have HO206:=n4_;clear n0_ n1_ n2_ n3_ n4_ ho hb hg hat
          obtain ⟨Ao28,co28,eo28⟩:=Kd.R_slice HO206.out
          (first|subst eo28|(injection eo28 with f1_ f2_ f3_;have f4_:=f1_.symm;have f5_:=f3_.symm;clear f1_ f2_ f3_;subst f4_;subst f5_))
          refine hK.out _ _ ⟨(blk_cell BK194.out 0).trans rfl,(blk_cell BK194.out 1).trans rfl,(blk_cell BK194.out 2).trans rfl⟩ (fun hHeld=>?_)
          clear hK K
          refine no 61 ?_
          refine pt 6 62 (fl 9 255) HT_ ?_
          exact norm_ (by simp only [putAll,Act.put,List.setIfInBounds_toArray,List.set_cons_zero,List.set_cons_succ]) (hCont (v202,.slice Ao28 y204.length co28,gb207) _ ⟨hHeld,(rR HO206),(bk BK188),(bk BK194),(bk BK207),GW207.out,GE207.out,NB188_207.out,NB207_188.out,NB194_207.out,NB207_194.out,be⟩)
        ·skip
         refine box_step ?hg (N:=13) ?hd (cs:=#[.int .i64 0,.int .i64 0,.int .i64 0,.bool false,.slice none 0 0]) (t:=61) ?hr ?_;(case hd=>rfl);(case hg=>rfl);(case hr=>first|(go_simp;done)|(go_simp;rfl))
         intro gb207 hg w24 hbox hb
         have n0_:=Aside0.mk (blk_below (bk BK188) hb);have n1_:=Aside0.mk (blk_below (bk BK194) hb);have n2_:=bs hb;have n3_:=Aside0.mk (hbox);have n4_:=Aside0.mk ((by rw [hg];exact (below_size be):w.heap.size≤gb207));have n5_:=Aside0.mk ((by rw [hg];exact (below_size be):w.heap.size≤gb207));have n6_:=Aside0.mk ((by rw [hg];exact Nat.ne_of_lt (blk_lt (g:=gb188) (o:=.cells #[.int .i64 0,.int .i64 0,.int .i64 0,.bool false,.slice none 0 0] 61 (0,0)) (bk BK188)):gb188 ≠ gb207));have n7_:=Aside0.mk ((by rw [hg];exact Nat.ne_of_gt (blk_lt (g:=gb188) (o:=.cells #[.int .i64 0,.int .i64 0,.int .i64 0,.bool false,.slice none 0 0] 61 (0,0)) (bk BK188)):gb207 ≠ gb188));have n8_:=Aside0.mk ((by rw [hg];exact Nat.ne_of_lt (blk_lt (g:=gb194) (o:=.cells #[.int .i64 t189,.int .i64 t190,.int .i64 t191] 59 (0,0)) (bk BK194)):gb194 ≠ gb207));have n9_:=Aside0.mk ((by rw [hg];exact Nat.ne_of_gt (blk_lt (g:=gb194) (o:=.cells #[.int .i64 t189,.int .i64 t190,.int .i64 t191] 59 (0,0)) (bk BK194)):gb207 ≠ gb194));clear BK188 BK194 HB;have BK188:=n0_;have BK194:=n1_;have HB:=n2_;have BK207:=n3_;have GW207:=n4_;have GE207:=n5_;have NB188_207:=n6_;have NB207_188:=n7_;have NB194_207:=n8_;have NB207_194:=n9_;clear n0_ n1_ n2_ n3_ n4_ n5_ n6_ n7_ n8_ n9_ hb hbox hg
         refine hK.out _ _ ⟨(blk_cell BK194.out 0).trans rfl,(blk_cell BK194.out 1).trans rfl,(blk_cell BK194.out 2).trans rfl⟩ (fun hHeld=>?_)
         clear hK K
         refine no 13 ?_
         refine ot 3 (some 59) (fl 9 159) HT_ (fun K hK=>?_)
         refine Kd.R_lit_step (Kd.int .u8) _ 5 ?hg (N:=59) ?hd (xs:=([]:List Int)) (inner:=[]) (ok:=fun _=>True) (okp:=fun _=>True) ?hr ?hp (fun _ hk=>hk) trivial (Below.refl _ _) (Nat.le_refl _) (by simp) ?_;(case hd=>rfl);(case hg=>rfl);(case hr=>first|(go_simp;done)|(go_simp;rfl));(case hp=>exact (Reps.none _ _))
         intro v202 w25 ho26 hb hg_ hnew_
         clear hg_ hnew_
         (first|rw [← Ny201.out] at ho26|(simp only [Int.reduceToNat] at ho26;rw [← Ny201.out] at ho26))
         have n0_:=Aside0.mk (Kd.R_lower ho26 (below_size be));have n1_:=Aside0.mk (blk_below (bk BK188) hb);have n2_:=Aside0.mk (blk_below (bk BK194) hb);have n3_:=Aside0.mk (blk_below (bk BK207) hb);have n4_:=bs hb;clear BK188 BK194 BK207 HB;have HO203:=n0_;have BK188:=n1_;have BK194:=n2_;have BK207:=n3_;have HB:=n4_;clear n0_ n1_ n2_ n3_ n4_ hb ho26
         refine hK.out _ _ ⟨(blk_cell BK194.out 0).trans rfl,(blk_cell BK194.out 1).trans rfl,(blk_cell BK194.out 2).trans rfl⟩ (fun hHeld=>?_)
         clear hK K
         refine no 59 ?_
         refine ot 5 (some 61) (fl 9 191) HT_ (fun K hK=>?_)
         refine Aid.append_str_step (w0:=w) w.heap.size (by rfl) (.tmp 59) _ 54 9 5 rfl Try.underlying54 Try.underlying9 info5 v202 y201 t198 rfl rfl ?aO ?aB ?aS ?aL ?_
         (case aB=>exact be)
         (case aO=>exact (Kd.own_of_R (rR HO203)))
         (case aS=>exact (below_size be))
         (case aL=>have:=LMc18.out;omega)
         intro v205 w27 ho0 hb hg hat
         have ho:=Kd.R_of_own (h1:=fun _=>rfl) (ok:=(fun _=>True)) ho0 (fun k_ hk_=>Or.elim hat (fun he_=>trivial) (fun ⟨_,hb1_,hb2_⟩=>(fun _ _=>trivial) k_ (Option.some.inj (hb1_.symm.trans hk_) ▸ hb2_)))
         clear ho0
         rw [← Ny204.out] at ho
         change Kd.R (Kd.int .u8) 5 w27 w.heap.size (fun _=>True) v205 y204 at ho
         have n0_:=Aside0.mk (blk_grown (g:=gb188) (o:=.cells #[.int .i64 0,.int .i64 0,.int .i64 0,.bool false,.slice none 0 0] 61 (0,0)) (bk BK188) hg (Kd.R_ne HO203.out BK188.out (by decide)));have n1_:=Aside0.mk (blk_grown (g:=gb194) (o:=.cells #[.int .i64 t189,.int .i64 t190,.int .i64 t191] 59 (0,0)) (bk BK194) hg (Kd.R_ne HO203.out BK194.out (by decide)));have n2_:=Aside0.mk (blk_grown (g:=gb207) (o:=.cells #[.int .i64 0,.int .i64 0,.int .i64 0,.bool false,.slice none 0 0] 61 (0,0)) (bk BK207) hg (Kd.R_ne HO203.out BK207.out (by decide)));have n3_:=Aside0.mk (hb);have n4_:=Aside0.mk (ho);clear BK188 BK194 BK207 HB HO203;have BK188:=n0_;have BK194:=n1_;have BK207:=n2_;have HB:=n3_;have HO206:=n4_;clear n0_ n1_ n2_ n3_ n4_ ho hb hg hat
         obtain ⟨Ao28,co28,eo28⟩:=Kd.R_slice HO206.out
         (first|subst eo28|(injection eo28 with f1_ f2_ f3_;have f4_:=f1_.symm;have f5_:=f3_.symm;clear f1_ f2_ f3_;subst f4_;subst f5_))
         refine hK.out _ _ ⟨(blk_cell BK194.out 0).trans rfl,(blk_cell BK194.out 1).trans rfl,(blk_cell BK194.out 2).trans rfl⟩ (fun hHeld=>?_)
         clear hK K
         refine no 61 ?_
         refine pt 6 62 (fl 9 255) HT_ ?_
         exact norm_ (by simp only [putAll,Act.put,List.setIfInBounds_toArray,List.set_cons_zero,List.set_cons_succ]) (hCont (v202,.slice Ao28 y204.length co28,gb207) _ ⟨hHeld,(rR HO206),(bk BK188),(bk BK194),(bk BK207),GW207.out,GE207.out,NB188_207.out,NB207_188.out,NB194_207.out,NB207_194.out,be⟩)
       rintro ⟨v202,v205,gb207⟩ w29 ⟨hS_,h0_,h1_,h2_,h3_,h4_,h5_,h6_,h7_,h8_,h9_,h10_⟩
       have n0_:Aside0 (Kd.R (Kd.int .u8) 5 w29 w.heap.size (fun _=>True) v205 y204):=⟨h0_⟩
       have n1_:Aside0 (w29.heap[gb188]?=some (.cells #[.int .i64 0,.int .i64 0,.int .i64 0,.bool false,.slice none 0 0] 61 (0,0))):=⟨h1_⟩
       have n2_:Aside0 (w29.heap[gb194]?=some (.cells #[.int .i64 t189,.int .i64 t190,.int .i64 t191] 59 (0,0))):=⟨h2_⟩
       have n3_:Aside0 (w29.heap[gb207]?=some (.cells #[.int .i64 0,.int .i64 0,.int .i64 0,.bool false,.slice none 0 0] 61 (0,0))):=⟨h3_⟩
       have n4_:Aside0 (w.heap.size≤gb207):=⟨h4_⟩
       have n5_:Aside0 (w.heap.size≤gb207):=⟨h5_⟩
       have n6_:Aside0 (gb188 ≠ gb207):=⟨h6_⟩
       have n7_:Aside0 (gb207 ≠ gb188):=⟨h7_⟩
       have n8_:Aside0 (gb194 ≠ gb207):=⟨h8_⟩
       have n9_:Aside0 (gb207 ≠ gb194):=⟨h9_⟩
       have n10_:Aside0 (Below w.heap.size w w29):=⟨h10_⟩
       clear BK188 BK194 HB h0_ h1_ h2_ h3_ h4_ h5_ h6_ h7_ h8_ h9_ h10_;have HO206:=n0_;have BK188:=n1_;have BK194:=n2_;have BK207:=n3_;have GW207:=n4_;have GE207:=n5_;have NB188_207:=n6_;have NB207_188:=n7_;have NB194_207:=n8_;have NB207_194:=n9_;have HB:=n10_;clear n0_ n1_ n2_ n3_ n4_ n5_ n6_ n7_ n8_ n9_ n10_
       have hHeld:w29.cell? ⟨gb194,0,none⟩=some (.int .i64 t189)∧w29.cell? ⟨gb194,1,none⟩=some (.int .i64 t190)∧w29.cell? ⟨gb194,2,none⟩=some (.int .i64 t191):=hS_
       obtain ⟨Ao30,co30,eo30⟩:=Kd.R_slice HO206.out
       (first|subst eo30|(injection eo30 with f1_ f2_ f3_;have f4_:=f1_.symm;have f5_:=f3_.symm;clear f1_ f2_ f3_;subst f4_;subst f5_))
       refine norm_ (a':=?_) ?_ ?_
       rotate_left
       ·simp only [putAll,Act.put,List.setIfInBounds_toArray,List.set_cons_zero,List.set_cons_succ]
        rfl
       refine ot 8 none (fl 9 511) HT_ (fun K hK=>?_)
       have hs31:w29.cell? ⟨gb207,0,none⟩=some (.int .i64 0):=(blk_cell BK207.out 0).trans rfl
       have hfs31:=blk_frozen BK207.out 0
       have hns31_0:=NB188_207.out
       have hns31_1:=NB194_207.out
       have hms31_0:=NB207_188.out
       have hms31_1:=NB207_194.out
       have hs32:w29.cell? ⟨gb207,1,none⟩=some (.int .i64 0):=(blk_cell BK207.out 1).trans rfl
       have hfs32:=blk_frozen BK207.out 1
       have hns32_0:=NB188_207.out
       have hns32_1:=NB194_207.out
       have hms32_0:=NB207_188.out
       have hms32_1:=NB207_194.out
       have hs33:w29.cell? ⟨gb207,2,none⟩=some (.int .i64 0):=(blk_cell BK207.out 2).trans rfl
       have hfs33:=blk_frozen BK207.out 2
       have hns33_0:=NB188_207.out
       have hns33_1:=NB194_207.out
       have hms33_0:=NB207_188.out
       have hms33_1:=NB207_194.out
       have hs34:w29.cell? ⟨gb207,3,none⟩=some (.bool false):=(blk_cell BK207.out 3).trans rfl
       have hfs34:=blk_frozen BK207.out 3
       have hns34_0:=NB188_207.out
       have hns34_1:=NB194_207.out
       have hms34_0:=NB207_188.out
       have hms34_1:=NB207_194.out
       have hs35:w29.cell? ⟨gb207,4,none⟩=some (.slice none 0 0):=(blk_cell BK207.out 4).trans rfl
       have hfs35:=blk_frozen BK207.out 4
       have hns35_0:=NB188_207.out
       have hns35_1:=NB194_207.out
       have hms35_0:=NB207_188.out
       have hms35_1:=NB207_194.out
       refine skip_ (w1:=?_) (by rfl) rfl ?_ ?_
       rotate_left
       ·go_simp
        rfl
       refine hK.out _ _ ⟨((cell_far (p:=⟨gb207,_,none⟩) NB194_207.out _).trans (((cell_far (p:=⟨gb207,_,none⟩) NB194_207.out _).trans (((cell_far (p:=⟨gb207,_,none⟩) NB194_207.out _).trans (((cell_far (p:=⟨gb207,_,none⟩) NB194_207.out _).trans (((cell_far (p:=⟨gb207,_,none⟩) NB194_207.out _).trans (hHeld.1)))))))))),((cell_far (p:=⟨gb207,_,none⟩) NB194_207.out _).trans (((cell_far (p:=⟨gb207,_,none⟩) NB194_207.out _).trans (((cell_far (p:=⟨gb207,_,none⟩) NB194_207.out _).trans (((cell_far (p:=⟨gb207,_,none⟩) NB194_207.out _).trans (((cell_far (p:=⟨gb207,_,none⟩) NB194_207.out _).trans (hHeld.2.1)))))))))),((cell_far (p:=⟨gb207,_,none⟩) NB194_207.out _).trans (((cell_far (p:=⟨gb207,_,none⟩) NB194_207.out _).trans (((cell_far (p:=⟨gb207,_,none⟩) NB194_207.out _).trans (((cell_far (p:=⟨gb207,_,none⟩) NB194_207.out _).trans (((cell_far (p:=⟨gb207,_,none⟩) NB194_207.out _).trans (hHeld.2.2))))))))))⟩ (fun hHeld=>?_)
       clear hK K
       refine done_ (done_of HT_.out (by kernel_rfl)) ?_
       try go_wp2
       have n0_:Aside0 (Kd.R (Kd.int .u8) 5 (((((w29.setCell ⟨gb207,0,none⟩ (.int .i64 t189)).setCell ⟨gb207,1,none⟩ (.int .i64 t190)).setCell ⟨gb207,2,none⟩ (.int .i64 t191)).setCell ⟨gb207,3,none⟩ (.bool (t195 == 1))).setCell ⟨gb207,4,none⟩ (.slice Ao30 y204.length co30)) w.heap.size (fun _=>True) (.slice Ao30 y204.length co30) y204):=⟨by (with_reducible repeat (first|apply Kd.R_alloc|apply Kd.R_drewN|apply Kd.R_drew));exact Kd.R_mono (Kd.R_far (p:=⟨gb207,4,none⟩) (Kd.R_far (p:=⟨gb207,3,none⟩) (Kd.R_far (p:=⟨gb207,2,none⟩) (Kd.R_far (p:=⟨gb207,1,none⟩) (Kd.R_far (p:=⟨gb207,0,none⟩) (Kd.R_types HO206.out BK207.out (by decide)) (fun _ hk=>hk.2) (.int .i64 t189)) (fun _ hk=>hk.2) (.int .i64 t190)) (fun _ hk=>hk.2) (.int .i64 t191)) (fun _ hk=>hk.2) (.bool (t195 == 1))) (fun _ hk=>hk.2) (.slice Ao30 y204.length co30)) (fun _ hk=>trivial)⟩
       have n1_:Aside0 ((((((w29.setCell ⟨gb207,0,none⟩ (.int .i64 t189)).setCell ⟨gb207,1,none⟩ (.int .i64 t190)).setCell ⟨gb207,2,none⟩ (.int .i64 t191)).setCell ⟨gb207,3,none⟩ (.bool (t195 == 1))).setCell ⟨gb207,4,none⟩ (.slice Ao30 y204.length co30)).heap[gb188]?=some (.cells #[.int .i64 0,.int .i64 0,.int .i64 0,.bool false,.slice none 0 0] 61 (0,0))):=⟨by (with_reducible repeat (first|refine blk_drewN ?_ _|refine blk_drew ?_|refine blk_alloc ?_ _));refine blk_far ?_ NB188_207.out _;(with_reducible repeat (first|refine blk_drewN ?_ _|refine blk_drew ?_|refine blk_alloc ?_ _));refine blk_far ?_ NB188_207.out _;(with_reducible repeat (first|refine blk_drewN ?_ _|refine blk_drew ?_|refine blk_alloc ?_ _));refine blk_far ?_ NB188_207.out _;(with_reducible repeat (first|refine blk_drewN ?_ _|refine blk_drew ?_|refine blk_alloc ?_ _));refine blk_far ?_ NB188_207.out _;(with_reducible repeat (first|refine blk_drewN ?_ _|refine blk_drew ?_|refine blk_alloc ?_ _));refine blk_far ?_ NB188_207.out _;(with_reducible repeat (first|refine blk_drewN ?_ _|refine blk_drew ?_|refine blk_alloc ?_ _));exact BK188.out⟩
       have n2_:Aside0 ((((((w29.setCell ⟨gb207,0,none⟩ (.int .i64 t189)).setCell ⟨gb207,1,none⟩ (.int .i64 t190)).setCell ⟨gb207,2,none⟩ (.int .i64 t191)).setCell ⟨gb207,3,none⟩ (.bool (t195 == 1))).setCell ⟨gb207,4,none⟩ (.slice Ao30 y204.length co30)).heap[gb194]?=some (.cells #[.int .i64 t189,.int .i64 t190,.int .i64 t191] 59 (0,0))):=⟨by (with_reducible repeat (first|refine blk_drewN ?_ _|refine blk_drew ?_|refine blk_alloc ?_ _));refine blk_far ?_ NB194_207.out _;(with_reducible repeat (first|refine blk_drewN ?_ _|refine blk_drew ?_|refine blk_alloc ?_ _));refine blk_far ?_ NB194_207.out _;(with_reducible repeat (first|refine blk_drewN ?_ _|refine blk_drew ?_|refine blk_alloc ?_ _));refine blk_far ?_ NB194_207.out _;(with_reducible repeat (first|refine blk_drewN ?_ _|refine blk_drew ?_|refine blk_alloc ?_ _));refine blk_far ?_ NB194_207.out _;(with_reducible repeat (first|refine blk_drewN ?_ _|refine blk_drew ?_|refine blk_alloc ?_ _));refine blk_far ?_ NB194_207.out _;(with_reducible repeat (first|refine blk_drewN ?_ _|refine blk_drew ?_|refine blk_alloc ?_ _));exact BK194.out⟩
       have n3_:Aside0 ((((((w29.setCell ⟨gb207,0,none⟩ (.int .i64 t189)).setCell ⟨gb207,1,none⟩ (.int .i64 t190)).setCell ⟨gb207,2,none⟩ (.int .i64 t191)).setCell ⟨gb207,3,none⟩ (.bool (t195 == 1))).setCell ⟨gb207,4,none⟩ (.slice Ao30 y204.length co30)).heap[gb207]?=some (.cells #[.int .i64 t189,.int .i64 t190,.int .i64 t191,.bool (t195 == 1),.slice Ao30 y204.length co30] 61 (0,0))):=⟨by (with_reducible repeat (first|refine blk_drewN ?_ _|refine blk_drew ?_|refine blk_alloc ?_ _));refine blk_put (cs:=#[.int .i64 t189,.int .i64 t190,.int .i64 t191,.bool (t195 == 1),.slice none 0 0]) ?_ 4 _ rfl;(with_reducible repeat (first|refine blk_drewN ?_ _|refine blk_drew ?_|refine blk_alloc ?_ _));refine blk_put (cs:=#[.int .i64 t189,.int .i64 t190,.int .i64 t191,.bool false,.slice none 0 0]) ?_ 3 _ rfl;(with_reducible repeat (first|refine blk_drewN ?_ _|refine blk_drew ?_|refine blk_alloc ?_ _));refine blk_put (cs:=#[.int .i64 t189,.int .i64 t190,.int .i64 0,.bool false,.slice none 0 0]) ?_ 2 _ rfl;(with_reducible repeat (first|refine blk_drewN ?_ _|refine blk_drew ?_|refine blk_alloc ?_ _));refine blk_put (cs:=#[.int .i64 t189,.int .i64 0,.int .i64 0,.bool false,.slice none 0 0]) ?_ 1 _ rfl;(with_reducible repeat (first|refine blk_drewN ?_ _|refine blk_drew ?_|refine blk_alloc ?_ _));refine blk_put (cs:=#[.int .i64 0,.int .i64 0,.int .i64 0,.bool false,.slice none 0 0]) ?_ 0 _ rfl;(with_reducible repeat (first|refine blk_drewN ?_ _|refine blk_drew ?_|refine blk_alloc ?_ _));exact BK207.out⟩
       have n4_:Aside0 (Below w.heap.size w (((((w29.setCell ⟨gb207,0,none⟩ (.int .i64 t189)).setCell ⟨gb207,1,none⟩ (.int .i64 t190)).setCell ⟨gb207,2,none⟩ (.int .i64 t191)).setCell ⟨gb207,3,none⟩ (.bool (t195 == 1))).setCell ⟨gb207,4,none⟩ (.slice Ao30 y204.length co30))):=⟨be⟩
       (try clear HO206);(try clear BK188);(try clear BK194);(try clear BK207);(try clear HB)
       generalize (((((w29.setCell ⟨gb207,0,none⟩ (.int .i64 t189)).setCell ⟨gb207,1,none⟩ (.int .i64 t190)).setCell ⟨gb207,2,none⟩ (.int .i64 t191)).setCell ⟨gb207,3,none⟩ (.bool (t195 == 1))).setCell ⟨gb207,4,none⟩ (.slice Ao30 y204.length co30))=w36 at n0_ n1_ n2_ n3_ n4_ ⊢
       have HO206:=n0_;have BK188:=n1_;have BK194:=n2_;have BK207:=n3_;have HB:=n4_;clear n0_ n1_ n2_ n3_ n4_;have n0_:=Aside0.mk (Kd.R_drew HO206.out);have n1_:=Aside0.mk (blk_drew BK188.out);have n2_:=Aside0.mk (blk_drew BK194.out);have n3_:=Aside0.mk (blk_drew BK207.out);have n4_:=Aside0.mk (below_drew1 HB.out);clear HO206 BK188 BK194 BK207 HB;have HO206:=n0_;have BK188:=n1_;have BK194:=n2_;have BK207:=n3_;have HB:=n4_;clear n0_ n1_ n2_ n3_ n4_
       refine start_ (n:=11) (S:=fun w'=>w'.cell? ⟨gb207,0,none⟩=some (.int .i64 t189)∧w'.cell? ⟨gb207,1,none⟩=some (.int .i64 t190)∧w'.cell? ⟨gb207,2,none⟩=some (.int .i64 t191)∧w'.cell? ⟨gb207,3,none⟩=some (.bool (t195 == 1))∧w'.cell? ⟨gb207,4,none⟩=some (.slice Ao30 y204.length co30)∧Kd.C (Kd.int .u8) w' A0 l0.length l0) (ds:=[]) (fl 11 0) (by kernel_rfl) rfl rfl ⟨(blk_cell BK207.out 0).trans rfl,(blk_cell BK207.out 1).trans rfl,(blk_cell BK207.out 2).trans rfl,(blk_cell BK207.out 3).trans rfl,(blk_cell BK207.out 4).trans rfl,Kd.C_below HR0.out be⟩ (fun hHeld=>?_);refine with_tabW spec_GetFile.tab7 spec_GetFile.bits7 (fun HT_ HW_=>?_)
       generalize w36.drew=w37 at HO206 BK188 BK194 BK207 HB hHeld ⊢
       refine tt 0 63 (fl 11 1) HT_ HW_ hHeld ?_
       refine ot 1 (some 64) (fl 11 3) HT_ (fun K hK=>?_)
       refine goes_ Try.func86 (by kernel_rfl) rfl #[.agg #[.int .i64 t189,.int .i64 t190,.int .i64 t191,.bool (t195 == 1),.slice Ao30 y204.length co30]] (by rfl) rfl rfl (by (try simp only [List.map_toArray,List.map_cons,List.map_nil]);first|done|rfl|(simp only [List.length_drop,List.length_take];rfl)) ?_
       with_reducible refine (spec_FileOk.calls t189 t190 t191 (t195 == 1) _ _ y204 true _ ?side1 ?side2 A19.out).mono ?_
       (case side1=>exact sR HO206)
       (case side2=>exact (Kd.R_reads' HO206.out).2.1)
       rintro e w38 ⟨rfl,hb⟩
       refine ⟨_,rfl,?_⟩
       have n0_:=Aside0.mk (Kd.R_below ((rR HO206)) hb);have n1_:=Aside0.mk (blk_below (bk BK188) hb);have n2_:=Aside0.mk (blk_below (bk BK194) hb);have n3_:=Aside0.mk (blk_below (bk BK207) hb);have n4_:=bs hb;clear HO206 BK188 BK194 BK207 HB;have HO206:=n0_;have BK188:=n1_;have BK194:=n2_;have BK207:=n3_;have HB:=n4_;clear n0_ n1_ n2_ n3_ n4_;(try clear hb);(try clear hb2);(try clear hk);(try clear hi)
       refine hK.out _ _ ⟨(blk_cell BK207.out 0).trans rfl,(blk_cell BK207.out 1).trans rfl,(blk_cell BK207.out 2).trans rfl,(blk_cell BK207.out 3).trans rfl,(blk_cell BK207.out 4).trans rfl,Kd.C_below HR0.out be⟩ (fun hHeld=>?_)
       clear hK K
       refine no 64 ?_
       refine pt 2 65 (fl 11 7) HT_ ?_
       refine pt 3 66 (fl 11 15) HT_ ?_
       refine pt 7 70 (fl 11 143) HT_ ?_
       refine tt 8 71 (fl 11 399) HT_ HW_ hHeld ?_ (h2:=by rintro w' ⟨s0,s1,s2,s3,s4,s5⟩;have hcv_:=Kd.C_string (P:=Try.prog) (A:=A0) (c:=c0) Try.underlying54 Try.underlying5 Try.underlying9 s5;go_simp;with_reducible rfl)
       refine tt 4 67 (fl 11 415) HT_ HW_ hHeld ?_
       refine ot 5 (some 68) (fl 11 447) HT_ (fun K hK=>?_)
       refine goes_ Try.func35 (by kernel_rfl) rfl #[.agg #[.int .i64 t189,.int .i64 t190,.int .i64 t191,.bool (t195 == 1),.slice Ao30 y204.length co30]] (by rfl) rfl rfl (by (try simp only [List.map_toArray,List.map_cons,List.map_nil]);first|done|rfl|(simp only [List.length_drop,List.length_take];rfl)) ?_
       with_reducible refine (spec_PutFile.calls kj4 t189 t190 t191 (t195 == 1) _ _ y204 t209 _ ?side1 ?side2 A21.out).mono ?_
       (case side1=>exact sR HO206)
       (case side2=>exact (Kd.R_reads' HO206.out).2.1)
       rintro e w39 ⟨v210,rfl,ho0,hb⟩
       refine ⟨_,rfl,?_⟩
       have n0_:=Aside0.mk (Kd.R_elder' (rR HO206) (Kd.R_base ho0) hb);have n1_:=Aside0.mk (Kd.R_lower (Kd.R_new' ho0 (Kd.R_lt (rR HO206))) (below_size be));have n2_:=Aside0.mk (blk_below (bk BK188) hb);have n3_:=Aside0.mk (blk_below (bk BK194) hb);have n4_:=Aside0.mk (blk_below (bk BK207) hb);have n5_:=bs hb;clear HO206 BK188 BK194 BK207 HB;have HO206:=n0_;have HO211:=n1_;have BK188:=n2_;have BK194:=n3_;have BK207:=n4_;have HB:=n5_;clear n0_ n1_ n2_ n3_ n4_ n5_;(try clear hb);(try clear hb2);(try clear hk);(try clear hi);(try clear ho0)
       have hcv41:=Kd.C_string (P:=Try.prog) (A:=A0) (c:=c0) Try.underlying54 Try.underlying5 Try.underlying9 (Kd.C_below HR0.out HB.out)
       have hcw42:=fun (n_:Nat)=>Kd.C_string (P:=Try.prog) (A:=A0) (c:=c0) Try.underlying54 Try.underlying5 Try.underlying9 (Kd.C_drewN ((Kd.C_below HR0.out HB.out)) n_)
       refine hK.out _ _ ⟨(blk_cell BK207.out 0).trans rfl,(blk_cell BK207.out 1).trans rfl,(blk_cell BK207.out 2).trans rfl,(blk_cell BK207.out 3).trans rfl,(blk_cell BK207.out 4).trans rfl,Kd.C_below HR0.out be⟩ (fun hHeld=>?_)
       clear hK K
       refine no 68 ?_
       refine ot 6 (some 69) (fl 11 511) HT_ (fun K hK=>?_)
       have hcv40:=own_string (P:=Try.prog) Try.underlying54 Try.underlying5 Try.underlying9 (Kd.own_of_R HO211.out)
       refine value_ (w1:=?_) (v:=?_) (by rfl) rfl ?_ ?_
       rotate_left 2
       ·go_simp
        constructor
        ·rfl
        ·rfl
       clear hcv40
       refine hK.out _ _ ⟨(blk_cell BK207.out 0).trans rfl,(blk_cell BK207.out 1).trans rfl,(blk_cell BK207.out 2).trans rfl,(blk_cell BK207.out 3).trans rfl,(blk_cell BK207.out 4).trans rfl,Kd.C_below HR0.out be⟩ (fun hHeld=>?_)
       clear hK K
       refine no 69 ?_
       refine pt 9 72 (fl 11 1023) HT_ ?_
       refine pt 10 73 (fl 11 2047) HT_ ?_
       refine done_ (done_of HT_.out (by kernel_rfl)) ?_
       have hnb44:=NB207_188.out
       have hnc44:=NB188_207.out
       have hnb45:=NB207_194.out
       have hnc45:=NB194_207.out
       have hcz46_0:w39.cell? ⟨gb207,0,none⟩=some (.int .i64 t189):=(blk_cell BK207.out 0).trans rfl
       have hcz46_1:w39.cell? ⟨gb207,1,none⟩=some (.int .i64 t190):=(blk_cell BK207.out 1).trans rfl
       have hcz46_2:w39.cell? ⟨gb207,2,none⟩=some (.int .i64 t191):=(blk_cell BK207.out 2).trans rfl
       have hcz46_3:w39.cell? ⟨gb207,3,none⟩=some (.bool (t195 == 1)):=(blk_cell BK207.out 3).trans rfl
       have hcz46_4:w39.cell? ⟨gb207,4,none⟩=some (.slice Ao30 y204.length co30):=(blk_cell BK207.out 4).trans rfl
       have hfz46_0:=blk_frozen BK207.out 0
       have hfz46_1:=blk_frozen BK207.out 1
       have hfz46_2:=blk_frozen BK207.out 2
       have hfz46_3:=blk_frozen BK207.out 3
       have hfz46_4:=blk_frozen BK207.out 4
       have hnb47:=NB188_194.out
       have hnc47:=NB194_188.out
       have hcz48_0:w39.cell? ⟨gb188,0,none⟩=some (.int .i64 0):=(blk_cell BK188.out 0).trans rfl
       have hcz48_1:w39.cell? ⟨gb188,1,none⟩=some (.int .i64 0):=(blk_cell BK188.out 1).trans rfl
       have hcz48_2:w39.cell? ⟨gb188,2,none⟩=some (.int .i64 0):=(blk_cell BK188.out 2).trans rfl
       have hcz48_3:w39.cell? ⟨gb188,3,none⟩=some (.bool false):=(blk_cell BK188.out 3).trans rfl
       have hcz48_4:w39.cell? ⟨gb188,4,none⟩=some (.slice none 0 0):=(blk_cell BK188.out 4).trans rfl
       have hfz48_0:=blk_frozen BK188.out 0
       have hfz48_1:=blk_frozen BK188.out 1
       have hfz48_2:=blk_frozen BK188.out 2
       have hfz48_3:=blk_frozen BK188.out 3
       have hfz48_4:=blk_frozen BK188.out 4
       try go_wp2
       refine bodyPost_ret (results_ct rfl _ _ gb188 61 #[.int .i64 t189,.int .i64 t190,.int .i64 t191,.bool (t195 == 1),.slice Ao30 y204.length co30] (0,0) _ rfl (by (with_reducible repeat (first|refine blk_drewN ?_ _|refine blk_drew ?_|refine blk_alloc ?_ _));refine blk_put (cs:=#[.int .i64 t189,.int .i64 t190,.int .i64 t191,.bool (t195 == 1),.slice none 0 0]) ?_ 4 _ rfl;(with_reducible repeat (first|refine blk_drewN ?_ _|refine blk_drew ?_|refine blk_alloc ?_ _));refine blk_put (cs:=#[.int .i64 t189,.int .i64 t190,.int .i64 t191,.bool false,.slice none 0 0]) ?_ 3 _ rfl;(with_reducible repeat (first|refine blk_drewN ?_ _|refine blk_drew ?_|refine blk_alloc ?_ _));refine blk_put (cs:=#[.int .i64 t189,.int .i64 t190,.int .i64 0,.bool false,.slice none 0 0]) ?_ 2 _ rfl;(with_reducible repeat (first|refine blk_drewN ?_ _|refine blk_drew ?_|refine blk_alloc ?_ _));refine blk_put (cs:=#[.int .i64 t189,.int .i64 0,.int .i64 0,.bool false,.slice none 0 0]) ?_ 1 _ rfl;(with_reducible repeat (first|refine blk_drewN ?_ _|refine blk_drew ?_|refine blk_alloc ?_ _));refine blk_put (cs:=#[.int .i64 0,.int .i64 0,.int .i64 0,.bool false,.slice none 0 0]) ?_ 0 _ rfl;(with_reducible repeat (first|refine blk_drewN ?_ _|refine blk_drew ?_|refine blk_alloc ?_ _));exact BK188.out) Try.underlying61 rfl (by kernel_rfl)) rfl ?_
       exact ⟨_,rz,by (with_reducible repeat (first|apply Kd.R_alloc|apply Kd.R_drewN|apply Kd.R_drew));exact Kd.R_mono (Kd.R_far (p:=⟨gb188,4,none⟩) (Kd.R_far (p:=⟨gb188,3,none⟩) (Kd.R_far (p:=⟨gb188,2,none⟩) (Kd.R_far (p:=⟨gb188,1,none⟩) (Kd.R_far (p:=⟨gb188,0,none⟩) (Kd.R_types HO206.out BK188.out (by decide)) (fun _ hk=>hk.2) (.int .i64 t189)) (fun _ hk=>hk.2) (.int .i64 t190)) (fun _ hk=>hk.2) (.int .i64 t191)) (fun _ hk=>hk.2) (.bool (t195 == 1))) (fun _ hk=>hk.2) (.slice Ao30 y204.length co30)) (fun _ hk=>trivial),be⟩
      ·rw [if_neg c22] at H
       have c22b0:((strOfNums t209).toList == (strOfNums l0).toList)=false:=beq_eq_false_iff_ne.mpr c22
       have c22b1:((strOfNums t209).toList != (strOfNums l0).toList)=true:=bne_iff_ne.mpr c22
       simp only [Option.some.injEq,Prod.mk.injEq] at H
       obtain ⟨rfl,rfl,rfl,rfl,rfl,rfl⟩:=H
       try go_wp2
       have n0_:=Aside0.mk (blk_drew BK188.out);have n1_:=Aside0.mk (blk_drew BK194.out);have n2_:=Aside0.mk (below_drew1 HB.out);clear BK188 BK194 HB;have BK188:=n0_;have BK194:=n1_;have HB:=n2_;clear n0_ n1_ n2_
       refine start_ (n:=9) (S:=fun w'=>w'.cell? ⟨gb194,0,none⟩=some (.int .i64 t189)∧w'.cell? ⟨gb194,1,none⟩=some (.int .i64 t190)∧w'.cell? ⟨gb194,2,none⟩=some (.int .i64 t191)) (ds:=[]) (fl 9 0) (by kernel_rfl) rfl rfl ⟨(blk_cell BK194.out 0).trans rfl,(blk_cell BK194.out 1).trans rfl,(blk_cell BK194.out 2).trans rfl⟩ (fun hHeld=>?_);refine with_tabW spec_GetFile.tab6 spec_GetFile.bits6 (fun HT_ HW_=>?_)
       generalize wc.drew=w49 at BK188 BK194 HB hHeld ⊢
       refine pt 1 57 (fl 9 2) HT_ ?_
       refine pt 2 58 (fl 9 6) HT_ ?_
       refine pt 4 60 (fl 9 22) HT_ ?_
       refine tt 0 56 (fl 9 23) HT_ HW_ hHeld ?_
       refine join_ (σ:=Value × Value × Nat) 1 (fl 9 255) (fun s_=>[(59,s_.1),(61,s_.2.1),(13,.pointer (some ⟨s_.2.2,0,none⟩)),(62,.agg #[.int .i64 t189,.int .i64 t190,.int .i64 t191,.bool (t195 == 1),s_.2.1])]) (fun s_ w'=>(w'.cell? ⟨gb194,0,none⟩=some (.int .i64 t189)∧w'.cell? ⟨gb194,1,none⟩=some (.int .i64 t190)∧w'.cell? ⟨gb194,2,none⟩=some (.int .i64 t191))∧(Kd.R (Kd.int .u8) 5 w' w.heap.size (fun _=>True) s_.2.1 y204)∧(w'.heap[gb188]?=some (.cells #[.int .i64 0,.int .i64 0,.int .i64 0,.bool false,.slice none 0 0] 61 (0,0)))∧(w'.heap[gb194]?=some (.cells #[.int .i64 t189,.int .i64 t190,.int .i64 t191] 59 (0,0)))∧(w'.heap[s_.2.2]?=some (.cells #[.int .i64 0,.int .i64 0,.int .i64 0,.bool false,.slice none 0 0] 61 (0,0)))∧(w.heap.size≤s_.2.2)∧(w.heap.size≤s_.2.2)∧(gb188 ≠ s_.2.2)∧(s_.2.2 ≠ gb188)∧(gb194 ≠ s_.2.2)∧(s_.2.2 ≠ gb194)∧(Below w.heap.size w w')) ?_ ?_
       rotate_left
       ·intro hCont
        refine two_ (i:=3) (j:=7) (Ni:=some 59) (Nj:=some 13) (fl 9 31) (fl 9 151) rfl rfl rfl rfl (two_of HT_.out (by kernel_rfl)) (by decide) (by decide) (fun K hK=>?_) (fun K hK=>?_)
        ·skip
         refine Kd.R_lit_step (Kd.int .u8) _ 5 ?hg (N:=59) ?hd (xs:=([]:List Int)) (inner:=[]) (ok:=fun _=>True) (okp:=fun _=>True) ?hr ?hp (fun _ hk=>hk) trivial (Below.refl _ _) (Nat.le_refl _) (by simp) ?_;(case hd=>rfl);(case hg=>rfl);(case hr=>first|(go_simp;done)|(go_simp;rfl));(case hp=>exact (Reps.none _ _))
         intro v202 w50 ho51 hb hg_ hnew_
         clear hg_ hnew_
         (first|rw [← Ny201.out] at ho51|(simp only [Int.reduceToNat] at ho51;rw [← Ny201.out] at ho51))
         have n0_:=Aside0.mk (Kd.R_lower ho51 (below_size be));have n1_:=Aside0.mk (blk_below (bk BK188) hb);have n2_:=Aside0.mk (blk_below (bk BK194) hb);have n3_:=bs hb;clear BK188 BK194 HB;have HO203:=n0_;have BK188:=n1_;have BK194:=n2_;have HB:=n3_;clear n0_ n1_ n2_ n3_ hb ho51
         refine hK.out _ _ ⟨(blk_cell BK194.out 0).trans rfl,(blk_cell BK194.out 1).trans rfl,(blk_cell BK194.out 2).trans rfl⟩ (fun hHeld=>?_)
         clear hK K
         refine no 59 ?_
         refine two_ (i:=5) (j:=7) (Ni:=some 61) (Nj:=some 13) (fl 9 63) (fl 9 159) rfl rfl rfl rfl (two_of HT_.out (by kernel_rfl)) (by decide) (by decide) (fun K hK=>?_) (fun K hK=>?_)
         ·skip
          refine Aid.append_str_step (w0:=w) w.heap.size (by rfl) (.tmp 59) _ 54 9 5 rfl Try.underlying54 Try.underlying9 info5 v202 y201 t198 rfl rfl ?aO ?aB ?aS ?aL ?_
          (case aB=>exact be)
          (case aO=>exact (Kd.own_of_R (rR HO203)))
          (case aS=>exact (below_size be))
          (case aL=>have:=LMc18.out;omega)
          intro v205 w52 ho0 hb hg hat
          have ho:=Kd.R_of_own (h1:=fun _=>rfl) (ok:=(fun _=>True)) ho0 (fun k_ hk_=>Or.elim hat (fun he_=>trivial) (fun ⟨_,hb1_,hb2_⟩=>(fun _ _=>trivial) k_ (Option.some.inj (hb1_.symm.trans hk_) ▸ hb2_)))
          clear ho0
          rw [← Ny204.out] at ho
          change Kd.R (Kd.int .u8) 5 w52 w.heap.size (fun _=>True) v205 y204 at ho
          have n0_:=Aside0.mk (blk_grown (g:=gb188) (o:=.cells #[.int .i64 0,.int .i64 0,.int .i64 0,.bool false,.slice none 0 0] 61 (0,0)) (bk BK188) hg (Kd.R_ne HO203.out BK188.out (by decide)));have n1_:=Aside0.mk (blk_grown (g:=gb194) (o:=.cells #[.int .i64 t189,.int .i64 t190,.int .i64 t191] 59 (0,0)) (bk BK194) hg (Kd.R_ne HO203.out BK194.out (by decide)));have n2_:=Aside0.mk (hb);have n3_:=Aside0.mk (ho);clear BK188 BK194 HB HO203;have BK188:=n0_;have BK194:=n1_;have HB:=n2_;have HO206:=n3_;clear n0_ n1_ n2_ n3_ ho hb hg hat
          obtain ⟨Ao53,co53,eo53⟩:=Kd.R_slice HO206.out
          (first|subst eo53|(injection eo53 with f1_ f2_ f3_;have f4_:=f1_.symm;have f5_:=f3_.symm;clear f1_ f2_ f3_;subst f4_;subst f5_))
          refine hK.out _ _ ⟨(blk_cell BK194.out 0).trans rfl,(blk_cell BK194.out 1).trans rfl,(blk_cell BK194.out 2).trans rfl⟩ (fun hHeld=>?_)
          clear hK K
          refine no 61 ?_
          refine pt 6 62 (fl 9 127) HT_ ?_
          refine ot 7 (some 13) (fl 9 255) HT_ (fun K hK=>?_)
          refine box_step ?hg (N:=13) ?hd (cs:=#[.int .i64 0,.int .i64 0,.int .i64 0,.bool false,.slice none 0 0]) (t:=61) ?hr ?_;(case hd=>rfl);(case hg=>rfl);(case hr=>first|(go_simp;done)|(go_simp;rfl))
          intro gb207 hg w54 hbox hb
          have n0_:=Aside0.mk (Kd.R_below (rR HO206) hb);have n1_:=Aside0.mk (blk_below (bk BK188) hb);have n2_:=Aside0.mk (blk_below (bk BK194) hb);have n3_:=bs hb;have n4_:=Aside0.mk (hbox);have n5_:=Aside0.mk ((by rw [hg];exact (below_size be):w.heap.size≤gb207));have n6_:=Aside0.mk ((by rw [hg];exact (below_size be):w.heap.size≤gb207));have n7_:=Aside0.mk ((by rw [hg];exact Nat.ne_of_lt (blk_lt (g:=gb188) (o:=.cells #[.int .i64 0,.int .i64 0,.int .i64 0,.bool false,.slice none 0 0] 61 (0,0)) (bk BK188)):gb188 ≠ gb207));have n8_:=Aside0.mk ((by rw [hg];exact Nat.ne_of_gt (blk_lt (g:=gb188) (o:=.cells #[.int .i64 0,.int .i64 0,.int .i64 0,.bool false,.slice none 0 0] 61 (0,0)) (bk BK188)):gb207 ≠ gb188));have n9_:=Aside0.mk ((by rw [hg];exact Nat.ne_of_lt (blk_lt (g:=gb194) (o:=.cells #[.int .i64 t189,.int .i64 t190,.int .i64 t191] 59 (0,0)) (bk BK194)):gb194 ≠ gb207));have n10_:=Aside0.mk ((by rw [hg];exact Nat.ne_of_gt (blk_lt (g:=gb194) (o:=.cells #[.int .i64 t189,.int .i64 t190,.int .i64 t191] 59 (0,0)) (bk BK194)):gb207 ≠ gb194));clear HO206 BK188 BK194 HB;have HO206:=n0_;have BK188:=n1_;have BK194:=n2_;have HB:=n3_;have BK207:=n4_;have GW207:=n5_;have GE207:=n6_;have NB188_207:=n7_;have NB207_188:=n8_;have NB194_207:=n9_;have NB207_194:=n10_;clear n0_ n1_ n2_ n3_ n4_ n5_ n6_ n7_ n8_ n9_ n10_ hb hbox hg
          refine hK.out _ _ ⟨(blk_cell BK194.out 0).trans rfl,(blk_cell BK194.out 1).trans rfl,(blk_cell BK194.out 2).trans rfl⟩ (fun hHeld=>?_)
          clear hK K
          refine no 13 ?_
          exact norm_ (by simp only [putAll,Act.put,List.setIfInBounds_toArray,List.set_cons_zero,List.set_cons_succ]) (hCont (v202,.slice Ao53 y204.length co53,gb207) _ ⟨hHeld,(rR HO206),(bk BK188),(bk BK194),(bk BK207),GW207.out,GE207.out,NB188_207.out,NB207_188.out,NB194_207.out,NB207_194.out,be⟩)
         ·skip
          refine box_step ?hg (N:=13) ?hd (cs:=#[.int .i64 0,.int .i64 0,.int .i64 0,.bool false,.slice none 0 0]) (t:=61) ?hr ?_;(case hd=>rfl);(case hg=>rfl);(case hr=>first|(go_simp;done)|(go_simp;rfl))
          intro gb207 hg w52 hbox hb
          have n0_:=Aside0.mk (Kd.R_below (rR HO203) hb);have n1_:=Aside0.mk (blk_below (bk BK188) hb);have n2_:=Aside0.mk (blk_below (bk BK194) hb);have n3_:=bs hb;have n4_:=Aside0.mk (hbox);have n5_:=Aside0.mk ((by rw [hg];exact (below_size be):w.heap.size≤gb207));have n6_:=Aside0.mk ((by rw [hg];exact (below_size be):w.heap.size≤gb207));have n7_:=Aside0.mk ((by rw [hg];exact Nat.ne_of_lt (blk_lt (g:=gb188) (o:=.cells #[.int .i64 0,.int .i64 0,.int .i64 0,.bool false,.slice none 0 0] 61 (0,0)) (bk BK188)):gb188 ≠ gb207));have n8_:=Aside0.mk ((by rw [hg];exact Nat.ne_of_gt (blk_lt (g:=gb188) (o:=.cells #[.int .i64 0,.int .i64 0,.int .i64 0,.bool false,.slice none 0 0] 61 (0,0)) (bk BK188)):gb207 ≠ gb188));have n9_:=Aside0.mk ((by rw [hg];exact Nat.ne_of_lt (blk_lt (g:=gb194) (o:=.cells #[.int .i64 t189,.int .i64 t190,.int .i64 t191] 59 (0,0)) (bk BK194)):gb194 ≠ gb207));have n10_:=Aside0.mk ((by rw [hg];exact Nat.ne_of_gt (blk_lt (g:=gb194) (o:=.cells #[.int .i64 t189,.int .i64 t190,.int .i64 t191] 59 (0,0)) (bk BK194)):gb207 ≠ gb194));clear HO203 BK188 BK194 HB;have HO203:=n0_;have BK188:=n1_;have BK194:=n2_;have HB:=n3_;have BK207:=n4_;have GW207:=n5_;have GE207:=n6_;have NB188_207:=n7_;have NB207_188:=n8_;have NB194_207:=n9_;have NB207_194:=n10_;clear n0_ n1_ n2_ n3_ n4_ n5_ n6_ n7_ n8_ n9_ n10_ hb hbox hg
          refine hK.out _ _ ⟨(blk_cell BK194.out 0).trans rfl,(blk_cell BK194.out 1).trans rfl,(blk_cell BK194.out 2).trans rfl⟩ (fun hHeld=>?_)
          clear hK K
          refine no 13 ?_
          refine ot 5 (some 61) (fl 9 191) HT_ (fun K hK=>?_)
          refine Aid.append_str_step (w0:=w) w.heap.size (by rfl) (.tmp 59) _ 54 9 5 rfl Try.underlying54 Try.underlying9 info5 v202 y201 t198 rfl rfl ?aO ?aB ?aS ?aL ?_
          (case aB=>exact be)
          (case aO=>exact (Kd.own_of_R (rR HO203)))
          (case aS=>exact (below_size be))
          (case aL=>have:=LMc18.out;omega)
          intro v205 w53 ho0 hb hg hat
          have ho:=Kd.R_of_own (h1:=fun _=>rfl) (ok:=(fun _=>True)) ho0 (fun k_ hk_=>Or.elim hat (fun he_=>trivial) (fun ⟨_,hb1_,hb2_⟩=>(fun _ _=>trivial) k_ (Option.some.inj (hb1_.symm.trans hk_) ▸ hb2_)))
          clear ho0
          rw [← Ny204.out] at ho
          change Kd.R (Kd.int .u8) 5 w53 w.heap.size (fun _=>True) v205 y204 at ho
          have n0_:=Aside0.mk (blk_grown (g:=gb188) (o:=.cells #[.int .i64 0,.int .i64 0,.int .i64 0,.bool false,.slice none 0 0] 61 (0,0)) (bk BK188) hg (Kd.R_ne HO203.out BK188.out (by decide)));have n1_:=Aside0.mk (blk_grown (g:=gb194) (o:=.cells #[.int .i64 t189,.int .i64 t190,.int .i64 t191] 59 (0,0)) (bk BK194) hg (Kd.R_ne HO203.out BK194.out (by decide)));have n2_:=Aside0.mk (blk_grown (g:=gb207) (o:=.cells #[.int .i64 0,.int .i64 0,.int .i64 0,.bool false,.slice none 0 0] 61 (0,0)) (bk BK207) hg (Kd.R_ne HO203.out BK207.out (by decide)));have n3_:=Aside0.mk (hb);have n4_:=Aside0.mk (ho);clear BK188 BK194 BK207 HB HO203;have BK188:=n0_;have BK194:=n1_;have BK207:=n2_;have HB:=n3_;have HO206:=n4_;clear n0_ n1_ n2_ n3_ n4_ ho hb hg hat
          obtain ⟨Ao54,co54,eo54⟩:=Kd.R_slice HO206.out
          (first|subst eo54|(injection eo54 with f1_ f2_ f3_;have f4_:=f1_.symm;have f5_:=f3_.symm;clear f1_ f2_ f3_;subst f4_;subst f5_))
          refine hK.out _ _ ⟨(blk_cell BK194.out 0).trans rfl,(blk_cell BK194.out 1).trans rfl,(blk_cell BK194.out 2).trans rfl⟩ (fun hHeld=>?_)
          clear hK K
          refine no 61 ?_
          refine pt 6 62 (fl 9 255) HT_ ?_
          exact norm_ (by simp only [putAll,Act.put,List.setIfInBounds_toArray,List.set_cons_zero,List.set_cons_succ]) (hCont (v202,.slice Ao54 y204.length co54,gb207) _ ⟨hHeld,(rR HO206),(bk BK188),(bk BK194),(bk BK207),GW207.out,GE207.out,NB188_207.out,NB207_188.out,NB194_207.out,NB207_194.out,be⟩)
        ·skip
         refine box_step ?hg (N:=13) ?hd (cs:=#[.int .i64 0,.int .i64 0,.int .i64 0,.bool false,.slice none 0 0]) (t:=61) ?hr ?_;(case hd=>rfl);(case hg=>rfl);(case hr=>first|(go_simp;done)|(go_simp;rfl))
         intro gb207 hg w50 hbox hb
         have n0_:=Aside0.mk (blk_below (bk BK188) hb);have n1_:=Aside0.mk (blk_below (bk BK194) hb);have n2_:=bs hb;have n3_:=Aside0.mk (hbox);have n4_:=Aside0.mk ((by rw [hg];exact (below_size be):w.heap.size≤gb207));have n5_:=Aside0.mk ((by rw [hg];exact (below_size be):w.heap.size≤gb207));have n6_:=Aside0.mk ((by rw [hg];exact Nat.ne_of_lt (blk_lt (g:=gb188) (o:=.cells #[.int .i64 0,.int .i64 0,.int .i64 0,.bool false,.slice none 0 0] 61 (0,0)) (bk BK188)):gb188 ≠ gb207));have n7_:=Aside0.mk ((by rw [hg];exact Nat.ne_of_gt (blk_lt (g:=gb188) (o:=.cells #[.int .i64 0,.int .i64 0,.int .i64 0,.bool false,.slice none 0 0] 61 (0,0)) (bk BK188)):gb207 ≠ gb188));have n8_:=Aside0.mk ((by rw [hg];exact Nat.ne_of_lt (blk_lt (g:=gb194) (o:=.cells #[.int .i64 t189,.int .i64 t190,.int .i64 t191] 59 (0,0)) (bk BK194)):gb194 ≠ gb207));have n9_:=Aside0.mk ((by rw [hg];exact Nat.ne_of_gt (blk_lt (g:=gb194) (o:=.cells #[.int .i64 t189,.int .i64 t190,.int .i64 t191] 59 (0,0)) (bk BK194)):gb207 ≠ gb194));clear BK188 BK194 HB;have BK188:=n0_;have BK194:=n1_;have HB:=n2_;have BK207:=n3_;have GW207:=n4_;have GE207:=n5_;have NB188_207:=n6_;have NB207_188:=n7_;have NB194_207:=n8_;have NB207_194:=n9_;clear n0_ n1_ n2_ n3_ n4_ n5_ n6_ n7_ n8_ n9_ hb hbox hg
         refine hK.out _ _ ⟨(blk_cell BK194.out 0).trans rfl,(blk_cell BK194.out 1).trans rfl,(blk_cell BK194.out 2).trans rfl⟩ (fun hHeld=>?_)
         clear hK K
         refine no 13 ?_
         refine ot 3 (some 59) (fl 9 159) HT_ (fun K hK=>?_)
         refine Kd.R_lit_step (Kd.int .u8) _ 5 ?hg (N:=59) ?hd (xs:=([]:List Int)) (inner:=[]) (ok:=fun _=>True) (okp:=fun _=>True) ?hr ?hp (fun _ hk=>hk) trivial (Below.refl _ _) (Nat.le_refl _) (by simp) ?_;(case hd=>rfl);(case hg=>rfl);(case hr=>first|(go_simp;done)|(go_simp;rfl));(case hp=>exact (Reps.none _ _))
         intro v202 w51 ho52 hb hg_ hnew_
         clear hg_ hnew_
         (first|rw [← Ny201.out] at ho52|(simp only [Int.reduceToNat] at ho52;rw [← Ny201.out] at ho52))
         have n0_:=Aside0.mk (Kd.R_lower ho52 (below_size be));have n1_:=Aside0.mk (blk_below (bk BK188) hb);have n2_:=Aside0.mk (blk_below (bk BK194) hb);have n3_:=Aside0.mk (blk_below (bk BK207) hb);have n4_:=bs hb;clear BK188 BK194 BK207 HB;have HO203:=n0_;have BK188:=n1_;have BK194:=n2_;have BK207:=n3_;have HB:=n4_;clear n0_ n1_ n2_ n3_ n4_ hb ho52
         refine hK.out _ _ ⟨(blk_cell BK194.out 0).trans rfl,(blk_cell BK194.out 1).trans rfl,(blk_cell BK194.out 2).trans rfl⟩ (fun hHeld=>?_)
         clear hK K
         refine no 59 ?_
         refine ot 5 (some 61) (fl 9 191) HT_ (fun K hK=>?_)
         refine Aid.append_str_step (w0:=w) w.heap.size (by rfl) (.tmp 59) _ 54 9 5 rfl Try.underlying54 Try.underlying9 info5 v202 y201 t198 rfl rfl ?aO ?aB ?aS ?aL ?_
         (case aB=>exact be)
         (case aO=>exact (Kd.own_of_R (rR HO203)))
         (case aS=>exact (below_size be))
         (case aL=>have:=LMc18.out;omega)
         intro v205 w53 ho0 hb hg hat
         have ho:=Kd.R_of_own (h1:=fun _=>rfl) (ok:=(fun _=>True)) ho0 (fun k_ hk_=>Or.elim hat (fun he_=>trivial) (fun ⟨_,hb1_,hb2_⟩=>(fun _ _=>trivial) k_ (Option.some.inj (hb1_.symm.trans hk_) ▸ hb2_)))
         clear ho0
         rw [← Ny204.out] at ho
         change Kd.R (Kd.int .u8) 5 w53 w.heap.size (fun _=>True) v205 y204 at ho
         have n0_:=Aside0.mk (blk_grown (g:=gb188) (o:=.cells #[.int .i64 0,.int .i64 0,.int .i64 0,.bool false,.slice none 0 0] 61 (0,0)) (bk BK188) hg (Kd.R_ne HO203.out BK188.out (by decide)));have n1_:=Aside0.mk (blk_grown (g:=gb194) (o:=.cells #[.int .i64 t189,.int .i64 t190,.int .i64 t191] 59 (0,0)) (bk BK194) hg (Kd.R_ne HO203.out BK194.out (by decide)));have n2_:=Aside0.mk (blk_grown (g:=gb207) (o:=.cells #[.int .i64 0,.int .i64 0,.int .i64 0,.bool false,.slice none 0 0] 61 (0,0)) (bk BK207) hg (Kd.R_ne HO203.out BK207.out (by decide)));have n3_:=Aside0.mk (hb);have n4_:=Aside0.mk (ho);clear BK188 BK194 BK207 HB HO203;have BK188:=n0_;have BK194:=n1_;have BK207:=n2_;have HB:=n3_;have HO206:=n4_;clear n0_ n1_ n2_ n3_ n4_ ho hb hg hat
         obtain ⟨Ao54,co54,eo54⟩:=Kd.R_slice HO206.out
         (first|subst eo54|(injection eo54 with f1_ f2_ f3_;have f4_:=f1_.symm;have f5_:=f3_.symm;clear f1_ f2_ f3_;subst f4_;subst f5_))
         refine hK.out _ _ ⟨(blk_cell BK194.out 0).trans rfl,(blk_cell BK194.out 1).trans rfl,(blk_cell BK194.out 2).trans rfl⟩ (fun hHeld=>?_)
         clear hK K
         refine no 61 ?_
         refine pt 6 62 (fl 9 255) HT_ ?_
         exact norm_ (by simp only [putAll,Act.put,List.setIfInBounds_toArray,List.set_cons_zero,List.set_cons_succ]) (hCont (v202,.slice Ao54 y204.length co54,gb207) _ ⟨hHeld,(rR HO206),(bk BK188),(bk BK194),(bk BK207),GW207.out,GE207.out,NB188_207.out,NB207_188.out,NB194_207.out,NB207_194.out,be⟩)
       rintro ⟨v202,v205,gb207⟩ w55 ⟨hS_,h0_,h1_,h2_,h3_,h4_,h5_,h6_,h7_,h8_,h9_,h10_⟩
       have n0_:Aside0 (Kd.R (Kd.int .u8) 5 w55 w.heap.size (fun _=>True) v205 y204):=⟨h0_⟩
       have n1_:Aside0 (w55.heap[gb188]?=some (.cells #[.int .i64 0,.int .i64 0,.int .i64 0,.bool false,.slice none 0 0] 61 (0,0))):=⟨h1_⟩
       have n2_:Aside0 (w55.heap[gb194]?=some (.cells #[.int .i64 t189,.int .i64 t190,.int .i64 t191] 59 (0,0))):=⟨h2_⟩
       have n3_:Aside0 (w55.heap[gb207]?=some (.cells #[.int .i64 0,.int .i64 0,.int .i64 0,.bool false,.slice none 0 0] 61 (0,0))):=⟨h3_⟩
       have n4_:Aside0 (w.heap.size≤gb207):=⟨h4_⟩
       have n5_:Aside0 (w.heap.size≤gb207):=⟨h5_⟩
       have n6_:Aside0 (gb188 ≠ gb207):=⟨h6_⟩
       have n7_:Aside0 (gb207 ≠ gb188):=⟨h7_⟩
       have n8_:Aside0 (gb194 ≠ gb207):=⟨h8_⟩
       have n9_:Aside0 (gb207 ≠ gb194):=⟨h9_⟩
       have n10_:Aside0 (Below w.heap.size w w55):=⟨h10_⟩
       clear BK188 BK194 HB h0_ h1_ h2_ h3_ h4_ h5_ h6_ h7_ h8_ h9_ h10_;have HO206:=n0_;have BK188:=n1_;have BK194:=n2_;have BK207:=n3_;have GW207:=n4_;have GE207:=n5_;have NB188_207:=n6_;have NB207_188:=n7_;have NB194_207:=n8_;have NB207_194:=n9_;have HB:=n10_;clear n0_ n1_ n2_ n3_ n4_ n5_ n6_ n7_ n8_ n9_ n10_
       have hHeld:w55.cell? ⟨gb194,0,none⟩=some (.int .i64 t189)∧w55.cell? ⟨gb194,1,none⟩=some (.int .i64 t190)∧w55.cell? ⟨gb194,2,none⟩=some (.int .i64 t191):=hS_
       obtain ⟨Ao56,co56,eo56⟩:=Kd.R_slice HO206.out
       (first|subst eo56|(injection eo56 with f1_ f2_ f3_;have f4_:=f1_.symm;have f5_:=f3_.symm;clear f1_ f2_ f3_;subst f4_;subst f5_))
       refine norm_ (a':=?_) ?_ ?_
       rotate_left
       ·simp only [putAll,Act.put,List.setIfInBounds_toArray,List.set_cons_zero,List.set_cons_succ]
        rfl
       refine ot 8 none (fl 9 511) HT_ (fun K hK=>?_)
       have hs57:w55.cell? ⟨gb207,0,none⟩=some (.int .i64 0):=(blk_cell BK207.out 0).trans rfl
       have hfs57:=blk_frozen BK207.out 0
       have hns57_0:=NB188_207.out
       have hns57_1:=NB194_207.out
       have hms57_0:=NB207_188.out
       have hms57_1:=NB207_194.out
       have hs58:w55.cell? ⟨gb207,1,none⟩=some (.int .i64 0):=(blk_cell BK207.out 1).trans rfl
       have hfs58:=blk_frozen BK207.out 1
       have hns58_0:=NB188_207.out
       have hns58_1:=NB194_207.out
       have hms58_0:=NB207_188.out
       have hms58_1:=NB207_194.out
       have hs59:w55.cell? ⟨gb207,2,none⟩=some (.int .i64 0):=(blk_cell BK207.out 2).trans rfl
       have hfs59:=blk_frozen BK207.out 2
       have hns59_0:=NB188_207.out
       have hns59_1:=NB194_207.out
       have hms59_0:=NB207_188.out
       have hms59_1:=NB207_194.out
       have hs60:w55.cell? ⟨gb207,3,none⟩=some (.bool false):=(blk_cell BK207.out 3).trans rfl
       have hfs60:=blk_frozen BK207.out 3
       have hns60_0:=NB188_207.out
       have hns60_1:=NB194_207.out
       have hms60_0:=NB207_188.out
       have hms60_1:=NB207_194.out
       have hs61:w55.cell? ⟨gb207,4,none⟩=some (.slice none 0 0):=(blk_cell BK207.out 4).trans rfl
       have hfs61:=blk_frozen BK207.out 4
       have hns61_0:=NB188_207.out
       have hns61_1:=NB194_207.out
       have hms61_0:=NB207_188.out
       have hms61_1:=NB207_194.out
       refine skip_ (w1:=?_) (by rfl) rfl ?_ ?_
       rotate_left
       ·go_simp
        rfl
       refine hK.out _ _ ⟨((cell_far (p:=⟨gb207,_,none⟩) NB194_207.out _).trans (((cell_far (p:=⟨gb207,_,none⟩) NB194_207.out _).trans (((cell_far (p:=⟨gb207,_,none⟩) NB194_207.out _).trans (((cell_far (p:=⟨gb207,_,none⟩) NB194_207.out _).trans (((cell_far (p:=⟨gb207,_,none⟩) NB194_207.out _).trans (hHeld.1)))))))))),((cell_far (p:=⟨gb207,_,none⟩) NB194_207.out _).trans (((cell_far (p:=⟨gb207,_,none⟩) NB194_207.out _).trans (((cell_far (p:=⟨gb207,_,none⟩) NB194_207.out _).trans (((cell_far (p:=⟨gb207,_,none⟩) NB194_207.out _).trans (((cell_far (p:=⟨gb207,_,none⟩) NB194_207.out _).trans (hHeld.2.1)))))))))),((cell_far (p:=⟨gb207,_,none⟩) NB194_207.out _).trans (((cell_far (p:=⟨gb207,_,none⟩) NB194_207.out _).trans (((cell_far (p:=⟨gb207,_,none⟩) NB194_207.out _).trans (((cell_far (p:=⟨gb207,_,none⟩) NB194_207.out _).trans (((cell_far (p:=⟨gb207,_,none⟩) NB194_207.out _).trans (hHeld.2.2))))))))))⟩ (fun hHeld=>?_)
       clear hK K
       refine done_ (done_of HT_.out (by kernel_rfl)) ?_
       try go_wp2
       have n0_:Aside0 (Kd.R (Kd.int .u8) 5 (((((w55.setCell ⟨gb207,0,none⟩ (.int .i64 t189)).setCell ⟨gb207,1,none⟩ (.int .i64 t190)).setCell ⟨gb207,2,none⟩ (.int .i64 t191)).setCell ⟨gb207,3,none⟩ (.bool (t195 == 1))).setCell ⟨gb207,4,none⟩ (.slice Ao56 y204.length co56)) w.heap.size (fun _=>True) (.slice Ao56 y204.length co56) y204):=⟨by (with_reducible repeat (first|apply Kd.R_alloc|apply Kd.R_drewN|apply Kd.R_drew));exact Kd.R_mono (Kd.R_far (p:=⟨gb207,4,none⟩) (Kd.R_far (p:=⟨gb207,3,none⟩) (Kd.R_far (p:=⟨gb207,2,none⟩) (Kd.R_far (p:=⟨gb207,1,none⟩) (Kd.R_far (p:=⟨gb207,0,none⟩) (Kd.R_types HO206.out BK207.out (by decide)) (fun _ hk=>hk.2) (.int .i64 t189)) (fun _ hk=>hk.2) (.int .i64 t190)) (fun _ hk=>hk.2) (.int .i64 t191)) (fun _ hk=>hk.2) (.bool (t195 == 1))) (fun _ hk=>hk.2) (.slice Ao56 y204.length co56)) (fun _ hk=>trivial)⟩
       have n1_:Aside0 ((((((w55.setCell ⟨gb207,0,none⟩ (.int .i64 t189)).setCell ⟨gb207,1,none⟩ (.int .i64 t190)).setCell ⟨gb207,2,none⟩ (.int .i64 t191)).setCell ⟨gb207,3,none⟩ (.bool (t195 == 1))).setCell ⟨gb207,4,none⟩ (.slice Ao56 y204.length co56)).heap[gb188]?=some (.cells #[.int .i64 0,.int .i64 0,.int .i64 0,.bool false,.slice none 0 0] 61 (0,0))):=⟨by (with_reducible repeat (first|refine blk_drewN ?_ _|refine blk_drew ?_|refine blk_alloc ?_ _));refine blk_far ?_ NB188_207.out _;(with_reducible repeat (first|refine blk_drewN ?_ _|refine blk_drew ?_|refine blk_alloc ?_ _));refine blk_far ?_ NB188_207.out _;(with_reducible repeat (first|refine blk_drewN ?_ _|refine blk_drew ?_|refine blk_alloc ?_ _));refine blk_far ?_ NB188_207.out _;(with_reducible repeat (first|refine blk_drewN ?_ _|refine blk_drew ?_|refine blk_alloc ?_ _));refine blk_far ?_ NB188_207.out _;(with_reducible repeat (first|refine blk_drewN ?_ _|refine blk_drew ?_|refine blk_alloc ?_ _));refine blk_far ?_ NB188_207.out _;(with_reducible repeat (first|refine blk_drewN ?_ _|refine blk_drew ?_|refine blk_alloc ?_ _));exact BK188.out⟩
       have n2_:Aside0 ((((((w55.setCell ⟨gb207,0,none⟩ (.int .i64 t189)).setCell ⟨gb207,1,none⟩ (.int .i64 t190)).setCell ⟨gb207,2,none⟩ (.int .i64 t191)).setCell ⟨gb207,3,none⟩ (.bool (t195 == 1))).setCell ⟨gb207,4,none⟩ (.slice Ao56 y204.length co56)).heap[gb194]?=some (.cells #[.int .i64 t189,.int .i64 t190,.int .i64 t191] 59 (0,0))):=⟨by (with_reducible repeat (first|refine blk_drewN ?_ _|refine blk_drew ?_|refine blk_alloc ?_ _));refine blk_far ?_ NB194_207.out _;(with_reducible repeat (first|refine blk_drewN ?_ _|refine blk_drew ?_|refine blk_alloc ?_ _));refine blk_far ?_ NB194_207.out _;(with_reducible repeat (first|refine blk_drewN ?_ _|refine blk_drew ?_|refine blk_alloc ?_ _));refine blk_far ?_ NB194_207.out _;(with_reducible repeat (first|refine blk_drewN ?_ _|refine blk_drew ?_|refine blk_alloc ?_ _));refine blk_far ?_ NB194_207.out _;(with_reducible repeat (first|refine blk_drewN ?_ _|refine blk_drew ?_|refine blk_alloc ?_ _));refine blk_far ?_ NB194_207.out _;(with_reducible repeat (first|refine blk_drewN ?_ _|refine blk_drew ?_|refine blk_alloc ?_ _));exact BK194.out⟩
       have n3_:Aside0 ((((((w55.setCell ⟨gb207,0,none⟩ (.int .i64 t189)).setCell ⟨gb207,1,none⟩ (.int .i64 t190)).setCell ⟨gb207,2,none⟩ (.int .i64 t191)).setCell ⟨gb207,3,none⟩ (.bool (t195 == 1))).setCell ⟨gb207,4,none⟩ (.slice Ao56 y204.length co56)).heap[gb207]?=some (.cells #[.int .i64 t189,.int .i64 t190,.int .i64 t191,.bool (t195 == 1),.slice Ao56 y204.length co56] 61 (0,0))):=⟨by (with_reducible repeat (first|refine blk_drewN ?_ _|refine blk_drew ?_|refine blk_alloc ?_ _));refine blk_put (cs:=#[.int .i64 t189,.int .i64 t190,.int .i64 t191,.bool (t195 == 1),.slice none 0 0]) ?_ 4 _ rfl;(with_reducible repeat (first|refine blk_drewN ?_ _|refine blk_drew ?_|refine blk_alloc ?_ _));refine blk_put (cs:=#[.int .i64 t189,.int .i64 t190,.int .i64 t191,.bool false,.slice none 0 0]) ?_ 3 _ rfl;(with_reducible repeat (first|refine blk_drewN ?_ _|refine blk_drew ?_|refine blk_alloc ?_ _));refine blk_put (cs:=#[.int .i64 t189,.int .i64 t190,.int .i64 0,.bool false,.slice none 0 0]) ?_ 2 _ rfl;(with_reducible repeat (first|refine blk_drewN ?_ _|refine blk_drew ?_|refine blk_alloc ?_ _));refine blk_put (cs:=#[.int .i64 t189,.int .i64 0,.int .i64 0,.bool false,.slice none 0 0]) ?_ 1 _ rfl;(with_reducible repeat (first|refine blk_drewN ?_ _|refine blk_drew ?_|refine blk_alloc ?_ _));refine blk_put (cs:=#[.int .i64 0,.int .i64 0,.int .i64 0,.bool false,.slice none 0 0]) ?_ 0 _ rfl;(with_reducible repeat (first|refine blk_drewN ?_ _|refine blk_drew ?_|refine blk_alloc ?_ _));exact BK207.out⟩
       have n4_:Aside0 (Below w.heap.size w (((((w55.setCell ⟨gb207,0,none⟩ (.int .i64 t189)).setCell ⟨gb207,1,none⟩ (.int .i64 t190)).setCell ⟨gb207,2,none⟩ (.int .i64 t191)).setCell ⟨gb207,3,none⟩ (.bool (t195 == 1))).setCell ⟨gb207,4,none⟩ (.slice Ao56 y204.length co56))):=⟨be⟩
       (try clear HO206);(try clear BK188);(try clear BK194);(try clear BK207);(try clear HB)
       generalize (((((w55.setCell ⟨gb207,0,none⟩ (.int .i64 t189)).setCell ⟨gb207,1,none⟩ (.int .i64 t190)).setCell ⟨gb207,2,none⟩ (.int .i64 t191)).setCell ⟨gb207,3,none⟩ (.bool (t195 == 1))).setCell ⟨gb207,4,none⟩ (.slice Ao56 y204.length co56))=w62 at n0_ n1_ n2_ n3_ n4_ ⊢
       have HO206:=n0_;have BK188:=n1_;have BK194:=n2_;have BK207:=n3_;have HB:=n4_;clear n0_ n1_ n2_ n3_ n4_;have n0_:=Aside0.mk (Kd.R_drew HO206.out);have n1_:=Aside0.mk (blk_drew BK188.out);have n2_:=Aside0.mk (blk_drew BK194.out);have n3_:=Aside0.mk (blk_drew BK207.out);have n4_:=Aside0.mk (below_drew1 HB.out);clear HO206 BK188 BK194 BK207 HB;have HO206:=n0_;have BK188:=n1_;have BK194:=n2_;have BK207:=n3_;have HB:=n4_;clear n0_ n1_ n2_ n3_ n4_
       refine start_ (n:=11) (S:=fun w'=>w'.cell? ⟨gb207,0,none⟩=some (.int .i64 t189)∧w'.cell? ⟨gb207,1,none⟩=some (.int .i64 t190)∧w'.cell? ⟨gb207,2,none⟩=some (.int .i64 t191)∧w'.cell? ⟨gb207,3,none⟩=some (.bool (t195 == 1))∧w'.cell? ⟨gb207,4,none⟩=some (.slice Ao56 y204.length co56)∧Kd.C (Kd.int .u8) w' A0 l0.length l0) (ds:=[]) (fl 11 0) (by kernel_rfl) rfl rfl ⟨(blk_cell BK207.out 0).trans rfl,(blk_cell BK207.out 1).trans rfl,(blk_cell BK207.out 2).trans rfl,(blk_cell BK207.out 3).trans rfl,(blk_cell BK207.out 4).trans rfl,Kd.C_below HR0.out be⟩ (fun hHeld=>?_);refine with_tabW spec_GetFile.tab7 spec_GetFile.bits7 (fun HT_ HW_=>?_)
       generalize w62.drew=w63 at HO206 BK188 BK194 BK207 HB hHeld ⊢
       refine tt 0 63 (fl 11 1) HT_ HW_ hHeld ?_
       refine ot 1 (some 64) (fl 11 3) HT_ (fun K hK=>?_)
       refine goes_ Try.func86 (by kernel_rfl) rfl #[.agg #[.int .i64 t189,.int .i64 t190,.int .i64 t191,.bool (t195 == 1),.slice Ao56 y204.length co56]] (by rfl) rfl rfl (by (try simp only [List.map_toArray,List.map_cons,List.map_nil]);first|done|rfl|(simp only [List.length_drop,List.length_take];rfl)) ?_
       with_reducible refine (spec_FileOk.calls t189 t190 t191 (t195 == 1) _ _ y204 true _ ?side1 ?side2 A19.out).mono ?_
       (case side1=>exact sR HO206)
       (case side2=>exact (Kd.R_reads' HO206.out).2.1)
       rintro e w64 ⟨rfl,hb⟩
       refine ⟨_,rfl,?_⟩
       have n0_:=Aside0.mk (Kd.R_below ((rR HO206)) hb);have n1_:=Aside0.mk (blk_below (bk BK188) hb);have n2_:=Aside0.mk (blk_below (bk BK194) hb);have n3_:=Aside0.mk (blk_below (bk BK207) hb);have n4_:=bs hb;clear HO206 BK188 BK194 BK207 HB;have HO206:=n0_;have BK188:=n1_;have BK194:=n2_;have BK207:=n3_;have HB:=n4_;clear n0_ n1_ n2_ n3_ n4_;(try clear hb);(try clear hb2);(try clear hk);(try clear hi)
       refine hK.out _ _ ⟨(blk_cell BK207.out 0).trans rfl,(blk_cell BK207.out 1).trans rfl,(blk_cell BK207.out 2).trans rfl,(blk_cell BK207.out 3).trans rfl,(blk_cell BK207.out 4).trans rfl,Kd.C_below HR0.out be⟩ (fun hHeld=>?_)
       clear hK K
       refine no 64 ?_
       refine pt 2 65 (fl 11 7) HT_ ?_
       refine pt 3 66 (fl 11 15) HT_ ?_
       refine pt 7 70 (fl 11 143) HT_ ?_
       refine tt 8 71 (fl 11 399) HT_ HW_ hHeld ?_ (h2:=by rintro w' ⟨s0,s1,s2,s3,s4,s5⟩;have hcv_:=Kd.C_string (P:=Try.prog) (A:=A0) (c:=c0) Try.underlying54 Try.underlying5 Try.underlying9 s5;go_simp;with_reducible rfl)
       refine tt 4 67 (fl 11 415) HT_ HW_ hHeld ?_
       refine ot 5 (some 68) (fl 11 447) HT_ (fun K hK=>?_)
       refine goes_ Try.func35 (by kernel_rfl) rfl #[.agg #[.int .i64 t189,.int .i64 t190,.int .i64 t191,.bool (t195 == 1),.slice Ao56 y204.length co56]] (by rfl) rfl rfl (by (try simp only [List.map_toArray,List.map_cons,List.map_nil]);first|done|rfl|(simp only [List.length_drop,List.length_take];rfl)) ?_
       with_reducible refine (spec_PutFile.calls kj4 t189 t190 t191 (t195 == 1) _ _ y204 t209 _ ?side1 ?side2 A21.out).mono ?_
       (case side1=>exact sR HO206)
       (case side2=>exact (Kd.R_reads' HO206.out).2.1)
       rintro e w65 ⟨v210,rfl,ho0,hb⟩
       refine ⟨_,rfl,?_⟩
       have n0_:=Aside0.mk (Kd.R_elder' (rR HO206) (Kd.R_base ho0) hb);have n1_:=Aside0.mk (Kd.R_lower (Kd.R_new' ho0 (Kd.R_lt (rR HO206))) (below_size be));have n2_:=Aside0.mk (blk_below (bk BK188) hb);have n3_:=Aside0.mk (blk_below (bk BK194) hb);have n4_:=Aside0.mk (blk_below (bk BK207) hb);have n5_:=bs hb;clear HO206 BK188 BK194 BK207 HB;have HO206:=n0_;have HO211:=n1_;have BK188:=n2_;have BK194:=n3_;have BK207:=n4_;have HB:=n5_;clear n0_ n1_ n2_ n3_ n4_ n5_;(try clear hb);(try clear hb2);(try clear hk);(try clear hi);(try clear ho0)
       have hcv67:=Kd.C_string (P:=Try.prog) (A:=A0) (c:=c0) Try.underlying54 Try.underlying5 Try.underlying9 (Kd.C_below HR0.out HB.out)
       have hcw68:=fun (n_:Nat)=>Kd.C_string (P:=Try.prog) (A:=A0) (c:=c0) Try.underlying54 Try.underlying5 Try.underlying9 (Kd.C_drewN ((Kd.C_below HR0.out HB.out)) n_)
       refine hK.out _ _ ⟨(blk_cell BK207.out 0).trans rfl,(blk_cell BK207.out 1).trans rfl,(blk_cell BK207.out 2).trans rfl,(blk_cell BK207.out 3).trans rfl,(blk_cell BK207.out 4).trans rfl,Kd.C_below HR0.out be⟩ (fun hHeld=>?_)
       clear hK K
       refine no 68 ?_
       refine ot 6 (some 69) (fl 11 511) HT_ (fun K hK=>?_)
       have hcv66:=own_string (P:=Try.prog) Try.underlying54 Try.underlying5 Try.underlying9 (Kd.own_of_R HO211.out)
       refine value_ (w1:=?_) (v:=?_) (by rfl) rfl ?_ ?_
       rotate_left 2
       ·go_simp
        constructor
        ·rfl
        ·rfl
       clear hcv66
       refine hK.out _ _ ⟨(blk_cell BK207.out 0).trans rfl,(blk_cell BK207.out 1).trans rfl,(blk_cell BK207.out 2).trans rfl,(blk_cell BK207.out 3).trans rfl,(blk_cell BK207.out 4).trans rfl,Kd.C_below HR0.out be⟩ (fun hHeld=>?_)
       clear hK K
       refine no 69 ?_
       refine pt 9 72 (fl 11 1023) HT_ ?_
       refine pt 10 73 (fl 11 2047) HT_ ?_
       refine done_ (done_of HT_.out (by kernel_rfl)) ?_
       have hnb70:=NB188_194.out
       have hnc70:=NB194_188.out
       have hnb71:=NB188_207.out
       have hnc71:=NB207_188.out
       have hcz72_0:w65.cell? ⟨gb188,0,none⟩=some (.int .i64 0):=(blk_cell BK188.out 0).trans rfl
       have hcz72_1:w65.cell? ⟨gb188,1,none⟩=some (.int .i64 0):=(blk_cell BK188.out 1).trans rfl
       have hcz72_2:w65.cell? ⟨gb188,2,none⟩=some (.int .i64 0):=(blk_cell BK188.out 2).trans rfl
       have hcz72_3:w65.cell? ⟨gb188,3,none⟩=some (.bool false):=(blk_cell BK188.out 3).trans rfl
       have hcz72_4:w65.cell? ⟨gb188,4,none⟩=some (.slice none 0 0):=(blk_cell BK188.out 4).trans rfl
       have hfz72_0:=blk_frozen BK188.out 0
       have hfz72_1:=blk_frozen BK188.out 1
       have hfz72_2:=blk_frozen BK188.out 2
       have hfz72_3:=blk_frozen BK188.out 3
       have hfz72_4:=blk_frozen BK188.out 4
       try go_wp2
       refine bodyPost_ret (results_ct rfl _ _ gb188 61 #[.int .i64 0,.int .i64 0,.int .i64 0,.bool false,.slice none 0 0] (0,0) _ rfl (by (with_reducible repeat (first|refine blk_drewN ?_ _|refine blk_drew ?_|refine blk_alloc ?_ _));refine blk_put (cs:=#[.int .i64 0,.int .i64 0,.int .i64 0,.bool false,.slice none 0 0]) ?_ 4 _ rfl;(with_reducible repeat (first|refine blk_drewN ?_ _|refine blk_drew ?_|refine blk_alloc ?_ _));refine blk_put (cs:=#[.int .i64 0,.int .i64 0,.int .i64 0,.bool false,.slice none 0 0]) ?_ 3 _ rfl;(with_reducible repeat (first|refine blk_drewN ?_ _|refine blk_drew ?_|refine blk_alloc ?_ _));refine blk_put (cs:=#[.int .i64 0,.int .i64 0,.int .i64 0,.bool false,.slice none 0 0]) ?_ 2 _ rfl;(with_reducible repeat (first|refine blk_drewN ?_ _|refine blk_drew ?_|refine blk_alloc ?_ _));refine blk_put (cs:=#[.int .i64 0,.int .i64 0,.int .i64 0,.bool false,.slice none 0 0]) ?_ 1 _ rfl;(with_reducible repeat (first|refine blk_drewN ?_ _|refine blk_drew ?_|refine blk_alloc ?_ _));refine blk_put (cs:=#[.int .i64 0,.int .i64 0,.int .i64 0,.bool false,.slice none 0 0]) ?_ 0 _ rfl;(with_reducible repeat (first|refine blk_drewN ?_ _|refine blk_drew ?_|refine blk_alloc ?_ _));exact BK188.out) Try.underlying61 rfl (by kernel_rfl)) rfl ?_
       exact ⟨_,rz,by first|exact Kd.R_nil _ _ _ _ _|exact Kd.N_nil _ _ _ _ _|exact Kd.V_nil _ _ _ _ _|exact Kd.Q_nil _ _ _ _ _|exact Kd.S_nil _ _ _ _ _,be⟩
     ·replace c20:=Bool.eq_false_iff.mpr c20
      subst c20
      replace H:=(if_neg (show ¬ (false=true) by decide)).symm.trans H
      simp only [Option.some.injEq,Prod.mk.injEq] at H
      obtain ⟨rfl,rfl,rfl,rfl,rfl,rfl⟩:=H
      try go_wp2
      have n0_:=Aside0.mk (blk_drew BK188.out);have n1_:=Aside0.mk (blk_drew BK194.out);have n2_:=Aside0.mk (below_drew1 HB.out);clear BK188 BK194 HB;have BK188:=n0_;have BK194:=n1_;have HB:=n2_;clear n0_ n1_ n2_
      refine start_ (n:=9) (S:=fun w'=>w'.cell? ⟨gb194,0,none⟩=some (.int .i64 t189)∧w'.cell? ⟨gb194,1,none⟩=some (.int .i64 t190)∧w'.cell? ⟨gb194,2,none⟩=some (.int .i64 t191)) (ds:=[]) (fl 9 0) (by kernel_rfl) rfl rfl ⟨(blk_cell BK194.out 0).trans rfl,(blk_cell BK194.out 1).trans rfl,(blk_cell BK194.out 2).trans rfl⟩ (fun hHeld=>?_);refine with_tabW spec_GetFile.tab6 spec_GetFile.bits6 (fun HT_ HW_=>?_)
      generalize wc.drew=w73 at BK188 BK194 HB hHeld ⊢
      refine pt 1 57 (fl 9 2) HT_ ?_
      refine pt 2 58 (fl 9 6) HT_ ?_
      refine pt 4 60 (fl 9 22) HT_ ?_
      refine tt 0 56 (fl 9 23) HT_ HW_ hHeld ?_
      refine join_ (σ:=Value × Value × Nat) 1 (fl 9 255) (fun s_=>[(59,s_.1),(61,s_.2.1),(13,.pointer (some ⟨s_.2.2,0,none⟩)),(62,.agg #[.int .i64 t189,.int .i64 t190,.int .i64 t191,.bool (t195 == 1),s_.2.1])]) (fun s_ w'=>(w'.cell? ⟨gb194,0,none⟩=some (.int .i64 t189)∧w'.cell? ⟨gb194,1,none⟩=some (.int .i64 t190)∧w'.cell? ⟨gb194,2,none⟩=some (.int .i64 t191))∧(Kd.R (Kd.int .u8) 5 w' w.heap.size (fun _=>True) s_.2.1 y204)∧(w'.heap[gb188]?=some (.cells #[.int .i64 0,.int .i64 0,.int .i64 0,.bool false,.slice none 0 0] 61 (0,0)))∧(w'.heap[gb194]?=some (.cells #[.int .i64 t189,.int .i64 t190,.int .i64 t191] 59 (0,0)))∧(w'.heap[s_.2.2]?=some (.cells #[.int .i64 0,.int .i64 0,.int .i64 0,.bool false,.slice none 0 0] 61 (0,0)))∧(w.heap.size≤s_.2.2)∧(w.heap.size≤s_.2.2)∧(gb188 ≠ s_.2.2)∧(s_.2.2 ≠ gb188)∧(gb194 ≠ s_.2.2)∧(s_.2.2 ≠ gb194)∧(Below w.heap.size w w')) ?_ ?_
      rotate_left
      ·intro hCont
       refine two_ (i:=3) (j:=7) (Ni:=some 59) (Nj:=some 13) (fl 9 31) (fl 9 151) rfl rfl rfl rfl (two_of HT_.out (by kernel_rfl)) (by decide) (by decide) (fun K hK=>?_) (fun K hK=>?_)
       ·skip
        refine Kd.R_lit_step (Kd.int .u8) _ 5 ?hg (N:=59) ?hd (xs:=([]:List Int)) (inner:=[]) (ok:=fun _=>True) (okp:=fun _=>True) ?hr ?hp (fun _ hk=>hk) trivial (Below.refl _ _) (Nat.le_refl _) (by simp) ?_;(case hd=>rfl);(case hg=>rfl);(case hr=>first|(go_simp;done)|(go_simp;rfl));(case hp=>exact (Reps.none _ _))
        intro v202 w74 ho75 hb hg_ hnew_
        clear hg_ hnew_
        (first|rw [← Ny201.out] at ho75|(simp only [Int.reduceToNat] at ho75;rw [← Ny201.out] at ho75))
        have n0_:=Aside0.mk (Kd.R_lower ho75 (below_size be));have n1_:=Aside0.mk (blk_below (bk BK188) hb);have n2_:=Aside0.mk (blk_below (bk BK194) hb);have n3_:=bs hb;clear BK188 BK194 HB;have HO203:=n0_;have BK188:=n1_;have BK194:=n2_;have HB:=n3_;clear n0_ n1_ n2_ n3_ hb ho75
        refine hK.out _ _ ⟨(blk_cell BK194.out 0).trans rfl,(blk_cell BK194.out 1).trans rfl,(blk_cell BK194.out 2).trans rfl⟩ (fun hHeld=>?_)
        clear hK K
        refine no 59 ?_
        refine two_ (i:=5) (j:=7) (Ni:=some 61) (Nj:=some 13) (fl 9 63) (fl 9 159) rfl rfl rfl rfl (two_of HT_.out (by kernel_rfl)) (by decide) (by decide) (fun K hK=>?_) (fun K hK=>?_)
        ·skip
         refine Aid.append_str_step (w0:=w) w.heap.size (by rfl) (.tmp 59) _ 54 9 5 rfl Try.underlying54 Try.underlying9 info5 v202 y201 t198 rfl rfl ?aO ?aB ?aS ?aL ?_
         (case aB=>exact be)
         (case aO=>exact (Kd.own_of_R (rR HO203)))
         (case aS=>exact (below_size be))
         (case aL=>have:=LMc18.out;omega)
         intro v205 w76 ho0 hb hg hat
         have ho:=Kd.R_of_own (h1:=fun _=>rfl) (ok:=(fun _=>True)) ho0 (fun k_ hk_=>Or.elim hat (fun he_=>trivial) (fun ⟨_,hb1_,hb2_⟩=>(fun _ _=>trivial) k_ (Option.some.inj (hb1_.symm.trans hk_) ▸ hb2_)))
         clear ho0
         rw [← Ny204.out] at ho
         change Kd.R (Kd.int .u8) 5 w76 w.heap.size (fun _=>True) v205 y204 at ho
         have n0_:=Aside0.mk (blk_grown (g:=gb188) (o:=.cells #[.int .i64 0,.int .i64 0,.int .i64 0,.bool false,.slice none 0 0] 61 (0,0)) (bk BK188) hg (Kd.R_ne HO203.out BK188.out (by decide)));have n1_:=Aside0.mk (blk_grown (g:=gb194) (o:=.cells #[.int .i64 t189,.int .i64 t190,.int .i64 t191] 59 (0,0)) (bk BK194) hg (Kd.R_ne HO203.out BK194.out (by decide)));have n2_:=Aside0.mk (hb);have n3_:=Aside0.mk (ho);clear BK188 BK194 HB HO203;have BK188:=n0_;have BK194:=n1_;have HB:=n2_;have HO206:=n3_;clear n0_ n1_ n2_ n3_ ho hb hg hat
         obtain ⟨Ao77,co77,eo77⟩:=Kd.R_slice HO206.out
         (first|subst eo77|(injection eo77 with f1_ f2_ f3_;have f4_:=f1_.symm;have f5_:=f3_.symm;clear f1_ f2_ f3_;subst f4_;subst f5_))
         refine hK.out _ _ ⟨(blk_cell BK194.out 0).trans rfl,(blk_cell BK194.out 1).trans rfl,(blk_cell BK194.out 2).trans rfl⟩ (fun hHeld=>?_)
         clear hK K
         refine no 61 ?_
         refine pt 6 62 (fl 9 127) HT_ ?_
         refine ot 7 (some 13) (fl 9 255) HT_ (fun K hK=>?_)
         refine box_step ?hg (N:=13) ?hd (cs:=#[.int .i64 0,.int .i64 0,.int .i64 0,.bool false,.slice none 0 0]) (t:=61) ?hr ?_;(case hd=>rfl);(case hg=>rfl);(case hr=>first|(go_simp;done)|(go_simp;rfl))
         intro gb207 hg w78 hbox hb
         have n0_:=Aside0.mk (Kd.R_below (rR HO206) hb);have n1_:=Aside0.mk (blk_below (bk BK188) hb);have n2_:=Aside0.mk (blk_below (bk BK194) hb);have n3_:=bs hb;have n4_:=Aside0.mk (hbox);have n5_:=Aside0.mk ((by rw [hg];exact (below_size be):w.heap.size≤gb207));have n6_:=Aside0.mk ((by rw [hg];exact (below_size be):w.heap.size≤gb207));have n7_:=Aside0.mk ((by rw [hg];exact Nat.ne_of_lt (blk_lt (g:=gb188) (o:=.cells #[.int .i64 0,.int .i64 0,.int .i64 0,.bool false,.slice none 0 0] 61 (0,0)) (bk BK188)):gb188 ≠ gb207));have n8_:=Aside0.mk ((by rw [hg];exact Nat.ne_of_gt (blk_lt (g:=gb188) (o:=.cells #[.int .i64 0,.int .i64 0,.int .i64 0,.bool false,.slice none 0 0] 61 (0,0)) (bk BK188)):gb207 ≠ gb188));have n9_:=Aside0.mk ((by rw [hg];exact Nat.ne_of_lt (blk_lt (g:=gb194) (o:=.cells #[.int .i64 t189,.int .i64 t190,.int .i64 t191] 59 (0,0)) (bk BK194)):gb194 ≠ gb207));have n10_:=Aside0.mk ((by rw [hg];exact Nat.ne_of_gt (blk_lt (g:=gb194) (o:=.cells #[.int .i64 t189,.int .i64 t190,.int .i64 t191] 59 (0,0)) (bk BK194)):gb207 ≠ gb194));clear HO206 BK188 BK194 HB;have HO206:=n0_;have BK188:=n1_;have BK194:=n2_;have HB:=n3_;have BK207:=n4_;have GW207:=n5_;have GE207:=n6_;have NB188_207:=n7_;have NB207_188:=n8_;have NB194_207:=n9_;have NB207_194:=n10_;clear n0_ n1_ n2_ n3_ n4_ n5_ n6_ n7_ n8_ n9_ n10_ hb hbox hg
         refine hK.out _ _ ⟨(blk_cell BK194.out 0).trans rfl,(blk_cell BK194.out 1).trans rfl,(blk_cell BK194.out 2).trans rfl⟩ (fun hHeld=>?_)
         clear hK K
         refine no 13 ?_
         exact norm_ (by simp only [putAll,Act.put,List.setIfInBounds_toArray,List.set_cons_zero,List.set_cons_succ]) (hCont (v202,.slice Ao77 y204.length co77,gb207) _ ⟨hHeld,(rR HO206),(bk BK188),(bk BK194),(bk BK207),GW207.out,GE207.out,NB188_207.out,NB207_188.out,NB194_207.out,NB207_194.out,be⟩)
        ·skip
         refine box_step ?hg (N:=13) ?hd (cs:=#[.int .i64 0,.int .i64 0,.int .i64 0,.bool false,.slice none 0 0]) (t:=61) ?hr ?_;(case hd=>rfl);(case hg=>rfl);(case hr=>first|(go_simp;done)|(go_simp;rfl))
         intro gb207 hg w76 hbox hb
         have n0_:=Aside0.mk (Kd.R_below (rR HO203) hb);have n1_:=Aside0.mk (blk_below (bk BK188) hb);have n2_:=Aside0.mk (blk_below (bk BK194) hb);have n3_:=bs hb;have n4_:=Aside0.mk (hbox);have n5_:=Aside0.mk ((by rw [hg];exact (below_size be):w.heap.size≤gb207));have n6_:=Aside0.mk ((by rw [hg];exact (below_size be):w.heap.size≤gb207));have n7_:=Aside0.mk ((by rw [hg];exact Nat.ne_of_lt (blk_lt (g:=gb188) (o:=.cells #[.int .i64 0,.int .i64 0,.int .i64 0,.bool false,.slice none 0 0] 61 (0,0)) (bk BK188)):gb188 ≠ gb207));have n8_:=Aside0.mk ((by rw [hg];exact Nat.ne_of_gt (blk_lt (g:=gb188) (o:=.cells #[.int .i64 0,.int .i64 0,.int .i64 0,.bool false,.slice none 0 0] 61 (0,0)) (bk BK188)):gb207 ≠ gb188));have n9_:=Aside0.mk ((by rw [hg];exact Nat.ne_of_lt (blk_lt (g:=gb194) (o:=.cells #[.int .i64 t189,.int .i64 t190,.int .i64 t191] 59 (0,0)) (bk BK194)):gb194 ≠ gb207));have n10_:=Aside0.mk ((by rw [hg];exact Nat.ne_of_gt (blk_lt (g:=gb194) (o:=.cells #[.int .i64 t189,.int .i64 t190,.int .i64 t191] 59 (0,0)) (bk BK194)):gb207 ≠ gb194));clear HO203 BK188 BK194 HB;have HO203:=n0_;have BK188:=n1_;have BK194:=n2_;have HB:=n3_;have BK207:=n4_;have GW207:=n5_;have GE207:=n6_;have NB188_207:=n7_;have NB207_188:=n8_;have NB194_207:=n9_;have NB207_194:=n10_;clear n0_ n1_ n2_ n3_ n4_ n5_ n6_ n7_ n8_ n9_ n10_ hb hbox hg
         refine hK.out _ _ ⟨(blk_cell BK194.out 0).trans rfl,(blk_cell BK194.out 1).trans rfl,(blk_cell BK194.out 2).trans rfl⟩ (fun hHeld=>?_)
         clear hK K
         refine no 13 ?_
         refine ot 5 (some 61) (fl 9 191) HT_ (fun K hK=>?_)
         refine Aid.append_str_step (w0:=w) w.heap.size (by rfl) (.tmp 59) _ 54 9 5 rfl Try.underlying54 Try.underlying9 info5 v202 y201 t198 rfl rfl ?aO ?aB ?aS ?aL ?_
         (case aB=>exact be)
         (case aO=>exact (Kd.own_of_R (rR HO203)))
         (case aS=>exact (below_size be))
         (case aL=>have:=LMc18.out;omega)
         intro v205 w77 ho0 hb hg hat
         have ho:=Kd.R_of_own (h1:=fun _=>rfl) (ok:=(fun _=>True)) ho0 (fun k_ hk_=>Or.elim hat (fun he_=>trivial) (fun ⟨_,hb1_,hb2_⟩=>(fun _ _=>trivial) k_ (Option.some.inj (hb1_.symm.trans hk_) ▸ hb2_)))
         clear ho0
         rw [← Ny204.out] at ho
         change Kd.R (Kd.int .u8) 5 w77 w.heap.size (fun _=>True) v205 y204 at ho
         have n0_:=Aside0.mk (blk_grown (g:=gb188) (o:=.cells #[.int .i64 0,.int .i64 0,.int .i64 0,.bool false,.slice none 0 0] 61 (0,0)) (bk BK188) hg (Kd.R_ne HO203.out BK188.out (by decide)));have n1_:=Aside0.mk (blk_grown (g:=gb194) (o:=.cells #[.int .i64 t189,.int .i64 t190,.int .i64 t191] 59 (0,0)) (bk BK194) hg (Kd.R_ne HO203.out BK194.out (by decide)));have n2_:=Aside0.mk (blk_grown (g:=gb207) (o:=.cells #[.int .i64 0,.int .i64 0,.int .i64 0,.bool false,.slice none 0 0] 61 (0,0)) (bk BK207) hg (Kd.R_ne HO203.out BK207.out (by decide)));have n3_:=Aside0.mk (hb);have n4_:=Aside0.mk (ho);clear BK188 BK194 BK207 HB HO203;have BK188:=n0_;have BK194:=n1_;have BK207:=n2_;have HB:=n3_;have HO206:=n4_;clear n0_ n1_ n2_ n3_ n4_ ho hb hg hat
         obtain ⟨Ao78,co78,eo78⟩:=Kd.R_slice HO206.out
         (first|subst eo78|(injection eo78 with f1_ f2_ f3_;have f4_:=f1_.symm;have f5_:=f3_.symm;clear f1_ f2_ f3_;subst f4_;subst f5_))
         refine hK.out _ _ ⟨(blk_cell BK194.out 0).trans rfl,(blk_cell BK194.out 1).trans rfl,(blk_cell BK194.out 2).trans rfl⟩ (fun hHeld=>?_)
         clear hK K
         refine no 61 ?_
         refine pt 6 62 (fl 9 255) HT_ ?_
         exact norm_ (by simp only [putAll,Act.put,List.setIfInBounds_toArray,List.set_cons_zero,List.set_cons_succ]) (hCont (v202,.slice Ao78 y204.length co78,gb207) _ ⟨hHeld,(rR HO206),(bk BK188),(bk BK194),(bk BK207),GW207.out,GE207.out,NB188_207.out,NB207_188.out,NB194_207.out,NB207_194.out,be⟩)
       ·skip
        refine box_step ?hg (N:=13) ?hd (cs:=#[.int .i64 0,.int .i64 0,.int .i64 0,.bool false,.slice none 0 0]) (t:=61) ?hr ?_;(case hd=>rfl);(case hg=>rfl);(case hr=>first|(go_simp;done)|(go_simp;rfl))
        intro gb207 hg w74 hbox hb
        have n0_:=Aside0.mk (blk_below (bk BK188) hb);have n1_:=Aside0.mk (blk_below (bk BK194) hb);have n2_:=bs hb;have n3_:=Aside0.mk (hbox);have n4_:=Aside0.mk ((by rw [hg];exact (below_size be):w.heap.size≤gb207));have n5_:=Aside0.mk ((by rw [hg];exact (below_size be):w.heap.size≤gb207));have n6_:=Aside0.mk ((by rw [hg];exact Nat.ne_of_lt (blk_lt (g:=gb188) (o:=.cells #[.int .i64 0,.int .i64 0,.int .i64 0,.bool false,.slice none 0 0] 61 (0,0)) (bk BK188)):gb188 ≠ gb207));have n7_:=Aside0.mk ((by rw [hg];exact Nat.ne_of_gt (blk_lt (g:=gb188) (o:=.cells #[.int .i64 0,.int .i64 0,.int .i64 0,.bool false,.slice none 0 0] 61 (0,0)) (bk BK188)):gb207 ≠ gb188));have n8_:=Aside0.mk ((by rw [hg];exact Nat.ne_of_lt (blk_lt (g:=gb194) (o:=.cells #[.int .i64 t189,.int .i64 t190,.int .i64 t191] 59 (0,0)) (bk BK194)):gb194 ≠ gb207));have n9_:=Aside0.mk ((by rw [hg];exact Nat.ne_of_gt (blk_lt (g:=gb194) (o:=.cells #[.int .i64 t189,.int .i64 t190,.int .i64 t191] 59 (0,0)) (bk BK194)):gb207 ≠ gb194));clear BK188 BK194 HB;have BK188:=n0_;have BK194:=n1_;have HB:=n2_;have BK207:=n3_;have GW207:=n4_;have GE207:=n5_;have NB188_207:=n6_;have NB207_188:=n7_;have NB194_207:=n8_;have NB207_194:=n9_;clear n0_ n1_ n2_ n3_ n4_ n5_ n6_ n7_ n8_ n9_ hb hbox hg
        refine hK.out _ _ ⟨(blk_cell BK194.out 0).trans rfl,(blk_cell BK194.out 1).trans rfl,(blk_cell BK194.out 2).trans rfl⟩ (fun hHeld=>?_)
        clear hK K
        refine no 13 ?_
        refine ot 3 (some 59) (fl 9 159) HT_ (fun K hK=>?_)
        refine Kd.R_lit_step (Kd.int .u8) _ 5 ?hg (N:=59) ?hd (xs:=([]:List Int)) (inner:=[]) (ok:=fun _=>True) (okp:=fun _=>True) ?hr ?hp (fun _ hk=>hk) trivial (Below.refl _ _) (Nat.le_refl _) (by simp) ?_;(case hd=>rfl);(case hg=>rfl);(case hr=>first|(go_simp;done)|(go_simp;rfl));(case hp=>exact (Reps.none _ _))
        intro v202 w75 ho76 hb hg_ hnew_
        clear hg_ hnew_
        (first|rw [← Ny201.out] at ho76|(simp only [Int.reduceToNat] at ho76;rw [← Ny201.out] at ho76))
        have n0_:=Aside0.mk (Kd.R_lower ho76 (below_size be));have n1_:=Aside0.mk (blk_below (bk BK188) hb);have n2_:=Aside0.mk (blk_below (bk BK194) hb);have n3_:=Aside0.mk (blk_below (bk BK207) hb);have n4_:=bs hb;clear BK188 BK194 BK207 HB;have HO203:=n0_;have BK188:=n1_;have BK194:=n2_;have BK207:=n3_;have HB:=n4_;clear n0_ n1_ n2_ n3_ n4_ hb ho76
        refine hK.out _ _ ⟨(blk_cell BK194.out 0).trans rfl,(blk_cell BK194.out 1).trans rfl,(blk_cell BK194.out 2).trans rfl⟩ (fun hHeld=>?_)
        clear hK K
        refine no 59 ?_
        refine ot 5 (some 61) (fl 9 191) HT_ (fun K hK=>?_)
        refine Aid.append_str_step (w0:=w) w.heap.size (by rfl) (.tmp 59) _ 54 9 5 rfl Try.underlying54 Try.underlying9 info5 v202 y201 t198 rfl rfl ?aO ?aB ?aS ?aL ?_
        (case aB=>exact be)
        (case aO=>exact (Kd.own_of_R (rR HO203)))
        (case aS=>exact (below_size be))
        (case aL=>have:=LMc18.out;omega)
        intro v205 w77 ho0 hb hg hat
        have ho:=Kd.R_of_own (h1:=fun _=>rfl) (ok:=(fun _=>True)) ho0 (fun k_ hk_=>Or.elim hat (fun he_=>trivial) (fun ⟨_,hb1_,hb2_⟩=>(fun _ _=>trivial) k_ (Option.some.inj (hb1_.symm.trans hk_) ▸ hb2_)))
        clear ho0
        rw [← Ny204.out] at ho
        change Kd.R (Kd.int .u8) 5 w77 w.heap.size (fun _=>True) v205 y204 at ho
        have n0_:=Aside0.mk (blk_grown (g:=gb188) (o:=.cells #[.int .i64 0,.int .i64 0,.int .i64 0,.bool false,.slice none 0 0] 61 (0,0)) (bk BK188) hg (Kd.R_ne HO203.out BK188.out (by decide)));have n1_:=Aside0.mk (blk_grown (g:=gb194) (o:=.cells #[.int .i64 t189,.int .i64 t190,.int .i64 t191] 59 (0,0)) (bk BK194) hg (Kd.R_ne HO203.out BK194.out (by decide)));have n2_:=Aside0.mk (blk_grown (g:=gb207) (o:=.cells #[.int .i64 0,.int .i64 0,.int .i64 0,.bool false,.slice none 0 0] 61 (0,0)) (bk BK207) hg (Kd.R_ne HO203.out BK207.out (by decide)));have n3_:=Aside0.mk (hb);have n4_:=Aside0.mk (ho);clear BK188 BK194 BK207 HB HO203;have BK188:=n0_;have BK194:=n1_;have BK207:=n2_;have HB:=n3_;have HO206:=n4_;clear n0_ n1_ n2_ n3_ n4_ ho hb hg hat
        obtain ⟨Ao78,co78,eo78⟩:=Kd.R_slice HO206.out
        (first|subst eo78|(injection eo78 with f1_ f2_ f3_;have f4_:=f1_.symm;have f5_:=f3_.symm;clear f1_ f2_ f3_;subst f4_;subst f5_))
        refine hK.out _ _ ⟨(blk_cell BK194.out 0).trans rfl,(blk_cell BK194.out 1).trans rfl,(blk_cell BK194.out 2).trans rfl⟩ (fun hHeld=>?_)
        clear hK K
        refine no 61 ?_
        refine pt 6 62 (fl 9 255) HT_ ?_
        exact norm_ (by simp only [putAll,Act.put,List.setIfInBounds_toArray,List.set_cons_zero,List.set_cons_succ]) (hCont (v202,.slice Ao78 y204.length co78,gb207) _ ⟨hHeld,(rR HO206),(bk BK188),(bk BK194),(bk BK207),GW207.out,GE207.out,NB188_207.out,NB207_188.out,NB194_207.out,NB207_194.out,be⟩)
      rintro ⟨v202,v205,gb207⟩ w79 ⟨hS_,h0_,h1_,h2_,h3_,h4_,h5_,h6_,h7_,h8_,h9_,h10_⟩
      have n0_:Aside0 (Kd.R (Kd.int .u8) 5 w79 w.heap.size (fun _=>True) v205 y204):=⟨h0_⟩
      have n1_:Aside0 (w79.heap[gb188]?=some (.cells #[.int .i64 0,.int .i64 0,.int .i64 0,.bool false,.slice none 0 0] 61 (0,0))):=⟨h1_⟩
      have n2_:Aside0 (w79.heap[gb194]?=some (.cells #[.int .i64 t189,.int .i64 t190,.int .i64 t191] 59 (0,0))):=⟨h2_⟩
      have n3_:Aside0 (w79.heap[gb207]?=some (.cells #[.int .i64 0,.int .i64 0,.int .i64 0,.bool false,.slice none 0 0] 61 (0,0))):=⟨h3_⟩
      have n4_:Aside0 (w.heap.size≤gb207):=⟨h4_⟩
      have n5_:Aside0 (w.heap.size≤gb207):=⟨h5_⟩
      have n6_:Aside0 (gb188 ≠ gb207):=⟨h6_⟩
      have n7_:Aside0 (gb207 ≠ gb188):=⟨h7_⟩
      have n8_:Aside0 (gb194 ≠ gb207):=⟨h8_⟩
      have n9_:Aside0 (gb207 ≠ gb194):=⟨h9_⟩
      have n10_:Aside0 (Below w.heap.size w w79):=⟨h10_⟩
      clear BK188 BK194 HB h0_ h1_ h2_ h3_ h4_ h5_ h6_ h7_ h8_ h9_ h10_;have HO206:=n0_;have BK188:=n1_;have BK194:=n2_;have BK207:=n3_;have GW207:=n4_;have GE207:=n5_;have NB188_207:=n6_;have NB207_188:=n7_;have NB194_207:=n8_;have NB207_194:=n9_;have HB:=n10_;clear n0_ n1_ n2_ n3_ n4_ n5_ n6_ n7_ n8_ n9_ n10_
      have hHeld:w79.cell? ⟨gb194,0,none⟩=some (.int .i64 t189)∧w79.cell? ⟨gb194,1,none⟩=some (.int .i64 t190)∧w79.cell? ⟨gb194,2,none⟩=some (.int .i64 t191):=hS_
      obtain ⟨Ao80,co80,eo80⟩:=Kd.R_slice HO206.out
      (first|subst eo80|(injection eo80 with f1_ f2_ f3_;have f4_:=f1_.symm;have f5_:=f3_.symm;clear f1_ f2_ f3_;subst f4_;subst f5_))
      refine norm_ (a':=?_) ?_ ?_
      rotate_left
      ·simp only [putAll,Act.put,List.setIfInBounds_toArray,List.set_cons_zero,List.set_cons_succ]
       rfl
      refine ot 8 none (fl 9 511) HT_ (fun K hK=>?_)
      have hs81:w79.cell? ⟨gb207,0,none⟩=some (.int .i64 0):=(blk_cell BK207.out 0).trans rfl
      have hfs81:=blk_frozen BK207.out 0
      have hns81_0:=NB188_207.out
      have hns81_1:=NB194_207.out
      have hms81_0:=NB207_188.out
      have hms81_1:=NB207_194.out
      have hs82:w79.cell? ⟨gb207,1,none⟩=some (.int .i64 0):=(blk_cell BK207.out 1).trans rfl
      have hfs82:=blk_frozen BK207.out 1
      have hns82_0:=NB188_207.out
      have hns82_1:=NB194_207.out
      have hms82_0:=NB207_188.out
      have hms82_1:=NB207_194.out
      have hs83:w79.cell? ⟨gb207,2,none⟩=some (.int .i64 0):=(blk_cell BK207.out 2).trans rfl
      have hfs83:=blk_frozen BK207.out 2
      have hns83_0:=NB188_207.out
      have hns83_1:=NB194_207.out
      have hms83_0:=NB207_188.out
      have hms83_1:=NB207_194.out
      have hs84:w79.cell? ⟨gb207,3,none⟩=some (.bool false):=(blk_cell BK207.out 3).trans rfl
      have hfs84:=blk_frozen BK207.out 3
      have hns84_0:=NB188_207.out
      have hns84_1:=NB194_207.out
      have hms84_0:=NB207_188.out
      have hms84_1:=NB207_194.out
      have hs85:w79.cell? ⟨gb207,4,none⟩=some (.slice none 0 0):=(blk_cell BK207.out 4).trans rfl
      have hfs85:=blk_frozen BK207.out 4
      have hns85_0:=NB188_207.out
      have hns85_1:=NB194_207.out
      have hms85_0:=NB207_188.out
      have hms85_1:=NB207_194.out
      refine skip_ (w1:=?_) (by rfl) rfl ?_ ?_
      rotate_left
      ·go_simp
       rfl
      refine hK.out _ _ ⟨((cell_far (p:=⟨gb207,_,none⟩) NB194_207.out _).trans (((cell_far (p:=⟨gb207,_,none⟩) NB194_207.out _).trans (((cell_far (p:=⟨gb207,_,none⟩) NB194_207.out _).trans (((cell_far (p:=⟨gb207,_,none⟩) NB194_207.out _).trans (((cell_far (p:=⟨gb207,_,none⟩) NB194_207.out _).trans (hHeld.1)))))))))),((cell_far (p:=⟨gb207,_,none⟩) NB194_207.out _).trans (((cell_far (p:=⟨gb207,_,none⟩) NB194_207.out _).trans (((cell_far (p:=⟨gb207,_,none⟩) NB194_207.out _).trans (((cell_far (p:=⟨gb207,_,none⟩) NB194_207.out _).trans (((cell_far (p:=⟨gb207,_,none⟩) NB194_207.out _).trans (hHeld.2.1)))))))))),((cell_far (p:=⟨gb207,_,none⟩) NB194_207.out _).trans (((cell_far (p:=⟨gb207,_,none⟩) NB194_207.out _).trans (((cell_far (p:=⟨gb207,_,none⟩) NB194_207.out _).trans (((cell_far (p:=⟨gb207,_,none⟩) NB194_207.out _).trans (((cell_far (p:=⟨gb207,_,none⟩) NB194_207.out _).trans (hHeld.2.2))))))))))⟩ (fun hHeld=>?_)
      clear hK K
      refine done_ (done_of HT_.out (by kernel_rfl)) ?_
      try go_wp2
      have n0_:Aside0 (Kd.R (Kd.int .u8) 5 (((((w79.setCell ⟨gb207,0,none⟩ (.int .i64 t189)).setCell ⟨gb207,1,none⟩ (.int .i64 t190)).setCell ⟨gb207,2,none⟩ (.int .i64 t191)).setCell ⟨gb207,3,none⟩ (.bool (t195 == 1))).setCell ⟨gb207,4,none⟩ (.slice Ao80 y204.length co80)) w.heap.size (fun _=>True) (.slice Ao80 y204.length co80) y204):=⟨by (with_reducible repeat (first|apply Kd.R_alloc|apply Kd.R_drewN|apply Kd.R_drew));exact Kd.R_mono (Kd.R_far (p:=⟨gb207,4,none⟩) (Kd.R_far (p:=⟨gb207,3,none⟩) (Kd.R_far (p:=⟨gb207,2,none⟩) (Kd.R_far (p:=⟨gb207,1,none⟩) (Kd.R_far (p:=⟨gb207,0,none⟩) (Kd.R_types HO206.out BK207.out (by decide)) (fun _ hk=>hk.2) (.int .i64 t189)) (fun _ hk=>hk.2) (.int .i64 t190)) (fun _ hk=>hk.2) (.int .i64 t191)) (fun _ hk=>hk.2) (.bool (t195 == 1))) (fun _ hk=>hk.2) (.slice Ao80 y204.length co80)) (fun _ hk=>trivial)⟩
      have n1_:Aside0 ((((((w79.setCell ⟨gb207,0,none⟩ (.int .i64 t189)).setCell ⟨gb207,1,none⟩ (.int .i64 t190)).setCell ⟨gb207,2,none⟩ (.int .i64 t191)).setCell ⟨gb207,3,none⟩ (.bool (t195 == 1))).setCell ⟨gb207,4,none⟩ (.slice Ao80 y204.length co80)).heap[gb188]?=some (.cells #[.int .i64 0,.int .i64 0,.int .i64 0,.bool false,.slice none 0 0] 61 (0,0))):=⟨by (with_reducible repeat (first|refine blk_drewN ?_ _|refine blk_drew ?_|refine blk_alloc ?_ _));refine blk_far ?_ NB188_207.out _;(with_reducible repeat (first|refine blk_drewN ?_ _|refine blk_drew ?_|refine blk_alloc ?_ _));refine blk_far ?_ NB188_207.out _;(with_reducible repeat (first|refine blk_drewN ?_ _|refine blk_drew ?_|refine blk_alloc ?_ _));refine blk_far ?_ NB188_207.out _;(with_reducible repeat (first|refine blk_drewN ?_ _|refine blk_drew ?_|refine blk_alloc ?_ _));refine blk_far ?_ NB188_207.out _;(with_reducible repeat (first|refine blk_drewN ?_ _|refine blk_drew ?_|refine blk_alloc ?_ _));refine blk_far ?_ NB188_207.out _;(with_reducible repeat (first|refine blk_drewN ?_ _|refine blk_drew ?_|refine blk_alloc ?_ _));exact BK188.out⟩
      have n2_:Aside0 ((((((w79.setCell ⟨gb207,0,none⟩ (.int .i64 t189)).setCell ⟨gb207,1,none⟩ (.int .i64 t190)).setCell ⟨gb207,2,none⟩ (.int .i64 t191)).setCell ⟨gb207,3,none⟩ (.bool (t195 == 1))).setCell ⟨gb207,4,none⟩ (.slice Ao80 y204.length co80)).heap[gb194]?=some (.cells #[.int .i64 t189,.int .i64 t190,.int .i64 t191] 59 (0,0))):=⟨by (with_reducible repeat (first|refine blk_drewN ?_ _|refine blk_drew ?_|refine blk_alloc ?_ _));refine blk_far ?_ NB194_207.out _;(with_reducible repeat (first|refine blk_drewN ?_ _|refine blk_drew ?_|refine blk_alloc ?_ _));refine blk_far ?_ NB194_207.out _;(with_reducible repeat (first|refine blk_drewN ?_ _|refine blk_drew ?_|refine blk_alloc ?_ _));refine blk_far ?_ NB194_207.out _;(with_reducible repeat (first|refine blk_drewN ?_ _|refine blk_drew ?_|refine blk_alloc ?_ _));refine blk_far ?_ NB194_207.out _;(with_reducible repeat (first|refine blk_drewN ?_ _|refine blk_drew ?_|refine blk_alloc ?_ _));refine blk_far ?_ NB194_207.out _;(with_reducible repeat (first|refine blk_drewN ?_ _|refine blk_drew ?_|refine blk_alloc ?_ _));exact BK194.out⟩
      have n3_:Aside0 ((((((w79.setCell ⟨gb207,0,none⟩ (.int .i64 t189)).setCell ⟨gb207,1,none⟩ (.int .i64 t190)).setCell ⟨gb207,2,none⟩ (.int .i64 t191)).setCell ⟨gb207,3,none⟩ (.bool (t195 == 1))).setCell ⟨gb207,4,none⟩ (.slice Ao80 y204.length co80)).heap[gb207]?=some (.cells #[.int .i64 t189,.int .i64 t190,.int .i64 t191,.bool (t195 == 1),.slice Ao80 y204.length co80] 61 (0,0))):=⟨by (with_reducible repeat (first|refine blk_drewN ?_ _|refine blk_drew ?_|refine blk_alloc ?_ _));refine blk_put (cs:=#[.int .i64 t189,.int .i64 t190,.int .i64 t191,.bool (t195 == 1),.slice none 0 0]) ?_ 4 _ rfl;(with_reducible repeat (first|refine blk_drewN ?_ _|refine blk_drew ?_|refine blk_alloc ?_ _));refine blk_put (cs:=#[.int .i64 t189,.int .i64 t190,.int .i64 t191,.bool false,.slice none 0 0]) ?_ 3 _ rfl;(with_reducible repeat (first|refine blk_drewN ?_ _|refine blk_drew ?_|refine blk_alloc ?_ _));refine blk_put (cs:=#[.int .i64 t189,.int .i64 t190,.int .i64 0,.bool false,.slice none 0 0]) ?_ 2 _ rfl;(with_reducible repeat (first|refine blk_drewN ?_ _|refine blk_drew ?_|refine blk_alloc ?_ _));refine blk_put (cs:=#[.int .i64 t189,.int .i64 0,.int .i64 0,.bool false,.slice none 0 0]) ?_ 1 _ rfl;(with_reducible repeat (first|refine blk_drewN ?_ _|refine blk_drew ?_|refine blk_alloc ?_ _));refine blk_put (cs:=#[.int .i64 0,.int .i64 0,.int .i64 0,.bool false,.slice none 0 0]) ?_ 0 _ rfl;(with_reducible repeat (first|refine blk_drewN ?_ _|refine blk_drew ?_|refine blk_alloc ?_ _));exact BK207.out⟩
      have n4_:Aside0 (Below w.heap.size w (((((w79.setCell ⟨gb207,0,none⟩ (.int .i64 t189)).setCell ⟨gb207,1,none⟩ (.int .i64 t190)).setCell ⟨gb207,2,none⟩ (.int .i64 t191)).setCell ⟨gb207,3,none⟩ (.bool (t195 == 1))).setCell ⟨gb207,4,none⟩ (.slice Ao80 y204.length co80))):=⟨be⟩
      (try clear HO206);(try clear BK188);(try clear BK194);(try clear BK207);(try clear HB)
      generalize (((((w79.setCell ⟨gb207,0,none⟩ (.int .i64 t189)).setCell ⟨gb207,1,none⟩ (.int .i64 t190)).setCell ⟨gb207,2,none⟩ (.int .i64 t191)).setCell ⟨gb207,3,none⟩ (.bool (t195 == 1))).setCell ⟨gb207,4,none⟩ (.slice Ao80 y204.length co80))=w86 at n0_ n1_ n2_ n3_ n4_ ⊢
      have HO206:=n0_;have BK188:=n1_;have BK194:=n2_;have BK207:=n3_;have HB:=n4_;clear n0_ n1_ n2_ n3_ n4_;have n0_:=Aside0.mk (Kd.R_drew HO206.out);have n1_:=Aside0.mk (blk_drew BK188.out);have n2_:=Aside0.mk (blk_drew BK194.out);have n3_:=Aside0.mk (blk_drew BK207.out);have n4_:=Aside0.mk (below_drew1 HB.out);clear HO206 BK188 BK194 BK207 HB;have HO206:=n0_;have BK188:=n1_;have BK194:=n2_;have BK207:=n3_;have HB:=n4_;clear n0_ n1_ n2_ n3_ n4_
      refine start_ (n:=11) (S:=fun w'=>w'.cell? ⟨gb207,0,none⟩=some (.int .i64 t189)∧w'.cell? ⟨gb207,1,none⟩=some (.int .i64 t190)∧w'.cell? ⟨gb207,2,none⟩=some (.int .i64 t191)∧w'.cell? ⟨gb207,3,none⟩=some (.bool (t195 == 1))∧w'.cell? ⟨gb207,4,none⟩=some (.slice Ao80 y204.length co80)) (ds:=[]) (fl 11 0) (by kernel_rfl) rfl rfl ⟨(blk_cell BK207.out 0).trans rfl,(blk_cell BK207.out 1).trans rfl,(blk_cell BK207.out 2).trans rfl,(blk_cell BK207.out 3).trans rfl,(blk_cell BK207.out 4).trans rfl⟩ (fun hHeld=>?_);refine with_tabW spec_GetFile.tab7 spec_GetFile.bits7 (fun HT_ HW_=>?_)
      generalize w86.drew=w87 at HO206 BK188 BK194 BK207 HB hHeld ⊢
      refine tt 0 63 (fl 11 1) HT_ HW_ hHeld ?_
      refine ot 1 (some 64) (fl 11 3) HT_ (fun K hK=>?_)
      refine goes_ Try.func86 (by kernel_rfl) rfl #[.agg #[.int .i64 t189,.int .i64 t190,.int .i64 t191,.bool (t195 == 1),.slice Ao80 y204.length co80]] (by rfl) rfl rfl (by (try simp only [List.map_toArray,List.map_cons,List.map_nil]);first|done|rfl|(simp only [List.length_drop,List.length_take];rfl)) ?_
      with_reducible refine (spec_FileOk.calls t189 t190 t191 (t195 == 1) _ _ y204 false _ ?side1 ?side2 A19.out).mono ?_
      (case side1=>exact sR HO206)
      (case side2=>exact (Kd.R_reads' HO206.out).2.1)
      rintro e w88 ⟨rfl,hb⟩
      refine ⟨_,rfl,?_⟩
      have n0_:=Aside0.mk (Kd.R_below ((rR HO206)) hb);have n1_:=Aside0.mk (blk_below (bk BK188) hb);have n2_:=Aside0.mk (blk_below (bk BK194) hb);have n3_:=Aside0.mk (blk_below (bk BK207) hb);have n4_:=bs hb;clear HO206 BK188 BK194 BK207 HB;have HO206:=n0_;have BK188:=n1_;have BK194:=n2_;have BK207:=n3_;have HB:=n4_;clear n0_ n1_ n2_ n3_ n4_;(try clear hb);(try clear hb2);(try clear hk);(try clear hi)
      refine hK.out _ _ ⟨(blk_cell BK207.out 0).trans rfl,(blk_cell BK207.out 1).trans rfl,(blk_cell BK207.out 2).trans rfl,(blk_cell BK207.out 3).trans rfl,(blk_cell BK207.out 4).trans rfl⟩ (fun hHeld=>?_)
      clear hK K
      refine no 64 ?_
      refine pt 2 65 (fl 11 7) HT_ ?_
      refine pt 3 66 (fl 11 15) HT_ ?_
      refine ut 4 67 (fl 11 31) HT_ ?_
      refine ut 5 68 (fl 11 63) HT_ ?_
      refine ut 6 69 (fl 11 127) HT_ ?_
      refine ut 7 70 (fl 11 255) HT_ ?_
      refine ut 8 71 (fl 11 511) HT_ ?_
      refine ut 9 72 (fl 11 1023) HT_ ?_
      refine pt 10 73 (fl 11 2047) HT_ ?_
      refine done_ (done_of HT_.out (by kernel_rfl)) ?_
      have hnb89:=NB188_194.out
      have hnc89:=NB194_188.out
      have hnb90:=NB188_207.out
      have hnc90:=NB207_188.out
      have hcz91_0:w88.cell? ⟨gb188,0,none⟩=some (.int .i64 0):=(blk_cell BK188.out 0).trans rfl
      have hcz91_1:w88.cell? ⟨gb188,1,none⟩=some (.int .i64 0):=(blk_cell BK188.out 1).trans rfl
      have hcz91_2:w88.cell? ⟨gb188,2,none⟩=some (.int .i64 0):=(blk_cell BK188.out 2).trans rfl
      have hcz91_3:w88.cell? ⟨gb188,3,none⟩=some (.bool false):=(blk_cell BK188.out 3).trans rfl
      have hcz91_4:w88.cell? ⟨gb188,4,none⟩=some (.slice none 0 0):=(blk_cell BK188.out 4).trans rfl
      have hfz91_0:=blk_frozen BK188.out 0
      have hfz91_1:=blk_frozen BK188.out 1
      have hfz91_2:=blk_frozen BK188.out 2
      have hfz91_3:=blk_frozen BK188.out 3
      have hfz91_4:=blk_frozen BK188.out 4
      try go_wp2
      refine bodyPost_ret (results_ct rfl _ _ gb188 61 #[.int .i64 0,.int .i64 0,.int .i64 0,.bool false,.slice none 0 0] (0,0) _ rfl (by (with_reducible repeat (first|refine blk_drewN ?_ _|refine blk_drew ?_|refine blk_alloc ?_ _));refine blk_put (cs:=#[.int .i64 0,.int .i64 0,.int .i64 0,.bool false,.slice none 0 0]) ?_ 4 _ rfl;(with_reducible repeat (first|refine blk_drewN ?_ _|refine blk_drew ?_|refine blk_alloc ?_ _));refine blk_put (cs:=#[.int .i64 0,.int .i64 0,.int .i64 0,.bool false,.slice none 0 0]) ?_ 3 _ rfl;(with_reducible repeat (first|refine blk_drewN ?_ _|refine blk_drew ?_|refine blk_alloc ?_ _));refine blk_put (cs:=#[.int .i64 0,.int .i64 0,.int .i64 0,.bool false,.slice none 0 0]) ?_ 2 _ rfl;(with_reducible repeat (first|refine blk_drewN ?_ _|refine blk_drew ?_|refine blk_alloc ?_ _));refine blk_put (cs:=#[.int .i64 0,.int .i64 0,.int .i64 0,.bool false,.slice none 0 0]) ?_ 1 _ rfl;(with_reducible repeat (first|refine blk_drewN ?_ _|refine blk_drew ?_|refine blk_alloc ?_ _));refine blk_put (cs:=#[.int .i64 0,.int .i64 0,.int .i64 0,.bool false,.slice none 0 0]) ?_ 0 _ rfl;(with_reducible repeat (first|refine blk_drewN ?_ _|refine blk_drew ?_|refine blk_alloc ?_ _));exact BK188.out) Try.underlying61 rfl (by kernel_rfl)) rfl ?_
      exact ⟨_,rz,by first|exact Kd.R_nil _ _ _ _ _|exact Kd.N_nil _ _ _ _ _|exact Kd.V_nil _ _ _ _ _|exact Kd.Q_nil _ _ _ _ _|exact Kd.S_nil _ _ _ _ _,be⟩
    ·rw [if_neg c18] at H
     exact absurd H (by simp)
end Go.Proofs.Ytbhllgifciaepaa.PFnExactGetFile
