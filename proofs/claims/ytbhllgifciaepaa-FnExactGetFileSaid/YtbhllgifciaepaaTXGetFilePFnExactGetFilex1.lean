/- Trimmed by a program of this session (trim.py). Not trusted: Lean checks it. -/
import Derived.Test.YtbhllgifciaepaaTXGetFilePFnExactGetFilex0
namespace Go.Proofs.Ytbhllgifciaepaa.PFnExactGetFile
open Go.RowKit Go.Proofs.YtbhllgifciaepaaW.PrintWords Go.Proofs.YtbhllgifciaepaaW.PrintLast Go.Proofs.YtbhllgifciaepaaW.PrintMore Go.Proofs.Ytbhllgifciaepaa.St
attribute [local go_sem] max2_int min2_int max_two min_two max_three min_three max_four min_four
set_option linter.unusedVariables false
set_option linter.unusedSimpArgs false
def laws_eqByteS.l0:Nat→List Int→List Int→Int→Option (Bool)
 | 0,_,_,_=>none
 | k+1,x0,x1,x5=>if x5 < (x0.length:Int) then (if 0≤x5 then (if x5 < (x1.length:Int) then (if (rd x0 x5)=(rd x1 x5) then (laws_eqByteS.l0 k x0 x1 (wrap64 (x5+1))) else (some false)) else (none)) else (none)) else (some true)
def laws_eqByteS.f (k:Nat) (l0:List Int) (l1:List Int):Option (Bool):=if (l0.length:Int)=(l1.length:Int) then (laws_eqByteS.l0 k l0 l1 0) else (some false)
set_option maxHeartbeats 8000000 in
set_option maxRecDepth 100000 in
theorem laws_eqByteS.calls (k:Nat) (A0:Option Addr) (c0:Nat) (l0:List Int) (A1:Option Addr) (c1:Nat) (l1:List Int) (r:Bool) (w:World) (hr0:Kd.C (Kd.int .u8) w A0 l0.length l0) (hc0:l0.length≤c0) (hr1:Kd.C (Kd.int .u8) w A1 l1.length l1) (hc1:l1.length≤c1) (h:laws_eqByteS.f k l0 l1=some r) :
  Calls Try.prog 38 #[.slice A0 l0.length c0,.slice A1 l1.length c1] w fun e w'=>e = .returned (.bool r)∧Drawn0 w w':=by
 have HR0:=Aside0.mk hr0
 have HC0:=Aside0.mk hc0
 clear hr0 hc0
 have HR1:=Aside0.mk hr1
 have HC1:=Aside0.mk hc1
 clear hr1 hc1
 have H:(if (l0.length:Int)=(l1.length:Int) then (laws_eqByteS.l0 k l0 l1 0) else (some false))=some r:=h
 clear h
 by_cases c3:(l0.length:Int)=(l1.length:Int)
 ·rw [if_pos c3] at H
  have c3b0:((l0.length:Int) == (l1.length:Int))=true:=beq_iff_eq.mpr c3
  have c3b1:((l0.length:Int) != (l1.length:Int))=false:=bne_eq_false_iff_eq.mpr c3
  have c3b2:(l0.length == l1.length)=true:=by first|simpa using c3|(simp at c3 ⊢;omega)
  clear c3
  have H':=Aside0.mk H
  clear H
  go_enter Try.func38,Try.ntmps38
  go_wp2
  repeat (go_quiet (fail);try go_wp2)
  go_loopg [5] k (fun kq v5 w'=>∃ (x5_1:Int),v5 = .int .i64 x5_1∧Aside0 (laws_eqByteS.l0 kq l0 l1 x5_1=some r)∧Aside0 (kq≤k)∧Drawn0 w w')
  case atStart=>exact ⟨(0),rd_,H',⟨Nat.le_refl _⟩,by repeat (first|exact Drawn0.refl _|apply Drawn0.step)⟩
  case round=>
   clear H'
   try clear c1
   try clear p2
   try clear c3
   try clear c3b0
   try clear c3b1
   try clear c3b2
   obtain ⟨x5_1,rfl,HA,HK1,⟨m1,rfl⟩⟩:=hrel
   cases gk with
   | zero=>exact absurd HA.out (by simp [laws_eqByteS.l0])
   | succ k1=>
    have H:=HA.out
    clear HA
    simp only [laws_eqByteS.l0] at H
    by_cases c4:x5_1 < (l0.length:Int)
    ·rw [if_pos c4] at H
     have c4b0:decide (x5_1 < (l0.length:Int))=true:=decide_eq_true c4
     clear c4
     by_cases c5:0≤x5_1
     ·rw [if_pos c5] at H
      have c5b0:decide (0≤x5_1)=true:=decide_eq_true c5
      clear c5
      by_cases c6:x5_1 < (l1.length:Int)
      ·rw [if_pos c6] at H
       have c6b0:decide (x5_1 < (l1.length:Int))=true:=decide_eq_true c6
       clear c6
       by_cases c7:(rd l0 x5_1)=(rd l1 x5_1)
       ·rw [if_pos c7] at H
        have c7b0:((rd l0 x5_1) == (rd l1 x5_1))=true:=beq_iff_eq.mpr c7
        have c7b1:((rd l0 x5_1) != (rd l1 x5_1))=false:=bne_eq_false_iff_eq.mpr c7
        clear c7
        have H':=Aside0.mk H
        clear H
        have p101:0≤(x5_1:Int):=of_decide_eq_true (by first|(with_reducible assumption)|assumption)
        have q101:x5_1 < (l0.length:Int):=of_decide_eq_true (by first|(with_reducible assumption)|assumption)
        obtain ⟨ad101,e101,hx101_0⟩:=Kd.at_int HR0.out x5_1 p101 q101
        cases e101
        replace p101:=eq_true p101
        replace q101:=eq_true q101
        have p102:0≤(x5_1:Int):=of_decide_eq_true (by first|(with_reducible assumption)|assumption)
        have q102:x5_1 < (l1.length:Int):=of_decide_eq_true (by first|(with_reducible assumption)|assumption)
        obtain ⟨ad102,e102,hx102_0⟩:=Kd.at_int HR1.out x5_1 p102 q102
        cases e102
        replace p102:=eq_true p102
        replace q102:=eq_true q102
        go_wp2
        repeat (go_quiet (fail);try go_wp2)
        go_roundg k1
        case measure=>have:=HK1.out;omega
        case rel=>exact ⟨(wrap64 (x5_1+1)),rd_,H',⟨by have:=HK1.out;omega⟩,by repeat (first|exact Drawn0.refl _|apply Drawn0.step)⟩
       ·rw [if_neg c7] at H
        have c7b0:((rd l0 x5_1) == (rd l1 x5_1))=false:=beq_eq_false_iff_ne.mpr c7
        have c7b1:((rd l0 x5_1) != (rd l1 x5_1))=true:=bne_iff_ne.mpr c7
        obtain rfl:=Option.some.inj H
        have p101:0≤(x5_1:Int):=of_decide_eq_true (by first|(with_reducible assumption)|assumption)
        have q101:x5_1 < (l0.length:Int):=of_decide_eq_true (by first|(with_reducible assumption)|assumption)
        obtain ⟨ad101,e101,hx101_0⟩:=Kd.at_int HR0.out x5_1 p101 q101
        cases e101
        replace p101:=eq_true p101
        replace q101:=eq_true q101
        have p102:0≤(x5_1:Int):=of_decide_eq_true (by first|(with_reducible assumption)|assumption)
        have q102:x5_1 < (l1.length:Int):=of_decide_eq_true (by first|(with_reducible assumption)|assumption)
        obtain ⟨ad102,e102,hx102_0⟩:=Kd.at_int HR1.out x5_1 p102 q102
        cases e102
        replace p102:=eq_true p102
        replace q102:=eq_true q102
        go_wp2
        repeat (go_quiet (fail);try go_wp2)
        go_ret
        exact ⟨by first|rfl|(simp;done)|(simp [*];done),by repeat (first|exact Drawn0.refl _|apply Drawn0.step)⟩
      ·rw [if_neg c6] at H
       exact absurd H (by simp)
     ·rw [if_neg c5] at H
      exact absurd H (by simp)
    ·rw [if_neg c4] at H
     have c4b0:decide (x5_1 < (l0.length:Int))=false:=decide_eq_false c4
     clear c4
     obtain rfl:=Option.some.inj H
     go_wp2
     repeat (go_quiet (fail);try go_wp2)
     go_ret
     exact ⟨by first|rfl|(simp;done)|(simp [*];done),by repeat (first|exact Drawn0.refl _|apply Drawn0.step)⟩
 ·rw [if_neg c3] at H
  have c3b0:((l0.length:Int) == (l1.length:Int))=false:=beq_eq_false_iff_ne.mpr c3
  have c3b1:((l0.length:Int) != (l1.length:Int))=true:=bne_iff_ne.mpr c3
  have c3b2:(l0.length == l1.length)=false:=by first|simpa using c3|(simp at c3 ⊢;omega)
  obtain rfl:=Option.some.inj H
  go_enter Try.func38,Try.ntmps38
  go_wp2
  repeat (go_quiet (fail);try go_wp2)
  go_ret
  exact ⟨by first|rfl|(simp;done)|(simp [*];done),by repeat (first|exact Drawn0.refl _|apply Drawn0.step)⟩
def laws_eqStamp.f (a0_0:Int) (a0_1:Int) (a0_2:Int) (a1_0:Int) (a1_1:Int) (a1_2:Int):Option (Bool):=if a0_0=a1_0 then (if a0_1=a1_1 then (if a0_2=a1_2 then (some true) else (some false)) else (some false)) else (some false)
set_option maxHeartbeats 8000000 in
set_option maxRecDepth 100000 in
theorem laws_eqStamp.calls (a0_0:Int) (a0_1:Int) (a0_2:Int) (a1_0:Int) (a1_1:Int) (a1_2:Int) (r:Bool) (w:World) (h:laws_eqStamp.f a0_0 a0_1 a0_2 a1_0 a1_1 a1_2=some r) :
  Calls Try.prog 96 #[.agg #[.int .i64 a0_0,.int .i64 a0_1,.int .i64 a0_2],.agg #[.int .i64 a1_0,.int .i64 a1_1,.int .i64 a1_2]] w fun e w'=>e = .returned (.bool r)∧Below w.heap.size w w':=by
 have hu59:=Try.underlying59
 have HB:=Aside0.mk (Below.refl w.heap.size w)
 have H:(if a0_0=a1_0 then (if a0_1=a1_1 then (if a0_2=a1_2 then (some true) else (some false)) else (some false)) else (some false))=some r:=h
 clear h
 by_cases c3:a0_0=a1_0
 ·rw [if_pos c3] at H
  have c3b0:(a0_0 == a1_0)=true:=beq_iff_eq.mpr c3
  have c3b1:(a0_0 != a1_0)=false:=bne_eq_false_iff_eq.mpr c3
  clear c3
  by_cases c4:a0_1=a1_1
  ·rw [if_pos c4] at H
   have c4b0:(a0_1 == a1_1)=true:=beq_iff_eq.mpr c4
   have c4b1:(a0_1 != a1_1)=false:=bne_eq_false_iff_eq.mpr c4
   clear c4
   by_cases c5:a0_2=a1_2
   ·rw [if_pos c5] at H
    have c5b0:(a0_2 == a1_2)=true:=beq_iff_eq.mpr c5
    have c5b1:(a0_2 != a1_2)=false:=bne_eq_false_iff_eq.mpr c5
    clear c5
    obtain rfl:=Option.some.inj H
    go_enter Try.func96,Try.ntmps96
    go_wp2_with (first|((with_reducible refine gate_dst (N:=2) rfl ?_);refine box_event ?hg (N:=2) ?hd (cs:=#[.int .i64 a0_0,.int .i64 a0_1,.int .i64 a0_2]) (t:=59) ?hr ?_;(case hd=>rfl);(case hg=>rfl);(case hr=>first|(go_simp;done)|(go_simp;rfl));intro gb103 hg w6 hbox hb;have n0_:=bs hb;have n1_:=Aside0.mk (hbox);have n2_:=Aside0.mk ((by rw [hg];exact (below_size be):w.heap.size≤gb103));have n3_:=Aside0.mk ((by rw [hg];exact (below_size be):w.heap.size≤gb103));clear HB;have HB:=n0_;have BK103:=n1_;have GW103:=n2_;have GE103:=n3_;clear n0_ n1_ n2_ n3_;clear hb hbox hg)|((with_reducible refine gate_dst (N:=3) rfl ?_);refine box_event ?hg (N:=3) ?hd (cs:=#[.int .i64 a1_0,.int .i64 a1_1,.int .i64 a1_2]) (t:=59) ?hr ?_;(case hd=>rfl);(case hg=>rfl);(case hr=>first|(go_simp;done)|(go_simp;rfl));intro gb104 hg w7 hbox hb;have n0_:=Aside0.mk (blk_below (g:=gb103) (o:=.cells #[.int .i64 a0_0,.int .i64 a0_1,.int .i64 a0_2] 59 (0,0)) (bk BK103) hb);have n1_:=bs hb;have n2_:=Aside0.mk (hbox);have n3_:=Aside0.mk ((by rw [hg];exact (below_size be):w.heap.size≤gb104));have n4_:=Aside0.mk ((by rw [hg];exact (below_size be):w.heap.size≤gb104));have n5_:=Aside0.mk ((by rw [hg];exact Nat.ne_of_lt (blk_lt (g:=gb103) (o:=.cells #[.int .i64 a0_0,.int .i64 a0_1,.int .i64 a0_2] 59 (0,0)) (bk BK103)):gb103 ≠ gb104));have n6_:=Aside0.mk ((by rw [hg];exact Nat.ne_of_gt (blk_lt (g:=gb103) (o:=.cells #[.int .i64 a0_0,.int .i64 a0_1,.int .i64 a0_2] 59 (0,0)) (bk BK103)):gb104 ≠ gb103));clear BK103;clear HB;have BK103:=n0_;have HB:=n1_;have BK104:=n2_;have GW104:=n3_;have GE104:=n4_;have NB103_104:=n5_;have NB104_103:=n6_;clear n0_ n1_ n2_ n3_ n4_ n5_ n6_;clear hb hbox hg;have hnb8:=NB103_104.out;have hnc8:=NB104_103.out;have hcz9_0:w7.cell? ⟨gb103,0,none⟩=some (.int .i64 a0_0):=(blk_cell BK103.out 0).trans rfl;have hcz9_1:w7.cell? ⟨gb103,1,none⟩=some (.int .i64 a0_1):=(blk_cell BK103.out 1).trans rfl;have hcz9_2:w7.cell? ⟨gb103,2,none⟩=some (.int .i64 a0_2):=(blk_cell BK103.out 2).trans rfl;have hfz9_0:=blk_frozen BK103.out 0;have hfz9_1:=blk_frozen BK103.out 1;have hfz9_2:=blk_frozen BK103.out 2;have hcz10_0:w7.cell? ⟨gb104,0,none⟩=some (.int .i64 a1_0):=(blk_cell BK104.out 0).trans rfl;have hcz10_1:w7.cell? ⟨gb104,1,none⟩=some (.int .i64 a1_1):=(blk_cell BK104.out 1).trans rfl;have hcz10_2:w7.cell? ⟨gb104,2,none⟩=some (.int .i64 a1_2):=(blk_cell BK104.out 2).trans rfl;have hfz10_0:=blk_frozen BK104.out 0;have hfz10_1:=blk_frozen BK104.out 1;have hfz10_2:=blk_frozen BK104.out 2))
    go_ret
    exact ⟨rz,be⟩
   ·rw [if_neg c5] at H
    have c5b0:(a0_2 == a1_2)=false:=beq_eq_false_iff_ne.mpr c5
    have c5b1:(a0_2 != a1_2)=true:=bne_iff_ne.mpr c5
    obtain rfl:=Option.some.inj H
    go_enter Try.func96,Try.ntmps96
    go_wp2_with (first|((with_reducible refine gate_dst (N:=2) rfl ?_);refine box_event ?hg (N:=2) ?hd (cs:=#[.int .i64 a0_0,.int .i64 a0_1,.int .i64 a0_2]) (t:=59) ?hr ?_;(case hd=>rfl);(case hg=>rfl);(case hr=>first|(go_simp;done)|(go_simp;rfl));intro gb103 hg w11 hbox hb;have n0_:=bs hb;have n1_:=Aside0.mk (hbox);have n2_:=Aside0.mk ((by rw [hg];exact (below_size be):w.heap.size≤gb103));have n3_:=Aside0.mk ((by rw [hg];exact (below_size be):w.heap.size≤gb103));clear HB;have HB:=n0_;have BK103:=n1_;have GW103:=n2_;have GE103:=n3_;clear n0_ n1_ n2_ n3_;clear hb hbox hg)|((with_reducible refine gate_dst (N:=3) rfl ?_);refine box_event ?hg (N:=3) ?hd (cs:=#[.int .i64 a1_0,.int .i64 a1_1,.int .i64 a1_2]) (t:=59) ?hr ?_;(case hd=>rfl);(case hg=>rfl);(case hr=>first|(go_simp;done)|(go_simp;rfl));intro gb104 hg w12 hbox hb;have n0_:=Aside0.mk (blk_below (g:=gb103) (o:=.cells #[.int .i64 a0_0,.int .i64 a0_1,.int .i64 a0_2] 59 (0,0)) (bk BK103) hb);have n1_:=bs hb;have n2_:=Aside0.mk (hbox);have n3_:=Aside0.mk ((by rw [hg];exact (below_size be):w.heap.size≤gb104));have n4_:=Aside0.mk ((by rw [hg];exact (below_size be):w.heap.size≤gb104));have n5_:=Aside0.mk ((by rw [hg];exact Nat.ne_of_lt (blk_lt (g:=gb103) (o:=.cells #[.int .i64 a0_0,.int .i64 a0_1,.int .i64 a0_2] 59 (0,0)) (bk BK103)):gb103 ≠ gb104));have n6_:=Aside0.mk ((by rw [hg];exact Nat.ne_of_gt (blk_lt (g:=gb103) (o:=.cells #[.int .i64 a0_0,.int .i64 a0_1,.int .i64 a0_2] 59 (0,0)) (bk BK103)):gb104 ≠ gb103));clear BK103;clear HB;have BK103:=n0_;have HB:=n1_;have BK104:=n2_;have GW104:=n3_;have GE104:=n4_;have NB103_104:=n5_;have NB104_103:=n6_;clear n0_ n1_ n2_ n3_ n4_ n5_ n6_;clear hb hbox hg;have hnb13:=NB103_104.out;have hnc13:=NB104_103.out;have hcz14_0:w12.cell? ⟨gb103,0,none⟩=some (.int .i64 a0_0):=(blk_cell BK103.out 0).trans rfl;have hcz14_1:w12.cell? ⟨gb103,1,none⟩=some (.int .i64 a0_1):=(blk_cell BK103.out 1).trans rfl;have hcz14_2:w12.cell? ⟨gb103,2,none⟩=some (.int .i64 a0_2):=(blk_cell BK103.out 2).trans rfl;have hfz14_0:=blk_frozen BK103.out 0;have hfz14_1:=blk_frozen BK103.out 1;have hfz14_2:=blk_frozen BK103.out 2;have hcz15_0:w12.cell? ⟨gb104,0,none⟩=some (.int .i64 a1_0):=(blk_cell BK104.out 0).trans rfl;have hcz15_1:w12.cell? ⟨gb104,1,none⟩=some (.int .i64 a1_1):=(blk_cell BK104.out 1).trans rfl;have hcz15_2:w12.cell? ⟨gb104,2,none⟩=some (.int .i64 a1_2):=(blk_cell BK104.out 2).trans rfl;have hfz15_0:=blk_frozen BK104.out 0;have hfz15_1:=blk_frozen BK104.out 1;have hfz15_2:=blk_frozen BK104.out 2))
    go_ret
    exact ⟨rz,be⟩
  ·rw [if_neg c4] at H
   have c4b0:(a0_1 == a1_1)=false:=beq_eq_false_iff_ne.mpr c4
   have c4b1:(a0_1 != a1_1)=true:=bne_iff_ne.mpr c4
   obtain rfl:=Option.some.inj H
   go_enter Try.func96,Try.ntmps96
   go_wp2_with (first|((with_reducible refine gate_dst (N:=2) rfl ?_);refine box_event ?hg (N:=2) ?hd (cs:=#[.int .i64 a0_0,.int .i64 a0_1,.int .i64 a0_2]) (t:=59) ?hr ?_;(case hd=>rfl);(case hg=>rfl);(case hr=>first|(go_simp;done)|(go_simp;rfl));intro gb103 hg w16 hbox hb;have n0_:=bs hb;have n1_:=Aside0.mk (hbox);have n2_:=Aside0.mk ((by rw [hg];exact (below_size be):w.heap.size≤gb103));have n3_:=Aside0.mk ((by rw [hg];exact (below_size be):w.heap.size≤gb103));clear HB;have HB:=n0_;have BK103:=n1_;have GW103:=n2_;have GE103:=n3_;clear n0_ n1_ n2_ n3_;clear hb hbox hg)|((with_reducible refine gate_dst (N:=3) rfl ?_);refine box_event ?hg (N:=3) ?hd (cs:=#[.int .i64 a1_0,.int .i64 a1_1,.int .i64 a1_2]) (t:=59) ?hr ?_;(case hd=>rfl);(case hg=>rfl);(case hr=>first|(go_simp;done)|(go_simp;rfl));intro gb104 hg w17 hbox hb;have n0_:=Aside0.mk (blk_below (g:=gb103) (o:=.cells #[.int .i64 a0_0,.int .i64 a0_1,.int .i64 a0_2] 59 (0,0)) (bk BK103) hb);have n1_:=bs hb;have n2_:=Aside0.mk (hbox);have n3_:=Aside0.mk ((by rw [hg];exact (below_size be):w.heap.size≤gb104));have n4_:=Aside0.mk ((by rw [hg];exact (below_size be):w.heap.size≤gb104));have n5_:=Aside0.mk ((by rw [hg];exact Nat.ne_of_lt (blk_lt (g:=gb103) (o:=.cells #[.int .i64 a0_0,.int .i64 a0_1,.int .i64 a0_2] 59 (0,0)) (bk BK103)):gb103 ≠ gb104));have n6_:=Aside0.mk ((by rw [hg];exact Nat.ne_of_gt (blk_lt (g:=gb103) (o:=.cells #[.int .i64 a0_0,.int .i64 a0_1,.int .i64 a0_2] 59 (0,0)) (bk BK103)):gb104 ≠ gb103));clear BK103;clear HB;have BK103:=n0_;have HB:=n1_;have BK104:=n2_;have GW104:=n3_;have GE104:=n4_;have NB103_104:=n5_;have NB104_103:=n6_;clear n0_ n1_ n2_ n3_ n4_ n5_ n6_;clear hb hbox hg;have hnb18:=NB103_104.out;have hnc18:=NB104_103.out;have hcz19_0:w17.cell? ⟨gb103,0,none⟩=some (.int .i64 a0_0):=(blk_cell BK103.out 0).trans rfl;have hcz19_1:w17.cell? ⟨gb103,1,none⟩=some (.int .i64 a0_1):=(blk_cell BK103.out 1).trans rfl;have hcz19_2:w17.cell? ⟨gb103,2,none⟩=some (.int .i64 a0_2):=(blk_cell BK103.out 2).trans rfl;have hfz19_0:=blk_frozen BK103.out 0;have hfz19_1:=blk_frozen BK103.out 1;have hfz19_2:=blk_frozen BK103.out 2;have hcz20_0:w17.cell? ⟨gb104,0,none⟩=some (.int .i64 a1_0):=(blk_cell BK104.out 0).trans rfl;have hcz20_1:w17.cell? ⟨gb104,1,none⟩=some (.int .i64 a1_1):=(blk_cell BK104.out 1).trans rfl;have hcz20_2:w17.cell? ⟨gb104,2,none⟩=some (.int .i64 a1_2):=(blk_cell BK104.out 2).trans rfl;have hfz20_0:=blk_frozen BK104.out 0;have hfz20_1:=blk_frozen BK104.out 1;have hfz20_2:=blk_frozen BK104.out 2))
   go_ret
   exact ⟨rz,be⟩
 ·rw [if_neg c3] at H
  have c3b0:(a0_0 == a1_0)=false:=beq_eq_false_iff_ne.mpr c3
  have c3b1:(a0_0 != a1_0)=true:=bne_iff_ne.mpr c3
  obtain rfl:=Option.some.inj H
  go_enter Try.func96,Try.ntmps96
  go_wp2_with (first|((with_reducible refine gate_dst (N:=2) rfl ?_);refine box_event ?hg (N:=2) ?hd (cs:=#[.int .i64 a0_0,.int .i64 a0_1,.int .i64 a0_2]) (t:=59) ?hr ?_;(case hd=>rfl);(case hg=>rfl);(case hr=>first|(go_simp;done)|(go_simp;rfl));intro gb103 hg w21 hbox hb;have n0_:=bs hb;have n1_:=Aside0.mk (hbox);have n2_:=Aside0.mk ((by rw [hg];exact (below_size be):w.heap.size≤gb103));have n3_:=Aside0.mk ((by rw [hg];exact (below_size be):w.heap.size≤gb103));clear HB;have HB:=n0_;have BK103:=n1_;have GW103:=n2_;have GE103:=n3_;clear n0_ n1_ n2_ n3_;clear hb hbox hg)|((with_reducible refine gate_dst (N:=3) rfl ?_);refine box_event ?hg (N:=3) ?hd (cs:=#[.int .i64 a1_0,.int .i64 a1_1,.int .i64 a1_2]) (t:=59) ?hr ?_;(case hd=>rfl);(case hg=>rfl);(case hr=>first|(go_simp;done)|(go_simp;rfl));intro gb104 hg w22 hbox hb;have n0_:=Aside0.mk (blk_below (g:=gb103) (o:=.cells #[.int .i64 a0_0,.int .i64 a0_1,.int .i64 a0_2] 59 (0,0)) (bk BK103) hb);have n1_:=bs hb;have n2_:=Aside0.mk (hbox);have n3_:=Aside0.mk ((by rw [hg];exact (below_size be):w.heap.size≤gb104));have n4_:=Aside0.mk ((by rw [hg];exact (below_size be):w.heap.size≤gb104));have n5_:=Aside0.mk ((by rw [hg];exact Nat.ne_of_lt (blk_lt (g:=gb103) (o:=.cells #[.int .i64 a0_0,.int .i64 a0_1,.int .i64 a0_2] 59 (0,0)) (bk BK103)):gb103 ≠ gb104));have n6_:=Aside0.mk ((by rw [hg];exact Nat.ne_of_gt (blk_lt (g:=gb103) (o:=.cells #[.int .i64 a0_0,.int .i64 a0_1,.int .i64 a0_2] 59 (0,0)) (bk BK103)):gb104 ≠ gb103));clear BK103;clear HB;have BK103:=n0_;have HB:=n1_;have BK104:=n2_;have GW104:=n3_;have GE104:=n4_;have NB103_104:=n5_;have NB104_103:=n6_;clear n0_ n1_ n2_ n3_ n4_ n5_ n6_;clear hb hbox hg;have hnb23:=NB103_104.out;have hnc23:=NB104_103.out;have hcz24_0:w22.cell? ⟨gb103,0,none⟩=some (.int .i64 a0_0):=(blk_cell BK103.out 0).trans rfl;have hcz24_1:w22.cell? ⟨gb103,1,none⟩=some (.int .i64 a0_1):=(blk_cell BK103.out 1).trans rfl;have hcz24_2:w22.cell? ⟨gb103,2,none⟩=some (.int .i64 a0_2):=(blk_cell BK103.out 2).trans rfl;have hfz24_0:=blk_frozen BK103.out 0;have hfz24_1:=blk_frozen BK103.out 1;have hfz24_2:=blk_frozen BK103.out 2;have hcz25_0:w22.cell? ⟨gb104,0,none⟩=some (.int .i64 a1_0):=(blk_cell BK104.out 0).trans rfl;have hcz25_1:w22.cell? ⟨gb104,1,none⟩=some (.int .i64 a1_1):=(blk_cell BK104.out 1).trans rfl;have hcz25_2:w22.cell? ⟨gb104,2,none⟩=some (.int .i64 a1_2):=(blk_cell BK104.out 2).trans rfl;have hfz25_0:=blk_frozen BK104.out 0;have hfz25_1:=blk_frozen BK104.out 1;have hfz25_2:=blk_frozen BK104.out 2))
  go_ret
  exact ⟨rz,be⟩
def laws_eqFile.f (k:Nat) (a0_0:Int) (a0_1:Int) (a0_2:Int) (a0_3:Bool) (l0_4:List Int) (a1_0:Int) (a1_1:Int) (a1_2:Int) (a1_3:Bool) (l1_4:List Int):Option (Bool):=(laws_eqStamp.f a0_0 a0_1 a0_2 a1_0 a1_1 a1_2).bind fun t107=>(if t107=true then (if (a0_3 != a1_3)=true then (some false) else ((laws_eqByteS.f k l0_4 l1_4).bind fun t108=>(if t108=true then (some true) else (some false)))) else (some false))
set_option maxHeartbeats 8000000 in
set_option maxRecDepth 100000 in
theorem laws_eqFile.calls (k:Nat) (a0_0:Int) (a0_1:Int) (a0_2:Int) (a0_3:Bool) (A0_4:Option Addr) (c0_4:Nat) (l0_4:List Int) (a1_0:Int) (a1_1:Int) (a1_2:Int) (a1_3:Bool) (A1_4:Option Addr) (c1_4:Nat) (l1_4:List Int) (r:Bool) (w:World) (hr0_4:Kd.C (Kd.int .u8) w A0_4 l0_4.length l0_4) (hc0_4:l0_4.length≤c0_4) (hr1_4:Kd.C (Kd.int .u8) w A1_4 l1_4.length l1_4) (hc1_4:l1_4.length≤c1_4) (h:laws_eqFile.f k a0_0 a0_1 a0_2 a0_3 l0_4 a1_0 a1_1 a1_2 a1_3 l1_4=some r) :
  Calls Try.prog 39 #[.agg #[.int .i64 a0_0,.int .i64 a0_1,.int .i64 a0_2,.bool a0_3,.slice A0_4 l0_4.length c0_4],.agg #[.int .i64 a1_0,.int .i64 a1_1,.int .i64 a1_2,.bool a1_3,.slice A1_4 l1_4.length c1_4]] w fun e w'=>e = .returned (.bool r)∧Below w.heap.size w w':=by
 have hu61:=Try.underlying61
 have hu59:=Try.underlying59
 have HR0_4:=Aside0.mk hr0_4
 have HC0_4:=Aside0.mk hc0_4
 clear hr0_4 hc0_4
 have HR1_4:=Aside0.mk hr1_4
 have HC1_4:=Aside0.mk hc1_4
 clear hr1_4 hc1_4
 have HB:=Aside0.mk (Below.refl w.heap.size w)
 have H:((laws_eqStamp.f a0_0 a0_1 a0_2 a1_0 a1_1 a1_2).bind fun t107=>(if t107=true then (if (a0_3 != a1_3)=true then (some false) else ((laws_eqByteS.f k l0_4 l1_4).bind fun t108=>(if t108=true then (some true) else (some false)))) else (some false)))=some r:=h
 clear h
 replace H:=Option.bind_eq_some_iff.mp H
 obtain ⟨t107,A30,H⟩:=H
 try dsimp only at H
 have A3:=Aside0.mk A30
 clear A30
 by_cases c4:t107=true
 ·subst c4
  rw [if_pos rfl] at H
  by_cases c5:(a0_3 != a1_3)=true
  ·rw [if_pos c5] at H
   have c5b0:(a0_3 != a1_3)=true:=c5
   (try (have c5b1:decide (a0_3=a1_3)=false:=by simpa using c5))
   (try (have c5b2:(a0_3 == a1_3)=false:=by simpa using c5))
   (try (have c5b3 : ¬ (a0_3=a1_3):=by simpa using c5))
   clear c5
   obtain rfl:=Option.some.inj H
   go_enter Try.func39,Try.ntmps39
   go_wp2_with (first|((with_reducible refine gate_dst (N:=2) rfl ?_);refine box_event ?hg (N:=2) ?hd (cs:=#[.int .i64 a0_0,.int .i64 a0_1,.int .i64 a0_2,.bool a0_3,.slice A0_4 l0_4.length c0_4]) (t:=61) ?hr ?_;(case hd=>rfl);(case hg=>rfl);(case hr=>first|(go_simp;done)|(go_simp;rfl));intro gb105 hg w6 hbox hb;have n0_:=bs hb;have n1_:=Aside0.mk (hbox);have n2_:=Aside0.mk ((by rw [hg];exact (below_size be):w.heap.size≤gb105));have n3_:=Aside0.mk ((by rw [hg];exact (below_size be):w.heap.size≤gb105));clear HB;have HB:=n0_;have BK105:=n1_;have GW105:=n2_;have GE105:=n3_;clear n0_ n1_ n2_ n3_;clear hb hbox hg)|((with_reducible refine gate_dst (N:=3) rfl ?_);refine box_event ?hg (N:=3) ?hd (cs:=#[.int .i64 a1_0,.int .i64 a1_1,.int .i64 a1_2,.bool a1_3,.slice A1_4 l1_4.length c1_4]) (t:=61) ?hr ?_;(case hd=>rfl);(case hg=>rfl);(case hr=>first|(go_simp;done)|(go_simp;rfl));intro gb106 hg w7 hbox hb;have n0_:=Aside0.mk (blk_below (g:=gb105) (o:=.cells #[.int .i64 a0_0,.int .i64 a0_1,.int .i64 a0_2,.bool a0_3,.slice A0_4 l0_4.length c0_4] 61 (0,0)) (bk BK105) hb);have n1_:=bs hb;have n2_:=Aside0.mk (hbox);have n3_:=Aside0.mk ((by rw [hg];exact (below_size be):w.heap.size≤gb106));have n4_:=Aside0.mk ((by rw [hg];exact (below_size be):w.heap.size≤gb106));have n5_:=Aside0.mk ((by rw [hg];exact Nat.ne_of_lt (blk_lt (g:=gb105) (o:=.cells #[.int .i64 a0_0,.int .i64 a0_1,.int .i64 a0_2,.bool a0_3,.slice A0_4 l0_4.length c0_4] 61 (0,0)) (bk BK105)):gb105 ≠ gb106));have n6_:=Aside0.mk ((by rw [hg];exact Nat.ne_of_gt (blk_lt (g:=gb105) (o:=.cells #[.int .i64 a0_0,.int .i64 a0_1,.int .i64 a0_2,.bool a0_3,.slice A0_4 l0_4.length c0_4] 61 (0,0)) (bk BK105)):gb106 ≠ gb105));clear BK105;clear HB;have BK105:=n0_;have HB:=n1_;have BK106:=n2_;have GW106:=n3_;have GE106:=n4_;have NB105_106:=n5_;have NB106_105:=n6_;clear n0_ n1_ n2_ n3_ n4_ n5_ n6_;clear hb hbox hg;have hnb8:=NB105_106.out;have hnc8:=NB106_105.out;have hcz9_0:w7.cell? ⟨gb105,0,none⟩=some (.int .i64 a0_0):=(blk_cell BK105.out 0).trans rfl;have hcz9_1:w7.cell? ⟨gb105,1,none⟩=some (.int .i64 a0_1):=(blk_cell BK105.out 1).trans rfl;have hcz9_2:w7.cell? ⟨gb105,2,none⟩=some (.int .i64 a0_2):=(blk_cell BK105.out 2).trans rfl;have hcz9_3:w7.cell? ⟨gb105,3,none⟩=some (.bool a0_3):=(blk_cell BK105.out 3).trans rfl;have hcz9_4:w7.cell? ⟨gb105,4,none⟩=some (.slice A0_4 l0_4.length c0_4):=(blk_cell BK105.out 4).trans rfl;have hfz9_0:=blk_frozen BK105.out 0;have hfz9_1:=blk_frozen BK105.out 1;have hfz9_2:=blk_frozen BK105.out 2;have hfz9_3:=blk_frozen BK105.out 3;have hfz9_4:=blk_frozen BK105.out 4;have hcz10_0:w7.cell? ⟨gb106,0,none⟩=some (.int .i64 a1_0):=(blk_cell BK106.out 0).trans rfl;have hcz10_1:w7.cell? ⟨gb106,1,none⟩=some (.int .i64 a1_1):=(blk_cell BK106.out 1).trans rfl;have hcz10_2:w7.cell? ⟨gb106,2,none⟩=some (.int .i64 a1_2):=(blk_cell BK106.out 2).trans rfl;have hcz10_3:w7.cell? ⟨gb106,3,none⟩=some (.bool a1_3):=(blk_cell BK106.out 3).trans rfl;have hcz10_4:w7.cell? ⟨gb106,4,none⟩=some (.slice A1_4 l1_4.length c1_4):=(blk_cell BK106.out 4).trans rfl;have hfz10_0:=blk_frozen BK106.out 0;have hfz10_1:=blk_frozen BK106.out 1;have hfz10_2:=blk_frozen BK106.out 2;have hfz10_3:=blk_frozen BK106.out 3;have hfz10_4:=blk_frozen BK106.out 4)|((with_reducible refine gate_callee (f:=96) rfl ?_);refine goesL_ (some 9) rfl rfl Try.func96 (by kernel_rfl) rfl #[.agg #[.int .i64 a0_0,.int .i64 a0_1,.int .i64 a0_2],.agg #[.int .i64 a1_0,.int .i64 a1_1,.int .i64 a1_2]] rfl (by (try simp only [List.map_toArray,List.map_cons,List.map_nil]);first|done|rfl|(simp only [List.length_drop,List.length_take];rfl)) ?_;(with_reducible refine (laws_eqStamp.calls a0_0 a0_1 a0_2 a1_0 a1_1 a1_2 true _ A3.out).mono ?_);rintro e w11 ⟨rfl,hb⟩;refine ⟨_,rfl,?_⟩;have n0_:=Aside0.mk (blk_below (g:=gb105) (o:=.cells #[.int .i64 a0_0,.int .i64 a0_1,.int .i64 a0_2,.bool a0_3,.slice A0_4 l0_4.length c0_4] 61 (0,0)) (bk BK105) hb);have n1_:=Aside0.mk (blk_below (g:=gb106) (o:=.cells #[.int .i64 a1_0,.int .i64 a1_1,.int .i64 a1_2,.bool a1_3,.slice A1_4 l1_4.length c1_4] 61 (0,0)) (bk BK106) hb);have n2_:=bs hb;clear BK105;clear BK106;clear HB;have BK105:=n0_;have BK106:=n1_;have HB:=n2_;clear n0_ n1_ n2_;(try clear hb);(try clear hb2);(try clear hk);(try clear hi);have hcz12_0:w11.cell? ⟨gb105,0,none⟩=some (.int .i64 a0_0):=(blk_cell BK105.out 0).trans rfl;have hcz12_1:w11.cell? ⟨gb105,1,none⟩=some (.int .i64 a0_1):=(blk_cell BK105.out 1).trans rfl;have hcz12_2:w11.cell? ⟨gb105,2,none⟩=some (.int .i64 a0_2):=(blk_cell BK105.out 2).trans rfl;have hcz12_3:w11.cell? ⟨gb105,3,none⟩=some (.bool a0_3):=(blk_cell BK105.out 3).trans rfl;have hcz12_4:w11.cell? ⟨gb105,4,none⟩=some (.slice A0_4 l0_4.length c0_4):=(blk_cell BK105.out 4).trans rfl;have hfz12_0:=blk_frozen BK105.out 0;have hfz12_1:=blk_frozen BK105.out 1;have hfz12_2:=blk_frozen BK105.out 2;have hfz12_3:=blk_frozen BK105.out 3;have hfz12_4:=blk_frozen BK105.out 4;have hcz13_0:w11.cell? ⟨gb106,0,none⟩=some (.int .i64 a1_0):=(blk_cell BK106.out 0).trans rfl;have hcz13_1:w11.cell? ⟨gb106,1,none⟩=some (.int .i64 a1_1):=(blk_cell BK106.out 1).trans rfl;have hcz13_2:w11.cell? ⟨gb106,2,none⟩=some (.int .i64 a1_2):=(blk_cell BK106.out 2).trans rfl;have hcz13_3:w11.cell? ⟨gb106,3,none⟩=some (.bool a1_3):=(blk_cell BK106.out 3).trans rfl;have hcz13_4:w11.cell? ⟨gb106,4,none⟩=some (.slice A1_4 l1_4.length c1_4):=(blk_cell BK106.out 4).trans rfl;have hfz13_0:=blk_frozen BK106.out 0;have hfz13_1:=blk_frozen BK106.out 1;have hfz13_2:=blk_frozen BK106.out 2;have hfz13_3:=blk_frozen BK106.out 3;have hfz13_4:=blk_frozen BK106.out 4))
   go_ret
   exact ⟨rz,be⟩
  ·rw [if_neg c5] at H
   have c5b0:(a0_3 != a1_3)=false:=by simpa using c5
   (try (have c5b1:decide (a0_3=a1_3)=true:=by simpa using c5))
   (try (have c5b2:(a0_3 == a1_3)=true:=by simpa using c5))
   clear c5
   replace H:=Option.bind_eq_some_iff.mp H
   obtain ⟨t108,A140,H⟩:=H
   try dsimp only at H
   have A14:=Aside0.mk A140
   clear A140
   by_cases c15:t108=true
   ·subst c15
    rw [if_pos rfl] at H
    obtain rfl:=Option.some.inj H
    go_enter Try.func39,Try.ntmps39
    go_wp2_with (first|((with_reducible refine gate_dst (N:=2) rfl ?_);refine box_event ?hg (N:=2) ?hd (cs:=#[.int .i64 a0_0,.int .i64 a0_1,.int .i64 a0_2,.bool a0_3,.slice A0_4 l0_4.length c0_4]) (t:=61) ?hr ?_;(case hd=>rfl);(case hg=>rfl);(case hr=>first|(go_simp;done)|(go_simp;rfl));intro gb105 hg w16 hbox hb;have n0_:=bs hb;have n1_:=Aside0.mk (hbox);have n2_:=Aside0.mk ((by rw [hg];exact (below_size be):w.heap.size≤gb105));have n3_:=Aside0.mk ((by rw [hg];exact (below_size be):w.heap.size≤gb105));clear HB;have HB:=n0_;have BK105:=n1_;have GW105:=n2_;have GE105:=n3_;clear n0_ n1_ n2_ n3_;clear hb hbox hg)|((with_reducible refine gate_dst (N:=3) rfl ?_);refine box_event ?hg (N:=3) ?hd (cs:=#[.int .i64 a1_0,.int .i64 a1_1,.int .i64 a1_2,.bool a1_3,.slice A1_4 l1_4.length c1_4]) (t:=61) ?hr ?_;(case hd=>rfl);(case hg=>rfl);(case hr=>first|(go_simp;done)|(go_simp;rfl));intro gb106 hg w17 hbox hb;have n0_:=Aside0.mk (blk_below (g:=gb105) (o:=.cells #[.int .i64 a0_0,.int .i64 a0_1,.int .i64 a0_2,.bool a0_3,.slice A0_4 l0_4.length c0_4] 61 (0,0)) (bk BK105) hb);have n1_:=bs hb;have n2_:=Aside0.mk (hbox);have n3_:=Aside0.mk ((by rw [hg];exact (below_size be):w.heap.size≤gb106));have n4_:=Aside0.mk ((by rw [hg];exact (below_size be):w.heap.size≤gb106));have n5_:=Aside0.mk ((by rw [hg];exact Nat.ne_of_lt (blk_lt (g:=gb105) (o:=.cells #[.int .i64 a0_0,.int .i64 a0_1,.int .i64 a0_2,.bool a0_3,.slice A0_4 l0_4.length c0_4] 61 (0,0)) (bk BK105)):gb105 ≠ gb106));have n6_:=Aside0.mk ((by rw [hg];exact Nat.ne_of_gt (blk_lt (g:=gb105) (o:=.cells #[.int .i64 a0_0,.int .i64 a0_1,.int .i64 a0_2,.bool a0_3,.slice A0_4 l0_4.length c0_4] 61 (0,0)) (bk BK105)):gb106 ≠ gb105));clear BK105;clear HB;have BK105:=n0_;have HB:=n1_;have BK106:=n2_;have GW106:=n3_;have GE106:=n4_;have NB105_106:=n5_;have NB106_105:=n6_;clear n0_ n1_ n2_ n3_ n4_ n5_ n6_;clear hb hbox hg;have hnb18:=NB105_106.out;have hnc18:=NB106_105.out;have hcz19_0:w17.cell? ⟨gb105,0,none⟩=some (.int .i64 a0_0):=(blk_cell BK105.out 0).trans rfl;have hcz19_1:w17.cell? ⟨gb105,1,none⟩=some (.int .i64 a0_1):=(blk_cell BK105.out 1).trans rfl;have hcz19_2:w17.cell? ⟨gb105,2,none⟩=some (.int .i64 a0_2):=(blk_cell BK105.out 2).trans rfl;have hcz19_3:w17.cell? ⟨gb105,3,none⟩=some (.bool a0_3):=(blk_cell BK105.out 3).trans rfl;have hcz19_4:w17.cell? ⟨gb105,4,none⟩=some (.slice A0_4 l0_4.length c0_4):=(blk_cell BK105.out 4).trans rfl;have hfz19_0:=blk_frozen BK105.out 0;have hfz19_1:=blk_frozen BK105.out 1;have hfz19_2:=blk_frozen BK105.out 2;have hfz19_3:=blk_frozen BK105.out 3;have hfz19_4:=blk_frozen BK105.out 4;have hcz20_0:w17.cell? ⟨gb106,0,none⟩=some (.int .i64 a1_0):=(blk_cell BK106.out 0).trans rfl;have hcz20_1:w17.cell? ⟨gb106,1,none⟩=some (.int .i64 a1_1):=(blk_cell BK106.out 1).trans rfl;have hcz20_2:w17.cell? ⟨gb106,2,none⟩=some (.int .i64 a1_2):=(blk_cell BK106.out 2).trans rfl;have hcz20_3:w17.cell? ⟨gb106,3,none⟩=some (.bool a1_3):=(blk_cell BK106.out 3).trans rfl;have hcz20_4:w17.cell? ⟨gb106,4,none⟩=some (.slice A1_4 l1_4.length c1_4):=(blk_cell BK106.out 4).trans rfl;have hfz20_0:=blk_frozen BK106.out 0;have hfz20_1:=blk_frozen BK106.out 1;have hfz20_2:=blk_frozen BK106.out 2;have hfz20_3:=blk_frozen BK106.out 3;have hfz20_4:=blk_frozen BK106.out 4)|((with_reducible refine gate_callee (f:=96) rfl ?_);refine goesL_ (some 9) rfl rfl Try.func96 (by kernel_rfl) rfl #[.agg #[.int .i64 a0_0,.int .i64 a0_1,.int .i64 a0_2],.agg #[.int .i64 a1_0,.int .i64 a1_1,.int .i64 a1_2]] rfl (by (try simp only [List.map_toArray,List.map_cons,List.map_nil]);first|done|rfl|(simp only [List.length_drop,List.length_take];rfl)) ?_;(with_reducible refine (laws_eqStamp.calls a0_0 a0_1 a0_2 a1_0 a1_1 a1_2 true _ A3.out).mono ?_);rintro e w21 ⟨rfl,hb⟩;refine ⟨_,rfl,?_⟩;have n0_:=Aside0.mk (blk_below (g:=gb105) (o:=.cells #[.int .i64 a0_0,.int .i64 a0_1,.int .i64 a0_2,.bool a0_3,.slice A0_4 l0_4.length c0_4] 61 (0,0)) (bk BK105) hb);have n1_:=Aside0.mk (blk_below (g:=gb106) (o:=.cells #[.int .i64 a1_0,.int .i64 a1_1,.int .i64 a1_2,.bool a1_3,.slice A1_4 l1_4.length c1_4] 61 (0,0)) (bk BK106) hb);have n2_:=bs hb;clear BK105;clear BK106;clear HB;have BK105:=n0_;have BK106:=n1_;have HB:=n2_;clear n0_ n1_ n2_;(try clear hb);(try clear hb2);(try clear hk);(try clear hi);have hcz22_0:w21.cell? ⟨gb105,0,none⟩=some (.int .i64 a0_0):=(blk_cell BK105.out 0).trans rfl;have hcz22_1:w21.cell? ⟨gb105,1,none⟩=some (.int .i64 a0_1):=(blk_cell BK105.out 1).trans rfl;have hcz22_2:w21.cell? ⟨gb105,2,none⟩=some (.int .i64 a0_2):=(blk_cell BK105.out 2).trans rfl;have hcz22_3:w21.cell? ⟨gb105,3,none⟩=some (.bool a0_3):=(blk_cell BK105.out 3).trans rfl;have hcz22_4:w21.cell? ⟨gb105,4,none⟩=some (.slice A0_4 l0_4.length c0_4):=(blk_cell BK105.out 4).trans rfl;have hfz22_0:=blk_frozen BK105.out 0;have hfz22_1:=blk_frozen BK105.out 1;have hfz22_2:=blk_frozen BK105.out 2;have hfz22_3:=blk_frozen BK105.out 3;have hfz22_4:=blk_frozen BK105.out 4;have hcz23_0:w21.cell? ⟨gb106,0,none⟩=some (.int .i64 a1_0):=(blk_cell BK106.out 0).trans rfl;have hcz23_1:w21.cell? ⟨gb106,1,none⟩=some (.int .i64 a1_1):=(blk_cell BK106.out 1).trans rfl;have hcz23_2:w21.cell? ⟨gb106,2,none⟩=some (.int .i64 a1_2):=(blk_cell BK106.out 2).trans rfl;have hcz23_3:w21.cell? ⟨gb106,3,none⟩=some (.bool a1_3):=(blk_cell BK106.out 3).trans rfl;have hcz23_4:w21.cell? ⟨gb106,4,none⟩=some (.slice A1_4 l1_4.length c1_4):=(blk_cell BK106.out 4).trans rfl;have hfz23_0:=blk_frozen BK106.out 0;have hfz23_1:=blk_frozen BK106.out 1;have hfz23_2:=blk_frozen BK106.out 2;have hfz23_3:=blk_frozen BK106.out 3;have hfz23_4:=blk_frozen BK106.out 4)|((with_reducible refine gate_callee (f:=38) rfl ?_);refine goesL_ (some 20) rfl rfl Try.func38 (by kernel_rfl) rfl #[.slice A0_4 l0_4.length c0_4,.slice A1_4 l1_4.length c1_4] rfl (by (try simp only [List.map_toArray,List.map_cons,List.map_nil]);first|done|rfl|(simp only [List.length_drop,List.length_take];rfl)) ?_;(with_reducible refine (laws_eqByteS.calls k _ _ l0_4 _ _ l1_4 true _ ?side1 ?side2 ?side3 ?side4 A14.out).mono ?_);(case side1=>exact rC HR0_4);(case side2=>exact HC0_4.out);(case side3=>exact rC HR1_4);(case side4=>exact HC1_4.out);rintro e w' ⟨rfl,⟨nd,rfl⟩⟩;refine ⟨_,rfl,?_⟩))
    go_ret
    exact ⟨rz,be⟩
   ·replace c15:=Bool.eq_false_iff.mpr c15
    subst c15
    replace H:=(if_neg (show ¬ (false=true) by decide)).symm.trans H
    obtain rfl:=Option.some.inj H
    go_enter Try.func39,Try.ntmps39
    go_wp2_with (first|((with_reducible refine gate_dst (N:=2) rfl ?_);refine box_event ?hg (N:=2) ?hd (cs:=#[.int .i64 a0_0,.int .i64 a0_1,.int .i64 a0_2,.bool a0_3,.slice A0_4 l0_4.length c0_4]) (t:=61) ?hr ?_;(case hd=>rfl);(case hg=>rfl);(case hr=>first|(go_simp;done)|(go_simp;rfl));intro gb105 hg w24 hbox hb;have n0_:=bs hb;have n1_:=Aside0.mk (hbox);have n2_:=Aside0.mk ((by rw [hg];exact (below_size be):w.heap.size≤gb105));have n3_:=Aside0.mk ((by rw [hg];exact (below_size be):w.heap.size≤gb105));clear HB;have HB:=n0_;have BK105:=n1_;have GW105:=n2_;have GE105:=n3_;clear n0_ n1_ n2_ n3_;clear hb hbox hg)|((with_reducible refine gate_dst (N:=3) rfl ?_);refine box_event ?hg (N:=3) ?hd (cs:=#[.int .i64 a1_0,.int .i64 a1_1,.int .i64 a1_2,.bool a1_3,.slice A1_4 l1_4.length c1_4]) (t:=61) ?hr ?_;(case hd=>rfl);(case hg=>rfl);(case hr=>first|(go_simp;done)|(go_simp;rfl));intro gb106 hg w25 hbox hb;have n0_:=Aside0.mk (blk_below (g:=gb105) (o:=.cells #[.int .i64 a0_0,.int .i64 a0_1,.int .i64 a0_2,.bool a0_3,.slice A0_4 l0_4.length c0_4] 61 (0,0)) (bk BK105) hb);have n1_:=bs hb;have n2_:=Aside0.mk (hbox);have n3_:=Aside0.mk ((by rw [hg];exact (below_size be):w.heap.size≤gb106));have n4_:=Aside0.mk ((by rw [hg];exact (below_size be):w.heap.size≤gb106));have n5_:=Aside0.mk ((by rw [hg];exact Nat.ne_of_lt (blk_lt (g:=gb105) (o:=.cells #[.int .i64 a0_0,.int .i64 a0_1,.int .i64 a0_2,.bool a0_3,.slice A0_4 l0_4.length c0_4] 61 (0,0)) (bk BK105)):gb105 ≠ gb106));have n6_:=Aside0.mk ((by rw [hg];exact Nat.ne_of_gt (blk_lt (g:=gb105) (o:=.cells #[.int .i64 a0_0,.int .i64 a0_1,.int .i64 a0_2,.bool a0_3,.slice A0_4 l0_4.length c0_4] 61 (0,0)) (bk BK105)):gb106 ≠ gb105));clear BK105;clear HB;have BK105:=n0_;have HB:=n1_;have BK106:=n2_;have GW106:=n3_;have GE106:=n4_;have NB105_106:=n5_;have NB106_105:=n6_;clear n0_ n1_ n2_ n3_ n4_ n5_ n6_;clear hb hbox hg;have hnb26:=NB105_106.out;have hnc26:=NB106_105.out;have hcz27_0:w25.cell? ⟨gb105,0,none⟩=some (.int .i64 a0_0):=(blk_cell BK105.out 0).trans rfl;have hcz27_1:w25.cell? ⟨gb105,1,none⟩=some (.int .i64 a0_1):=(blk_cell BK105.out 1).trans rfl;have hcz27_2:w25.cell? ⟨gb105,2,none⟩=some (.int .i64 a0_2):=(blk_cell BK105.out 2).trans rfl;have hcz27_3:w25.cell? ⟨gb105,3,none⟩=some (.bool a0_3):=(blk_cell BK105.out 3).trans rfl;have hcz27_4:w25.cell? ⟨gb105,4,none⟩=some (.slice A0_4 l0_4.length c0_4):=(blk_cell BK105.out 4).trans rfl;have hfz27_0:=blk_frozen BK105.out 0;have hfz27_1:=blk_frozen BK105.out 1;have hfz27_2:=blk_frozen BK105.out 2;have hfz27_3:=blk_frozen BK105.out 3;have hfz27_4:=blk_frozen BK105.out 4;have hcz28_0:w25.cell? ⟨gb106,0,none⟩=some (.int .i64 a1_0):=(blk_cell BK106.out 0).trans rfl;have hcz28_1:w25.cell? ⟨gb106,1,none⟩=some (.int .i64 a1_1):=(blk_cell BK106.out 1).trans rfl;have hcz28_2:w25.cell? ⟨gb106,2,none⟩=some (.int .i64 a1_2):=(blk_cell BK106.out 2).trans rfl;have hcz28_3:w25.cell? ⟨gb106,3,none⟩=some (.bool a1_3):=(blk_cell BK106.out 3).trans rfl;have hcz28_4:w25.cell? ⟨gb106,4,none⟩=some (.slice A1_4 l1_4.length c1_4):=(blk_cell BK106.out 4).trans rfl;have hfz28_0:=blk_frozen BK106.out 0;have hfz28_1:=blk_frozen BK106.out 1;have hfz28_2:=blk_frozen BK106.out 2;have hfz28_3:=blk_frozen BK106.out 3;have hfz28_4:=blk_frozen BK106.out 4)|((with_reducible refine gate_callee (f:=96) rfl ?_);refine goesL_ (some 9) rfl rfl Try.func96 (by kernel_rfl) rfl #[.agg #[.int .i64 a0_0,.int .i64 a0_1,.int .i64 a0_2],.agg #[.int .i64 a1_0,.int .i64 a1_1,.int .i64 a1_2]] rfl (by (try simp only [List.map_toArray,List.map_cons,List.map_nil]);first|done|rfl|(simp only [List.length_drop,List.length_take];rfl)) ?_;(with_reducible refine (laws_eqStamp.calls a0_0 a0_1 a0_2 a1_0 a1_1 a1_2 true _ A3.out).mono ?_);rintro e w29 ⟨rfl,hb⟩;refine ⟨_,rfl,?_⟩;have n0_:=Aside0.mk (blk_below (g:=gb105) (o:=.cells #[.int .i64 a0_0,.int .i64 a0_1,.int .i64 a0_2,.bool a0_3,.slice A0_4 l0_4.length c0_4] 61 (0,0)) (bk BK105) hb);have n1_:=Aside0.mk (blk_below (g:=gb106) (o:=.cells #[.int .i64 a1_0,.int .i64 a1_1,.int .i64 a1_2,.bool a1_3,.slice A1_4 l1_4.length c1_4] 61 (0,0)) (bk BK106) hb);have n2_:=bs hb;clear BK105;clear BK106;clear HB;have BK105:=n0_;have BK106:=n1_;have HB:=n2_;clear n0_ n1_ n2_;(try clear hb);(try clear hb2);(try clear hk);(try clear hi);have hcz30_0:w29.cell? ⟨gb105,0,none⟩=some (.int .i64 a0_0):=(blk_cell BK105.out 0).trans rfl;have hcz30_1:w29.cell? ⟨gb105,1,none⟩=some (.int .i64 a0_1):=(blk_cell BK105.out 1).trans rfl;have hcz30_2:w29.cell? ⟨gb105,2,none⟩=some (.int .i64 a0_2):=(blk_cell BK105.out 2).trans rfl;have hcz30_3:w29.cell? ⟨gb105,3,none⟩=some (.bool a0_3):=(blk_cell BK105.out 3).trans rfl;have hcz30_4:w29.cell? ⟨gb105,4,none⟩=some (.slice A0_4 l0_4.length c0_4):=(blk_cell BK105.out 4).trans rfl;have hfz30_0:=blk_frozen BK105.out 0;have hfz30_1:=blk_frozen BK105.out 1;have hfz30_2:=blk_frozen BK105.out 2;have hfz30_3:=blk_frozen BK105.out 3;have hfz30_4:=blk_frozen BK105.out 4;have hcz31_0:w29.cell? ⟨gb106,0,none⟩=some (.int .i64 a1_0):=(blk_cell BK106.out 0).trans rfl;have hcz31_1:w29.cell? ⟨gb106,1,none⟩=some (.int .i64 a1_1):=(blk_cell BK106.out 1).trans rfl;have hcz31_2:w29.cell? ⟨gb106,2,none⟩=some (.int .i64 a1_2):=(blk_cell BK106.out 2).trans rfl;have hcz31_3:w29.cell? ⟨gb106,3,none⟩=some (.bool a1_3):=(blk_cell BK106.out 3).trans rfl;have hcz31_4:w29.cell? ⟨gb106,4,none⟩=some (.slice A1_4 l1_4.length c1_4):=(blk_cell BK106.out 4).trans rfl;have hfz31_0:=blk_frozen BK106.out 0;have hfz31_1:=blk_frozen BK106.out 1;have hfz31_2:=blk_frozen BK106.out 2;have hfz31_3:=blk_frozen BK106.out 3;have hfz31_4:=blk_frozen BK106.out 4)|((with_reducible refine gate_callee (f:=38) rfl ?_);refine goesL_ (some 20) rfl rfl Try.func38 (by kernel_rfl) rfl #[.slice A0_4 l0_4.length c0_4,.slice A1_4 l1_4.length c1_4] rfl (by (try simp only [List.map_toArray,List.map_cons,List.map_nil]);first|done|rfl|(simp only [List.length_drop,List.length_take];rfl)) ?_;(with_reducible refine (laws_eqByteS.calls k _ _ l0_4 _ _ l1_4 false _ ?side1 ?side2 ?side3 ?side4 A14.out).mono ?_);(case side1=>exact rC HR0_4);(case side2=>exact HC0_4.out);(case side3=>exact rC HR1_4);(case side4=>exact HC1_4.out);rintro e w' ⟨rfl,⟨nd,rfl⟩⟩;refine ⟨_,rfl,?_⟩))
    go_ret
    exact ⟨rz,be⟩
 ·replace c4:=Bool.eq_false_iff.mpr c4
  subst c4
  replace H:=(if_neg (show ¬ (false=true) by decide)).symm.trans H
  obtain rfl:=Option.some.inj H
  go_enter Try.func39,Try.ntmps39
  go_wp2_with (first|((with_reducible refine gate_dst (N:=2) rfl ?_);refine box_event ?hg (N:=2) ?hd (cs:=#[.int .i64 a0_0,.int .i64 a0_1,.int .i64 a0_2,.bool a0_3,.slice A0_4 l0_4.length c0_4]) (t:=61) ?hr ?_;(case hd=>rfl);(case hg=>rfl);(case hr=>first|(go_simp;done)|(go_simp;rfl));intro gb105 hg w32 hbox hb;have n0_:=bs hb;have n1_:=Aside0.mk (hbox);have n2_:=Aside0.mk ((by rw [hg];exact (below_size be):w.heap.size≤gb105));have n3_:=Aside0.mk ((by rw [hg];exact (below_size be):w.heap.size≤gb105));clear HB;have HB:=n0_;have BK105:=n1_;have GW105:=n2_;have GE105:=n3_;clear n0_ n1_ n2_ n3_;clear hb hbox hg)|((with_reducible refine gate_dst (N:=3) rfl ?_);refine box_event ?hg (N:=3) ?hd (cs:=#[.int .i64 a1_0,.int .i64 a1_1,.int .i64 a1_2,.bool a1_3,.slice A1_4 l1_4.length c1_4]) (t:=61) ?hr ?_;(case hd=>rfl);(case hg=>rfl);(case hr=>first|(go_simp;done)|(go_simp;rfl));intro gb106 hg w33 hbox hb;have n0_:=Aside0.mk (blk_below (g:=gb105) (o:=.cells #[.int .i64 a0_0,.int .i64 a0_1,.int .i64 a0_2,.bool a0_3,.slice A0_4 l0_4.length c0_4] 61 (0,0)) (bk BK105) hb);have n1_:=bs hb;have n2_:=Aside0.mk (hbox);have n3_:=Aside0.mk ((by rw [hg];exact (below_size be):w.heap.size≤gb106));have n4_:=Aside0.mk ((by rw [hg];exact (below_size be):w.heap.size≤gb106));have n5_:=Aside0.mk ((by rw [hg];exact Nat.ne_of_lt (blk_lt (g:=gb105) (o:=.cells #[.int .i64 a0_0,.int .i64 a0_1,.int .i64 a0_2,.bool a0_3,.slice A0_4 l0_4.length c0_4] 61 (0,0)) (bk BK105)):gb105 ≠ gb106));have n6_:=Aside0.mk ((by rw [hg];exact Nat.ne_of_gt (blk_lt (g:=gb105) (o:=.cells #[.int .i64 a0_0,.int .i64 a0_1,.int .i64 a0_2,.bool a0_3,.slice A0_4 l0_4.length c0_4] 61 (0,0)) (bk BK105)):gb106 ≠ gb105));clear BK105;clear HB;have BK105:=n0_;have HB:=n1_;have BK106:=n2_;have GW106:=n3_;have GE106:=n4_;have NB105_106:=n5_;have NB106_105:=n6_;clear n0_ n1_ n2_ n3_ n4_ n5_ n6_;clear hb hbox hg;have hnb34:=NB105_106.out;have hnc34:=NB106_105.out;have hcz35_0:w33.cell? ⟨gb105,0,none⟩=some (.int .i64 a0_0):=(blk_cell BK105.out 0).trans rfl;have hcz35_1:w33.cell? ⟨gb105,1,none⟩=some (.int .i64 a0_1):=(blk_cell BK105.out 1).trans rfl;have hcz35_2:w33.cell? ⟨gb105,2,none⟩=some (.int .i64 a0_2):=(blk_cell BK105.out 2).trans rfl;have hcz35_3:w33.cell? ⟨gb105,3,none⟩=some (.bool a0_3):=(blk_cell BK105.out 3).trans rfl;have hcz35_4:w33.cell? ⟨gb105,4,none⟩=some (.slice A0_4 l0_4.length c0_4):=(blk_cell BK105.out 4).trans rfl;have hfz35_0:=blk_frozen BK105.out 0;have hfz35_1:=blk_frozen BK105.out 1;have hfz35_2:=blk_frozen BK105.out 2;have hfz35_3:=blk_frozen BK105.out 3;have hfz35_4:=blk_frozen BK105.out 4;have hcz36_0:w33.cell? ⟨gb106,0,none⟩=some (.int .i64 a1_0):=(blk_cell BK106.out 0).trans rfl;have hcz36_1:w33.cell? ⟨gb106,1,none⟩=some (.int .i64 a1_1):=(blk_cell BK106.out 1).trans rfl;have hcz36_2:w33.cell? ⟨gb106,2,none⟩=some (.int .i64 a1_2):=(blk_cell BK106.out 2).trans rfl;have hcz36_3:w33.cell? ⟨gb106,3,none⟩=some (.bool a1_3):=(blk_cell BK106.out 3).trans rfl;have hcz36_4:w33.cell? ⟨gb106,4,none⟩=some (.slice A1_4 l1_4.length c1_4):=(blk_cell BK106.out 4).trans rfl;have hfz36_0:=blk_frozen BK106.out 0;have hfz36_1:=blk_frozen BK106.out 1;have hfz36_2:=blk_frozen BK106.out 2;have hfz36_3:=blk_frozen BK106.out 3;have hfz36_4:=blk_frozen BK106.out 4)|((with_reducible refine gate_callee (f:=96) rfl ?_);refine goesL_ (some 9) rfl rfl Try.func96 (by kernel_rfl) rfl #[.agg #[.int .i64 a0_0,.int .i64 a0_1,.int .i64 a0_2],.agg #[.int .i64 a1_0,.int .i64 a1_1,.int .i64 a1_2]] rfl (by (try simp only [List.map_toArray,List.map_cons,List.map_nil]);first|done|rfl|(simp only [List.length_drop,List.length_take];rfl)) ?_;(with_reducible refine (laws_eqStamp.calls a0_0 a0_1 a0_2 a1_0 a1_1 a1_2 false _ A3.out).mono ?_);rintro e w37 ⟨rfl,hb⟩;refine ⟨_,rfl,?_⟩;have n0_:=Aside0.mk (blk_below (g:=gb105) (o:=.cells #[.int .i64 a0_0,.int .i64 a0_1,.int .i64 a0_2,.bool a0_3,.slice A0_4 l0_4.length c0_4] 61 (0,0)) (bk BK105) hb);have n1_:=Aside0.mk (blk_below (g:=gb106) (o:=.cells #[.int .i64 a1_0,.int .i64 a1_1,.int .i64 a1_2,.bool a1_3,.slice A1_4 l1_4.length c1_4] 61 (0,0)) (bk BK106) hb);have n2_:=bs hb;clear BK105;clear BK106;clear HB;have BK105:=n0_;have BK106:=n1_;have HB:=n2_;clear n0_ n1_ n2_;(try clear hb);(try clear hb2);(try clear hk);(try clear hi)))
  go_ret
  exact ⟨rz,be⟩
def laws_markByteS.l0:Nat→List Int→Int→Int→Option (Int × List Int)
 | 0,_,_,_=>none
 | k+1,x0,x1,x5=>if x5 < (x0.length:Int) then (if 0≤x5 then (laws_markByteS.l0 k (x0.set (x5:Int).toNat ((x1) % 256)) (wrap64 (x1+1)) (wrap64 (x5+1))) else (none)) else (some (x1,x0))
def laws_markByteS.f (k:Nat) (l0:List Int) (a1:Int):Option (Int × List Int):=laws_markByteS.l0 k l0 a1 0
set_option maxHeartbeats 8000000 in
set_option maxRecDepth 100000 in
theorem laws_markByteS.calls (k:Nat) (P0_:Nat→Prop) (u9000_:Value) (l0:List Int) (a1:Int) (r1:Int) (r2:List Int) (w0 w:World) (hB:Below w0.heap.size w0 w) (ho0:Kd.R (Kd.int .u8) 5 w w0.heap.size P0_ u9000_ l0) (h:laws_markByteS.f k l0 a1=some (r1,r2)) :
  Calls Try.prog 41 #[u9000_,.int .i64 a1] w fun e w'=>e = .returned (.int .i64 r1)∧Kd.R (Kd.int .u8) 5 w' w0.heap.size (fun k_=>(P0_ k_ ∨ w.heap.size≤k_)) u9000_ r2∧Below w0.heap.size w0 w' ∧ Kept w w' (fun k_=>P0_ k_):=by
 have HO0:=Aside0.mk (show Kd.R (Kd.int .u8) 5 w w0.heap.size (fun k_=>(P0_ k_ ∨ w.heap.size≤k_)) u9000_ l0 from Kd.R_mono ho0 (fun k_ hk=>(.inl hk)))
 have HK:=Aside0.mk (Kept.refl w (fun k_=>P0_ k_))
 have HW0:=Aside0.mk hB.size
 have HB:=Aside0.mk hB
 clear hB
 have H:(laws_markByteS.l0 k l0 a1 0)=some (r1,r2):=h
 clear h
 have H':=Aside0.mk H
 clear H
 go_enter Try.func41,Try.ntmps41
 go_wp2
 go_loopg [1,5] k (fun kq v1 v5 w'=>∃ (x0_1:List Int) (x1_1:Int) (x5_1:Int),v1 = .int .i64 x1_1∧v5 = .int .i64 x5_1∧Aside0 (laws_markByteS.l0 kq x0_1 x1_1 x5_1=some (r1,r2))∧Aside0 (kq≤k)∧Aside0 (Kd.R (Kd.int .u8) 5 w' w0.heap.size (fun k_=>(P0_ k_ ∨ w.heap.size≤k_)) u9000_ x0_1)∧Aside0 (Kept w w' (fun k_=>P0_ k_))∧Aside0 (Below w0.heap.size w0 w'))
 case atStart=>exact ⟨(l0),(a1),(0),rd_,rd_,H',⟨Nat.le_refl _⟩,⟨rR HO0⟩,⟨by repeat (first|(with_reducible first|exact HK.out|apply Kept.alloc|apply Kept.drewN|apply Kept.drew)|exact HK.out)⟩,⟨be⟩⟩
 case round=>
  clear H'
  try clear p2
  obtain ⟨x0_1,x1_1,x5_1,rfl,rfl,HA,HK1,HO_0,HK,HB⟩:=hrel
  cases gk with
  | zero=>exact absurd HA.out (by simp [laws_markByteS.l0])
  | succ k1=>
   have H:=HA.out
   clear HA
   simp only [laws_markByteS.l0] at H
   by_cases c3:x5_1 < (x0_1.length:Int)
   ·rw [if_pos c3] at H
    have c3b0:decide (x5_1 < (x0_1.length:Int))=true:=decide_eq_true c3
    clear c3
    by_cases c4:0≤x5_1
    ·rw [if_pos c4] at H
     have c4b0:decide (0≤x5_1)=true:=decide_eq_true c4
     clear c4
     obtain ⟨y109,hy109⟩ : ∃ y_:List Int,y_=(x0_1.set (x5_1:Int).toNat ((x1_1) % 256)):=⟨_,rfl⟩
     replace H:(laws_markByteS.l0 k1 y109 (wrap64 (x1_1+1)) (wrap64 (x5_1+1)))=some (r1,r2):=by first|(rw [hy109];with_reducible exact H)|(have H2_:=(Option.bind_some _ _).symm.trans H;rw [hy109];with_reducible exact H2_)|(have H2_:=(Option.bind_some _ _).symm.trans H;with_reducible exact H2_)|with_reducible exact H|(rw [hy109];exact H)|exact H
     have Ny109:=Aside0.mk hy109
     clear hy109
     have H':=Aside0.mk H
     clear H
     obtain ⟨Ao6,co6,eo6⟩:=Kd.R_slice HO_0.out
     subst eo6
     have p5:0≤(x5_1:Int):=of_decide_eq_true (by first|(with_reducible assumption)|assumption)
     have q5:(x5_1:Int) < ((x0_1.length:Int):Int):=of_decide_eq_true (by first|(with_reducible assumption)|assumption)
     obtain ⟨go5,co5,eo5,gb5,gl5,cl5,HG5⟩:=Kd.R_form HO_0.out (by omega)
     (first|cases eo5|(injection eo5 with ea_ en_ ec_;(first|subst ea_|(injection ea_ with ea_;subst ea_));subst ec_;clear en_))
     have GB5:=Aside0.mk gb5
     have GG5:=Aside0.mk HG5
     clear gb5 gl5 HG5
     have HMgo5:=Aside0.mk (show (P0_ go5 ∨ w.heap.size≤go5) from (HO_0.out.1 _ rfl))
     obtain ⟨hx5_0,hf5_0⟩:=Kd.R_celln 0 HO_0.out (x5_1:Int) p5 q5
     replace p5:=eq_true p5
     replace q5:=eq_true q5
     have HP7:=Kd.R_putg HO_0.out (x5_1:Int) ((x1_1) % 256)
     go_wp2_with (first|((with_reducible refine gate_store (t:=5) (p:=16) rfl ?_);refine store_event (t:=5) (p:=16) (v:=?vo_w8) (w1:=(wr.setCell ⟨go5,(x5_1:Int).toNat,none⟩ (.int .u8 ((x1_1) % 256)))) ?hg ?ho ?hn ?hr ?_;(case ho=>rfl);(case hg=>rfl);(case hn=>rfl);(case hr=>first|(go_simp;done)|(go_simp;rfl));intro w8 hw;have hg:wr.grownBy w8 (some go5):=(by rw [hw];exact HP7.2);have hp_:Kd.R (Kd.int .u8) 5 w8 w0.heap.size (fun k_=>(P0_ k_ ∨ w.heap.size≤k_)) (.slice (some ⟨go5,0,none⟩) x0_1.length co6) y109:=(by rw [hw,Ny109.out];exact HP7.1);clear HP7;have n0_:=Aside0.mk (hp_);have n1_:=Aside0.mk ((by rw [hw];exact below_set (HB.out) GB5.out:Below w0.heap.size w0 w8));have n2_:=Aside0.mk (Kept.of_grown (S:=(fun k_=>P0_ k_)) hg (by repeat (first|(with_reducible first|exact HK.out|apply Kept.alloc|apply Kept.drewN|apply Kept.drew)|exact HK.out)) (fun k_ e_=>(HO_0.out.1 k_ e_)));clear HO_0;clear HB;clear HK;have HO_0:=n0_;have HB:=n1_;have HK:=n2_;clear n0_ n1_ n2_;clear hg hw hp_))
     go_roundg k1
     case measure=>have:=HK1.out;omega
     case rel=>exact ⟨(y109),(wrap64 (x1_1+1)),(wrap64 (x5_1+1)),rd_,rd_,H',⟨by have:=HK1.out;omega⟩,⟨rR HO_0⟩,⟨by repeat (first|(with_reducible first|exact HK.out|apply Kept.alloc|apply Kept.drewN|apply Kept.drew)|exact HK.out)⟩,⟨be⟩⟩
    ·rw [if_neg c4] at H
     exact absurd H (by simp)
   ·rw [if_neg c3] at H
    have c3b0:decide (x5_1 < (x0_1.length:Int))=false:=decide_eq_false c3
    clear c3
    simp only [Option.some.injEq,Prod.mk.injEq] at H
    obtain ⟨rfl,rfl⟩:=H
    obtain ⟨Ao9,co9,eo9⟩:=Kd.R_slice HO_0.out
    subst eo9
    go_wp2
    go_ret
    exact ⟨rz,rR HO_0,be,by repeat (first|(with_reducible first|exact HK.out|apply Kept.alloc|apply Kept.drewN|apply Kept.drew)|exact HK.out)⟩
set_option maxHeartbeats 8000000 in
set_option maxRecDepth 100000 in
theorem laws_markByteS.callsX (k:Nat) (P0_:Nat→Prop) (u9000_:Value) (l0:List Int) (a1:Int) (r1:Int) (r2:List Int) (w0 w:World) (hB:Below w0.heap.size w0 w) (ho0:Kd.X (Kd.int .u8) 5 w w0.heap.size P0_ u9000_ l0) (h:laws_markByteS.f k l0 a1=some (r1,r2)) :
  Calls Try.prog 41 #[u9000_,.int .i64 a1] w fun e w'=>e = .returned (.int .i64 r1)∧Kd.X (Kd.int .u8) 5 w' w0.heap.size (fun k_=>(P0_ k_ ∨ w.heap.size≤k_)) u9000_ r2∧Below w0.heap.size w0 w' ∧ Kept w w' (fun k_=>P0_ k_):=by
 have HO0:=Aside0.mk (show Kd.X (Kd.int .u8) 5 w w0.heap.size (fun k_=>(P0_ k_ ∨ w.heap.size≤k_)) u9000_ l0 from Kd.X_mono ho0 (fun k_ hk=>(.inl hk)))
 have HK:=Aside0.mk (Kept.refl w (fun k_=>P0_ k_))
 have HW0:=Aside0.mk hB.size
 have HB:=Aside0.mk hB
 clear hB
 have H:(laws_markByteS.l0 k l0 a1 0)=some (r1,r2):=h
 clear h
 have H':=Aside0.mk H
 clear H
 go_enter Try.func41,Try.ntmps41
 go_wp2
 go_loopg [1,5] k (fun kq v1 v5 w'=>∃ (x0_1:List Int) (x1_1:Int) (x5_1:Int),v1 = .int .i64 x1_1∧v5 = .int .i64 x5_1∧Aside0 (laws_markByteS.l0 kq x0_1 x1_1 x5_1=some (r1,r2))∧Aside0 (kq≤k)∧Aside0 (Kd.X (Kd.int .u8) 5 w' w0.heap.size (fun k_=>(P0_ k_ ∨ w.heap.size≤k_)) u9000_ x0_1)∧Aside0 (Kept w w' (fun k_=>P0_ k_))∧Aside0 (Below w0.heap.size w0 w'))
 case atStart=>exact ⟨(l0),(a1),(0),rd_,rd_,H',⟨Nat.le_refl _⟩,⟨rX HO0⟩,⟨by repeat (first|(with_reducible first|exact HK.out|apply Kept.alloc|apply Kept.drewN|apply Kept.drew)|exact HK.out)⟩,⟨be⟩⟩
 case round=>
  clear H'
  try clear p2
  obtain ⟨x0_1,x1_1,x5_1,rfl,rfl,HA,HK1,HO_0,HK,HB⟩:=hrel
  cases gk with
  | zero=>exact absurd HA.out (by simp [laws_markByteS.l0])
  | succ k1=>
   have H:=HA.out
   clear HA
   simp only [laws_markByteS.l0] at H
   by_cases c3:x5_1 < (x0_1.length:Int)
   ·rw [if_pos c3] at H
    have c3b0:decide (x5_1 < (x0_1.length:Int))=true:=decide_eq_true c3
    clear c3
    by_cases c4:0≤x5_1
    ·rw [if_pos c4] at H
     have c4b0:decide (0≤x5_1)=true:=decide_eq_true c4
     clear c4
     obtain ⟨y109,hy109⟩ : ∃ y_:List Int,y_=(x0_1.set (x5_1:Int).toNat ((x1_1) % 256)):=⟨_,rfl⟩
     replace H:(laws_markByteS.l0 k1 y109 (wrap64 (x1_1+1)) (wrap64 (x5_1+1)))=some (r1,r2):=by first|(rw [hy109];with_reducible exact H)|(have H2_:=(Option.bind_some _ _).symm.trans H;rw [hy109];with_reducible exact H2_)|(have H2_:=(Option.bind_some _ _).symm.trans H;with_reducible exact H2_)|with_reducible exact H|(rw [hy109];exact H)|exact H
     have Ny109:=Aside0.mk hy109
     clear hy109
     have H':=Aside0.mk H
     clear H
     obtain ⟨Ao6,co6,eo6⟩:=Kd.X_slice HO_0.out
     subst eo6
     have p5:0≤(x5_1:Int):=of_decide_eq_true (by first|(with_reducible assumption)|assumption)
     have q5:(x5_1:Int) < ((x0_1.length:Int):Int):=of_decide_eq_true (by first|(with_reducible assumption)|assumption)
     obtain ⟨go5,co5,eo5,gb5,gl5,cl5,HG5⟩:=Kd.X_form HO_0.out (by omega)
     (first|cases eo5|(injection eo5 with ea_ en_ ec_;(first|subst ea_|(injection ea_ with ea_;subst ea_));subst ec_;clear en_))
     have GB5:=Aside0.mk gb5
     have GG5:=Aside0.mk HG5
     clear gb5 gl5 HG5
     have HMgo5:=Aside0.mk (show (P0_ go5 ∨ w.heap.size≤go5) from (HO_0.out.1 _ rfl))
     obtain ⟨hx5_0,hf5_0⟩:=Kd.X_celln 0 HO_0.out (x5_1:Int) p5 q5
     replace p5:=eq_true p5
     replace q5:=eq_true q5
     have HP7:=Kd.X_putg HO_0.out (x5_1:Int) ((x1_1) % 256)
     go_wp2_with (first|((with_reducible refine gate_store (t:=5) (p:=16) rfl ?_);refine store_event (t:=5) (p:=16) (v:=?vo_w8) (w1:=(wr.setCell ⟨go5,(x5_1:Int).toNat,none⟩ (.int .u8 ((x1_1) % 256)))) ?hg ?ho ?hn ?hr ?_;(case ho=>rfl);(case hg=>rfl);(case hn=>rfl);(case hr=>first|(go_simp;done)|(go_simp;rfl));intro w8 hw;have hg:wr.grownBy w8 (some go5):=(by rw [hw];exact HP7.2);have hp_:Kd.X (Kd.int .u8) 5 w8 w0.heap.size (fun k_=>(P0_ k_ ∨ w.heap.size≤k_)) (.slice (some ⟨go5,0,none⟩) x0_1.length co6) y109:=(by rw [hw,Ny109.out];exact HP7.1);clear HP7;have n0_:=Aside0.mk (hp_);have n1_:=Aside0.mk ((by rw [hw];exact below_set (HB.out) GB5.out:Below w0.heap.size w0 w8));have n2_:=Aside0.mk (Kept.of_grown (S:=(fun k_=>P0_ k_)) hg (by repeat (first|(with_reducible first|exact HK.out|apply Kept.alloc|apply Kept.drewN|apply Kept.drew)|exact HK.out)) (fun k_ e_=>(HO_0.out.1 k_ e_)));clear HO_0;clear HB;clear HK;have HO_0:=n0_;have HB:=n1_;have HK:=n2_;clear n0_ n1_ n2_;clear hg hw hp_))
     go_roundg k1
     case measure=>have:=HK1.out;omega
     case rel=>exact ⟨(y109),(wrap64 (x1_1+1)),(wrap64 (x5_1+1)),rd_,rd_,H',⟨by have:=HK1.out;omega⟩,⟨rX HO_0⟩,⟨by repeat (first|(with_reducible first|exact HK.out|apply Kept.alloc|apply Kept.drewN|apply Kept.drew)|exact HK.out)⟩,⟨be⟩⟩
    ·rw [if_neg c4] at H
     exact absurd H (by simp)
   ·rw [if_neg c3] at H
    have c3b0:decide (x5_1 < (x0_1.length:Int))=false:=decide_eq_false c3
    clear c3
    simp only [Option.some.injEq,Prod.mk.injEq] at H
    obtain ⟨rfl,rfl⟩:=H
    obtain ⟨Ao9,co9,eo9⟩:=Kd.X_slice HO_0.out
    subst eo9
    go_wp2
    go_ret
    exact ⟨rz,rX HO_0,be,by repeat (first|(with_reducible first|exact HK.out|apply Kept.alloc|apply Kept.drewN|apply Kept.drew)|exact HK.out)⟩
def laws_markFile.f (k:Nat) (a0_0:Int) (a0_1:Int) (a0_2:Int) (a0_3:Bool) (l0_4:List Int) (a1:Int):Option (Int × List Int):=(laws_markByteS.f k l0_4 a1).bind fun bt111=>(some (bt111.1,bt111.2))
set_option maxHeartbeats 8000000 in
set_option maxRecDepth 100000 in
theorem laws_markFile.callsX (k:Nat) (a0_0:Int) (a0_1:Int) (a0_2:Int) (a0_3:Bool) (P0_4_:Nat→Prop) (u9000_:Value) (l0_4:List Int) (a1:Int) (r1:Int) (r2:List Int) (w0 w:World) (hB:Below w0.heap.size w0 w) (ho0_4:Kd.X (Kd.int .u8) 5 w w0.heap.size P0_4_ u9000_ l0_4) (h:laws_markFile.f k a0_0 a0_1 a0_2 a0_3 l0_4 a1=some (r1,r2)) :
  Calls Try.prog 40 #[.agg #[.int .i64 a0_0,.int .i64 a0_1,.int .i64 a0_2,.bool a0_3,u9000_],.int .i64 a1] w fun e w'=>e = .returned (.int .i64 r1)∧Kd.X (Kd.int .u8) 5 w' w0.heap.size (fun k_=>(P0_4_ k_ ∨ w.heap.size≤k_)) u9000_ r2∧Below w0.heap.size w0 w' ∧ Kept w w' (fun k_=>P0_4_ k_):=by
 have hu61:=Try.underlying61
 have HO0_4:=Aside0.mk (show Kd.X (Kd.int .u8) 5 w w0.heap.size (fun k_=>(P0_4_ k_ ∨ w.heap.size≤k_)) u9000_ l0_4 from Kd.X_mono ho0_4 (fun k_ hk=>(.inl hk)))
 have HK:=Aside0.mk (Kept.refl w (fun k_=>P0_4_ k_))
 have HW0:=Aside0.mk hB.size
 have HB:=Aside0.mk hB
 clear hB
 have H:((laws_markByteS.f k l0_4 a1).bind fun bt111=>(some (bt111.1,bt111.2)))=some (r1,r2):=h
 clear h
 replace H:=Option.bind_eq_some_iff.mp H
 obtain ⟨⟨t111,t112⟩,A30,H⟩:=H
 try dsimp only at H
 have A3:=Aside0.mk A30
 clear A30
 simp only [Option.some.injEq,Prod.mk.injEq] at H
 obtain ⟨rfl,rfl⟩:=H
 obtain ⟨Ao4,co4,eo4⟩:=Kd.X_slice HO0_4.out
 subst eo4
 go_enter Try.func40,Try.ntmps40
 go_wp2_with (first|((with_reducible refine gate_dst (N:=2) rfl ?_);refine box_event ?hg (N:=2) ?hd (cs:=#[.int .i64 a0_0,.int .i64 a0_1,.int .i64 a0_2,.bool a0_3,.slice Ao4 l0_4.length co4]) (t:=61) ?hr ?_;(case hd=>rfl);(case hg=>rfl);(case hr=>first|(go_simp;done)|(go_simp;rfl));intro gb110 hg w5 hbox hb;have n0_:=Aside0.mk (Kd.X_below (rX HO0_4) hb);have n1_:=Aside0.mk (Kept.below (S:=(fun k_=>P0_4_ k_)) (by repeat (first|(with_reducible first|exact HK.out|apply Kept.alloc|apply Kept.drewN|apply Kept.drew)|exact HK.out)) hb);have n2_:=bs hb;have n3_:=Aside0.mk (hbox);have n4_:=Aside0.mk ((by rw [hg];exact (by first|exact HK.out.1|exact (show Kept w _ (fun k_=>P0_4_ k_) from by repeat (first|(with_reducible first|exact HK.out|apply Kept.alloc|apply Kept.drewN|apply Kept.drew)|exact HK.out)).1):w.heap.size≤gb110));have n5_:=Aside0.mk ((by rw [hg];exact (below_size be):w0.heap.size≤gb110));clear HO0_4;clear HK;clear HB;have HO0_4:=n0_;have HK:=n1_;have HB:=n2_;have BK110:=n3_;have GW110:=n4_;have GE110:=n5_;clear n0_ n1_ n2_ n3_ n4_ n5_;clear hb hbox hg;have hcz6_0:w5.cell? ⟨gb110,0,none⟩=some (.int .i64 a0_0):=(blk_cell BK110.out 0).trans rfl;have hcz6_1:w5.cell? ⟨gb110,1,none⟩=some (.int .i64 a0_1):=(blk_cell BK110.out 1).trans rfl;have hcz6_2:w5.cell? ⟨gb110,2,none⟩=some (.int .i64 a0_2):=(blk_cell BK110.out 2).trans rfl;have hcz6_3:w5.cell? ⟨gb110,3,none⟩=some (.bool a0_3):=(blk_cell BK110.out 3).trans rfl;have hcz6_4:w5.cell? ⟨gb110,4,none⟩=some (.slice Ao4 l0_4.length co4):=(blk_cell BK110.out 4).trans rfl;have hfz6_0:=blk_frozen BK110.out 0;have hfz6_1:=blk_frozen BK110.out 1;have hfz6_2:=blk_frozen BK110.out 2;have hfz6_3:=blk_frozen BK110.out 3;have hfz6_4:=blk_frozen BK110.out 4)|((with_reducible refine gate_callee (f:=41) rfl ?_);refine goesL_ (some 8) rfl rfl Try.func41 (by kernel_rfl) rfl #[.slice Ao4 l0_4.length co4,.int .i64 a1] rfl (by (try simp only [List.map_toArray,List.map_cons,List.map_nil]);first|done|rfl|(simp only [List.length_drop,List.length_take];rfl)) ?_;(with_reducible refine (laws_markByteS.callsX k (fun k_=>some k_=(.slice Ao4 l0_4.length co4:Value).ownBlock) (.slice Ao4 l0_4.length co4) l0_4 a1 t111 t112 w0 _ ?side1 ?side2 A3.out).mono ?_);(case side1=>exact be);(case side2=>exact Kd.X_tight rfl HO0_4.out);rintro e w7 ⟨rfl,hy0,hb,hkp⟩;refine ⟨_,rfl,?_⟩;have n0_:=Aside0.mk (Kd.X_reok rfl hy0 (fun k_ e_=>HO0_4.out.1 k_ e_));have n1_:=Aside0.mk (blk_kept (bk BK110) hkp (fun hs_=>(fun e_=>(Kd.X_ne HO0_4.out BK110.out (by decide)) e_) hs_));have n2_:=Aside0.mk (Kept.then_ (S:=(fun k_=>P0_4_ k_)) (by repeat (first|(with_reducible first|exact HK.out|apply Kept.alloc|apply Kept.drewN|apply Kept.drew|refine Kept.setCell ?_ (.inr GW110.out) _)|exact HK.out)) hkp (fun k_ hs_=>(fun e_=>(HO0_4.out.1 k_ e_.symm)) hs_));have n3_:=Aside0.mk (hb);clear HO0_4;clear BK110;clear HK;clear HB;have HO0_4:=n0_;have BK110:=n1_;have HK:=n2_;have HB:=n3_;clear n0_ n1_ n2_ n3_;(try clear hb);(try clear hkp);(try clear hy0)))
 go_ret
 exact ⟨rz,rX HO0_4,be,by repeat (first|(with_reducible first|exact HK.out|apply Kept.alloc|apply Kept.drewN|apply Kept.drew|refine Kept.setCell ?_ (.inr GW110.out) _)|exact HK.out)⟩
def spec_l1In.f (a0:Int) (a1:Int) (a2:Int):Option (Bool):=if a0 ≥ a1 then (some (decide (a0≤a2))) else (some false)
set_option maxHeartbeats 8000000 in
set_option maxRecDepth 100000 in
theorem spec_l1In.calls (a0:Int) (a1:Int) (a2:Int) (r:Bool) (w:World) (h:spec_l1In.f a0 a1 a2=some r) :
  Calls Try.prog 97 #[.int .i64 a0,.int .i64 a1,.int .i64 a2] w fun e w'=>e = .returned (.bool r)∧Drawn0 w w':=by
 have H:(if a0 ≥ a1 then (some (decide (a0≤a2))) else (some false))=some r:=h
 clear h
 by_cases c4:a0 ≥ a1
 ·rw [if_pos c4] at H
  have c4b0:decide (a1≤a0)=true:=decide_eq_true c4
  clear c4
  obtain rfl:=Option.some.inj H
  go_enter Try.func97,Try.ntmps97
  go_wp2
  go_ret
  exact ⟨by first|rfl|(simp;done)|(simp [*];done),by repeat (first|exact Drawn0.refl _|apply Drawn0.step)⟩
 ·rw [if_neg c4] at H
  have c4b0:decide (a1≤a0)=false:=decide_eq_false c4
  clear c4
  obtain rfl:=Option.some.inj H
  go_enter Try.func97,Try.ntmps97
  go_wp2
  go_ret
  exact ⟨by first|rfl|(simp;done)|(simp [*];done),by repeat (first|exact Drawn0.refl _|apply Drawn0.step)⟩
def spec_StampOk.f (a0_0:Int) (a0_1:Int) (a0_2:Int):Option (Bool):=(spec_l1In.f a0_0 0 1000000000).bind fun t114=>(if t114=true then ((spec_l1In.f a0_1 0 1000000).bind fun t115=>(if t115=true then ((spec_l1In.f a0_2 0 20).bind fun t116=>(some t116)) else (some false))) else (some false))
set_option maxHeartbeats 8000000 in
set_option maxRecDepth 100000 in
theorem spec_StampOk.calls (a0_0:Int) (a0_1:Int) (a0_2:Int) (r:Bool) (w:World) (h:spec_StampOk.f a0_0 a0_1 a0_2=some r) :
  Calls Try.prog 120 #[.agg #[.int .i64 a0_0,.int .i64 a0_1,.int .i64 a0_2]] w fun e w'=>e = .returned (.bool r)∧Below w.heap.size w w':=by
 have hu59:=Try.underlying59
 have HB:=Aside0.mk (Below.refl w.heap.size w)
 have H:((spec_l1In.f a0_0 0 1000000000).bind fun t114=>(if t114=true then ((spec_l1In.f a0_1 0 1000000).bind fun t115=>(if t115=true then ((spec_l1In.f a0_2 0 20).bind fun t116=>(some t116)) else (some false))) else (some false)))=some r:=h
 clear h
 replace H:=Option.bind_eq_some_iff.mp H
 obtain ⟨t114,A20,H⟩:=H
 try dsimp only at H
 have A2:=Aside0.mk A20
 clear A20
 by_cases c3:t114=true
 ·subst c3
  rw [if_pos rfl] at H
  replace H:=Option.bind_eq_some_iff.mp H
  obtain ⟨t115,A40,H⟩:=H
  try dsimp only at H
  have A4:=Aside0.mk A40
  clear A40
  by_cases c5:t115=true
  ·subst c5
   rw [if_pos rfl] at H
   replace H:=Option.bind_eq_some_iff.mp H
   obtain ⟨t116,A60,H⟩:=H
   try dsimp only at H
   have A6:=Aside0.mk A60
   clear A60
   obtain rfl:=Option.some.inj H
   go_enter Try.func120,Try.ntmps120
   go_wp2_with (first|((with_reducible refine gate_dst (N:=1) rfl ?_);refine box_event ?hg (N:=1) ?hd (cs:=#[.int .i64 a0_0,.int .i64 a0_1,.int .i64 a0_2]) (t:=59) ?hr ?_;(case hd=>rfl);(case hg=>rfl);(case hr=>first|(go_simp;done)|(go_simp;rfl));intro gb113 hg w7 hbox hb;have n0_:=bs hb;have n1_:=Aside0.mk (hbox);have n2_:=Aside0.mk ((by rw [hg];exact (below_size be):w.heap.size≤gb113));have n3_:=Aside0.mk ((by rw [hg];exact (below_size be):w.heap.size≤gb113));clear HB;have HB:=n0_;have BK113:=n1_;have GW113:=n2_;have GE113:=n3_;clear n0_ n1_ n2_ n3_;clear hb hbox hg;have hcz8_0:w7.cell? ⟨gb113,0,none⟩=some (.int .i64 a0_0):=(blk_cell BK113.out 0).trans rfl;have hcz8_1:w7.cell? ⟨gb113,1,none⟩=some (.int .i64 a0_1):=(blk_cell BK113.out 1).trans rfl;have hcz8_2:w7.cell? ⟨gb113,2,none⟩=some (.int .i64 a0_2):=(blk_cell BK113.out 2).trans rfl;have hfz8_0:=blk_frozen BK113.out 0;have hfz8_1:=blk_frozen BK113.out 1;have hfz8_2:=blk_frozen BK113.out 2)|((with_reducible refine gate_callee (f:=97) rfl ?_);refine goesL_ (some 5) rfl rfl Try.func97 (by kernel_rfl) rfl #[.int .i64 a0_0,.int .i64 0,.int .i64 1000000000] rfl (by (try simp only [List.map_toArray,List.map_cons,List.map_nil]);first|done|rfl|(simp only [List.length_drop,List.length_take];rfl)) ?_;(with_reducible refine (spec_l1In.calls a0_0 0 1000000000 true _ A2.out).mono ?_);rintro e w' ⟨rfl,⟨nd,rfl⟩⟩;refine ⟨_,rfl,?_⟩)|(go_at_call 97;(with_reducible refine (spec_l1In.calls a0_1 0 1000000 true _ A4.out).mono ?_);rintro e w' ⟨rfl,⟨nd,rfl⟩⟩)|(go_at_call 97;(with_reducible refine (spec_l1In.calls a0_2 0 20 t116 _ A6.out).mono ?_);rintro e w' ⟨rfl,⟨nd,rfl⟩⟩))
   go_ret
   exact ⟨rz,be⟩
  ·replace c5:=Bool.eq_false_iff.mpr c5
   subst c5
   replace H:=(if_neg (show ¬ (false=true) by decide)).symm.trans H
   obtain rfl:=Option.some.inj H
   go_enter Try.func120,Try.ntmps120
   go_wp2_with (first|((with_reducible refine gate_dst (N:=1) rfl ?_);refine box_event ?hg (N:=1) ?hd (cs:=#[.int .i64 a0_0,.int .i64 a0_1,.int .i64 a0_2]) (t:=59) ?hr ?_;(case hd=>rfl);(case hg=>rfl);(case hr=>first|(go_simp;done)|(go_simp;rfl));intro gb113 hg w9 hbox hb;have n0_:=bs hb;have n1_:=Aside0.mk (hbox);have n2_:=Aside0.mk ((by rw [hg];exact (below_size be):w.heap.size≤gb113));have n3_:=Aside0.mk ((by rw [hg];exact (below_size be):w.heap.size≤gb113));clear HB;have HB:=n0_;have BK113:=n1_;have GW113:=n2_;have GE113:=n3_;clear n0_ n1_ n2_ n3_;clear hb hbox hg;have hcz10_0:w9.cell? ⟨gb113,0,none⟩=some (.int .i64 a0_0):=(blk_cell BK113.out 0).trans rfl;have hcz10_1:w9.cell? ⟨gb113,1,none⟩=some (.int .i64 a0_1):=(blk_cell BK113.out 1).trans rfl;have hcz10_2:w9.cell? ⟨gb113,2,none⟩=some (.int .i64 a0_2):=(blk_cell BK113.out 2).trans rfl;have hfz10_0:=blk_frozen BK113.out 0;have hfz10_1:=blk_frozen BK113.out 1;have hfz10_2:=blk_frozen BK113.out 2)|((with_reducible refine gate_callee (f:=97) rfl ?_);refine goesL_ (some 5) rfl rfl Try.func97 (by kernel_rfl) rfl #[.int .i64 a0_0,.int .i64 0,.int .i64 1000000000] rfl (by (try simp only [List.map_toArray,List.map_cons,List.map_nil]);first|done|rfl|(simp only [List.length_drop,List.length_take];rfl)) ?_;(with_reducible refine (spec_l1In.calls a0_0 0 1000000000 true _ A2.out).mono ?_);rintro e w' ⟨rfl,⟨nd,rfl⟩⟩;refine ⟨_,rfl,?_⟩)|(go_at_call 97;(with_reducible refine (spec_l1In.calls a0_1 0 1000000 false _ A4.out).mono ?_);rintro e w' ⟨rfl,⟨nd,rfl⟩⟩))
   go_ret
   exact ⟨rz,be⟩
 ·replace c3:=Bool.eq_false_iff.mpr c3
  subst c3
  replace H:=(if_neg (show ¬ (false=true) by decide)).symm.trans H
  obtain rfl:=Option.some.inj H
  go_enter Try.func120,Try.ntmps120
  go_wp2_with (first|((with_reducible refine gate_dst (N:=1) rfl ?_);refine box_event ?hg (N:=1) ?hd (cs:=#[.int .i64 a0_0,.int .i64 a0_1,.int .i64 a0_2]) (t:=59) ?hr ?_;(case hd=>rfl);(case hg=>rfl);(case hr=>first|(go_simp;done)|(go_simp;rfl));intro gb113 hg w11 hbox hb;have n0_:=bs hb;have n1_:=Aside0.mk (hbox);have n2_:=Aside0.mk ((by rw [hg];exact (below_size be):w.heap.size≤gb113));have n3_:=Aside0.mk ((by rw [hg];exact (below_size be):w.heap.size≤gb113));clear HB;have HB:=n0_;have BK113:=n1_;have GW113:=n2_;have GE113:=n3_;clear n0_ n1_ n2_ n3_;clear hb hbox hg;have hcz12_0:w11.cell? ⟨gb113,0,none⟩=some (.int .i64 a0_0):=(blk_cell BK113.out 0).trans rfl;have hcz12_1:w11.cell? ⟨gb113,1,none⟩=some (.int .i64 a0_1):=(blk_cell BK113.out 1).trans rfl;have hcz12_2:w11.cell? ⟨gb113,2,none⟩=some (.int .i64 a0_2):=(blk_cell BK113.out 2).trans rfl;have hfz12_0:=blk_frozen BK113.out 0;have hfz12_1:=blk_frozen BK113.out 1;have hfz12_2:=blk_frozen BK113.out 2)|((with_reducible refine gate_callee (f:=97) rfl ?_);refine goesL_ (some 5) rfl rfl Try.func97 (by kernel_rfl) rfl #[.int .i64 a0_0,.int .i64 0,.int .i64 1000000000] rfl (by (try simp only [List.map_toArray,List.map_cons,List.map_nil]);first|done|rfl|(simp only [List.length_drop,List.length_take];rfl)) ?_;(with_reducible refine (spec_l1In.calls a0_0 0 1000000000 false _ A2.out).mono ?_);rintro e w' ⟨rfl,⟨nd,rfl⟩⟩;refine ⟨_,rfl,?_⟩))
  go_ret
  exact ⟨rz,be⟩
def spec_FileOk.f (a0_0:Int) (a0_1:Int) (a0_2:Int) (a0_3:Bool) (l0_4:List Int):Option (Bool):=(spec_StampOk.f a0_0 a0_1 a0_2).bind fun t118=>(if t118=true then (if (l0_4.length:Int)≤200 then (if a0_3=true then (some ((l0_4.length:Int) == 0)) else (some true)) else (some false)) else (some false))
set_option maxHeartbeats 8000000 in
set_option maxRecDepth 100000 in
theorem spec_FileOk.calls (a0_0:Int) (a0_1:Int) (a0_2:Int) (a0_3:Bool) (A0_4:Option Addr) (c0_4:Nat) (l0_4:List Int) (r:Bool) (w:World) (hr0_4:Kd.C (Kd.int .u8) w A0_4 l0_4.length l0_4) (hc0_4:l0_4.length≤c0_4) (h:spec_FileOk.f a0_0 a0_1 a0_2 a0_3 l0_4=some r) :
  Calls Try.prog 86 #[.agg #[.int .i64 a0_0,.int .i64 a0_1,.int .i64 a0_2,.bool a0_3,.slice A0_4 l0_4.length c0_4]] w fun e w'=>e = .returned (.bool r)∧Below w.heap.size w w':=by
 have hu61:=Try.underlying61
 have hu59:=Try.underlying59
 have HR0_4:=Aside0.mk hr0_4
 have HC0_4:=Aside0.mk hc0_4
 clear hr0_4 hc0_4
 have HB:=Aside0.mk (Below.refl w.heap.size w)
 have H:((spec_StampOk.f a0_0 a0_1 a0_2).bind fun t118=>(if t118=true then (if (l0_4.length:Int)≤200 then (if a0_3=true then (some ((l0_4.length:Int) == 0)) else (some true)) else (some false)) else (some false)))=some r:=h
 clear h
 replace H:=Option.bind_eq_some_iff.mp H
 obtain ⟨t118,A20,H⟩:=H
 try dsimp only at H
 have A2:=Aside0.mk A20
 clear A20
 by_cases c3:t118=true
 ·subst c3
  rw [if_pos rfl] at H
  by_cases c4:(l0_4.length:Int)≤200
  ·rw [if_pos c4] at H
   have c4b0:decide ((l0_4.length:Int)≤200)=true:=decide_eq_true c4
   have c4b1:decide (l0_4.length≤200)=true:=decide_eq_true (by omega)
   clear c4
   by_cases c5:a0_3=true
   ·subst c5
    rw [if_pos rfl] at H
    obtain rfl:=Option.some.inj H
    go_enter Try.func86,Try.ntmps86
    go_wp2_with (first|((with_reducible refine gate_dst (N:=1) rfl ?_);(try (refine gate_guard (by rfl) ?_;dsimp only));refine box_event ?hg (N:=1) ?hd (cs:=#[.int .i64 a0_0,.int .i64 a0_1,.int .i64 a0_2,.bool true,.slice A0_4 l0_4.length c0_4]) (t:=61) ?hr ?_;(case hd=>rfl);(case hg=>rfl);(case hr=>first|(go_simp;done)|(go_simp;rfl));intro gb117 hg w6 hbox hb;have n0_:=bs hb;have n1_:=Aside0.mk (hbox);have n2_:=Aside0.mk ((by rw [hg];exact (below_size be):w.heap.size≤gb117));have n3_:=Aside0.mk ((by rw [hg];exact (below_size be):w.heap.size≤gb117));clear HB;have HB:=n0_;have BK117:=n1_;have GW117:=n2_;have GE117:=n3_;clear n0_ n1_ n2_ n3_;clear hb hbox hg;have hcz7_0:w6.cell? ⟨gb117,0,none⟩=some (.int .i64 a0_0):=(blk_cell BK117.out 0).trans rfl;have hcz7_1:w6.cell? ⟨gb117,1,none⟩=some (.int .i64 a0_1):=(blk_cell BK117.out 1).trans rfl;have hcz7_2:w6.cell? ⟨gb117,2,none⟩=some (.int .i64 a0_2):=(blk_cell BK117.out 2).trans rfl;have hcz7_3:w6.cell? ⟨gb117,3,none⟩=some (.bool true):=(blk_cell BK117.out 3).trans rfl;have hcz7_4:w6.cell? ⟨gb117,4,none⟩=some (.slice A0_4 l0_4.length c0_4):=(blk_cell BK117.out 4).trans rfl;have hfz7_0:=blk_frozen BK117.out 0;have hfz7_1:=blk_frozen BK117.out 1;have hfz7_2:=blk_frozen BK117.out 2;have hfz7_3:=blk_frozen BK117.out 3;have hfz7_4:=blk_frozen BK117.out 4)|((with_reducible refine gate_callee (f:=120) rfl ?_);refine goesL_ (some 5) rfl rfl Try.func120 (by kernel_rfl) rfl #[.agg #[.int .i64 a0_0,.int .i64 a0_1,.int .i64 a0_2]] rfl (by (try simp only [List.map_toArray,List.map_cons,List.map_nil]);first|done|rfl|(simp only [List.length_drop,List.length_take];rfl)) ?_;(with_reducible refine (spec_StampOk.calls a0_0 a0_1 a0_2 true _ A2.out).mono ?_);rintro e w8 ⟨rfl,hb⟩;refine ⟨_,rfl,?_⟩;have n0_:=Aside0.mk (blk_below (g:=gb117) (o:=.cells #[.int .i64 a0_0,.int .i64 a0_1,.int .i64 a0_2,.bool true,.slice A0_4 l0_4.length c0_4] 61 (0,0)) (bk BK117) hb);have n1_:=bs hb;clear BK117;clear HB;have BK117:=n0_;have HB:=n1_;clear n0_ n1_;(try clear hb);(try clear hb2);(try clear hk);(try clear hi);have hcz9_0:w8.cell? ⟨gb117,0,none⟩=some (.int .i64 a0_0):=(blk_cell BK117.out 0).trans rfl;have hcz9_1:w8.cell? ⟨gb117,1,none⟩=some (.int .i64 a0_1):=(blk_cell BK117.out 1).trans rfl;have hcz9_2:w8.cell? ⟨gb117,2,none⟩=some (.int .i64 a0_2):=(blk_cell BK117.out 2).trans rfl;have hcz9_3:w8.cell? ⟨gb117,3,none⟩=some (.bool true):=(blk_cell BK117.out 3).trans rfl;have hcz9_4:w8.cell? ⟨gb117,4,none⟩=some (.slice A0_4 l0_4.length c0_4):=(blk_cell BK117.out 4).trans rfl;have hfz9_0:=blk_frozen BK117.out 0;have hfz9_1:=blk_frozen BK117.out 1;have hfz9_2:=blk_frozen BK117.out 2;have hfz9_3:=blk_frozen BK117.out 3;have hfz9_4:=blk_frozen BK117.out 4))
    go_ret
    exact ⟨rz,be⟩
   ·replace c5:=Bool.eq_false_iff.mpr c5
    subst c5
    replace H:=(if_neg (show ¬ (false=true) by decide)).symm.trans H
    obtain rfl:=Option.some.inj H
    go_enter Try.func86,Try.ntmps86
    go_wp2_with (first|((with_reducible refine gate_dst (N:=1) rfl ?_);(try (refine gate_guard (by rfl) ?_;dsimp only));refine box_event ?hg (N:=1) ?hd (cs:=#[.int .i64 a0_0,.int .i64 a0_1,.int .i64 a0_2,.bool false,.slice A0_4 l0_4.length c0_4]) (t:=61) ?hr ?_;(case hd=>rfl);(case hg=>rfl);(case hr=>first|(go_simp;done)|(go_simp;rfl));intro gb117 hg w10 hbox hb;have n0_:=bs hb;have n1_:=Aside0.mk (hbox);have n2_:=Aside0.mk ((by rw [hg];exact (below_size be):w.heap.size≤gb117));have n3_:=Aside0.mk ((by rw [hg];exact (below_size be):w.heap.size≤gb117));clear HB;have HB:=n0_;have BK117:=n1_;have GW117:=n2_;have GE117:=n3_;clear n0_ n1_ n2_ n3_;clear hb hbox hg;have hcz11_0:w10.cell? ⟨gb117,0,none⟩=some (.int .i64 a0_0):=(blk_cell BK117.out 0).trans rfl;have hcz11_1:w10.cell? ⟨gb117,1,none⟩=some (.int .i64 a0_1):=(blk_cell BK117.out 1).trans rfl;have hcz11_2:w10.cell? ⟨gb117,2,none⟩=some (.int .i64 a0_2):=(blk_cell BK117.out 2).trans rfl;have hcz11_3:w10.cell? ⟨gb117,3,none⟩=some (.bool false):=(blk_cell BK117.out 3).trans rfl;have hcz11_4:w10.cell? ⟨gb117,4,none⟩=some (.slice A0_4 l0_4.length c0_4):=(blk_cell BK117.out 4).trans rfl;have hfz11_0:=blk_frozen BK117.out 0;have hfz11_1:=blk_frozen BK117.out 1;have hfz11_2:=blk_frozen BK117.out 2;have hfz11_3:=blk_frozen BK117.out 3;have hfz11_4:=blk_frozen BK117.out 4)|((with_reducible refine gate_callee (f:=120) rfl ?_);refine goesL_ (some 5) rfl rfl Try.func120 (by kernel_rfl) rfl #[.agg #[.int .i64 a0_0,.int .i64 a0_1,.int .i64 a0_2]] rfl (by (try simp only [List.map_toArray,List.map_cons,List.map_nil]);first|done|rfl|(simp only [List.length_drop,List.length_take];rfl)) ?_;(with_reducible refine (spec_StampOk.calls a0_0 a0_1 a0_2 true _ A2.out).mono ?_);rintro e w12 ⟨rfl,hb⟩;refine ⟨_,rfl,?_⟩;have n0_:=Aside0.mk (blk_below (g:=gb117) (o:=.cells #[.int .i64 a0_0,.int .i64 a0_1,.int .i64 a0_2,.bool false,.slice A0_4 l0_4.length c0_4] 61 (0,0)) (bk BK117) hb);have n1_:=bs hb;clear BK117;clear HB;have BK117:=n0_;have HB:=n1_;clear n0_ n1_;(try clear hb);(try clear hb2);(try clear hk);(try clear hi);have hcz13_0:w12.cell? ⟨gb117,0,none⟩=some (.int .i64 a0_0):=(blk_cell BK117.out 0).trans rfl;have hcz13_1:w12.cell? ⟨gb117,1,none⟩=some (.int .i64 a0_1):=(blk_cell BK117.out 1).trans rfl;have hcz13_2:w12.cell? ⟨gb117,2,none⟩=some (.int .i64 a0_2):=(blk_cell BK117.out 2).trans rfl;have hcz13_3:w12.cell? ⟨gb117,3,none⟩=some (.bool false):=(blk_cell BK117.out 3).trans rfl;have hcz13_4:w12.cell? ⟨gb117,4,none⟩=some (.slice A0_4 l0_4.length c0_4):=(blk_cell BK117.out 4).trans rfl;have hfz13_0:=blk_frozen BK117.out 0;have hfz13_1:=blk_frozen BK117.out 1;have hfz13_2:=blk_frozen BK117.out 2;have hfz13_3:=blk_frozen BK117.out 3;have hfz13_4:=blk_frozen BK117.out 4))
    go_ret
    exact ⟨rz,be⟩
  ·rw [if_neg c4] at H
   have c4b0:decide ((l0_4.length:Int)≤200)=false:=decide_eq_false c4
   have c4b1:decide (l0_4.length≤200)=false:=decide_eq_false (by omega)
   clear c4
   obtain rfl:=Option.some.inj H
   go_enter Try.func86,Try.ntmps86
   go_wp2_with (first|((with_reducible refine gate_dst (N:=1) rfl ?_);(try (refine gate_guard (by rfl) ?_;dsimp only));refine box_event ?hg (N:=1) ?hd (cs:=#[.int .i64 a0_0,.int .i64 a0_1,.int .i64 a0_2,.bool a0_3,.slice A0_4 l0_4.length c0_4]) (t:=61) ?hr ?_;(case hd=>rfl);(case hg=>rfl);(case hr=>first|(go_simp;done)|(go_simp;rfl));intro gb117 hg w14 hbox hb;have n0_:=bs hb;have n1_:=Aside0.mk (hbox);have n2_:=Aside0.mk ((by rw [hg];exact (below_size be):w.heap.size≤gb117));have n3_:=Aside0.mk ((by rw [hg];exact (below_size be):w.heap.size≤gb117));clear HB;have HB:=n0_;have BK117:=n1_;have GW117:=n2_;have GE117:=n3_;clear n0_ n1_ n2_ n3_;clear hb hbox hg;have hcz15_0:w14.cell? ⟨gb117,0,none⟩=some (.int .i64 a0_0):=(blk_cell BK117.out 0).trans rfl;have hcz15_1:w14.cell? ⟨gb117,1,none⟩=some (.int .i64 a0_1):=(blk_cell BK117.out 1).trans rfl;have hcz15_2:w14.cell? ⟨gb117,2,none⟩=some (.int .i64 a0_2):=(blk_cell BK117.out 2).trans rfl;have hcz15_3:w14.cell? ⟨gb117,3,none⟩=some (.bool a0_3):=(blk_cell BK117.out 3).trans rfl;have hcz15_4:w14.cell? ⟨gb117,4,none⟩=some (.slice A0_4 l0_4.length c0_4):=(blk_cell BK117.out 4).trans rfl;have hfz15_0:=blk_frozen BK117.out 0;have hfz15_1:=blk_frozen BK117.out 1;have hfz15_2:=blk_frozen BK117.out 2;have hfz15_3:=blk_frozen BK117.out 3;have hfz15_4:=blk_frozen BK117.out 4)|((with_reducible refine gate_callee (f:=120) rfl ?_);refine goesL_ (some 5) rfl rfl Try.func120 (by kernel_rfl) rfl #[.agg #[.int .i64 a0_0,.int .i64 a0_1,.int .i64 a0_2]] rfl (by (try simp only [List.map_toArray,List.map_cons,List.map_nil]);first|done|rfl|(simp only [List.length_drop,List.length_take];rfl)) ?_;(with_reducible refine (spec_StampOk.calls a0_0 a0_1 a0_2 true _ A2.out).mono ?_);rintro e w16 ⟨rfl,hb⟩;refine ⟨_,rfl,?_⟩;have n0_:=Aside0.mk (blk_below (g:=gb117) (o:=.cells #[.int .i64 a0_0,.int .i64 a0_1,.int .i64 a0_2,.bool a0_3,.slice A0_4 l0_4.length c0_4] 61 (0,0)) (bk BK117) hb);have n1_:=bs hb;clear BK117;clear HB;have BK117:=n0_;have HB:=n1_;clear n0_ n1_;(try clear hb);(try clear hb2);(try clear hk);(try clear hi);have hcz17_0:w16.cell? ⟨gb117,0,none⟩=some (.int .i64 a0_0):=(blk_cell BK117.out 0).trans rfl;have hcz17_1:w16.cell? ⟨gb117,1,none⟩=some (.int .i64 a0_1):=(blk_cell BK117.out 1).trans rfl;have hcz17_2:w16.cell? ⟨gb117,2,none⟩=some (.int .i64 a0_2):=(blk_cell BK117.out 2).trans rfl;have hcz17_3:w16.cell? ⟨gb117,3,none⟩=some (.bool a0_3):=(blk_cell BK117.out 3).trans rfl;have hcz17_4:w16.cell? ⟨gb117,4,none⟩=some (.slice A0_4 l0_4.length c0_4):=(blk_cell BK117.out 4).trans rfl;have hfz17_0:=blk_frozen BK117.out 0;have hfz17_1:=blk_frozen BK117.out 1;have hfz17_2:=blk_frozen BK117.out 2;have hfz17_3:=blk_frozen BK117.out 3;have hfz17_4:=blk_frozen BK117.out 4))
   go_ret
   exact ⟨rz,be⟩
 ·replace c3:=Bool.eq_false_iff.mpr c3
  subst c3
  replace H:=(if_neg (show ¬ (false=true) by decide)).symm.trans H
  obtain rfl:=Option.some.inj H
  go_enter Try.func86,Try.ntmps86
  go_wp2_with (first|((with_reducible refine gate_dst (N:=1) rfl ?_);(try (refine gate_guard (by rfl) ?_;dsimp only));refine box_event ?hg (N:=1) ?hd (cs:=#[.int .i64 a0_0,.int .i64 a0_1,.int .i64 a0_2,.bool a0_3,.slice A0_4 l0_4.length c0_4]) (t:=61) ?hr ?_;(case hd=>rfl);(case hg=>rfl);(case hr=>first|(go_simp;done)|(go_simp;rfl));intro gb117 hg w18 hbox hb;have n0_:=bs hb;have n1_:=Aside0.mk (hbox);have n2_:=Aside0.mk ((by rw [hg];exact (below_size be):w.heap.size≤gb117));have n3_:=Aside0.mk ((by rw [hg];exact (below_size be):w.heap.size≤gb117));clear HB;have HB:=n0_;have BK117:=n1_;have GW117:=n2_;have GE117:=n3_;clear n0_ n1_ n2_ n3_;clear hb hbox hg;have hcz19_0:w18.cell? ⟨gb117,0,none⟩=some (.int .i64 a0_0):=(blk_cell BK117.out 0).trans rfl;have hcz19_1:w18.cell? ⟨gb117,1,none⟩=some (.int .i64 a0_1):=(blk_cell BK117.out 1).trans rfl;have hcz19_2:w18.cell? ⟨gb117,2,none⟩=some (.int .i64 a0_2):=(blk_cell BK117.out 2).trans rfl;have hcz19_3:w18.cell? ⟨gb117,3,none⟩=some (.bool a0_3):=(blk_cell BK117.out 3).trans rfl;have hcz19_4:w18.cell? ⟨gb117,4,none⟩=some (.slice A0_4 l0_4.length c0_4):=(blk_cell BK117.out 4).trans rfl;have hfz19_0:=blk_frozen BK117.out 0;have hfz19_1:=blk_frozen BK117.out 1;have hfz19_2:=blk_frozen BK117.out 2;have hfz19_3:=blk_frozen BK117.out 3;have hfz19_4:=blk_frozen BK117.out 4)|((with_reducible refine gate_callee (f:=120) rfl ?_);refine goesL_ (some 5) rfl rfl Try.func120 (by kernel_rfl) rfl #[.agg #[.int .i64 a0_0,.int .i64 a0_1,.int .i64 a0_2]] rfl (by (try simp only [List.map_toArray,List.map_cons,List.map_nil]);first|done|rfl|(simp only [List.length_drop,List.length_take];rfl)) ?_;(with_reducible refine (spec_StampOk.calls a0_0 a0_1 a0_2 false _ A2.out).mono ?_);rintro e w20 ⟨rfl,hb⟩;refine ⟨_,rfl,?_⟩;have n0_:=Aside0.mk (blk_below (g:=gb117) (o:=.cells #[.int .i64 a0_0,.int .i64 a0_1,.int .i64 a0_2,.bool a0_3,.slice A0_4 l0_4.length c0_4] 61 (0,0)) (bk BK117) hb);have n1_:=bs hb;clear BK117;clear HB;have BK117:=n0_;have HB:=n1_;clear n0_ n1_;(try clear hb);(try clear hb2);(try clear hk);(try clear hi)))
  go_ret
  exact ⟨rz,be⟩
end Go.Proofs.Ytbhllgifciaepaa.PFnExactGetFile
