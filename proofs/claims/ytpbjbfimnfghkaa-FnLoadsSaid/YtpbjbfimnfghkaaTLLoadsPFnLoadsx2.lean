/- Trimmed by a program of this session (trim.py). Not trusted: Lean checks it. -/
import Derived.Test.YtpbjbfimnfghkaaTLLoadsPFnLoadsx0
import Derived.Test.YtpbjbfimnfghkaaTLLoadsPFnLoadsx1
namespace Go.Proofs.Ytpbjbfimnfghkaa.PFnLoads
open Go.RowKit Go.Proofs.YtpbjbfimnfghkaaW.PrintWords Go.Proofs.YtpbjbfimnfghkaaW.PrintLast Go.Proofs.YtpbjbfimnfghkaaW.PrintMore Go.Proofs.Ytpbjbfimnfghkaa.St
attribute [local go_sem] max2_int min2_int max_two min_two max_three min_three max_four min_four
set_option linter.unusedVariables false
set_option linter.unusedSimpArgs false
def spec_l5Part.l0:Nat→Int→Int→List Int→Option (Bool)
 | 0,_,_,_=>none
 | k+1,x1,x5,x110000=>if x5 < (x110000.length:Int) then (if 0≤x5 then (if x5≤(x110000.length:Int) then ((spec_l4Has.f k (x110000.take (x5:Int).toNat) (rd x110000 x5)).bind fun t112=>(if t112=true then (some false) else (spec_l5Part.l0 k x1 (wrap64 (x5+1)) x110000))) else (none)) else (none)) else (some ((x110000.length:Int) == x1))
def spec_l5Part.f (k:Nat) (l0_0:List Int) (a1:Int):Option (Bool):=spec_l5Part.l0 k a1 0 l0_0
set_option maxHeartbeats 8000000 in
set_option maxRecDepth 100000 in
theorem spec_l5Part.calls (k:Nat) (A0_0:Option Addr) (c0_0:Nat) (l0_0:List Int) (a1:Int) (r:Bool) (w:World) (hr0_0:Kd.C (Kd.int .i64) w A0_0 l0_0.length l0_0) (hc0_0:l0_0.length≤c0_0) (h:spec_l5Part.f k l0_0 a1=some r) :
  Calls Try.prog 55 #[.agg #[.slice A0_0 l0_0.length c0_0],.int .i64 a1] w fun e w'=>e = .returned (.bool r)∧Below w.heap.size w w':=by
 have hu35:=Try.underlying35
 have HR0_0:=Aside0.mk hr0_0
 have HC0_0:=Aside0.mk hc0_0
 clear hr0_0 hc0_0
 have HB:=Aside0.mk (Below.refl w.heap.size w)
 have H:(spec_l5Part.l0 k a1 0 l0_0)=some r:=h
 clear h
 have H':=Aside0.mk H
 clear H
 go_enter Try.func55,Try.ntmps55
 go_wp2_with (first|((with_reducible refine gate_dst (N:=2) rfl ?_);refine box_event ?hg (N:=2) ?hd (cs:=#[.slice A0_0 l0_0.length c0_0]) (t:=35) ?hr ?_;(case hd=>rfl);(case hg=>rfl);(case hr=>first|(go_simp;done)|(go_simp;rfl));intro gb109 hg w3 hbox hb;have n0_:=bs hb;have n1_:=Aside0.mk (hbox);have n2_:=Aside0.mk ((by rw [hg];exact (below_size be):w.heap.size≤gb109));have n3_:=Aside0.mk ((by rw [hg];exact (below_size be):w.heap.size≤gb109));clear HB;have HB:=n0_;have BK109:=n1_;have GW109:=n2_;have GE109:=n3_;clear n0_ n1_ n2_ n3_;clear hb hbox hg))
 repeat (go_quiet (first|((with_reducible refine gate_dst (N:=2) rfl ?_);refine box_event ?hg (N:=2) ?hd (cs:=#[.slice A0_0 l0_0.length c0_0]) (t:=35) ?hr ?_;(case hd=>rfl);(case hg=>rfl);(case hr=>first|(go_simp;done)|(go_simp;rfl));intro gb109 hg w3 hbox hb;have n0_:=bs hb;have n1_:=Aside0.mk (hbox);have n2_:=Aside0.mk ((by rw [hg];exact (below_size be):w.heap.size≤gb109));have n3_:=Aside0.mk ((by rw [hg];exact (below_size be):w.heap.size≤gb109));clear HB;have HB:=n0_;have BK109:=n1_;have GW109:=n2_;have GE109:=n3_;clear n0_ n1_ n2_ n3_;clear hb hbox hg));try go_wp2_with (first|((with_reducible refine gate_dst (N:=2) rfl ?_);refine box_event ?hg (N:=2) ?hd (cs:=#[.slice A0_0 l0_0.length c0_0]) (t:=35) ?hr ?_;(case hd=>rfl);(case hg=>rfl);(case hr=>first|(go_simp;done)|(go_simp;rfl));intro gb109 hg w3 hbox hb;have n0_:=bs hb;have n1_:=Aside0.mk (hbox);have n2_:=Aside0.mk ((by rw [hg];exact (below_size be):w.heap.size≤gb109));have n3_:=Aside0.mk ((by rw [hg];exact (below_size be):w.heap.size≤gb109));clear HB;have HB:=n0_;have BK109:=n1_;have GW109:=n2_;have GE109:=n3_;clear n0_ n1_ n2_ n3_;clear hb hbox hg)))
 go_loopg [5] k (fun kq v5 w'=>∃ (x5_1:Int),v5 = .int .i64 x5_1∧Aside0 (spec_l5Part.l0 kq a1 x5_1 l0_0=some r)∧Aside0 (kq≤k)∧Aside0 (w'.heap[gb109]?=some (.cells #[(.slice A0_0 l0_0.length c0_0)] 35 (0,0)))∧Aside0 (Below w.heap.size w w'))
 case atStart=>exact ⟨(0),rd_,H',⟨Nat.le_refl _⟩,⟨bk BK109⟩,⟨be⟩⟩
 case round=>
  clear H'
  try clear p2
  obtain ⟨x5_1,rfl,HA,HK1,BK109,HB⟩:=hrel
  cases gk with
  | zero=>exact absurd HA.out (by simp [spec_l5Part.l0])
  | succ k1=>
   have H:=HA.out
   clear HA
   simp only [spec_l5Part.l0] at H
   by_cases c4:x5_1 < (l0_0.length:Int)
   ·rw [if_pos c4] at H
    have c4b0:decide (x5_1 < (l0_0.length:Int))=true:=decide_eq_true c4
    clear c4
    by_cases c5:0≤x5_1
    ·rw [if_pos c5] at H
     have c5b0:=eq_true c5
     have c5b1:decide (0≤x5_1)=true:=decide_eq_true c5
     clear c5
     by_cases c6:x5_1≤(l0_0.length:Int)
     ·rw [if_pos c6] at H
      have c6b0:=eq_true c6
      have c6b1:decide (x5_1≤(l0_0.length:Int))=true:=decide_eq_true c6
      clear c6
      replace H:=Option.bind_eq_some_iff.mp H
      obtain ⟨t112,A70,H⟩:=H
      try dsimp only at H
      have A7:=Aside0.mk A70
      clear A70
      by_cases c8:t112=true
      ·subst c8
       rw [if_pos rfl] at H
       obtain rfl:=Option.some.inj H
       have hcz9_0:wr.cell? ⟨gb109,0,none⟩=some (.slice A0_0 l0_0.length c0_0):=(blk_cell BK109.out 0).trans rfl
       have hfz9_0:=blk_frozen BK109.out 0
       obtain ⟨i010,hi010,_,hsz10,_⟩:=info_parts info3
       obtain ⟨hcut10,hA10,hC10⟩:=print_take_of (P:=Try.prog) (Value.int .i64) 0 33 3 .i64 Try.underlying33 hi010 hsz10 A0_0 c0_0 l0_0 x5_1 (of_decide_eq_true (by first|(with_reducible assumption)|assumption)) (of_decide_eq_true (by first|(with_reducible assumption)|assumption)) HC0_0.out
       have HR110:=Aside0.mk (Kd.C_of_reads (h1:=fun _=>rfl) (hA10 _ (Kd.reads_of_C HR0_0.out)))
       have HC110:=Aside0.mk hC10
       clear hA10 hC10 hi010 hsz10
       have p111:0≤(x5_1:Int):=of_decide_eq_true (by first|(with_reducible assumption)|assumption)
       have q111:x5_1 < (l0_0.length:Int):=of_decide_eq_true (by first|(with_reducible assumption)|assumption)
       obtain ⟨ad111,e111,hx111_0⟩:=Kd.at_int HR0_0.out x5_1 p111 q111
       cases e111
       replace hx111_0:=(HB.out.cell (World.block_lt_of_cell? w _ hx111_0)).trans hx111_0
       replace p111:=eq_true p111
       replace q111:=eq_true q111
       have HLx_:=Aside0.mk (show (l0_0.take (x5_1:Int).toNat).length=(x5_1:Int).toNat from (by rw [List.length_take];have q_:x5_1≤(l0_0.length:Int):=of_decide_eq_true (by assumption);omega))
       go_wp2_with (first|(go_at_call 68;(with_reducible refine (Aid.calls_len HLx_.out (spec_l4Has.calls k1 _ _ (l0_0.take (x5_1:Int).toNat) (rd l0_0 x5_1) true _ ?side1 ?side2 A7.out)).mono ?_);(case side1=>exact rC HR110);(case side2=>exact HC110.out);rintro e w' ⟨rfl,⟨nd,rfl⟩⟩;(try first|exact ⟨rfl,_,World.drewN_drewN _ _ _⟩|exact ⟨rfl,_,Eq.trans (World.drewN_drewN _ _ _) (congrArg (World.drewN _) (Nat.add_assoc _ _ _))⟩)))
       repeat (go_quiet (first|(go_at_call 68;(with_reducible refine (Aid.calls_len HLx_.out (spec_l4Has.calls k1 _ _ (l0_0.take (x5_1:Int).toNat) (rd l0_0 x5_1) true _ ?side1 ?side2 A7.out)).mono ?_);(case side1=>exact rC HR110);(case side2=>exact HC110.out);rintro e w' ⟨rfl,⟨nd,rfl⟩⟩;(try first|exact ⟨rfl,_,World.drewN_drewN _ _ _⟩|exact ⟨rfl,_,Eq.trans (World.drewN_drewN _ _ _) (congrArg (World.drewN _) (Nat.add_assoc _ _ _))⟩)));try go_wp2_with (first|(go_at_call 68;(with_reducible refine (Aid.calls_len HLx_.out (spec_l4Has.calls k1 _ _ (l0_0.take (x5_1:Int).toNat) (rd l0_0 x5_1) true _ ?side1 ?side2 A7.out)).mono ?_);(case side1=>exact rC HR110);(case side2=>exact HC110.out);rintro e w' ⟨rfl,⟨nd,rfl⟩⟩;(try first|exact ⟨rfl,_,World.drewN_drewN _ _ _⟩|exact ⟨rfl,_,Eq.trans (World.drewN_drewN _ _ _) (congrArg (World.drewN _) (Nat.add_assoc _ _ _))⟩))))
       go_ret
       exact ⟨rz,be⟩
      ·replace c8:=Bool.eq_false_iff.mpr c8
       subst c8
       have H1:(spec_l5Part.l0 k1 a1 (wrap64 (x5_1+1)) l0_0)=some r:=by rw [if_neg (show ¬ (false=true) by decide)] at H;exact H
       clear H
       have H:=H1
       clear H1
       have H':=Aside0.mk H
       clear H
       have hcz11_0:wr.cell? ⟨gb109,0,none⟩=some (.slice A0_0 l0_0.length c0_0):=(blk_cell BK109.out 0).trans rfl
       have hfz11_0:=blk_frozen BK109.out 0
       obtain ⟨i012,hi012,_,hsz12,_⟩:=info_parts info3
       obtain ⟨hcut12,hA12,hC12⟩:=print_take_of (P:=Try.prog) (Value.int .i64) 0 33 3 .i64 Try.underlying33 hi012 hsz12 A0_0 c0_0 l0_0 x5_1 (of_decide_eq_true (by first|(with_reducible assumption)|assumption)) (of_decide_eq_true (by first|(with_reducible assumption)|assumption)) HC0_0.out
       have HR110:=Aside0.mk (Kd.C_of_reads (h1:=fun _=>rfl) (hA12 _ (Kd.reads_of_C HR0_0.out)))
       have HC110:=Aside0.mk hC12
       clear hA12 hC12 hi012 hsz12
       have p111:0≤(x5_1:Int):=of_decide_eq_true (by first|(with_reducible assumption)|assumption)
       have q111:x5_1 < (l0_0.length:Int):=of_decide_eq_true (by first|(with_reducible assumption)|assumption)
       obtain ⟨ad111,e111,hx111_0⟩:=Kd.at_int HR0_0.out x5_1 p111 q111
       cases e111
       replace hx111_0:=(HB.out.cell (World.block_lt_of_cell? w _ hx111_0)).trans hx111_0
       replace p111:=eq_true p111
       replace q111:=eq_true q111
       have HLx_:=Aside0.mk (show (l0_0.take (x5_1:Int).toNat).length=(x5_1:Int).toNat from (by rw [List.length_take];have q_:x5_1≤(l0_0.length:Int):=of_decide_eq_true (by assumption);omega))
       go_wp2_with (first|(go_at_call 68;(with_reducible refine (Aid.calls_len HLx_.out (spec_l4Has.calls k1 _ _ (l0_0.take (x5_1:Int).toNat) (rd l0_0 x5_1) false _ ?side1 ?side2 A7.out)).mono ?_);(case side1=>exact rC HR110);(case side2=>exact HC110.out);rintro e w' ⟨rfl,⟨nd,rfl⟩⟩;(try first|exact ⟨rfl,_,World.drewN_drewN _ _ _⟩|exact ⟨rfl,_,Eq.trans (World.drewN_drewN _ _ _) (congrArg (World.drewN _) (Nat.add_assoc _ _ _))⟩)))
       repeat (go_quiet (first|(go_at_call 68;(with_reducible refine (Aid.calls_len HLx_.out (spec_l4Has.calls k1 _ _ (l0_0.take (x5_1:Int).toNat) (rd l0_0 x5_1) false _ ?side1 ?side2 A7.out)).mono ?_);(case side1=>exact rC HR110);(case side2=>exact HC110.out);rintro e w' ⟨rfl,⟨nd,rfl⟩⟩;(try first|exact ⟨rfl,_,World.drewN_drewN _ _ _⟩|exact ⟨rfl,_,Eq.trans (World.drewN_drewN _ _ _) (congrArg (World.drewN _) (Nat.add_assoc _ _ _))⟩)));try go_wp2_with (first|(go_at_call 68;(with_reducible refine (Aid.calls_len HLx_.out (spec_l4Has.calls k1 _ _ (l0_0.take (x5_1:Int).toNat) (rd l0_0 x5_1) false _ ?side1 ?side2 A7.out)).mono ?_);(case side1=>exact rC HR110);(case side2=>exact HC110.out);rintro e w' ⟨rfl,⟨nd,rfl⟩⟩;(try first|exact ⟨rfl,_,World.drewN_drewN _ _ _⟩|exact ⟨rfl,_,Eq.trans (World.drewN_drewN _ _ _) (congrArg (World.drewN _) (Nat.add_assoc _ _ _))⟩))))
       go_roundg k1
       case measure=>have:=HK1.out;omega
       case rel=>exact ⟨(wrap64 (x5_1+1)),rd_,H',⟨by have:=HK1.out;omega⟩,⟨bk BK109⟩,⟨be⟩⟩
     ·rw [if_neg c6] at H
      exact absurd H (by simp)
    ·rw [if_neg c5] at H
     exact absurd H (by simp)
   ·rw [if_neg c4] at H
    have c4b0:decide (x5_1 < (l0_0.length:Int))=false:=decide_eq_false c4
    clear c4
    obtain rfl:=Option.some.inj H
    have hcz13_0:wr.cell? ⟨gb109,0,none⟩=some (.slice A0_0 l0_0.length c0_0):=(blk_cell BK109.out 0).trans rfl
    have hfz13_0:=blk_frozen BK109.out 0
    go_wp2
    repeat (go_quiet (fail);try go_wp2)
    go_ret
    exact ⟨rz,be⟩
def spec_DevAt.l0:Nat→List (S61)→Int→Int→Option (Int × Int × Int × Bool)
 | 0,_,_,_=>none
 | k+1,x0,x1,x6=>if x6 < (x0.length:Int) then (if 0≤x6 then (if ((rd_T61 x0 x6).f0)=x1 then (some ((rd_T61 x0 x6).f0,(rd_T61 x0 x6).f1,(rd_T61 x0 x6).f2,true)) else (spec_DevAt.l0 k x0 x1 (wrap64 (x6+1)))) else (none)) else (some (0,0,0,false))
def spec_DevAt.f (k:Nat) (l0:List (S61)) (a1:Int):Option (Int × Int × Int × Bool):=spec_DevAt.l0 k l0 a1 0
set_option maxHeartbeats 8000000 in
set_option maxRecDepth 100000 in
theorem spec_DevAt.calls (k:Nat) (A0:Option Addr) (c0:Nat) (l0:List (S61)) (a1:Int) (r1:Int) (r2:Int) (r3:Int) (r4:Bool) (w:World) (hr0:Kd.C k61 w A0 l0.length l0) (hc0:l0.length≤c0) (h:spec_DevAt.f k l0 a1=some (r1,r2,r3,r4)) :
  Calls Try.prog 56 #[.slice A0 l0.length c0,.int .i64 a1] w fun e w'=>e = .returned (.tuple #[.agg #[.int .i64 r1,.int .i64 r2,.int .i64 r3],.bool r4])∧Below w.heap.size w w':=by
 have hu61:=Try.underlying61
 have HR0:=Aside0.mk hr0
 have HC0:=Aside0.mk hc0
 clear hr0 hc0
 have HB:=Aside0.mk (Below.refl w.heap.size w)
 have H:(spec_DevAt.l0 k l0 a1 0)=some (r1,r2,r3,r4):=h
 clear h
 have H':=Aside0.mk H
 clear H
 go_enter Try.func56,Try.ntmps56
 go_wp2_with (first|((with_reducible refine gate_dst (N:=4) rfl ?_);refine box_event ?hg (N:=4) ?hd (cs:=#[.int .i64 0,.int .i64 0,.int .i64 0]) (t:=61) ?hr ?_;(case hd=>rfl);(case hg=>rfl);(case hr=>first|(go_simp;done)|(go_simp;rfl));intro gb113 hg w3 hbox hb;have n0_:=bs hb;have n1_:=Aside0.mk (hbox);have n2_:=Aside0.mk ((by rw [hg];exact (below_size be):w.heap.size≤gb113));have n3_:=Aside0.mk ((by rw [hg];exact (below_size be):w.heap.size≤gb113));clear HB;have HB:=n0_;have BK113:=n1_;have GW113:=n2_;have GE113:=n3_;clear n0_ n1_ n2_ n3_;clear hb hbox hg))
 go_loopg [6] k (fun kq v6 w'=>∃ (x6_1:Int) (x114000_1:Int) (x114001_1:Int) (x114002_1:Int),v6 = .int .i64 x6_1∧Aside0 (spec_DevAt.l0 kq l0 a1 x6_1=some (r1,r2,r3,r4))∧Aside0 (kq≤k)∧Aside0 (w'.heap[gb113]?=some (.cells #[.int .i64 x114000_1,.int .i64 x114001_1,.int .i64 x114002_1] 61 (0,0)))∧Aside0 (Below w.heap.size w w'))
 case atStart=>exact ⟨(0),(0),(0),(0),rd_,H',⟨Nat.le_refl _⟩,⟨bk BK113⟩,⟨be⟩⟩
 case round=>
  clear H'
  try clear p2
  obtain ⟨x6_1,x114000_1,x114001_1,x114002_1,rfl,HA,HK1,BK113,HB⟩:=hrel
  cases gk with
  | zero=>exact absurd HA.out (by simp [spec_DevAt.l0])
  | succ k1=>
   have H:=HA.out
   clear HA
   simp only [spec_DevAt.l0] at H
   by_cases c4:x6_1 < (l0.length:Int)
   ·rw [if_pos c4] at H
    have c4b0:decide (x6_1 < (l0.length:Int))=true:=decide_eq_true c4
    clear c4
    by_cases c5:0≤x6_1
    ·rw [if_pos c5] at H
     have c5b0:decide (0≤x6_1)=true:=decide_eq_true c5
     clear c5
     by_cases c6:((rd_T61 l0 x6_1).f0)=a1
     ·rw [if_pos c6] at H
      have c6b0:(((rd_T61 l0 x6_1).f0) == a1)=true:=beq_iff_eq.mpr c6
      have c6b1:(((rd_T61 l0 x6_1).f0) != a1)=false:=bne_eq_false_iff_eq.mpr c6
      clear c6
      simp only [Option.some.injEq,Prod.mk.injEq] at H
      obtain ⟨rfl,rfl,rfl,rfl⟩:=H
      have p114:0≤(x6_1:Int):=of_decide_eq_true (by first|(with_reducible assumption)|assumption)
      have q114:x6_1 < (l0.length:Int):=of_decide_eq_true (by first|(with_reducible assumption)|assumption)
      obtain ⟨ad114,e114,hx114_0,hx114_1,hx114_2⟩:=at_T61 HR0.out x6_1 p114 q114
      cases e114
      replace hx114_0:=(HB.out.cell (World.block_lt_of_cell? w _ hx114_0)).trans hx114_0
      replace hx114_1:=(HB.out.cell (World.block_lt_of_cell? w _ hx114_1)).trans hx114_1
      replace hx114_2:=(HB.out.cell (World.block_lt_of_cell? w _ hx114_2)).trans hx114_2
      replace p114:=eq_true p114
      replace q114:=eq_true q114
      have p115:0≤(x6_1:Int):=of_decide_eq_true (by first|(with_reducible assumption)|assumption)
      have q115:x6_1 < (l0.length:Int):=of_decide_eq_true (by first|(with_reducible assumption)|assumption)
      obtain ⟨ad115,e115,hx115_0,hx115_1,hx115_2⟩:=at_T61 HR0.out x6_1 p115 q115
      obtain rfl:ad114=ad115:=(by injection e115)
      replace hx115_0:=(HB.out.cell (World.block_lt_of_cell? w _ hx115_0)).trans hx115_0
      replace hx115_1:=(HB.out.cell (World.block_lt_of_cell? w _ hx115_1)).trans hx115_1
      replace hx115_2:=(HB.out.cell (World.block_lt_of_cell? w _ hx115_2)).trans hx115_2
      replace p115:=eq_true p115
      replace q115:=eq_true q115
      have hcz7_0:wr.cell? ⟨gb113,0,none⟩=some (.int .i64 x114000_1):=(blk_cell BK113.out 0).trans rfl
      have hcz7_1:wr.cell? ⟨gb113,1,none⟩=some (.int .i64 x114001_1):=(blk_cell BK113.out 1).trans rfl
      have hcz7_2:wr.cell? ⟨gb113,2,none⟩=some (.int .i64 x114002_1):=(blk_cell BK113.out 2).trans rfl
      have hfz7_0:=blk_frozen BK113.out 0
      have hfz7_1:=blk_frozen BK113.out 1
      have hfz7_2:=blk_frozen BK113.out 2
      go_wp2
      refine bodyPost_ret (results_ct rfl _ _ gb113 61 #[.int .i64 ((rd_T61 l0 x6_1).f0),.int .i64 ((rd_T61 l0 x6_1).f1),.int .i64 ((rd_T61 l0 x6_1).f2)] (0,0) _ rfl (by (with_reducible repeat (first|refine blk_drewN ?_ _|refine blk_drew ?_|refine blk_alloc ?_ _));refine blk_put (cs:=#[.int .i64 ((rd_T61 l0 x6_1).f0),.int .i64 ((rd_T61 l0 x6_1).f1),.int .i64 x114002_1]) ?_ 2 _ rfl;(with_reducible repeat (first|refine blk_drewN ?_ _|refine blk_drew ?_|refine blk_alloc ?_ _));refine blk_put (cs:=#[.int .i64 ((rd_T61 l0 x6_1).f0),.int .i64 x114001_1,.int .i64 x114002_1]) ?_ 1 _ rfl;(with_reducible repeat (first|refine blk_drewN ?_ _|refine blk_drew ?_|refine blk_alloc ?_ _));refine blk_put (cs:=#[.int .i64 x114000_1,.int .i64 x114001_1,.int .i64 x114002_1]) ?_ 0 _ rfl;(with_reducible repeat (first|refine blk_drewN ?_ _|refine blk_drew ?_|refine blk_alloc ?_ _));exact BK113.out) Try.underlying61 rfl (by kernel_rfl)) rfl ?_
      exact ⟨rz,be⟩
     ·rw [if_neg c6] at H
      have c6b0:(((rd_T61 l0 x6_1).f0) == a1)=false:=beq_eq_false_iff_ne.mpr c6
      have c6b1:(((rd_T61 l0 x6_1).f0) != a1)=true:=bne_iff_ne.mpr c6
      have H':=Aside0.mk H
      clear H
      have p114:0≤(x6_1:Int):=of_decide_eq_true (by first|(with_reducible assumption)|assumption)
      have q114:x6_1 < (l0.length:Int):=of_decide_eq_true (by first|(with_reducible assumption)|assumption)
      obtain ⟨ad114,e114,hx114_0,hx114_1,hx114_2⟩:=at_T61 HR0.out x6_1 p114 q114
      cases e114
      replace hx114_0:=(HB.out.cell (World.block_lt_of_cell? w _ hx114_0)).trans hx114_0
      replace hx114_1:=(HB.out.cell (World.block_lt_of_cell? w _ hx114_1)).trans hx114_1
      replace hx114_2:=(HB.out.cell (World.block_lt_of_cell? w _ hx114_2)).trans hx114_2
      replace p114:=eq_true p114
      replace q114:=eq_true q114
      go_wp2
      go_roundg k1
      case measure=>have:=HK1.out;omega
      case rel=>exact ⟨(wrap64 (x6_1+1)),(x114000_1),(x114001_1),(x114002_1),rd_,H',⟨by have:=HK1.out;omega⟩,⟨bk BK113⟩,⟨be⟩⟩
    ·rw [if_neg c5] at H
     exact absurd H (by simp)
   ·rw [if_neg c4] at H
    have c4b0:decide (x6_1 < (l0.length:Int))=false:=decide_eq_false c4
    clear c4
    simp only [Option.some.injEq,Prod.mk.injEq] at H
    obtain ⟨rfl,rfl,rfl,rfl⟩:=H
    have hcz8_0:wr.cell? ⟨gb113,0,none⟩=some (.int .i64 x114000_1):=(blk_cell BK113.out 0).trans rfl
    have hcz8_1:wr.cell? ⟨gb113,1,none⟩=some (.int .i64 x114001_1):=(blk_cell BK113.out 1).trans rfl
    have hcz8_2:wr.cell? ⟨gb113,2,none⟩=some (.int .i64 x114002_1):=(blk_cell BK113.out 2).trans rfl
    have hfz8_0:=blk_frozen BK113.out 0
    have hfz8_1:=blk_frozen BK113.out 1
    have hfz8_2:=blk_frozen BK113.out 2
    go_wp2
    refine bodyPost_ret (results_ct rfl _ _ gb113 61 #[.int .i64 0,.int .i64 0,.int .i64 0] (0,0) _ rfl (by (with_reducible repeat (first|refine blk_drewN ?_ _|refine blk_drew ?_|refine blk_alloc ?_ _));refine blk_put (cs:=#[.int .i64 0,.int .i64 0,.int .i64 x114002_1]) ?_ 2 _ rfl;(with_reducible repeat (first|refine blk_drewN ?_ _|refine blk_drew ?_|refine blk_alloc ?_ _));refine blk_put (cs:=#[.int .i64 0,.int .i64 x114001_1,.int .i64 x114002_1]) ?_ 1 _ rfl;(with_reducible repeat (first|refine blk_drewN ?_ _|refine blk_drew ?_|refine blk_alloc ?_ _));refine blk_put (cs:=#[.int .i64 x114000_1,.int .i64 x114001_1,.int .i64 x114002_1]) ?_ 0 _ rfl;(with_reducible repeat (first|refine blk_drewN ?_ _|refine blk_drew ?_|refine blk_alloc ?_ _));exact BK113.out) Try.underlying61 rfl (by kernel_rfl)) rfl ?_
    exact ⟨rz,be⟩
mutual
def spec_RingOk.j0:Nat→List (S61)→Bool→Int→List (S35)→Option (Bool)
 | 0,_,_,_,_=>none
 | k+1,x1,x24,x117000,x117001=>if x24=true then (some false) else (spec_RingOk.l0 k x1 0 x117000 x117001)
def spec_RingOk.l0:Nat→List (S61)→Int→Int→List (S35)→Option (Bool)
 | 0,_,_,_,_=>none
 | k+1,x1,x5,x117000,x117001=>if x5 < (x117001.length:Int) then (if 0≤x5 then ((spec_l5Part.f k ((rd_T35 x117001 x5).f0) x117000).bind fun t121=>(if t121=true then (spec_RingOk.l1 k x1 x5 0 x117000 x117001) else (some false))) else (none)) else (some true)
def spec_RingOk.l1:Nat→List (S61)→Int→Int→Int→List (S35)→Option (Bool)
 | 0,_,_,_,_,_=>none
 | k+1,x1,x5,x6,x117000,x117001=>if 0≤x5 then (if x5 < (x117001.length:Int) then (if x6 < (((rd_T35 x117001 x5).f0).length:Int) then (if 0≤x6 then ((spec_DevAt.f k x1 (rd ((rd_T35 x117001 x5).f0) x6)).bind fun bt125=>(if bt125.2.2.2=true then (spec_RingOk.l1 k x1 x5 (wrap64 (x6+1)) x117000 x117001) else (some false))) else (none)) else (spec_RingOk.l0 k x1 (wrap64 (x5+1)) x117000 x117001)) else (none)) else (none)
end
def spec_RingOk.f (k:Nat) (a0_0:Int) (l0_1:List (S35)) (l1:List (S61)):Option (Bool):=(spec_DevsOk.f k l1).bind fun t117=>(if t117=true then ((spec_l1In.f a0_0 1 5).bind fun t118=>(if t118=true then ((spec_l1In.f (l0_1.length:Int) 1 64).bind fun t119=>(spec_RingOk.j0 k l1 (!t119) a0_0 l0_1)) else (spec_RingOk.j0 k l1 true a0_0 l0_1))) else (spec_RingOk.j0 k l1 true a0_0 l0_1))
def spec_RingOk.T6:Bool × List (List Nat × List Nat):=(true,[([],[]),([0],[0]),([],[]),([1,2],[1,2]),([3],[3]),([],[]),([5],[5]),([4,6],[4,6]),([7],[7])])
def spec_RingOk.B6:List Nat:=[0,1,0,7,15,0,32,127,255]
theorem spec_RingOk.tab6:rtab .any (opsOf Try.f14 6)=spec_RingOk.T6:=by kernel_rfl
theorem spec_RingOk.bits6:waitsOk spec_RingOk.T6.2 spec_RingOk.B6=true:=by kernel_rfl
set_option maxHeartbeats 8000000 in
set_option maxRecDepth 100000 in
theorem spec_RingOk.calls (k:Nat) (a0_0:Int) (A0_1:Option Addr) (c0_1:Nat) (l0_1:List (S35)) (A1:Option Addr) (c1:Nat) (l1:List (S61)) (r:Bool) (w:World) (hr0_1:Kd.C k35 w A0_1 l0_1.length l0_1) (hc0_1:l0_1.length≤c0_1) (hr1:Kd.C k61 w A1 l1.length l1) (hc1:l1.length≤c1) (h:spec_RingOk.f k a0_0 l0_1 l1=some r) :
  Calls Try.prog 14 #[.agg #[.int .i64 a0_0,.slice A0_1 l0_1.length c0_1],.slice A1 l1.length c1] w fun e w'=>e = .returned (.bool r)∧Below w.heap.size w w':=by
 have hu26:=Try.underlying26
 have hu35:=Try.underlying35
 have hu61:=Try.underlying61
 have HR0_1:=Aside0.mk hr0_1
 have HC0_1:=Aside0.mk hc0_1
 clear hr0_1 hc0_1
 have HR1:=Aside0.mk hr1
 have HC1:=Aside0.mk hc1
 clear hr1 hc1
 have HB:=Aside0.mk (Below.refl w.heap.size w)
 have H:((spec_DevsOk.f k l1).bind fun t117=>(if t117=true then ((spec_l1In.f a0_0 1 5).bind fun t118=>(if t118=true then ((spec_l1In.f (l0_1.length:Int) 1 64).bind fun t119=>(spec_RingOk.j0 k l1 (!t119) a0_0 l0_1)) else (spec_RingOk.j0 k l1 true a0_0 l0_1))) else (spec_RingOk.j0 k l1 true a0_0 l0_1)))=some r:=h
 clear h
 have HC3:=Aside0.mk H
 clear H
 go_enter Try.func14,Try.ntmps14
 go_upto_region 1 with (first|((with_reducible refine gate_dst (N:=2) rfl ?_);(try (refine gate_guard (by rfl) ?_;dsimp only));refine box_event ?hg (N:=2) ?hd (cs:=#[.int .i64 a0_0,.slice A0_1 l0_1.length c0_1]) (t:=26) ?hr ?_;(case hd=>rfl);(case hg=>rfl);(case hr=>first|(go_simp;done)|(go_simp;rfl));intro gb116 hg w4 hbox hb;have n0_:=bs hb;have n1_:=Aside0.mk (hbox);have n2_:=Aside0.mk ((by rw [hg];exact (below_size be):w.heap.size≤gb116));have n3_:=Aside0.mk ((by rw [hg];exact (below_size be):w.heap.size≤gb116));clear HB;have HB:=n0_;have BK116:=n1_;have GW116:=n2_;have GE116:=n3_;clear n0_ n1_ n2_ n3_;clear hb hbox hg))
 (try simp only [Act.put,List.setIfInBounds_toArray,List.set_cons_zero,List.set_cons_succ])
 go_cut [24] (fun v24 wc=>∃ (kq:Nat) (x24_2:Bool),v24 = .bool x24_2∧Aside0 (spec_RingOk.j0 kq l1 x24_2 a0_0 l0_1=some r)∧Aside0 (kq≤k)∧Aside0 (wc.heap[gb116]?=some (.cells #[.int .i64 a0_0,(.slice A0_1 l0_1.length c0_1)] 26 (0,0)))∧Aside0 (Below w.heap.size w wc))
 case first=>
  have H:=HC3.out
  clear HC3
  replace H:=Option.bind_eq_some_iff.mp H
  obtain ⟨t117,A50,H⟩:=H
  try dsimp only at H
  have A5:=Aside0.mk A50
  clear A50
  by_cases c6:t117=true
  ·subst c6
   rw [if_pos rfl] at H
   replace H:=Option.bind_eq_some_iff.mp H
   obtain ⟨t118,A70,H⟩:=H
   try dsimp only at H
   have A7:=Aside0.mk A70
   clear A70
   by_cases c8:t118=true
   ·subst c8
    rw [if_pos rfl] at H
    replace H:=Option.bind_eq_some_iff.mp H
    obtain ⟨t119,A90,H⟩:=H
    try dsimp only at H
    have A9:=Aside0.mk A90
    clear A90
    have H':=Aside0.mk H
    clear H
    go_wp2_with (first|((with_reducible refine gate_callee (f:=53) rfl ?_);refine goesL_ (some 10) rfl rfl Try.func53 (by kernel_rfl) rfl #[.slice A1 l1.length c1] rfl (by (try simp only [List.map_toArray,List.map_cons,List.map_nil]);first|done|rfl|(simp only [List.length_drop,List.length_take];rfl)) ?_;(with_reducible refine (spec_DevsOk.calls k _ _ l1 true _ ?side1 ?side2 A5.out).mono ?_);(case side1=>exact rC HR1);(case side2=>exact HC1.out);rintro e w10 ⟨rfl,hb⟩;refine ⟨_,rfl,?_⟩;have n0_:=Aside0.mk (blk_below (g:=gb116) (o:=.cells #[.int .i64 a0_0,.slice A0_1 l0_1.length c0_1] 26 (0,0)) (bk BK116) hb);have n1_:=bs hb;clear BK116;clear HB;have BK116:=n0_;have HB:=n1_;clear n0_ n1_;(try clear hb);(try clear hb2);(try clear hk);(try clear hi);have hcz11_0:w10.cell? ⟨gb116,0,none⟩=some (.int .i64 a0_0):=(blk_cell BK116.out 0).trans rfl;have hcz11_1:w10.cell? ⟨gb116,1,none⟩=some (.slice A0_1 l0_1.length c0_1):=(blk_cell BK116.out 1).trans rfl;have hfz11_0:=blk_frozen BK116.out 0;have hfz11_1:=blk_frozen BK116.out 1)|(go_at_call 54;(with_reducible refine (spec_l1In.calls a0_0 1 5 true _ A7.out).mono ?_);rintro e w' ⟨rfl,⟨nd,rfl⟩⟩)|(go_at_call 54;(with_reducible refine (spec_l1In.calls (l0_1.length:Int) 1 64 t119 _ A9.out).mono ?_);rintro e w' ⟨rfl,⟨nd,rfl⟩⟩))
    go_meet
    case rel=>exact ⟨_,(!t119),rd_,H',⟨by first|omega|exact Nat.le_refl _⟩,⟨bk BK116⟩,⟨be⟩⟩
   ·replace c8:=Bool.eq_false_iff.mpr c8
    subst c8
    have H1:(spec_RingOk.j0 k l1 true a0_0 l0_1)=some r:=by rw [if_neg (show ¬ (false=true) by decide)] at H;exact H
    clear H
    have H:=H1
    clear H1
    have H':=Aside0.mk H
    clear H
    go_wp2_with (first|((with_reducible refine gate_callee (f:=53) rfl ?_);refine goesL_ (some 10) rfl rfl Try.func53 (by kernel_rfl) rfl #[.slice A1 l1.length c1] rfl (by (try simp only [List.map_toArray,List.map_cons,List.map_nil]);first|done|rfl|(simp only [List.length_drop,List.length_take];rfl)) ?_;(with_reducible refine (spec_DevsOk.calls k _ _ l1 true _ ?side1 ?side2 A5.out).mono ?_);(case side1=>exact rC HR1);(case side2=>exact HC1.out);rintro e w12 ⟨rfl,hb⟩;refine ⟨_,rfl,?_⟩;have n0_:=Aside0.mk (blk_below (g:=gb116) (o:=.cells #[.int .i64 a0_0,.slice A0_1 l0_1.length c0_1] 26 (0,0)) (bk BK116) hb);have n1_:=bs hb;clear BK116;clear HB;have BK116:=n0_;have HB:=n1_;clear n0_ n1_;(try clear hb);(try clear hb2);(try clear hk);(try clear hi);have hcz13_0:w12.cell? ⟨gb116,0,none⟩=some (.int .i64 a0_0):=(blk_cell BK116.out 0).trans rfl;have hcz13_1:w12.cell? ⟨gb116,1,none⟩=some (.slice A0_1 l0_1.length c0_1):=(blk_cell BK116.out 1).trans rfl;have hfz13_0:=blk_frozen BK116.out 0;have hfz13_1:=blk_frozen BK116.out 1)|(go_at_call 54;(with_reducible refine (spec_l1In.calls a0_0 1 5 false _ A7.out).mono ?_);rintro e w' ⟨rfl,⟨nd,rfl⟩⟩))
    go_meet
    case rel=>exact ⟨_,(true),rd_,H',⟨by first|omega|exact Nat.le_refl _⟩,⟨bk BK116⟩,⟨be⟩⟩
  ·replace c6:=Bool.eq_false_iff.mpr c6
   subst c6
   have H1:(spec_RingOk.j0 k l1 true a0_0 l0_1)=some r:=by rw [if_neg (show ¬ (false=true) by decide)] at H;exact H
   clear H
   have H:=H1
   clear H1
   have H':=Aside0.mk H
   clear H
   go_wp2_with (first|((with_reducible refine gate_callee (f:=53) rfl ?_);refine goesL_ (some 10) rfl rfl Try.func53 (by kernel_rfl) rfl #[.slice A1 l1.length c1] rfl (by (try simp only [List.map_toArray,List.map_cons,List.map_nil]);first|done|rfl|(simp only [List.length_drop,List.length_take];rfl)) ?_;(with_reducible refine (spec_DevsOk.calls k _ _ l1 false _ ?side1 ?side2 A5.out).mono ?_);(case side1=>exact rC HR1);(case side2=>exact HC1.out);rintro e w14 ⟨rfl,hb⟩;refine ⟨_,rfl,?_⟩;have n0_:=Aside0.mk (blk_below (g:=gb116) (o:=.cells #[.int .i64 a0_0,.slice A0_1 l0_1.length c0_1] 26 (0,0)) (bk BK116) hb);have n1_:=bs hb;clear BK116;clear HB;have BK116:=n0_;have HB:=n1_;clear n0_ n1_;(try clear hb);(try clear hb2);(try clear hk);(try clear hi)))
   go_meet
   case rel=>exact ⟨_,(true),rd_,H',⟨by first|omega|exact Nat.le_refl _⟩,⟨bk BK116⟩,⟨be⟩⟩
 case rest=>
  clear HC3
  try clear c1
  try clear p2
  try clear c5
  try clear c6
  try clear c8
  try clear c14
  try clear hcz11_0
  try clear hcz11_1
  try clear hcz13_0
  try clear hcz13_1
  try clear hfz11_0
  try clear hfz11_1
  try clear hfz13_0
  try clear hfz13_1
  obtain ⟨kq,x24_2,rfl,HA,HJ2,BK116,HB⟩:=hcut
  cases kq with
  | zero=>exact absurd HA.out (by simp [spec_RingOk.j0])
  | succ kj2=>
   have H:=HA.out
   clear HA
   simp only [spec_RingOk.j0] at H
   by_cases c15:x24_2=true
   ·subst c15
    rw [if_pos rfl] at H
    obtain rfl:=Option.some.inj H
    go_wp2
    go_ret
    exact ⟨rz,be⟩
   ·replace c15:=Bool.eq_false_iff.mpr c15
    subst c15
    have H1:(spec_RingOk.l0 kj2 l1 0 a0_0 l0_1)=some r:=by rw [if_neg (show ¬ (false=true) by decide)] at H;exact H
    clear H
    have H:=H1
    clear H1
    have H':=Aside0.mk H
    clear H
    go_wp2
    go_loopg [5] kj2 (fun kq v5 w'=>∃ (x5_2:Int),v5 = .int .i64 x5_2∧Aside0 (spec_RingOk.l0 kq l1 x5_2 a0_0 l0_1=some r)∧Aside0 (kq≤kj2)∧Aside0 (w'.heap[gb116]?=some (.cells #[.int .i64 a0_0,(.slice A0_1 l0_1.length c0_1)] 26 (0,0)))∧Aside0 (Below w.heap.size w w'))
    case atStart=>exact ⟨(0),rd_,H',⟨Nat.le_refl _⟩,⟨bk BK116⟩,⟨be⟩⟩
    case round=>
     clear H'
     try clear c1
     try clear p2
     try clear c5
     try clear c6
     try clear c8
     try clear c14
     try clear c15
     try clear hcz11_0
     try clear hcz11_1
     try clear hcz13_0
     try clear hcz13_1
     try clear hfz11_0
     try clear hfz11_1
     try clear hfz13_0
     try clear hfz13_1
     try clear p2
     obtain ⟨x5_2,rfl,HA,HK2,BK116,HB⟩:=hrel
     cases gk with
     | zero=>exact absurd HA.out (by simp [spec_RingOk.l0])
     | succ k2=>
      have H:=HA.out
      clear HA
      simp only [spec_RingOk.l0] at H
      by_cases c16:x5_2 < (l0_1.length:Int)
      ·rw [if_pos c16] at H
       have c16b0:decide (x5_2 < (l0_1.length:Int))=true:=decide_eq_true c16
       clear c16
       by_cases c17:0≤x5_2
       ·rw [if_pos c17] at H
        have c17b0:decide (0≤x5_2)=true:=decide_eq_true c17
        clear c17
        replace H:=Option.bind_eq_some_iff.mp H
        obtain ⟨t121,A180,H⟩:=H
        try dsimp only at H
        have A18:=Aside0.mk A180
        clear A180
        by_cases c19:t121=true
        ·subst c19
         rw [if_pos rfl] at H
         have H':=Aside0.mk H
         clear H
         have hcz20_0:wr.cell? ⟨gb116,0,none⟩=some (.int .i64 a0_0):=(blk_cell BK116.out 0).trans rfl
         have hcz20_1:wr.cell? ⟨gb116,1,none⟩=some (.slice A0_1 l0_1.length c0_1):=(blk_cell BK116.out 1).trans rfl
         have hfz20_0:=blk_frozen BK116.out 0
         have hfz20_1:=blk_frozen BK116.out 1
         try go_wp2
         have n0_:=Aside0.mk (blk_drew BK116.out)
         have n1_:=Aside0.mk (below_drew1 HB.out)
         clear BK116
         clear HB
         have BK116:=n0_
         have HB:=n1_
         clear n0_ n1_
         have p120:0≤(x5_2:Int):=of_decide_eq_true (by first|(with_reducible assumption)|assumption)
         have q120:x5_2 < (l0_1.length:Int):=of_decide_eq_true (by first|(with_reducible assumption)|assumption)
         obtain ⟨ad120,A120_0,c120_0,e120,hx120_0,hl120_0,hi120_0⟩:=at_T35 HR0_1.out x5_2 p120 q120
         have hw120_0:=hx120_0
         cases e120
         replace hx120_0:=(HB.out.cell (World.block_lt_of_cell? w _ hx120_0)).trans hx120_0
         have HR120_0:=Aside0.mk hi120_0
         have HC120_0:=Aside0.mk hl120_0
         clear hi120_0 hl120_0
         replace p120:=eq_true p120
         replace q120:=eq_true q120
         refine start_ (n:=9) (S:=fun w'=>w'.cell? ⟨gb116,0,none⟩=some (.int .i64 a0_0)∧w'.cell? ⟨gb116,1,none⟩=some (.slice (some ad120) l0_1.length c0_1)∧w'.cell? (ad120.add (x5_2).toNat)=some (.slice A120_0 ((rd_T35 l0_1 x5_2).f0).length c120_0)) (ds:=[]) (fl 9 0) (by kernel_rfl) rfl rfl ⟨(blk_cell BK116.out 0).trans rfl,(blk_cell BK116.out 1).trans rfl,((HB.out.cell (World.block_lt_of_cell? w _ hw120_0)).trans hw120_0)⟩ (fun hHeld=>?_);refine with_tabW spec_RingOk.tab6 spec_RingOk.bits6 (fun HT_ HW_=>?_)
         generalize wr.drew=w21 at BK116 HB HR120_0 hx120_0 hHeld ⊢
         refine pt 0 32 (fl 9 1) HT_ ?_
         refine pt 2 34 (fl 9 5) HT_ ?_
         refine pt 5 37 (fl 9 37) HT_ ?_
         refine tt 1 33 (fl 9 39) HT_ HW_ hHeld ?_
         refine pt 3 35 (fl 9 47) HT_ ?_
         refine tt 4 36 (fl 9 63) HT_ HW_ hHeld ?_
         refine tt 6 38 (fl 9 127) HT_ HW_ hHeld ?_
         refine ot 7 (some 39) (fl 9 255) HT_ (fun K hK=>?_)
         refine goes_ Try.func55 (by kernel_rfl) rfl #[.agg #[.slice A120_0 ((rd_T35 l0_1 x5_2).f0).length c120_0],.int .i64 a0_0] (by rfl) rfl rfl (by (try simp only [List.map_toArray,List.map_cons,List.map_nil]);first|done|rfl|(simp only [List.length_drop,List.length_take];rfl)) ?_
         with_reducible refine (spec_l5Part.calls k2 _ _ ((rd_T35 l0_1 x5_2).f0) a0_0 true _ ?side1 ?side2 A18.out).mono ?_
         (case side1=>exact rC HR120_0)
         (case side2=>exact HC120_0.out)
         rintro e w22 ⟨rfl,hb⟩
         refine ⟨_,rfl,?_⟩
         have n0_:=Aside0.mk (blk_below (g:=gb116) (o:=.cells #[.int .i64 a0_0,.slice (some ad120) l0_1.length c0_1] 26 (0,0)) (bk BK116) hb)
         have n1_:=bs hb
         clear BK116
         clear HB
         have BK116:=n0_
         have HB:=n1_
         clear n0_ n1_
         (try clear hb)
         (try clear hb2)
         (try clear hk)
         (try clear hi)
         refine hK.out _ _ ⟨(blk_cell BK116.out 0).trans rfl,(blk_cell BK116.out 1).trans rfl,((HB.out.cell (World.block_lt_of_cell? w _ hw120_0)).trans hw120_0)⟩ (fun hHeld=>?_)
         clear hK K
         refine no 39 ?_
         refine pt 8 40 (fl 9 511) HT_ ?_
         refine done_ (done_of HT_.out (by kernel_rfl)) ?_
         try go_wp2
         go_loopg [6] k2 (fun kq v6 w'=>∃ (x6_3:Int),v6 = .int .i64 x6_3∧Aside0 (spec_RingOk.l1 kq l1 x5_2 x6_3 a0_0 l0_1=some r)∧Aside0 (kq≤k2)∧Aside0 (w'.heap[gb116]?=some (.cells #[.int .i64 a0_0,(.slice (some ad120) l0_1.length c0_1)] 26 (0,0)))∧Aside0 (Below w.heap.size w w'))
         case atStart=>exact ⟨(0),rd_,H',⟨Nat.le_refl _⟩,⟨bk BK116⟩,⟨be⟩⟩
         case round=>
          clear H'
          try clear c1
          try clear p1
          try clear q1
          try clear hx1
          try clear p2
          try clear c5
          try clear c6
          try clear c8
          try clear c12
          try clear p12
          try clear q12
          try clear hx12
          try clear c14
          try clear c15
          try clear c16
          try clear c16b0
          try clear c17
          try clear c17b0
          try clear c19
          try clear hcz11_0
          try clear hcz11_1
          try clear hcz13_0
          try clear hcz13_1
          try clear hcz20_0
          try clear hcz20_1
          try clear hfz11_0
          try clear hfz11_1
          try clear hfz13_0
          try clear hfz13_1
          try clear hfz20_0
          try clear hfz20_1
          try clear hx120_0
          try clear p120
          try clear p2
          try clear q120
          obtain ⟨x6_3,rfl,HA,HK3,BK116,HB⟩:=hrel
          cases gk with
          | zero=>exact absurd HA.out (by simp [spec_RingOk.l1])
          | succ k3=>
           have H:=HA.out
           clear HA
           simp only [spec_RingOk.l1] at H
           by_cases c23:0≤x5_2
           ·rw [if_pos c23] at H
            have c23b0:decide (0≤x5_2)=true:=decide_eq_true c23
            clear c23
            by_cases c24:x5_2 < (l0_1.length:Int)
            ·rw [if_pos c24] at H
             have c24b0:decide (x5_2 < (l0_1.length:Int))=true:=decide_eq_true c24
             clear c24
             by_cases c25:x6_3 < (((rd_T35 l0_1 x5_2).f0).length:Int)
             ·rw [if_pos c25] at H
              have c25b0:decide (x6_3 < (((rd_T35 l0_1 x5_2).f0).length:Int))=true:=decide_eq_true c25
              clear c25
              by_cases c26:0≤x6_3
              ·rw [if_pos c26] at H
               have c26b0:decide (0≤x6_3)=true:=decide_eq_true c26
               clear c26
               replace H:=Option.bind_eq_some_iff.mp H
               obtain ⟨⟨t125,t126,t127,t128⟩,A270,H⟩:=H
               try dsimp only at H
               have A27:=Aside0.mk A270
               clear A270
               by_cases c28:t128=true
               ·subst c28
                rw [if_pos rfl] at H
                have H':=Aside0.mk H
                clear H
                have hcz29_0:wr.cell? ⟨gb116,0,none⟩=some (.int .i64 a0_0):=(blk_cell BK116.out 0).trans rfl
                have hcz29_1:wr.cell? ⟨gb116,1,none⟩=some (.slice (some ad120) l0_1.length c0_1):=(blk_cell BK116.out 1).trans rfl
                have hfz29_0:=blk_frozen BK116.out 0
                have hfz29_1:=blk_frozen BK116.out 1
                have p122:0≤(x5_2:Int):=of_decide_eq_true (by first|(with_reducible assumption)|assumption)
                have q122:x5_2 < (l0_1.length:Int):=of_decide_eq_true (by first|(with_reducible assumption)|assumption)
                obtain ⟨ad122,A122_0,c122_0,e122,hx122_0,hl122_0,hi122_0⟩:=at_T35 HR0_1.out x5_2 p122 q122
                obtain rfl:ad120=ad122:=(by injection e122)
                replace hx122_0:=(HB.out.cell (World.block_lt_of_cell? w _ hx122_0)).trans hx122_0
                have HR122_0:=Aside0.mk hi122_0
                have HC122_0:=Aside0.mk hl122_0
                clear hi122_0 hl122_0
                replace p122:=eq_true p122
                replace q122:=eq_true q122
                have p123:0≤(x5_2:Int):=of_decide_eq_true (by first|(with_reducible assumption)|assumption)
                have q123:x5_2 < (l0_1.length:Int):=of_decide_eq_true (by first|(with_reducible assumption)|assumption)
                obtain ⟨ad123,A123_0,c123_0,e123,hx123_0,hl123_0,hi123_0⟩:=at_T35 HR0_1.out x5_2 p123 q123
                obtain rfl:ad120=ad123:=(by injection e123)
                replace hx123_0:=(HB.out.cell (World.block_lt_of_cell? w _ hx123_0)).trans hx123_0
                have HR123_0:=Aside0.mk hi123_0
                have HC123_0:=Aside0.mk hl123_0
                clear hi123_0 hl123_0
                replace p123:=eq_true p123
                replace q123:=eq_true q123
                have ea_:=Option.some.inj (hx122_0.symm.trans hx123_0)
                injection ea_ with ea_ en_ ec_
                subst ea_
                subst ec_
                clear en_
                have p124:0≤(x6_3:Int):=of_decide_eq_true (by first|(with_reducible assumption)|assumption)
                have q124:x6_3 < (((rd_T35 l0_1 x5_2).f0).length:Int):=of_decide_eq_true (by first|(with_reducible assumption)|assumption)
                obtain ⟨ad124,e124,hx124_0⟩:=Kd.at_int HR123_0.out x6_3 p124 q124
                cases e124
                replace hx124_0:=(HB.out.cell (World.block_lt_of_cell? w _ hx124_0)).trans hx124_0
                replace p124:=eq_true p124
                replace q124:=eq_true q124
                go_wp2_with (first|((with_reducible refine gate_callee (f:=56) rfl ?_);refine goesL_ (some 63) rfl rfl Try.func56 (by kernel_rfl) rfl #[.slice A1 l1.length c1,.int .i64 (rd ((rd_T35 l0_1 x5_2).f0) x6_3)] rfl (by (try simp only [List.map_toArray,List.map_cons,List.map_nil]);first|done|rfl|(simp only [List.length_drop,List.length_take];rfl)) ?_;(with_reducible refine (spec_DevAt.calls k3 _ _ l1 (rd ((rd_T35 l0_1 x5_2).f0) x6_3) t125 t126 t127 true _ ?side1 ?side2 A27.out).mono ?_);(case side1=>exact rC HR1);(case side2=>exact HC1.out);rintro e w30 ⟨rfl,hb⟩;refine ⟨_,rfl,?_⟩;have n0_:=Aside0.mk (blk_below (g:=gb116) (o:=.cells #[.int .i64 a0_0,.slice (some ad120) l0_1.length c0_1] 26 (0,0)) (bk BK116) hb);have n1_:=bs hb;clear BK116;clear HB;have BK116:=n0_;have HB:=n1_;clear n0_ n1_;(try clear hb);(try clear hb2);(try clear hk);(try clear hi))|((with_reducible refine gate_dst (N:=7) rfl ?_);(try (refine gate_guard (by rfl) ?_;dsimp only));refine box_event ?hg (N:=7) ?hd (cs:=#[.int .i64 0,.int .i64 0,.int .i64 0]) (t:=61) ?hr ?_;(case hd=>rfl);(case hg=>rfl);(case hr=>first|(go_simp;done)|(go_simp;rfl));intro gb129 hg w31 hbox hb;have n0_:=Aside0.mk (blk_below (g:=gb116) (o:=.cells #[.int .i64 a0_0,.slice (some ad120) l0_1.length c0_1] 26 (0,0)) (bk BK116) hb);have n1_:=bs hb;have n2_:=Aside0.mk (hbox);have n3_:=Aside0.mk ((by rw [hg];exact (below_size be):w.heap.size≤gb129));have n4_:=Aside0.mk ((by rw [hg];exact (below_size be):w.heap.size≤gb129));have n5_:=Aside0.mk ((by rw [hg];exact Nat.ne_of_lt (blk_lt (g:=gb116) (o:=.cells #[.int .i64 a0_0,.slice (some ad120) l0_1.length c0_1] 26 (0,0)) (bk BK116)):gb116 ≠ gb129));have n6_:=Aside0.mk ((by rw [hg];exact Nat.ne_of_gt (blk_lt (g:=gb116) (o:=.cells #[.int .i64 a0_0,.slice (some ad120) l0_1.length c0_1] 26 (0,0)) (bk BK116)):gb129 ≠ gb116));clear BK116;clear HB;have BK116:=n0_;have HB:=n1_;have BK129:=n2_;have GW129:=n3_;have GE129:=n4_;have NB116_129:=n5_;have NB129_116:=n6_;clear n0_ n1_ n2_ n3_ n4_ n5_ n6_;clear hb hbox hg;have hnb32:=NB129_116.out;have hnc32:=NB116_129.out;have hcz33_0:w31.cell? ⟨gb129,0,none⟩=some (.int .i64 0):=(blk_cell BK129.out 0).trans rfl;have hcz33_1:w31.cell? ⟨gb129,1,none⟩=some (.int .i64 0):=(blk_cell BK129.out 1).trans rfl;have hcz33_2:w31.cell? ⟨gb129,2,none⟩=some (.int .i64 0):=(blk_cell BK129.out 2).trans rfl;have hfz33_0:=blk_frozen BK129.out 0;have hfz33_1:=blk_frozen BK129.out 1;have hfz33_2:=blk_frozen BK129.out 2))
                go_roundg k3
                case measure=>have:=HJ2.out;have:=HK2.out;have:=HK3.out;omega
                case rel=>exact ⟨(wrap64 (x6_3+1)),rd_,H',⟨by have:=HJ2.out;have:=HK2.out;have:=HK3.out;omega⟩,⟨by (with_reducible repeat (first|refine blk_drewN ?_ _|refine blk_drew ?_|refine blk_alloc ?_ _));refine blk_far ?_ NB116_129.out _;(with_reducible repeat (first|refine blk_drewN ?_ _|refine blk_drew ?_|refine blk_alloc ?_ _));refine blk_far ?_ NB116_129.out _;(with_reducible repeat (first|refine blk_drewN ?_ _|refine blk_drew ?_|refine blk_alloc ?_ _));refine blk_far ?_ NB116_129.out _;(with_reducible repeat (first|refine blk_drewN ?_ _|refine blk_drew ?_|refine blk_alloc ?_ _));exact BK116.out⟩,⟨be⟩⟩
               ·replace c28:=Bool.eq_false_iff.mpr c28
                subst c28
                have H1:(some false)=some r:=by rw [if_neg (show ¬ (false=true) by decide)] at H;exact H
                clear H
                have H:=H1
                clear H1
                obtain rfl:=Option.some.inj H
                have hcz34_0:wr.cell? ⟨gb116,0,none⟩=some (.int .i64 a0_0):=(blk_cell BK116.out 0).trans rfl
                have hcz34_1:wr.cell? ⟨gb116,1,none⟩=some (.slice (some ad120) l0_1.length c0_1):=(blk_cell BK116.out 1).trans rfl
                have hfz34_0:=blk_frozen BK116.out 0
                have hfz34_1:=blk_frozen BK116.out 1
                have p122:0≤(x5_2:Int):=of_decide_eq_true (by first|(with_reducible assumption)|assumption)
                have q122:x5_2 < (l0_1.length:Int):=of_decide_eq_true (by first|(with_reducible assumption)|assumption)
                obtain ⟨ad122,A122_0,c122_0,e122,hx122_0,hl122_0,hi122_0⟩:=at_T35 HR0_1.out x5_2 p122 q122
                obtain rfl:ad120=ad122:=(by injection e122)
                replace hx122_0:=(HB.out.cell (World.block_lt_of_cell? w _ hx122_0)).trans hx122_0
                have HR122_0:=Aside0.mk hi122_0
                have HC122_0:=Aside0.mk hl122_0
                clear hi122_0 hl122_0
                replace p122:=eq_true p122
                replace q122:=eq_true q122
                have p123:0≤(x5_2:Int):=of_decide_eq_true (by first|(with_reducible assumption)|assumption)
                have q123:x5_2 < (l0_1.length:Int):=of_decide_eq_true (by first|(with_reducible assumption)|assumption)
                obtain ⟨ad123,A123_0,c123_0,e123,hx123_0,hl123_0,hi123_0⟩:=at_T35 HR0_1.out x5_2 p123 q123
                obtain rfl:ad120=ad123:=(by injection e123)
                replace hx123_0:=(HB.out.cell (World.block_lt_of_cell? w _ hx123_0)).trans hx123_0
                have HR123_0:=Aside0.mk hi123_0
                have HC123_0:=Aside0.mk hl123_0
                clear hi123_0 hl123_0
                replace p123:=eq_true p123
                replace q123:=eq_true q123
                have ea_:=Option.some.inj (hx122_0.symm.trans hx123_0)
                injection ea_ with ea_ en_ ec_
                subst ea_
                subst ec_
                clear en_
                have p124:0≤(x6_3:Int):=of_decide_eq_true (by first|(with_reducible assumption)|assumption)
                have q124:x6_3 < (((rd_T35 l0_1 x5_2).f0).length:Int):=of_decide_eq_true (by first|(with_reducible assumption)|assumption)
                obtain ⟨ad124,e124,hx124_0⟩:=Kd.at_int HR123_0.out x6_3 p124 q124
                cases e124
                replace hx124_0:=(HB.out.cell (World.block_lt_of_cell? w _ hx124_0)).trans hx124_0
                replace p124:=eq_true p124
                replace q124:=eq_true q124
                go_wp2_with (first|((with_reducible refine gate_callee (f:=56) rfl ?_);refine goesL_ (some 63) rfl rfl Try.func56 (by kernel_rfl) rfl #[.slice A1 l1.length c1,.int .i64 (rd ((rd_T35 l0_1 x5_2).f0) x6_3)] rfl (by (try simp only [List.map_toArray,List.map_cons,List.map_nil]);first|done|rfl|(simp only [List.length_drop,List.length_take];rfl)) ?_;(with_reducible refine (spec_DevAt.calls k3 _ _ l1 (rd ((rd_T35 l0_1 x5_2).f0) x6_3) t125 t126 t127 false _ ?side1 ?side2 A27.out).mono ?_);(case side1=>exact rC HR1);(case side2=>exact HC1.out);rintro e w35 ⟨rfl,hb⟩;refine ⟨_,rfl,?_⟩;have n0_:=Aside0.mk (blk_below (g:=gb116) (o:=.cells #[.int .i64 a0_0,.slice (some ad120) l0_1.length c0_1] 26 (0,0)) (bk BK116) hb);have n1_:=bs hb;clear BK116;clear HB;have BK116:=n0_;have HB:=n1_;clear n0_ n1_;(try clear hb);(try clear hb2);(try clear hk);(try clear hi))|((with_reducible refine gate_dst (N:=7) rfl ?_);(try (refine gate_guard (by rfl) ?_;dsimp only));refine box_event ?hg (N:=7) ?hd (cs:=#[.int .i64 0,.int .i64 0,.int .i64 0]) (t:=61) ?hr ?_;(case hd=>rfl);(case hg=>rfl);(case hr=>first|(go_simp;done)|(go_simp;rfl));intro gb129 hg w36 hbox hb;have n0_:=Aside0.mk (blk_below (g:=gb116) (o:=.cells #[.int .i64 a0_0,.slice (some ad120) l0_1.length c0_1] 26 (0,0)) (bk BK116) hb);have n1_:=bs hb;have n2_:=Aside0.mk (hbox);have n3_:=Aside0.mk ((by rw [hg];exact (below_size be):w.heap.size≤gb129));have n4_:=Aside0.mk ((by rw [hg];exact (below_size be):w.heap.size≤gb129));have n5_:=Aside0.mk ((by rw [hg];exact Nat.ne_of_lt (blk_lt (g:=gb116) (o:=.cells #[.int .i64 a0_0,.slice (some ad120) l0_1.length c0_1] 26 (0,0)) (bk BK116)):gb116 ≠ gb129));have n6_:=Aside0.mk ((by rw [hg];exact Nat.ne_of_gt (blk_lt (g:=gb116) (o:=.cells #[.int .i64 a0_0,.slice (some ad120) l0_1.length c0_1] 26 (0,0)) (bk BK116)):gb129 ≠ gb116));clear BK116;clear HB;have BK116:=n0_;have HB:=n1_;have BK129:=n2_;have GW129:=n3_;have GE129:=n4_;have NB116_129:=n5_;have NB129_116:=n6_;clear n0_ n1_ n2_ n3_ n4_ n5_ n6_;clear hb hbox hg;have hnb37:=NB129_116.out;have hnc37:=NB116_129.out;have hcz38_0:w36.cell? ⟨gb129,0,none⟩=some (.int .i64 0):=(blk_cell BK129.out 0).trans rfl;have hcz38_1:w36.cell? ⟨gb129,1,none⟩=some (.int .i64 0):=(blk_cell BK129.out 1).trans rfl;have hcz38_2:w36.cell? ⟨gb129,2,none⟩=some (.int .i64 0):=(blk_cell BK129.out 2).trans rfl;have hfz38_0:=blk_frozen BK129.out 0;have hfz38_1:=blk_frozen BK129.out 1;have hfz38_2:=blk_frozen BK129.out 2))
                go_ret
                exact ⟨rz,be⟩
              ·rw [if_neg c26] at H
               exact absurd H (by simp)
             ·rw [if_neg c25] at H
              have c25b0:decide (x6_3 < (((rd_T35 l0_1 x5_2).f0).length:Int))=false:=decide_eq_false c25
              clear c25
              have H':=Aside0.mk H
              clear H
              have hcz39_0:wr.cell? ⟨gb116,0,none⟩=some (.int .i64 a0_0):=(blk_cell BK116.out 0).trans rfl
              have hcz39_1:wr.cell? ⟨gb116,1,none⟩=some (.slice (some ad120) l0_1.length c0_1):=(blk_cell BK116.out 1).trans rfl
              have hfz39_0:=blk_frozen BK116.out 0
              have hfz39_1:=blk_frozen BK116.out 1
              have p122:0≤(x5_2:Int):=of_decide_eq_true (by first|(with_reducible assumption)|assumption)
              have q122:x5_2 < (l0_1.length:Int):=of_decide_eq_true (by first|(with_reducible assumption)|assumption)
              obtain ⟨ad122,A122_0,c122_0,e122,hx122_0,hl122_0,hi122_0⟩:=at_T35 HR0_1.out x5_2 p122 q122
              obtain rfl:ad120=ad122:=(by injection e122)
              replace hx122_0:=(HB.out.cell (World.block_lt_of_cell? w _ hx122_0)).trans hx122_0
              have HR122_0:=Aside0.mk hi122_0
              have HC122_0:=Aside0.mk hl122_0
              clear hi122_0 hl122_0
              replace p122:=eq_true p122
              replace q122:=eq_true q122
              go_wp2
              go_roundg k3
              case measure=>have:=HJ2.out;have:=HK2.out;have:=HK3.out;omega
              case rel=>exact ⟨(wrap64 (x5_2+1)),rd_,H',⟨by have:=HJ2.out;have:=HK2.out;have:=HK3.out;omega⟩,⟨bk BK116⟩,⟨be⟩⟩
            ·rw [if_neg c24] at H
             exact absurd H (by simp)
           ·rw [if_neg c23] at H
            exact absurd H (by simp)
        ·replace c19:=Bool.eq_false_iff.mpr c19
         subst c19
         have H1:(some false)=some r:=by rw [if_neg (show ¬ (false=true) by decide)] at H;exact H
         clear H
         have H:=H1
         clear H1
         obtain rfl:=Option.some.inj H
         have hcz40_0:wr.cell? ⟨gb116,0,none⟩=some (.int .i64 a0_0):=(blk_cell BK116.out 0).trans rfl
         have hcz40_1:wr.cell? ⟨gb116,1,none⟩=some (.slice A0_1 l0_1.length c0_1):=(blk_cell BK116.out 1).trans rfl
         have hfz40_0:=blk_frozen BK116.out 0
         have hfz40_1:=blk_frozen BK116.out 1
         try go_wp2
         have n0_:=Aside0.mk (blk_drew BK116.out)
         have n1_:=Aside0.mk (below_drew1 HB.out)
         clear BK116
         clear HB
         have BK116:=n0_
         have HB:=n1_
         clear n0_ n1_
         have p120:0≤(x5_2:Int):=of_decide_eq_true (by first|(with_reducible assumption)|assumption)
         have q120:x5_2 < (l0_1.length:Int):=of_decide_eq_true (by first|(with_reducible assumption)|assumption)
         obtain ⟨ad120,A120_0,c120_0,e120,hx120_0,hl120_0,hi120_0⟩:=at_T35 HR0_1.out x5_2 p120 q120
         have hw120_0:=hx120_0
         cases e120
         replace hx120_0:=(HB.out.cell (World.block_lt_of_cell? w _ hx120_0)).trans hx120_0
         have HR120_0:=Aside0.mk hi120_0
         have HC120_0:=Aside0.mk hl120_0
         clear hi120_0 hl120_0
         replace p120:=eq_true p120
         replace q120:=eq_true q120
         refine start_ (n:=9) (S:=fun w'=>w'.cell? ⟨gb116,0,none⟩=some (.int .i64 a0_0)∧w'.cell? ⟨gb116,1,none⟩=some (.slice (some ad120) l0_1.length c0_1)∧w'.cell? (ad120.add (x5_2).toNat)=some (.slice A120_0 ((rd_T35 l0_1 x5_2).f0).length c120_0)) (ds:=[]) (fl 9 0) (by kernel_rfl) rfl rfl ⟨(blk_cell BK116.out 0).trans rfl,(blk_cell BK116.out 1).trans rfl,((HB.out.cell (World.block_lt_of_cell? w _ hw120_0)).trans hw120_0)⟩ (fun hHeld=>?_);refine with_tabW spec_RingOk.tab6 spec_RingOk.bits6 (fun HT_ HW_=>?_)
         generalize wr.drew=w41 at BK116 HB HR120_0 hx120_0 hHeld ⊢
         refine pt 0 32 (fl 9 1) HT_ ?_
         refine pt 2 34 (fl 9 5) HT_ ?_
         refine pt 5 37 (fl 9 37) HT_ ?_
         refine tt 1 33 (fl 9 39) HT_ HW_ hHeld ?_
         refine pt 3 35 (fl 9 47) HT_ ?_
         refine tt 4 36 (fl 9 63) HT_ HW_ hHeld ?_
         refine tt 6 38 (fl 9 127) HT_ HW_ hHeld ?_
         refine ot 7 (some 39) (fl 9 255) HT_ (fun K hK=>?_)
         refine goes_ Try.func55 (by kernel_rfl) rfl #[.agg #[.slice A120_0 ((rd_T35 l0_1 x5_2).f0).length c120_0],.int .i64 a0_0] (by rfl) rfl rfl (by (try simp only [List.map_toArray,List.map_cons,List.map_nil]);first|done|rfl|(simp only [List.length_drop,List.length_take];rfl)) ?_
         with_reducible refine (spec_l5Part.calls k2 _ _ ((rd_T35 l0_1 x5_2).f0) a0_0 false _ ?side1 ?side2 A18.out).mono ?_
         (case side1=>exact rC HR120_0)
         (case side2=>exact HC120_0.out)
         rintro e w42 ⟨rfl,hb⟩
         refine ⟨_,rfl,?_⟩
         have n0_:=Aside0.mk (blk_below (g:=gb116) (o:=.cells #[.int .i64 a0_0,.slice (some ad120) l0_1.length c0_1] 26 (0,0)) (bk BK116) hb)
         have n1_:=bs hb
         clear BK116
         clear HB
         have BK116:=n0_
         have HB:=n1_
         clear n0_ n1_
         (try clear hb)
         (try clear hb2)
         (try clear hk)
         (try clear hi)
         refine hK.out _ _ ⟨(blk_cell BK116.out 0).trans rfl,(blk_cell BK116.out 1).trans rfl,((HB.out.cell (World.block_lt_of_cell? w _ hw120_0)).trans hw120_0)⟩ (fun hHeld=>?_)
         clear hK K
         refine no 39 ?_
         refine pt 8 40 (fl 9 511) HT_ ?_
         refine done_ (done_of HT_.out (by kernel_rfl)) ?_
         try go_wp2
         go_ret
         exact ⟨rz,be⟩
       ·rw [if_neg c17] at H
        exact absurd H (by simp)
      ·rw [if_neg c16] at H
       have c16b0:decide (x5_2 < (l0_1.length:Int))=false:=decide_eq_false c16
       clear c16
       obtain rfl:=Option.some.inj H
       have hcz43_0:wr.cell? ⟨gb116,0,none⟩=some (.int .i64 a0_0):=(blk_cell BK116.out 0).trans rfl
       have hcz43_1:wr.cell? ⟨gb116,1,none⟩=some (.slice A0_1 l0_1.length c0_1):=(blk_cell BK116.out 1).trans rfl
       have hfz43_0:=blk_frozen BK116.out 0
       have hfz43_1:=blk_frozen BK116.out 1
       go_wp2
       go_ret
       exact ⟨rz,be⟩
end Go.Proofs.Ytpbjbfimnfghkaa.PFnLoads
