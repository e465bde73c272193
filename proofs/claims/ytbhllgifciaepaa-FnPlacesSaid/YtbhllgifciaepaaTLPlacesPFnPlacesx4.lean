/- Trimmed by a program of this session (trim.py). Not trusted: Lean checks it. -/
import Derived.Test.YtbhllgifciaepaaTLPlacesPFnPlacesx0
namespace Go.Proofs.Ytbhllgifciaepaa.PFnPlaces
open Go.RowKit Go.Proofs.YtbhllgifciaepaaW.PrintWords Go.Proofs.YtbhllgifciaepaaW.PrintLast Go.Proofs.YtbhllgifciaepaaW.PrintMore
attribute [local go_sem] max2_int min2_int max_two min_two max_three min_three max_four min_four
set_option linter.unusedVariables false
set_option linter.unusedSimpArgs false
def spec_l4Has.l0:Nat→List Int→Int→Int→Option (Bool)
 | 0,_,_,_=>none
 | k+1,x0,x1,x5=>if x5 < (x0.length:Int) then (if 0≤x5 then (if (rd x0 x5)=x1 then (some true) else (spec_l4Has.l0 k x0 x1 (wrap64 (x5+1)))) else (none)) else (some false)
def spec_l4Has.f (k:Nat) (l0:List Int) (a1:Int):Option (Bool):=spec_l4Has.l0 k l0 a1 0
set_option maxHeartbeats 8000000 in
set_option maxRecDepth 100000 in
theorem spec_l4Has.calls (k:Nat) (A0:Option Addr) (c0:Nat) (l0:List Int) (a1:Int) (r:Bool) (w:World) (hr0:Kd.C (Kd.int .i64) w A0 l0.length l0) (hc0:l0.length≤c0) (h:spec_l4Has.f k l0 a1=some r) :
  Calls Try.prog 77 #[.slice A0 l0.length c0,.int .i64 a1] w fun e w'=>e = .returned (.bool r)∧Drawn0 w w':=by
 have HR0:=Aside0.mk hr0
 have HC0:=Aside0.mk hc0
 clear hr0 hc0
 have H:(spec_l4Has.l0 k l0 a1 0)=some r:=h
 clear h
 have H':=Aside0.mk H
 clear H
 go_enter Try.func77,Try.ntmps77
 go_wp2
 go_loopg [5] k (fun kq v5 w'=>∃ (x5_1:Int),v5 = .int .i64 x5_1∧Aside0 (spec_l4Has.l0 kq l0 a1 x5_1=some r)∧Aside0 (kq≤k)∧Drawn0 w w')
 case atStart=>exact ⟨(0),(by first|rfl|(simp;done)|(simp [*];done)),H',⟨Nat.le_refl _⟩,by repeat (first|exact Drawn0.refl _|apply Drawn0.step)⟩
 case round=>
  clear H'
  try clear p2
  obtain ⟨x5_1,rfl,HA,HK1,⟨m1,rfl⟩⟩:=hrel
  cases gk with
  | zero=>exact absurd HA.out (by simp [spec_l4Has.l0])
  | succ k1=>
   have H:=HA.out
   clear HA
   simp only [spec_l4Has.l0] at H
   by_cases c3:x5_1 < (l0.length:Int)
   ·rw [if_pos c3] at H
    have c3b0:decide (x5_1 < (l0.length:Int))=true:=decide_eq_true c3
    clear c3
    by_cases c4:0≤x5_1
    ·rw [if_pos c4] at H
     have c4b0:decide (0≤x5_1)=true:=decide_eq_true c4
     clear c4
     by_cases c5:(rd l0 x5_1)=a1
     ·rw [if_pos c5] at H
      have c5b0:((rd l0 x5_1) == a1)=true:=beq_iff_eq.mpr c5
      have c5b1:((rd l0 x5_1) != a1)=false:=bne_eq_false_iff_eq.mpr c5
      clear c5
      obtain rfl:=Option.some.inj H
      have p137:0≤(x5_1:Int):=of_decide_eq_true (by first|(with_reducible assumption)|assumption)
      have q137:x5_1 < (l0.length:Int):=of_decide_eq_true (by first|(with_reducible assumption)|assumption)
      obtain ⟨ad137,e137,hx137_0⟩:=Kd.at_int HR0.out x5_1 p137 q137
      cases e137
      replace p137:=eq_true p137
      replace q137:=eq_true q137
      go_wp2
      go_ret
      exact ⟨by first|rfl|(simp;done)|(simp [*];done),by repeat (first|exact Drawn0.refl _|apply Drawn0.step)⟩
     ·rw [if_neg c5] at H
      have c5b0:((rd l0 x5_1) == a1)=false:=beq_eq_false_iff_ne.mpr c5
      have c5b1:((rd l0 x5_1) != a1)=true:=bne_iff_ne.mpr c5
      have H':=Aside0.mk H
      clear H
      have p137:0≤(x5_1:Int):=of_decide_eq_true (by first|(with_reducible assumption)|assumption)
      have q137:x5_1 < (l0.length:Int):=of_decide_eq_true (by first|(with_reducible assumption)|assumption)
      obtain ⟨ad137,e137,hx137_0⟩:=Kd.at_int HR0.out x5_1 p137 q137
      cases e137
      replace p137:=eq_true p137
      replace q137:=eq_true q137
      go_wp2
      go_roundg k1
      case measure=>have:=HK1.out;omega
      case rel=>exact ⟨(wrap64 (x5_1+1)),(by first|rfl|(simp;done)|(simp [*];done)),H',⟨by have:=HK1.out;omega⟩,by repeat (first|exact Drawn0.refl _|apply Drawn0.step)⟩
    ·rw [if_neg c4] at H
     exact absurd H (by simp)
   ·rw [if_neg c3] at H
    have c3b0:decide (x5_1 < (l0.length:Int))=false:=decide_eq_false c3
    clear c3
    obtain rfl:=Option.some.inj H
    go_wp2
    go_ret
    exact ⟨by first|rfl|(simp;done)|(simp [*];done),by repeat (first|exact Drawn0.refl _|apply Drawn0.step)⟩
def spec_l5Part.l0:Nat→Int→Int→List Int→Option (Bool)
 | 0,_,_,_=>none
 | k+1,x1,x5,x139000=>if x5 < (x139000.length:Int) then (if 0≤x5 then (if x5≤(x139000.length:Int) then ((spec_l4Has.f k (x139000.take (x5:Int).toNat) (rd x139000 x5)).bind fun t141=>(if t141=true then (some false) else (spec_l5Part.l0 k x1 (wrap64 (x5+1)) x139000))) else (none)) else (none)) else (some ((x139000.length:Int) == x1))
def spec_l5Part.f (k:Nat) (l0_0:List Int) (a1:Int):Option (Bool):=spec_l5Part.l0 k a1 0 l0_0
set_option maxHeartbeats 8000000 in
set_option maxRecDepth 100000 in
theorem spec_l5Part.calls (k:Nat) (A0_0:Option Addr) (c0_0:Nat) (l0_0:List Int) (a1:Int) (r:Bool) (w:World) (hr0_0:Kd.C (Kd.int .i64) w A0_0 l0_0.length l0_0) (hc0_0:l0_0.length≤c0_0) (h:spec_l5Part.f k l0_0 a1=some r) :
  Calls Try.prog 98 #[.agg #[.slice A0_0 l0_0.length c0_0],.int .i64 a1] w fun e w'=>e = .returned (.bool r)∧Below w.heap.size w w':=by
 have hu29:=Try.underlying29
 have HR0_0:=Aside0.mk hr0_0
 have HC0_0:=Aside0.mk hc0_0
 clear hr0_0 hc0_0
 have HB:=Aside0.mk (Below.refl w.heap.size w)
 have H:(spec_l5Part.l0 k a1 0 l0_0)=some r:=h
 clear h
 have H':=Aside0.mk H
 clear H
 go_enter Try.func98,Try.ntmps98
 go_wp2_with (first|((with_reducible refine gate_dst (N:=2) rfl ?_);refine box_event ?hg (N:=2) ?hd (cs:=#[.slice A0_0 l0_0.length c0_0]) (t:=29) ?hr ?_;(case hd=>rfl);(case hg=>rfl);(case hr=>first|(go_simp;done)|(go_simp;rfl));intro gb138 hg w3 hbox hb;have n0_:=Aside0.mk (below_step (by repeat (first|(with_reducible first|exact HB.out|apply below_alloc|apply pw_below_drewN|apply below_drew1)|exact HB.out)) hb);have n1_:=Aside0.mk (hbox);have n2_:=Aside0.mk ((by rw [hg];exact (below_size (by repeat (first|(with_reducible first|exact HB.out|apply below_alloc|apply pw_below_drewN|apply below_drew1)|exact HB.out))):w.heap.size≤gb138));have n3_:=Aside0.mk ((by rw [hg];exact (below_size (by repeat (first|(with_reducible first|exact HB.out|apply below_alloc|apply pw_below_drewN|apply below_drew1)|exact HB.out))):w.heap.size≤gb138));clear HB;have HB:=n0_;have BK138:=n1_;have GW138:=n2_;have GE138:=n3_;clear n0_ n1_ n2_ n3_;clear hb hbox hg))
 repeat (go_quiet (first|((with_reducible refine gate_dst (N:=2) rfl ?_);refine box_event ?hg (N:=2) ?hd (cs:=#[.slice A0_0 l0_0.length c0_0]) (t:=29) ?hr ?_;(case hd=>rfl);(case hg=>rfl);(case hr=>first|(go_simp;done)|(go_simp;rfl));intro gb138 hg w3 hbox hb;have n0_:=Aside0.mk (below_step (by repeat (first|(with_reducible first|exact HB.out|apply below_alloc|apply pw_below_drewN|apply below_drew1)|exact HB.out)) hb);have n1_:=Aside0.mk (hbox);have n2_:=Aside0.mk ((by rw [hg];exact (below_size (by repeat (first|(with_reducible first|exact HB.out|apply below_alloc|apply pw_below_drewN|apply below_drew1)|exact HB.out))):w.heap.size≤gb138));have n3_:=Aside0.mk ((by rw [hg];exact (below_size (by repeat (first|(with_reducible first|exact HB.out|apply below_alloc|apply pw_below_drewN|apply below_drew1)|exact HB.out))):w.heap.size≤gb138));clear HB;have HB:=n0_;have BK138:=n1_;have GW138:=n2_;have GE138:=n3_;clear n0_ n1_ n2_ n3_;clear hb hbox hg));try go_wp2_with (first|((with_reducible refine gate_dst (N:=2) rfl ?_);refine box_event ?hg (N:=2) ?hd (cs:=#[.slice A0_0 l0_0.length c0_0]) (t:=29) ?hr ?_;(case hd=>rfl);(case hg=>rfl);(case hr=>first|(go_simp;done)|(go_simp;rfl));intro gb138 hg w3 hbox hb;have n0_:=Aside0.mk (below_step (by repeat (first|(with_reducible first|exact HB.out|apply below_alloc|apply pw_below_drewN|apply below_drew1)|exact HB.out)) hb);have n1_:=Aside0.mk (hbox);have n2_:=Aside0.mk ((by rw [hg];exact (below_size (by repeat (first|(with_reducible first|exact HB.out|apply below_alloc|apply pw_below_drewN|apply below_drew1)|exact HB.out))):w.heap.size≤gb138));have n3_:=Aside0.mk ((by rw [hg];exact (below_size (by repeat (first|(with_reducible first|exact HB.out|apply below_alloc|apply pw_below_drewN|apply below_drew1)|exact HB.out))):w.heap.size≤gb138));clear HB;have HB:=n0_;have BK138:=n1_;have GW138:=n2_;have GE138:=n3_;clear n0_ n1_ n2_ n3_;clear hb hbox hg)))
 go_loopg [5] k (fun kq v5 w'=>∃ (x5_1:Int),v5 = .int .i64 x5_1∧Aside0 (spec_l5Part.l0 kq a1 x5_1 l0_0=some r)∧Aside0 (kq≤k)∧Aside0 (w'.heap[gb138]?=some (.cells #[(.slice A0_0 l0_0.length c0_0)] 29 (0,0)))∧Aside0 (Below w.heap.size w w'))
 case atStart=>exact ⟨(0),(by first|rfl|(simp;done)|(simp [*];done)),H',⟨Nat.le_refl _⟩,⟨by (with_reducible repeat (first|refine blk_drewN ?_ _|refine blk_drew ?_|refine blk_alloc ?_ _));exact BK138.out⟩,⟨by repeat (first|(with_reducible first|exact HB.out|apply below_alloc|apply pw_below_drewN|apply below_drew1|refine below_set ?_ GE138.out)|exact HB.out)⟩⟩
 case round=>
  clear H'
  try clear p2
  obtain ⟨x5_1,rfl,HA,HK1,BK138,HB⟩:=hrel
  cases gk with
  | zero=>exact absurd HA.out (by simp [spec_l5Part.l0])
  | succ k1=>
   have H:=HA.out
   clear HA
   simp only [spec_l5Part.l0] at H
   by_cases c4:x5_1 < (l0_0.length:Int)
   ·rw [if_pos c4] at H
    have c4b0:decide (x5_1 < (l0_0.length:Int))=true:=decide_eq_true c4
    clear c4
    by_cases c5:0≤x5_1
    ·rw [if_pos c5] at H
     have c5b0:=eq_true c5
     have c5b1:decide (0≤x5_1)=true:=decide_eq_true c5
     clear c5
     by_cases c6:x5_1≤(l0_0.length:Int)
     ·rw [if_pos c6] at H
      have c6b0:=eq_true c6
      have c6b1:decide (x5_1≤(l0_0.length:Int))=true:=decide_eq_true c6
      clear c6
      replace H:=Option.bind_eq_some_iff.mp H
      obtain ⟨t141,A70,H⟩:=H
      replace H:(if t141=true then (some false) else (spec_l5Part.l0 k1 a1 (wrap64 (x5_1+1)) l0_0))=some r:=H
      have A7:=Aside0.mk A70
      clear A70
      by_cases c8:t141=true
      ·subst c8
       have H1:(some false)=some r:=by rw [if_pos rfl] at H;exact H
       clear H
       have H:=H1
       clear H1
       obtain rfl:=Option.some.inj H
       have hcz9_0:wr.cell? ⟨gb138,0,none⟩=some (.slice A0_0 l0_0.length c0_0):=(blk_cell BK138.out 0).trans rfl
       have hfz9_0:=blk_frozen BK138.out 0
       obtain ⟨i010,hi010,_,hsz10,_⟩:=info_parts info3
       obtain ⟨hcut10,hA10,hC10⟩:=print_take_of (P:=Try.prog) (Value.int .i64) 0 22 3 .i64 Try.underlying22 hi010 hsz10 A0_0 c0_0 l0_0 x5_1 (of_decide_eq_true (by first|(with_reducible assumption)|assumption)) (of_decide_eq_true (by first|(with_reducible assumption)|assumption)) HC0_0.out
       have HR139:=Aside0.mk (Kd.C_of_reads (h1:=fun _=>rfl) (hA10 _ (Kd.reads_of_C HR0_0.out)))
       have HC139:=Aside0.mk hC10
       clear hA10 hC10 hi010 hsz10
       have p140:0≤(x5_1:Int):=of_decide_eq_true (by first|(with_reducible assumption)|assumption)
       have q140:x5_1 < (l0_0.length:Int):=of_decide_eq_true (by first|(with_reducible assumption)|assumption)
       obtain ⟨ad140,e140,hx140_0⟩:=Kd.at_int HR0_0.out x5_1 p140 q140
       cases e140
       replace hx140_0:=(HB.out.cell (World.block_lt_of_cell? w _ hx140_0)).trans hx140_0
       replace p140:=eq_true p140
       replace q140:=eq_true q140
       have HLx_:=Aside0.mk (show (l0_0.take (x5_1:Int).toNat).length=(x5_1:Int).toNat from (by rw [List.length_take];have q_:x5_1≤(l0_0.length:Int):=of_decide_eq_true (by assumption);omega))
       go_wp2_with (first|(go_at_call 77;(with_reducible refine (Aid.calls_len HLx_.out (spec_l4Has.calls k1 _ _ (l0_0.take (x5_1:Int).toNat) (rd l0_0 x5_1) true _ ?side1 ?side2 A7.out)).mono ?_);(case side1=>repeat (first|exact (Kd.C_below HR139.out HB.out)|(with_reducible refine Kd.C_alloc ?_ _)|(with_reducible refine Kd.C_drewN ?_ _)|(with_reducible refine Kd.C_drew ?_)));(case side2=>exact HC139.out);rintro e w' ⟨rfl,⟨nd,rfl⟩⟩;(try first|exact ⟨rfl,_,World.drewN_drewN _ _ _⟩|exact ⟨rfl,_,Eq.trans (World.drewN_drewN _ _ _) (congrArg (World.drewN _) (Nat.add_assoc _ _ _))⟩)))
       repeat (go_quiet (first|(go_at_call 77;(with_reducible refine (Aid.calls_len HLx_.out (spec_l4Has.calls k1 _ _ (l0_0.take (x5_1:Int).toNat) (rd l0_0 x5_1) true _ ?side1 ?side2 A7.out)).mono ?_);(case side1=>repeat (first|exact (Kd.C_below HR139.out HB.out)|(with_reducible refine Kd.C_alloc ?_ _)|(with_reducible refine Kd.C_drewN ?_ _)|(with_reducible refine Kd.C_drew ?_)));(case side2=>exact HC139.out);rintro e w' ⟨rfl,⟨nd,rfl⟩⟩;(try first|exact ⟨rfl,_,World.drewN_drewN _ _ _⟩|exact ⟨rfl,_,Eq.trans (World.drewN_drewN _ _ _) (congrArg (World.drewN _) (Nat.add_assoc _ _ _))⟩)));try go_wp2_with (first|(go_at_call 77;(with_reducible refine (Aid.calls_len HLx_.out (spec_l4Has.calls k1 _ _ (l0_0.take (x5_1:Int).toNat) (rd l0_0 x5_1) true _ ?side1 ?side2 A7.out)).mono ?_);(case side1=>repeat (first|exact (Kd.C_below HR139.out HB.out)|(with_reducible refine Kd.C_alloc ?_ _)|(with_reducible refine Kd.C_drewN ?_ _)|(with_reducible refine Kd.C_drew ?_)));(case side2=>exact HC139.out);rintro e w' ⟨rfl,⟨nd,rfl⟩⟩;(try first|exact ⟨rfl,_,World.drewN_drewN _ _ _⟩|exact ⟨rfl,_,Eq.trans (World.drewN_drewN _ _ _) (congrArg (World.drewN _) (Nat.add_assoc _ _ _))⟩))))
       go_ret
       exact ⟨by first|rfl|(simp [errW_none,errW_some] <;> rfl)|(simp [*,errW_none,errW_some] <;> rfl),by repeat (first|(with_reducible first|exact HB.out|apply below_alloc|apply pw_below_drewN|apply below_drew1|refine below_set ?_ GE138.out)|exact HB.out)⟩
      ·replace c8:=Bool.eq_false_iff.mpr c8
       subst c8
       have H1:(spec_l5Part.l0 k1 a1 (wrap64 (x5_1+1)) l0_0)=some r:=by rw [if_neg (show ¬ (false=true) by decide)] at H;exact H
       clear H
       have H:=H1
       clear H1
       have H':=Aside0.mk H
       clear H
       have hcz11_0:wr.cell? ⟨gb138,0,none⟩=some (.slice A0_0 l0_0.length c0_0):=(blk_cell BK138.out 0).trans rfl
       have hfz11_0:=blk_frozen BK138.out 0
       obtain ⟨i012,hi012,_,hsz12,_⟩:=info_parts info3
       obtain ⟨hcut12,hA12,hC12⟩:=print_take_of (P:=Try.prog) (Value.int .i64) 0 22 3 .i64 Try.underlying22 hi012 hsz12 A0_0 c0_0 l0_0 x5_1 (of_decide_eq_true (by first|(with_reducible assumption)|assumption)) (of_decide_eq_true (by first|(with_reducible assumption)|assumption)) HC0_0.out
       have HR139:=Aside0.mk (Kd.C_of_reads (h1:=fun _=>rfl) (hA12 _ (Kd.reads_of_C HR0_0.out)))
       have HC139:=Aside0.mk hC12
       clear hA12 hC12 hi012 hsz12
       have p140:0≤(x5_1:Int):=of_decide_eq_true (by first|(with_reducible assumption)|assumption)
       have q140:x5_1 < (l0_0.length:Int):=of_decide_eq_true (by first|(with_reducible assumption)|assumption)
       obtain ⟨ad140,e140,hx140_0⟩:=Kd.at_int HR0_0.out x5_1 p140 q140
       cases e140
       replace hx140_0:=(HB.out.cell (World.block_lt_of_cell? w _ hx140_0)).trans hx140_0
       replace p140:=eq_true p140
       replace q140:=eq_true q140
       have HLx_:=Aside0.mk (show (l0_0.take (x5_1:Int).toNat).length=(x5_1:Int).toNat from (by rw [List.length_take];have q_:x5_1≤(l0_0.length:Int):=of_decide_eq_true (by assumption);omega))
       go_wp2_with (first|(go_at_call 77;(with_reducible refine (Aid.calls_len HLx_.out (spec_l4Has.calls k1 _ _ (l0_0.take (x5_1:Int).toNat) (rd l0_0 x5_1) false _ ?side1 ?side2 A7.out)).mono ?_);(case side1=>repeat (first|exact (Kd.C_below HR139.out HB.out)|(with_reducible refine Kd.C_alloc ?_ _)|(with_reducible refine Kd.C_drewN ?_ _)|(with_reducible refine Kd.C_drew ?_)));(case side2=>exact HC139.out);rintro e w' ⟨rfl,⟨nd,rfl⟩⟩;(try first|exact ⟨rfl,_,World.drewN_drewN _ _ _⟩|exact ⟨rfl,_,Eq.trans (World.drewN_drewN _ _ _) (congrArg (World.drewN _) (Nat.add_assoc _ _ _))⟩)))
       repeat (go_quiet (first|(go_at_call 77;(with_reducible refine (Aid.calls_len HLx_.out (spec_l4Has.calls k1 _ _ (l0_0.take (x5_1:Int).toNat) (rd l0_0 x5_1) false _ ?side1 ?side2 A7.out)).mono ?_);(case side1=>repeat (first|exact (Kd.C_below HR139.out HB.out)|(with_reducible refine Kd.C_alloc ?_ _)|(with_reducible refine Kd.C_drewN ?_ _)|(with_reducible refine Kd.C_drew ?_)));(case side2=>exact HC139.out);rintro e w' ⟨rfl,⟨nd,rfl⟩⟩;(try first|exact ⟨rfl,_,World.drewN_drewN _ _ _⟩|exact ⟨rfl,_,Eq.trans (World.drewN_drewN _ _ _) (congrArg (World.drewN _) (Nat.add_assoc _ _ _))⟩)));try go_wp2_with (first|(go_at_call 77;(with_reducible refine (Aid.calls_len HLx_.out (spec_l4Has.calls k1 _ _ (l0_0.take (x5_1:Int).toNat) (rd l0_0 x5_1) false _ ?side1 ?side2 A7.out)).mono ?_);(case side1=>repeat (first|exact (Kd.C_below HR139.out HB.out)|(with_reducible refine Kd.C_alloc ?_ _)|(with_reducible refine Kd.C_drewN ?_ _)|(with_reducible refine Kd.C_drew ?_)));(case side2=>exact HC139.out);rintro e w' ⟨rfl,⟨nd,rfl⟩⟩;(try first|exact ⟨rfl,_,World.drewN_drewN _ _ _⟩|exact ⟨rfl,_,Eq.trans (World.drewN_drewN _ _ _) (congrArg (World.drewN _) (Nat.add_assoc _ _ _))⟩))))
       go_roundg k1
       case measure=>have:=HK1.out;omega
       case rel=>exact ⟨(wrap64 (x5_1+1)),(by first|rfl|(simp;done)|(simp [*];done)),H',⟨by have:=HK1.out;omega⟩,⟨by (with_reducible repeat (first|refine blk_drewN ?_ _|refine blk_drew ?_|refine blk_alloc ?_ _));exact BK138.out⟩,⟨by repeat (first|(with_reducible first|exact HB.out|apply below_alloc|apply pw_below_drewN|apply below_drew1|refine below_set ?_ GE138.out)|exact HB.out)⟩⟩
     ·rw [if_neg c6] at H
      exact absurd H (by simp)
    ·rw [if_neg c5] at H
     exact absurd H (by simp)
   ·rw [if_neg c4] at H
    have c4b0:decide (x5_1 < (l0_0.length:Int))=false:=decide_eq_false c4
    clear c4
    obtain rfl:=Option.some.inj H
    have hcz13_0:wr.cell? ⟨gb138,0,none⟩=some (.slice A0_0 l0_0.length c0_0):=(blk_cell BK138.out 0).trans rfl
    have hfz13_0:=blk_frozen BK138.out 0
    go_wp2
    repeat (go_quiet (fail);try go_wp2)
    go_ret
    exact ⟨by first|rfl|(simp [errW_none,errW_some] <;> rfl)|(simp [*,errW_none,errW_some] <;> rfl),by repeat (first|(with_reducible first|exact HB.out|apply below_alloc|apply pw_below_drewN|apply below_drew1|refine below_set ?_ GE138.out)|exact HB.out)⟩
def spec_DevAt.l0:Nat→List (S76)→Int→Int→Option (Int × Int × Int × Bool)
 | 0,_,_,_=>none
 | k+1,x0,x1,x6=>if x6 < (x0.length:Int) then (if 0≤x6 then (if ((rd_T76 x0 x6).f0)=x1 then (some ((rd_T76 x0 x6).f0,(rd_T76 x0 x6).f1,(rd_T76 x0 x6).f2,true)) else (spec_DevAt.l0 k x0 x1 (wrap64 (x6+1)))) else (none)) else (some (0,0,0,false))
def spec_DevAt.f (k:Nat) (l0:List (S76)) (a1:Int):Option (Int × Int × Int × Bool):=spec_DevAt.l0 k l0 a1 0
set_option maxHeartbeats 8000000 in
set_option maxRecDepth 100000 in
theorem spec_DevAt.calls (k:Nat) (A0:Option Addr) (c0:Nat) (l0:List (S76)) (a1:Int) (r1:Int) (r2:Int) (r3:Int) (r4:Bool) (w:World) (hr0:Kd.C k76 w A0 l0.length l0) (hc0:l0.length≤c0) (h:spec_DevAt.f k l0 a1=some (r1,r2,r3,r4)) :
  Calls Try.prog 99 #[.slice A0 l0.length c0,.int .i64 a1] w fun e w'=>e = .returned (.tuple #[.agg #[.int .i64 r1,.int .i64 r2,.int .i64 r3],.bool r4])∧Below w.heap.size w w':=by
 have hu76:=Try.underlying76
 have HR0:=Aside0.mk hr0
 have HC0:=Aside0.mk hc0
 clear hr0 hc0
 have HB:=Aside0.mk (Below.refl w.heap.size w)
 have H:(spec_DevAt.l0 k l0 a1 0)=some (r1,r2,r3,r4):=h
 clear h
 have H':=Aside0.mk H
 clear H
 go_enter Try.func99,Try.ntmps99
 go_wp2_with (first|((with_reducible refine gate_dst (N:=4) rfl ?_);refine box_event ?hg (N:=4) ?hd (cs:=#[.int .i64 0,.int .i64 0,.int .i64 0]) (t:=76) ?hr ?_;(case hd=>rfl);(case hg=>rfl);(case hr=>first|(go_simp;done)|(go_simp;rfl));intro gb142 hg w3 hbox hb;have n0_:=Aside0.mk (below_step (by repeat (first|(with_reducible first|exact HB.out|apply below_alloc|apply pw_below_drewN|apply below_drew1)|exact HB.out)) hb);have n1_:=Aside0.mk (hbox);have n2_:=Aside0.mk ((by rw [hg];exact (below_size (by repeat (first|(with_reducible first|exact HB.out|apply below_alloc|apply pw_below_drewN|apply below_drew1)|exact HB.out))):w.heap.size≤gb142));have n3_:=Aside0.mk ((by rw [hg];exact (below_size (by repeat (first|(with_reducible first|exact HB.out|apply below_alloc|apply pw_below_drewN|apply below_drew1)|exact HB.out))):w.heap.size≤gb142));clear HB;have HB:=n0_;have BK142:=n1_;have GW142:=n2_;have GE142:=n3_;clear n0_ n1_ n2_ n3_;clear hb hbox hg))
 go_loopg [6] k (fun kq v6 w'=>∃ (x6_1:Int) (x143000_1:Int) (x143001_1:Int) (x143002_1:Int),v6 = .int .i64 x6_1∧Aside0 (spec_DevAt.l0 kq l0 a1 x6_1=some (r1,r2,r3,r4))∧Aside0 (kq≤k)∧Aside0 (w'.heap[gb142]?=some (.cells #[.int .i64 x143000_1,.int .i64 x143001_1,.int .i64 x143002_1] 76 (0,0)))∧Aside0 (Below w.heap.size w w'))
 case atStart=>exact ⟨(0),(0),(0),(0),(by first|rfl|(simp;done)|(simp [*];done)),H',⟨Nat.le_refl _⟩,⟨by (with_reducible repeat (first|refine blk_drewN ?_ _|refine blk_drew ?_|refine blk_alloc ?_ _));exact BK142.out⟩,⟨by repeat (first|(with_reducible first|exact HB.out|apply below_alloc|apply pw_below_drewN|apply below_drew1|refine below_set ?_ GE142.out)|exact HB.out)⟩⟩
 case round=>
  clear H'
  try clear p2
  obtain ⟨x6_1,x143000_1,x143001_1,x143002_1,rfl,HA,HK1,BK142,HB⟩:=hrel
  cases gk with
  | zero=>exact absurd HA.out (by simp [spec_DevAt.l0])
  | succ k1=>
   have H:=HA.out
   clear HA
   simp only [spec_DevAt.l0] at H
   by_cases c4:x6_1 < (l0.length:Int)
   ·rw [if_pos c4] at H
    have c4b0:decide (x6_1 < (l0.length:Int))=true:=decide_eq_true c4
    clear c4
    by_cases c5:0≤x6_1
    ·rw [if_pos c5] at H
     have c5b0:decide (0≤x6_1)=true:=decide_eq_true c5
     clear c5
     by_cases c6:((rd_T76 l0 x6_1).f0)=a1
     ·rw [if_pos c6] at H
      have c6b0:(((rd_T76 l0 x6_1).f0) == a1)=true:=beq_iff_eq.mpr c6
      have c6b1:(((rd_T76 l0 x6_1).f0) != a1)=false:=bne_eq_false_iff_eq.mpr c6
      clear c6
      simp only [Option.some.injEq,Prod.mk.injEq] at H
      obtain ⟨rfl,rfl,rfl,rfl⟩:=H
      have p143:0≤(x6_1:Int):=of_decide_eq_true (by first|(with_reducible assumption)|assumption)
      have q143:x6_1 < (l0.length:Int):=of_decide_eq_true (by first|(with_reducible assumption)|assumption)
      obtain ⟨ad143,e143,hx143_0,hx143_1,hx143_2⟩:=at_T76 HR0.out x6_1 p143 q143
      cases e143
      replace hx143_0:=(HB.out.cell (World.block_lt_of_cell? w _ hx143_0)).trans hx143_0
      replace hx143_1:=(HB.out.cell (World.block_lt_of_cell? w _ hx143_1)).trans hx143_1
      replace hx143_2:=(HB.out.cell (World.block_lt_of_cell? w _ hx143_2)).trans hx143_2
      replace p143:=eq_true p143
      replace q143:=eq_true q143
      have p144:0≤(x6_1:Int):=of_decide_eq_true (by first|(with_reducible assumption)|assumption)
      have q144:x6_1 < (l0.length:Int):=of_decide_eq_true (by first|(with_reducible assumption)|assumption)
      obtain ⟨ad144,e144,hx144_0,hx144_1,hx144_2⟩:=at_T76 HR0.out x6_1 p144 q144
      obtain rfl:ad143=ad144:=(by injection e144)
      replace hx144_0:=(HB.out.cell (World.block_lt_of_cell? w _ hx144_0)).trans hx144_0
      replace hx144_1:=(HB.out.cell (World.block_lt_of_cell? w _ hx144_1)).trans hx144_1
      replace hx144_2:=(HB.out.cell (World.block_lt_of_cell? w _ hx144_2)).trans hx144_2
      replace p144:=eq_true p144
      replace q144:=eq_true q144
      have hcz7_0:wr.cell? ⟨gb142,0,none⟩=some (.int .i64 x143000_1):=(blk_cell BK142.out 0).trans rfl
      have hcz7_1:wr.cell? ⟨gb142,1,none⟩=some (.int .i64 x143001_1):=(blk_cell BK142.out 1).trans rfl
      have hcz7_2:wr.cell? ⟨gb142,2,none⟩=some (.int .i64 x143002_1):=(blk_cell BK142.out 2).trans rfl
      have hfz7_0:=blk_frozen BK142.out 0
      have hfz7_1:=blk_frozen BK142.out 1
      have hfz7_2:=blk_frozen BK142.out 2
      go_wp2
      refine bodyPost_ret (results_ct rfl _ _ gb142 76 #[.int .i64 ((rd_T76 l0 x6_1).f0),.int .i64 ((rd_T76 l0 x6_1).f1),.int .i64 ((rd_T76 l0 x6_1).f2)] (0,0) _ rfl (by (with_reducible repeat (first|refine blk_drewN ?_ _|refine blk_drew ?_|refine blk_alloc ?_ _));refine blk_put (cs:=#[.int .i64 ((rd_T76 l0 x6_1).f0),.int .i64 ((rd_T76 l0 x6_1).f1),.int .i64 x143002_1]) ?_ 2 _ rfl;(with_reducible repeat (first|refine blk_drewN ?_ _|refine blk_drew ?_|refine blk_alloc ?_ _));refine blk_put (cs:=#[.int .i64 ((rd_T76 l0 x6_1).f0),.int .i64 x143001_1,.int .i64 x143002_1]) ?_ 1 _ rfl;(with_reducible repeat (first|refine blk_drewN ?_ _|refine blk_drew ?_|refine blk_alloc ?_ _));refine blk_put (cs:=#[.int .i64 x143000_1,.int .i64 x143001_1,.int .i64 x143002_1]) ?_ 0 _ rfl;(with_reducible repeat (first|refine blk_drewN ?_ _|refine blk_drew ?_|refine blk_alloc ?_ _));exact BK142.out) Try.underlying76 rfl (by kernel_rfl)) rfl ?_
      exact ⟨by first|rfl|(simp [errW_none,errW_some] <;> rfl)|(simp [*,errW_none,errW_some] <;> rfl),by repeat (first|(with_reducible first|exact HB.out|apply below_alloc|apply pw_below_drewN|apply below_drew1|refine below_set ?_ GE142.out)|exact HB.out)⟩
     ·rw [if_neg c6] at H
      have c6b0:(((rd_T76 l0 x6_1).f0) == a1)=false:=beq_eq_false_iff_ne.mpr c6
      have c6b1:(((rd_T76 l0 x6_1).f0) != a1)=true:=bne_iff_ne.mpr c6
      have H':=Aside0.mk H
      clear H
      have p143:0≤(x6_1:Int):=of_decide_eq_true (by first|(with_reducible assumption)|assumption)
      have q143:x6_1 < (l0.length:Int):=of_decide_eq_true (by first|(with_reducible assumption)|assumption)
      obtain ⟨ad143,e143,hx143_0,hx143_1,hx143_2⟩:=at_T76 HR0.out x6_1 p143 q143
      cases e143
      replace hx143_0:=(HB.out.cell (World.block_lt_of_cell? w _ hx143_0)).trans hx143_0
      replace hx143_1:=(HB.out.cell (World.block_lt_of_cell? w _ hx143_1)).trans hx143_1
      replace hx143_2:=(HB.out.cell (World.block_lt_of_cell? w _ hx143_2)).trans hx143_2
      replace p143:=eq_true p143
      replace q143:=eq_true q143
      go_wp2
      go_roundg k1
      case measure=>have:=HK1.out;omega
      case rel=>exact ⟨(wrap64 (x6_1+1)),(x143000_1),(x143001_1),(x143002_1),(by first|rfl|(simp;done)|(simp [*];done)),H',⟨by have:=HK1.out;omega⟩,⟨by (with_reducible repeat (first|refine blk_drewN ?_ _|refine blk_drew ?_|refine blk_alloc ?_ _));exact BK142.out⟩,⟨by repeat (first|(with_reducible first|exact HB.out|apply below_alloc|apply pw_below_drewN|apply below_drew1|refine below_set ?_ GE142.out)|exact HB.out)⟩⟩
    ·rw [if_neg c5] at H
     exact absurd H (by simp)
   ·rw [if_neg c4] at H
    have c4b0:decide (x6_1 < (l0.length:Int))=false:=decide_eq_false c4
    clear c4
    simp only [Option.some.injEq,Prod.mk.injEq] at H
    obtain ⟨rfl,rfl,rfl,rfl⟩:=H
    have hcz8_0:wr.cell? ⟨gb142,0,none⟩=some (.int .i64 x143000_1):=(blk_cell BK142.out 0).trans rfl
    have hcz8_1:wr.cell? ⟨gb142,1,none⟩=some (.int .i64 x143001_1):=(blk_cell BK142.out 1).trans rfl
    have hcz8_2:wr.cell? ⟨gb142,2,none⟩=some (.int .i64 x143002_1):=(blk_cell BK142.out 2).trans rfl
    have hfz8_0:=blk_frozen BK142.out 0
    have hfz8_1:=blk_frozen BK142.out 1
    have hfz8_2:=blk_frozen BK142.out 2
    go_wp2
    refine bodyPost_ret (results_ct rfl _ _ gb142 76 #[.int .i64 0,.int .i64 0,.int .i64 0] (0,0) _ rfl (by (with_reducible repeat (first|refine blk_drewN ?_ _|refine blk_drew ?_|refine blk_alloc ?_ _));refine blk_put (cs:=#[.int .i64 0,.int .i64 0,.int .i64 x143002_1]) ?_ 2 _ rfl;(with_reducible repeat (first|refine blk_drewN ?_ _|refine blk_drew ?_|refine blk_alloc ?_ _));refine blk_put (cs:=#[.int .i64 0,.int .i64 x143001_1,.int .i64 x143002_1]) ?_ 1 _ rfl;(with_reducible repeat (first|refine blk_drewN ?_ _|refine blk_drew ?_|refine blk_alloc ?_ _));refine blk_put (cs:=#[.int .i64 x143000_1,.int .i64 x143001_1,.int .i64 x143002_1]) ?_ 0 _ rfl;(with_reducible repeat (first|refine blk_drewN ?_ _|refine blk_drew ?_|refine blk_alloc ?_ _));exact BK142.out) Try.underlying76 rfl (by kernel_rfl)) rfl ?_
    exact ⟨by first|rfl|(simp [errW_none,errW_some] <;> rfl)|(simp [*,errW_none,errW_some] <;> rfl),by repeat (first|(with_reducible first|exact HB.out|apply below_alloc|apply pw_below_drewN|apply below_drew1|refine below_set ?_ GE142.out)|exact HB.out)⟩
end Go.Proofs.Ytbhllgifciaepaa.PFnPlaces
