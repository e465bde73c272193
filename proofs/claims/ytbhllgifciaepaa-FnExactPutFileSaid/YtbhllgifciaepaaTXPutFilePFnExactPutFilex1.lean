/- Trimmed by a program of this session (trim.py). Not trusted: Lean checks it. -/
import Derived.Test.YtbhllgifciaepaaTXPutFilePFnExactPutFilex0
namespace Go.Proofs.Ytbhllgifciaepaa.PFnExactPutFile
open Go.RowKit Go.Proofs.YtbhllgifciaepaaW.PrintWords Go.Proofs.YtbhllgifciaepaaW.PrintLast Go.Proofs.YtbhllgifciaepaaW.PrintMore Go.Proofs.Ytbhllgifciaepaa.St
attribute [local go_sem] max2_int min2_int max_two min_two max_three min_three max_four min_four
set_option linter.unusedVariables false
set_option linter.unusedSimpArgs false
def laws_szByteS.f (l0:List Int) (a1:Int):Option (Int):=if (wrap64 (a1 - (l0.length:Int))) < 0 then (some (-1)) else (some (wrap64 (a1 - (l0.length:Int))))
set_option maxHeartbeats 8000000 in
set_option maxRecDepth 100000 in
theorem laws_szByteS.calls (A0:Option Addr) (c0:Nat) (l0:List Int) (a1:Int) (r:Int) (w:World) (hr0:Kd.C (Kd.int .u8) w A0 l0.length l0) (hc0:l0.length≤c0) (h:laws_szByteS.f l0 a1=some r) :
  Calls Try.prog 85 #[.slice A0 l0.length c0,.int .i64 a1] w fun e w'=>e = .returned (.int .i64 r)∧Drawn0 w w':=by
 have HR0:=Aside0.mk hr0
 have HC0:=Aside0.mk hc0
 clear hr0 hc0
 have H:(if (wrap64 (a1 - (l0.length:Int))) < 0 then (some (-1)) else (some (wrap64 (a1 - (l0.length:Int)))))=some r:=h
 clear h
 by_cases c3:(wrap64 (a1 - (l0.length:Int))) < 0
 ·rw [if_pos c3] at H
  have c3b0:decide ((wrap64 (a1 - (l0.length:Int))) < 0)=true:=decide_eq_true c3
  clear c3
  obtain rfl:=Option.some.inj H
  go_enter Try.func85,Try.ntmps85
  go_wp2
  go_ret
  exact ⟨by first|rfl|(simp;done)|(simp [*];done),by repeat (first|exact Drawn0.refl _|apply Drawn0.step)⟩
 ·rw [if_neg c3] at H
  have c3b0:decide ((wrap64 (a1 - (l0.length:Int))) < 0)=false:=decide_eq_false c3
  clear c3
  obtain rfl:=Option.some.inj H
  go_enter Try.func85,Try.ntmps85
  go_wp2
  go_ret
  exact ⟨by first|rfl|(simp;done)|(simp [*];done),by repeat (first|exact Drawn0.refl _|apply Drawn0.step)⟩
def laws_szFile.f (a0_0:Int) (a0_1:Int) (a0_2:Int) (a0_3:Bool) (l0_4:List Int) (a1:Int):Option (Int):=(laws_szByteS.f l0_4 a1).bind fun t102=>(if t102 < 0 then (some (-1)) else (some t102))
set_option maxHeartbeats 8000000 in
set_option maxRecDepth 100000 in
theorem laws_szFile.calls (a0_0:Int) (a0_1:Int) (a0_2:Int) (a0_3:Bool) (A0_4:Option Addr) (c0_4:Nat) (l0_4:List Int) (a1:Int) (r:Int) (w:World) (hr0_4:Kd.C (Kd.int .u8) w A0_4 l0_4.length l0_4) (hc0_4:l0_4.length≤c0_4) (h:laws_szFile.f a0_0 a0_1 a0_2 a0_3 l0_4 a1=some r) :
  Calls Try.prog 34 #[.agg #[.int .i64 a0_0,.int .i64 a0_1,.int .i64 a0_2,.bool a0_3,.slice A0_4 l0_4.length c0_4],.int .i64 a1] w fun e w'=>e = .returned (.int .i64 r)∧Below w.heap.size w w':=by
 have hu56:=Try.underlying56
 have HR0_4:=Aside0.mk hr0_4
 have HC0_4:=Aside0.mk hc0_4
 clear hr0_4 hc0_4
 have HB:=Aside0.mk (Below.refl w.heap.size w)
 have H:((laws_szByteS.f l0_4 a1).bind fun t102=>(if t102 < 0 then (some (-1)) else (some t102)))=some r:=h
 clear h
 replace H:=Option.bind_eq_some_iff.mp H
 obtain ⟨t102,A30,H⟩:=H
 try dsimp only at H
 have A3:=Aside0.mk A30
 clear A30
 by_cases c4:t102 < 0
 ·rw [if_pos c4] at H
  have c4b0:decide (t102 < 0)=true:=decide_eq_true c4
  clear c4
  obtain rfl:=Option.some.inj H
  go_enter Try.func34,Try.ntmps34
  go_wp2_with (first|((with_reducible refine gate_dst (N:=2) rfl ?_);refine box_event ?hg (N:=2) ?hd (cs:=#[.int .i64 a0_0,.int .i64 a0_1,.int .i64 a0_2,.bool a0_3,.slice A0_4 l0_4.length c0_4]) (t:=56) ?hr ?_;(case hd=>rfl);(case hg=>rfl);(case hr=>first|(go_simp;done)|(go_simp;rfl));intro gb101 hg w5 hbox hb;have n0_:=bs hb;have n1_:=Aside0.mk (hbox);have n2_:=Aside0.mk ((by rw [hg];exact (below_size be):w.heap.size≤gb101));have n3_:=Aside0.mk ((by rw [hg];exact (below_size be):w.heap.size≤gb101));clear HB;have HB:=n0_;have BK101:=n1_;have GW101:=n2_;have GE101:=n3_;clear n0_ n1_ n2_ n3_;clear hb hbox hg;have hcz6_0:w5.cell? ⟨gb101,0,none⟩=some (.int .i64 a0_0):=(blk_cell BK101.out 0).trans rfl;have hcz6_1:w5.cell? ⟨gb101,1,none⟩=some (.int .i64 a0_1):=(blk_cell BK101.out 1).trans rfl;have hcz6_2:w5.cell? ⟨gb101,2,none⟩=some (.int .i64 a0_2):=(blk_cell BK101.out 2).trans rfl;have hcz6_3:w5.cell? ⟨gb101,3,none⟩=some (.bool a0_3):=(blk_cell BK101.out 3).trans rfl;have hcz6_4:w5.cell? ⟨gb101,4,none⟩=some (.slice A0_4 l0_4.length c0_4):=(blk_cell BK101.out 4).trans rfl;have hfz6_0:=blk_frozen BK101.out 0;have hfz6_1:=blk_frozen BK101.out 1;have hfz6_2:=blk_frozen BK101.out 2;have hfz6_3:=blk_frozen BK101.out 3;have hfz6_4:=blk_frozen BK101.out 4)|((with_reducible refine gate_callee (f:=85) rfl ?_);refine goesL_ (some 8) rfl rfl Try.func85 (by kernel_rfl) rfl #[.slice A0_4 l0_4.length c0_4,.int .i64 a1] rfl (by (try simp only [List.map_toArray,List.map_cons,List.map_nil]);first|done|rfl|(simp only [List.length_drop,List.length_take];rfl)) ?_;(with_reducible refine (laws_szByteS.calls _ _ l0_4 a1 t102 _ ?side1 ?side2 A3.out).mono ?_);(case side1=>exact rC HR0_4);(case side2=>exact HC0_4.out);rintro e w' ⟨rfl,⟨nd,rfl⟩⟩;refine ⟨_,rfl,?_⟩))
  go_ret
  exact ⟨rz,be⟩
 ·rw [if_neg c4] at H
  have c4b0:decide (t102 < 0)=false:=decide_eq_false c4
  clear c4
  obtain rfl:=Option.some.inj H
  go_enter Try.func34,Try.ntmps34
  go_wp2_with (first|((with_reducible refine gate_dst (N:=2) rfl ?_);refine box_event ?hg (N:=2) ?hd (cs:=#[.int .i64 a0_0,.int .i64 a0_1,.int .i64 a0_2,.bool a0_3,.slice A0_4 l0_4.length c0_4]) (t:=56) ?hr ?_;(case hd=>rfl);(case hg=>rfl);(case hr=>first|(go_simp;done)|(go_simp;rfl));intro gb101 hg w7 hbox hb;have n0_:=bs hb;have n1_:=Aside0.mk (hbox);have n2_:=Aside0.mk ((by rw [hg];exact (below_size be):w.heap.size≤gb101));have n3_:=Aside0.mk ((by rw [hg];exact (below_size be):w.heap.size≤gb101));clear HB;have HB:=n0_;have BK101:=n1_;have GW101:=n2_;have GE101:=n3_;clear n0_ n1_ n2_ n3_;clear hb hbox hg;have hcz8_0:w7.cell? ⟨gb101,0,none⟩=some (.int .i64 a0_0):=(blk_cell BK101.out 0).trans rfl;have hcz8_1:w7.cell? ⟨gb101,1,none⟩=some (.int .i64 a0_1):=(blk_cell BK101.out 1).trans rfl;have hcz8_2:w7.cell? ⟨gb101,2,none⟩=some (.int .i64 a0_2):=(blk_cell BK101.out 2).trans rfl;have hcz8_3:w7.cell? ⟨gb101,3,none⟩=some (.bool a0_3):=(blk_cell BK101.out 3).trans rfl;have hcz8_4:w7.cell? ⟨gb101,4,none⟩=some (.slice A0_4 l0_4.length c0_4):=(blk_cell BK101.out 4).trans rfl;have hfz8_0:=blk_frozen BK101.out 0;have hfz8_1:=blk_frozen BK101.out 1;have hfz8_2:=blk_frozen BK101.out 2;have hfz8_3:=blk_frozen BK101.out 3;have hfz8_4:=blk_frozen BK101.out 4)|((with_reducible refine gate_callee (f:=85) rfl ?_);refine goesL_ (some 8) rfl rfl Try.func85 (by kernel_rfl) rfl #[.slice A0_4 l0_4.length c0_4,.int .i64 a1] rfl (by (try simp only [List.map_toArray,List.map_cons,List.map_nil]);first|done|rfl|(simp only [List.length_drop,List.length_take];rfl)) ?_;(with_reducible refine (laws_szByteS.calls _ _ l0_4 a1 t102 _ ?side1 ?side2 A3.out).mono ?_);(case side1=>exact rC HR0_4);(case side2=>exact HC0_4.out);rintro e w' ⟨rfl,⟨nd,rfl⟩⟩;refine ⟨_,rfl,?_⟩))
  go_ret
  exact ⟨rz,be⟩
def spec_l1In.f (a0:Int) (a1:Int) (a2:Int):Option (Bool):=if a0 ≥ a1 then (some (decide (a0≤a2))) else (some false)
set_option maxHeartbeats 8000000 in
set_option maxRecDepth 100000 in
theorem spec_l1In.calls (a0:Int) (a1:Int) (a2:Int) (r:Bool) (w:World) (h:spec_l1In.f a0 a1 a2=some r) :
  Calls Try.prog 97 #[.int .i64 a0,.int .i64 a1,.int .i64 a2] w fun e w'=>e = .returned (.bool r)∧Drawn0 w w':=by
 have H:(if a0 ≥ a1 then (some (decide (a0≤a2))) else (some false))=some r:=h
 clear h
 by_cases c4:a0 ≥ a1
 ·rw [if_pos c4] at H
  have c4b0:decide (a1≤a0)=true:=decide_eq_true c4
  clear c4
  obtain rfl:=Option.some.inj H
  go_enter Try.func97,Try.ntmps97
  go_wp2
  go_ret
  exact ⟨by first|rfl|(simp;done)|(simp [*];done),by repeat (first|exact Drawn0.refl _|apply Drawn0.step)⟩
 ·rw [if_neg c4] at H
  have c4b0:decide (a1≤a0)=false:=decide_eq_false c4
  clear c4
  obtain rfl:=Option.some.inj H
  go_enter Try.func97,Try.ntmps97
  go_wp2
  go_ret
  exact ⟨by first|rfl|(simp;done)|(simp [*];done),by repeat (first|exact Drawn0.refl _|apply Drawn0.step)⟩
def spec_StampOk.f (a0_0:Int) (a0_1:Int) (a0_2:Int):Option (Bool):=(spec_l1In.f a0_0 0 1000000000).bind fun t104=>(if t104=true then ((spec_l1In.f a0_1 0 1000000).bind fun t105=>(if t105=true then ((spec_l1In.f a0_2 0 20).bind fun t106=>(some t106)) else (some false))) else (some false))
set_option maxHeartbeats 8000000 in
set_option maxRecDepth 100000 in
theorem spec_StampOk.calls (a0_0:Int) (a0_1:Int) (a0_2:Int) (r:Bool) (w:World) (h:spec_StampOk.f a0_0 a0_1 a0_2=some r) :
  Calls Try.prog 120 #[.agg #[.int .i64 a0_0,.int .i64 a0_1,.int .i64 a0_2]] w fun e w'=>e = .returned (.bool r)∧Below w.heap.size w w':=by
 have hu59:=Try.underlying59
 have HB:=Aside0.mk (Below.refl w.heap.size w)
 have H:((spec_l1In.f a0_0 0 1000000000).bind fun t104=>(if t104=true then ((spec_l1In.f a0_1 0 1000000).bind fun t105=>(if t105=true then ((spec_l1In.f a0_2 0 20).bind fun t106=>(some t106)) else (some false))) else (some false)))=some r:=h
 clear h
 replace H:=Option.bind_eq_some_iff.mp H
 obtain ⟨t104,A20,H⟩:=H
 try dsimp only at H
 have A2:=Aside0.mk A20
 clear A20
 by_cases c3:t104=true
 ·subst c3
  rw [if_pos rfl] at H
  replace H:=Option.bind_eq_some_iff.mp H
  obtain ⟨t105,A40,H⟩:=H
  try dsimp only at H
  have A4:=Aside0.mk A40
  clear A40
  by_cases c5:t105=true
  ·subst c5
   rw [if_pos rfl] at H
   replace H:=Option.bind_eq_some_iff.mp H
   obtain ⟨t106,A60,H⟩:=H
   try dsimp only at H
   have A6:=Aside0.mk A60
   clear A60
   obtain rfl:=Option.some.inj H
   go_enter Try.func120,Try.ntmps120
   go_wp2_with (first|((with_reducible refine gate_dst (N:=1) rfl ?_);refine box_event ?hg (N:=1) ?hd (cs:=#[.int .i64 a0_0,.int .i64 a0_1,.int .i64 a0_2]) (t:=59) ?hr ?_;(case hd=>rfl);(case hg=>rfl);(case hr=>first|(go_simp;done)|(go_simp;rfl));intro gb103 hg w7 hbox hb;have n0_:=bs hb;have n1_:=Aside0.mk (hbox);have n2_:=Aside0.mk ((by rw [hg];exact (below_size be):w.heap.size≤gb103));have n3_:=Aside0.mk ((by rw [hg];exact (below_size be):w.heap.size≤gb103));clear HB;have HB:=n0_;have BK103:=n1_;have GW103:=n2_;have GE103:=n3_;clear n0_ n1_ n2_ n3_;clear hb hbox hg;have hcz8_0:w7.cell? ⟨gb103,0,none⟩=some (.int .i64 a0_0):=(blk_cell BK103.out 0).trans rfl;have hcz8_1:w7.cell? ⟨gb103,1,none⟩=some (.int .i64 a0_1):=(blk_cell BK103.out 1).trans rfl;have hcz8_2:w7.cell? ⟨gb103,2,none⟩=some (.int .i64 a0_2):=(blk_cell BK103.out 2).trans rfl;have hfz8_0:=blk_frozen BK103.out 0;have hfz8_1:=blk_frozen BK103.out 1;have hfz8_2:=blk_frozen BK103.out 2)|((with_reducible refine gate_callee (f:=97) rfl ?_);refine goesL_ (some 5) rfl rfl Try.func97 (by kernel_rfl) rfl #[.int .i64 a0_0,.int .i64 0,.int .i64 1000000000] rfl (by (try simp only [List.map_toArray,List.map_cons,List.map_nil]);first|done|rfl|(simp only [List.length_drop,List.length_take];rfl)) ?_;(with_reducible refine (spec_l1In.calls a0_0 0 1000000000 true _ A2.out).mono ?_);rintro e w' ⟨rfl,⟨nd,rfl⟩⟩;refine ⟨_,rfl,?_⟩)|(go_at_call 97;(with_reducible refine (spec_l1In.calls a0_1 0 1000000 true _ A4.out).mono ?_);rintro e w' ⟨rfl,⟨nd,rfl⟩⟩)|(go_at_call 97;(with_reducible refine (spec_l1In.calls a0_2 0 20 t106 _ A6.out).mono ?_);rintro e w' ⟨rfl,⟨nd,rfl⟩⟩))
   go_ret
   exact ⟨rz,be⟩
  ·replace c5:=Bool.eq_false_iff.mpr c5
   subst c5
   have H1:(some false)=some r:=by rw [if_neg (show ¬ (false=true) by decide)] at H;exact H
   clear H
   have H:=H1
   clear H1
   obtain rfl:=Option.some.inj H
   go_enter Try.func120,Try.ntmps120
   go_wp2_with (first|((with_reducible refine gate_dst (N:=1) rfl ?_);refine box_event ?hg (N:=1) ?hd (cs:=#[.int .i64 a0_0,.int .i64 a0_1,.int .i64 a0_2]) (t:=59) ?hr ?_;(case hd=>rfl);(case hg=>rfl);(case hr=>first|(go_simp;done)|(go_simp;rfl));intro gb103 hg w9 hbox hb;have n0_:=bs hb;have n1_:=Aside0.mk (hbox);have n2_:=Aside0.mk ((by rw [hg];exact (below_size be):w.heap.size≤gb103));have n3_:=Aside0.mk ((by rw [hg];exact (below_size be):w.heap.size≤gb103));clear HB;have HB:=n0_;have BK103:=n1_;have GW103:=n2_;have GE103:=n3_;clear n0_ n1_ n2_ n3_;clear hb hbox hg;have hcz10_0:w9.cell? ⟨gb103,0,none⟩=some (.int .i64 a0_0):=(blk_cell BK103.out 0).trans rfl;have hcz10_1:w9.cell? ⟨gb103,1,none⟩=some (.int .i64 a0_1):=(blk_cell BK103.out 1).trans rfl;have hcz10_2:w9.cell? ⟨gb103,2,none⟩=some (.int .i64 a0_2):=(blk_cell BK103.out 2).trans rfl;have hfz10_0:=blk_frozen BK103.out 0;have hfz10_1:=blk_frozen BK103.out 1;have hfz10_2:=blk_frozen BK103.out 2)|((with_reducible refine gate_callee (f:=97) rfl ?_);refine goesL_ (some 5) rfl rfl Try.func97 (by kernel_rfl) rfl #[.int .i64 a0_0,.int .i64 0,.int .i64 1000000000] rfl (by (try simp only [List.map_toArray,List.map_cons,List.map_nil]);first|done|rfl|(simp only [List.length_drop,List.length_take];rfl)) ?_;(with_reducible refine (spec_l1In.calls a0_0 0 1000000000 true _ A2.out).mono ?_);rintro e w' ⟨rfl,⟨nd,rfl⟩⟩;refine ⟨_,rfl,?_⟩)|(go_at_call 97;(with_reducible refine (spec_l1In.calls a0_1 0 1000000 false _ A4.out).mono ?_);rintro e w' ⟨rfl,⟨nd,rfl⟩⟩))
   go_ret
   exact ⟨rz,be⟩
 ·replace c3:=Bool.eq_false_iff.mpr c3
  subst c3
  have H1:(some false)=some r:=by rw [if_neg (show ¬ (false=true) by decide)] at H;exact H
  clear H
  have H:=H1
  clear H1
  obtain rfl:=Option.some.inj H
  go_enter Try.func120,Try.ntmps120
  go_wp2_with (first|((with_reducible refine gate_dst (N:=1) rfl ?_);refine box_event ?hg (N:=1) ?hd (cs:=#[.int .i64 a0_0,.int .i64 a0_1,.int .i64 a0_2]) (t:=59) ?hr ?_;(case hd=>rfl);(case hg=>rfl);(case hr=>first|(go_simp;done)|(go_simp;rfl));intro gb103 hg w11 hbox hb;have n0_:=bs hb;have n1_:=Aside0.mk (hbox);have n2_:=Aside0.mk ((by rw [hg];exact (below_size be):w.heap.size≤gb103));have n3_:=Aside0.mk ((by rw [hg];exact (below_size be):w.heap.size≤gb103));clear HB;have HB:=n0_;have BK103:=n1_;have GW103:=n2_;have GE103:=n3_;clear n0_ n1_ n2_ n3_;clear hb hbox hg;have hcz12_0:w11.cell? ⟨gb103,0,none⟩=some (.int .i64 a0_0):=(blk_cell BK103.out 0).trans rfl;have hcz12_1:w11.cell? ⟨gb103,1,none⟩=some (.int .i64 a0_1):=(blk_cell BK103.out 1).trans rfl;have hcz12_2:w11.cell? ⟨gb103,2,none⟩=some (.int .i64 a0_2):=(blk_cell BK103.out 2).trans rfl;have hfz12_0:=blk_frozen BK103.out 0;have hfz12_1:=blk_frozen BK103.out 1;have hfz12_2:=blk_frozen BK103.out 2)|((with_reducible refine gate_callee (f:=97) rfl ?_);refine goesL_ (some 5) rfl rfl Try.func97 (by kernel_rfl) rfl #[.int .i64 a0_0,.int .i64 0,.int .i64 1000000000] rfl (by (try simp only [List.map_toArray,List.map_cons,List.map_nil]);first|done|rfl|(simp only [List.length_drop,List.length_take];rfl)) ?_;(with_reducible refine (spec_l1In.calls a0_0 0 1000000000 false _ A2.out).mono ?_);rintro e w' ⟨rfl,⟨nd,rfl⟩⟩;refine ⟨_,rfl,?_⟩))
  go_ret
  exact ⟨rz,be⟩
def spec_FileOk.f (a0_0:Int) (a0_1:Int) (a0_2:Int) (a0_3:Bool) (l0_4:List Int):Option (Bool):=(spec_StampOk.f a0_0 a0_1 a0_2).bind fun t108=>(if t108=true then (if (l0_4.length:Int)≤200 then (if a0_3=true then (some ((l0_4.length:Int) == 0)) else (some true)) else (some false)) else (some false))
set_option maxHeartbeats 8000000 in
set_option maxRecDepth 100000 in
theorem spec_FileOk.calls (a0_0:Int) (a0_1:Int) (a0_2:Int) (a0_3:Bool) (A0_4:Option Addr) (c0_4:Nat) (l0_4:List Int) (r:Bool) (w:World) (hr0_4:Kd.C (Kd.int .u8) w A0_4 l0_4.length l0_4) (hc0_4:l0_4.length≤c0_4) (h:spec_FileOk.f a0_0 a0_1 a0_2 a0_3 l0_4=some r) :
  Calls Try.prog 86 #[.agg #[.int .i64 a0_0,.int .i64 a0_1,.int .i64 a0_2,.bool a0_3,.slice A0_4 l0_4.length c0_4]] w fun e w'=>e = .returned (.bool r)∧Below w.heap.size w w':=by
 have hu61:=Try.underlying61
 have hu59:=Try.underlying59
 have HR0_4:=Aside0.mk hr0_4
 have HC0_4:=Aside0.mk hc0_4
 clear hr0_4 hc0_4
 have HB:=Aside0.mk (Below.refl w.heap.size w)
 have H:((spec_StampOk.f a0_0 a0_1 a0_2).bind fun t108=>(if t108=true then (if (l0_4.length:Int)≤200 then (if a0_3=true then (some ((l0_4.length:Int) == 0)) else (some true)) else (some false)) else (some false)))=some r:=h
 clear h
 replace H:=Option.bind_eq_some_iff.mp H
 obtain ⟨t108,A20,H⟩:=H
 try dsimp only at H
 have A2:=Aside0.mk A20
 clear A20
 by_cases c3:t108=true
 ·subst c3
  rw [if_pos rfl] at H
  by_cases c4:(l0_4.length:Int)≤200
  ·rw [if_pos c4] at H
   have c4b0:decide ((l0_4.length:Int)≤200)=true:=decide_eq_true c4
   have c4b1:decide (l0_4.length≤200)=true:=decide_eq_true (by omega)
   clear c4
   by_cases c5:a0_3=true
   ·subst c5
    rw [if_pos rfl] at H
    obtain rfl:=Option.some.inj H
    go_enter Try.func86,Try.ntmps86
    go_wp2_with (first|((with_reducible refine gate_dst (N:=1) rfl ?_);(try (refine gate_guard (by rfl) ?_;dsimp only));refine box_event ?hg (N:=1) ?hd (cs:=#[.int .i64 a0_0,.int .i64 a0_1,.int .i64 a0_2,.bool true,.slice A0_4 l0_4.length c0_4]) (t:=61) ?hr ?_;(case hd=>rfl);(case hg=>rfl);(case hr=>first|(go_simp;done)|(go_simp;rfl));intro gb107 hg w6 hbox hb;have n0_:=bs hb;have n1_:=Aside0.mk (hbox);have n2_:=Aside0.mk ((by rw [hg];exact (below_size be):w.heap.size≤gb107));have n3_:=Aside0.mk ((by rw [hg];exact (below_size be):w.heap.size≤gb107));clear HB;have HB:=n0_;have BK107:=n1_;have GW107:=n2_;have GE107:=n3_;clear n0_ n1_ n2_ n3_;clear hb hbox hg;have hcz7_0:w6.cell? ⟨gb107,0,none⟩=some (.int .i64 a0_0):=(blk_cell BK107.out 0).trans rfl;have hcz7_1:w6.cell? ⟨gb107,1,none⟩=some (.int .i64 a0_1):=(blk_cell BK107.out 1).trans rfl;have hcz7_2:w6.cell? ⟨gb107,2,none⟩=some (.int .i64 a0_2):=(blk_cell BK107.out 2).trans rfl;have hcz7_3:w6.cell? ⟨gb107,3,none⟩=some (.bool true):=(blk_cell BK107.out 3).trans rfl;have hcz7_4:w6.cell? ⟨gb107,4,none⟩=some (.slice A0_4 l0_4.length c0_4):=(blk_cell BK107.out 4).trans rfl;have hfz7_0:=blk_frozen BK107.out 0;have hfz7_1:=blk_frozen BK107.out 1;have hfz7_2:=blk_frozen BK107.out 2;have hfz7_3:=blk_frozen BK107.out 3;have hfz7_4:=blk_frozen BK107.out 4)|((with_reducible refine gate_callee (f:=120) rfl ?_);refine goesL_ (some 5) rfl rfl Try.func120 (by kernel_rfl) rfl #[.agg #[.int .i64 a0_0,.int .i64 a0_1,.int .i64 a0_2]] rfl (by (try simp only [List.map_toArray,List.map_cons,List.map_nil]);first|done|rfl|(simp only [List.length_drop,List.length_take];rfl)) ?_;(with_reducible refine (spec_StampOk.calls a0_0 a0_1 a0_2 true _ A2.out).mono ?_);rintro e w8 ⟨rfl,hb⟩;refine ⟨_,rfl,?_⟩;have n0_:=Aside0.mk (blk_below (g:=gb107) (o:=.cells #[.int .i64 a0_0,.int .i64 a0_1,.int .i64 a0_2,.bool true,.slice A0_4 l0_4.length c0_4] 61 (0,0)) (bk BK107) hb);have n1_:=bs hb;clear BK107;clear HB;have BK107:=n0_;have HB:=n1_;clear n0_ n1_;(try clear hb);(try clear hb2);(try clear hk);(try clear hi);have hcz9_0:w8.cell? ⟨gb107,0,none⟩=some (.int .i64 a0_0):=(blk_cell BK107.out 0).trans rfl;have hcz9_1:w8.cell? ⟨gb107,1,none⟩=some (.int .i64 a0_1):=(blk_cell BK107.out 1).trans rfl;have hcz9_2:w8.cell? ⟨gb107,2,none⟩=some (.int .i64 a0_2):=(blk_cell BK107.out 2).trans rfl;have hcz9_3:w8.cell? ⟨gb107,3,none⟩=some (.bool true):=(blk_cell BK107.out 3).trans rfl;have hcz9_4:w8.cell? ⟨gb107,4,none⟩=some (.slice A0_4 l0_4.length c0_4):=(blk_cell BK107.out 4).trans rfl;have hfz9_0:=blk_frozen BK107.out 0;have hfz9_1:=blk_frozen BK107.out 1;have hfz9_2:=blk_frozen BK107.out 2;have hfz9_3:=blk_frozen BK107.out 3;have hfz9_4:=blk_frozen BK107.out 4))
    go_ret
    exact ⟨rz,be⟩
   ·replace c5:=Bool.eq_false_iff.mpr c5
    subst c5
    have H1:(some true)=some r:=by rw [if_neg (show ¬ (false=true) by decide)] at H;exact H
    clear H
    have H:=H1
    clear H1
    obtain rfl:=Option.some.inj H
    go_enter Try.func86,Try.ntmps86
    go_wp2_with (first|((with_reducible refine gate_dst (N:=1) rfl ?_);(try (refine gate_guard (by rfl) ?_;dsimp only));refine box_event ?hg (N:=1) ?hd (cs:=#[.int .i64 a0_0,.int .i64 a0_1,.int .i64 a0_2,.bool false,.slice A0_4 l0_4.length c0_4]) (t:=61) ?hr ?_;(case hd=>rfl);(case hg=>rfl);(case hr=>first|(go_simp;done)|(go_simp;rfl));intro gb107 hg w10 hbox hb;have n0_:=bs hb;have n1_:=Aside0.mk (hbox);have n2_:=Aside0.mk ((by rw [hg];exact (below_size be):w.heap.size≤gb107));have n3_:=Aside0.mk ((by rw [hg];exact (below_size be):w.heap.size≤gb107));clear HB;have HB:=n0_;have BK107:=n1_;have GW107:=n2_;have GE107:=n3_;clear n0_ n1_ n2_ n3_;clear hb hbox hg;have hcz11_0:w10.cell? ⟨gb107,0,none⟩=some (.int .i64 a0_0):=(blk_cell BK107.out 0).trans rfl;have hcz11_1:w10.cell? ⟨gb107,1,none⟩=some (.int .i64 a0_1):=(blk_cell BK107.out 1).trans rfl;have hcz11_2:w10.cell? ⟨gb107,2,none⟩=some (.int .i64 a0_2):=(blk_cell BK107.out 2).trans rfl;have hcz11_3:w10.cell? ⟨gb107,3,none⟩=some (.bool false):=(blk_cell BK107.out 3).trans rfl;have hcz11_4:w10.cell? ⟨gb107,4,none⟩=some (.slice A0_4 l0_4.length c0_4):=(blk_cell BK107.out 4).trans rfl;have hfz11_0:=blk_frozen BK107.out 0;have hfz11_1:=blk_frozen BK107.out 1;have hfz11_2:=blk_frozen BK107.out 2;have hfz11_3:=blk_frozen BK107.out 3;have hfz11_4:=blk_frozen BK107.out 4)|((with_reducible refine gate_callee (f:=120) rfl ?_);refine goesL_ (some 5) rfl rfl Try.func120 (by kernel_rfl) rfl #[.agg #[.int .i64 a0_0,.int .i64 a0_1,.int .i64 a0_2]] rfl (by (try simp only [List.map_toArray,List.map_cons,List.map_nil]);first|done|rfl|(simp only [List.length_drop,List.length_take];rfl)) ?_;(with_reducible refine (spec_StampOk.calls a0_0 a0_1 a0_2 true _ A2.out).mono ?_);rintro e w12 ⟨rfl,hb⟩;refine ⟨_,rfl,?_⟩;have n0_:=Aside0.mk (blk_below (g:=gb107) (o:=.cells #[.int .i64 a0_0,.int .i64 a0_1,.int .i64 a0_2,.bool false,.slice A0_4 l0_4.length c0_4] 61 (0,0)) (bk BK107) hb);have n1_:=bs hb;clear BK107;clear HB;have BK107:=n0_;have HB:=n1_;clear n0_ n1_;(try clear hb);(try clear hb2);(try clear hk);(try clear hi);have hcz13_0:w12.cell? ⟨gb107,0,none⟩=some (.int .i64 a0_0):=(blk_cell BK107.out 0).trans rfl;have hcz13_1:w12.cell? ⟨gb107,1,none⟩=some (.int .i64 a0_1):=(blk_cell BK107.out 1).trans rfl;have hcz13_2:w12.cell? ⟨gb107,2,none⟩=some (.int .i64 a0_2):=(blk_cell BK107.out 2).trans rfl;have hcz13_3:w12.cell? ⟨gb107,3,none⟩=some (.bool false):=(blk_cell BK107.out 3).trans rfl;have hcz13_4:w12.cell? ⟨gb107,4,none⟩=some (.slice A0_4 l0_4.length c0_4):=(blk_cell BK107.out 4).trans rfl;have hfz13_0:=blk_frozen BK107.out 0;have hfz13_1:=blk_frozen BK107.out 1;have hfz13_2:=blk_frozen BK107.out 2;have hfz13_3:=blk_frozen BK107.out 3;have hfz13_4:=blk_frozen BK107.out 4))
    go_ret
    exact ⟨rz,be⟩
  ·rw [if_neg c4] at H
   have c4b0:decide ((l0_4.length:Int)≤200)=false:=decide_eq_false c4
   have c4b1:decide (l0_4.length≤200)=false:=decide_eq_false (by omega)
   clear c4
   obtain rfl:=Option.some.inj H
   go_enter Try.func86,Try.ntmps86
   go_wp2_with (first|((with_reducible refine gate_dst (N:=1) rfl ?_);(try (refine gate_guard (by rfl) ?_;dsimp only));refine box_event ?hg (N:=1) ?hd (cs:=#[.int .i64 a0_0,.int .i64 a0_1,.int .i64 a0_2,.bool a0_3,.slice A0_4 l0_4.length c0_4]) (t:=61) ?hr ?_;(case hd=>rfl);(case hg=>rfl);(case hr=>first|(go_simp;done)|(go_simp;rfl));intro gb107 hg w14 hbox hb;have n0_:=bs hb;have n1_:=Aside0.mk (hbox);have n2_:=Aside0.mk ((by rw [hg];exact (below_size be):w.heap.size≤gb107));have n3_:=Aside0.mk ((by rw [hg];exact (below_size be):w.heap.size≤gb107));clear HB;have HB:=n0_;have BK107:=n1_;have GW107:=n2_;have GE107:=n3_;clear n0_ n1_ n2_ n3_;clear hb hbox hg;have hcz15_0:w14.cell? ⟨gb107,0,none⟩=some (.int .i64 a0_0):=(blk_cell BK107.out 0).trans rfl;have hcz15_1:w14.cell? ⟨gb107,1,none⟩=some (.int .i64 a0_1):=(blk_cell BK107.out 1).trans rfl;have hcz15_2:w14.cell? ⟨gb107,2,none⟩=some (.int .i64 a0_2):=(blk_cell BK107.out 2).trans rfl;have hcz15_3:w14.cell? ⟨gb107,3,none⟩=some (.bool a0_3):=(blk_cell BK107.out 3).trans rfl;have hcz15_4:w14.cell? ⟨gb107,4,none⟩=some (.slice A0_4 l0_4.length c0_4):=(blk_cell BK107.out 4).trans rfl;have hfz15_0:=blk_frozen BK107.out 0;have hfz15_1:=blk_frozen BK107.out 1;have hfz15_2:=blk_frozen BK107.out 2;have hfz15_3:=blk_frozen BK107.out 3;have hfz15_4:=blk_frozen BK107.out 4)|((with_reducible refine gate_callee (f:=120) rfl ?_);refine goesL_ (some 5) rfl rfl Try.func120 (by kernel_rfl) rfl #[.agg #[.int .i64 a0_0,.int .i64 a0_1,.int .i64 a0_2]] rfl (by (try simp only [List.map_toArray,List.map_cons,List.map_nil]);first|done|rfl|(simp only [List.length_drop,List.length_take];rfl)) ?_;(with_reducible refine (spec_StampOk.calls a0_0 a0_1 a0_2 true _ A2.out).mono ?_);rintro e w16 ⟨rfl,hb⟩;refine ⟨_,rfl,?_⟩;have n0_:=Aside0.mk (blk_below (g:=gb107) (o:=.cells #[.int .i64 a0_0,.int .i64 a0_1,.int .i64 a0_2,.bool a0_3,.slice A0_4 l0_4.length c0_4] 61 (0,0)) (bk BK107) hb);have n1_:=bs hb;clear BK107;clear HB;have BK107:=n0_;have HB:=n1_;clear n0_ n1_;(try clear hb);(try clear hb2);(try clear hk);(try clear hi);have hcz17_0:w16.cell? ⟨gb107,0,none⟩=some (.int .i64 a0_0):=(blk_cell BK107.out 0).trans rfl;have hcz17_1:w16.cell? ⟨gb107,1,none⟩=some (.int .i64 a0_1):=(blk_cell BK107.out 1).trans rfl;have hcz17_2:w16.cell? ⟨gb107,2,none⟩=some (.int .i64 a0_2):=(blk_cell BK107.out 2).trans rfl;have hcz17_3:w16.cell? ⟨gb107,3,none⟩=some (.bool a0_3):=(blk_cell BK107.out 3).trans rfl;have hcz17_4:w16.cell? ⟨gb107,4,none⟩=some (.slice A0_4 l0_4.length c0_4):=(blk_cell BK107.out 4).trans rfl;have hfz17_0:=blk_frozen BK107.out 0;have hfz17_1:=blk_frozen BK107.out 1;have hfz17_2:=blk_frozen BK107.out 2;have hfz17_3:=blk_frozen BK107.out 3;have hfz17_4:=blk_frozen BK107.out 4))
   go_ret
   exact ⟨rz,be⟩
 ·replace c3:=Bool.eq_false_iff.mpr c3
  subst c3
  have H1:(some false)=some r:=by rw [if_neg (show ¬ (false=true) by decide)] at H;exact H
  clear H
  have H:=H1
  clear H1
  obtain rfl:=Option.some.inj H
  go_enter Try.func86,Try.ntmps86
  go_wp2_with (first|((with_reducible refine gate_dst (N:=1) rfl ?_);(try (refine gate_guard (by rfl) ?_;dsimp only));refine box_event ?hg (N:=1) ?hd (cs:=#[.int .i64 a0_0,.int .i64 a0_1,.int .i64 a0_2,.bool a0_3,.slice A0_4 l0_4.length c0_4]) (t:=61) ?hr ?_;(case hd=>rfl);(case hg=>rfl);(case hr=>first|(go_simp;done)|(go_simp;rfl));intro gb107 hg w18 hbox hb;have n0_:=bs hb;have n1_:=Aside0.mk (hbox);have n2_:=Aside0.mk ((by rw [hg];exact (below_size be):w.heap.size≤gb107));have n3_:=Aside0.mk ((by rw [hg];exact (below_size be):w.heap.size≤gb107));clear HB;have HB:=n0_;have BK107:=n1_;have GW107:=n2_;have GE107:=n3_;clear n0_ n1_ n2_ n3_;clear hb hbox hg;have hcz19_0:w18.cell? ⟨gb107,0,none⟩=some (.int .i64 a0_0):=(blk_cell BK107.out 0).trans rfl;have hcz19_1:w18.cell? ⟨gb107,1,none⟩=some (.int .i64 a0_1):=(blk_cell BK107.out 1).trans rfl;have hcz19_2:w18.cell? ⟨gb107,2,none⟩=some (.int .i64 a0_2):=(blk_cell BK107.out 2).trans rfl;have hcz19_3:w18.cell? ⟨gb107,3,none⟩=some (.bool a0_3):=(blk_cell BK107.out 3).trans rfl;have hcz19_4:w18.cell? ⟨gb107,4,none⟩=some (.slice A0_4 l0_4.length c0_4):=(blk_cell BK107.out 4).trans rfl;have hfz19_0:=blk_frozen BK107.out 0;have hfz19_1:=blk_frozen BK107.out 1;have hfz19_2:=blk_frozen BK107.out 2;have hfz19_3:=blk_frozen BK107.out 3;have hfz19_4:=blk_frozen BK107.out 4)|((with_reducible refine gate_callee (f:=120) rfl ?_);refine goesL_ (some 5) rfl rfl Try.func120 (by kernel_rfl) rfl #[.agg #[.int .i64 a0_0,.int .i64 a0_1,.int .i64 a0_2]] rfl (by (try simp only [List.map_toArray,List.map_cons,List.map_nil]);first|done|rfl|(simp only [List.length_drop,List.length_take];rfl)) ?_;(with_reducible refine (spec_StampOk.calls a0_0 a0_1 a0_2 false _ A2.out).mono ?_);rintro e w20 ⟨rfl,hb⟩;refine ⟨_,rfl,?_⟩;have n0_:=Aside0.mk (blk_below (g:=gb107) (o:=.cells #[.int .i64 a0_0,.int .i64 a0_1,.int .i64 a0_2,.bool a0_3,.slice A0_4 l0_4.length c0_4] 61 (0,0)) (bk BK107) hb);have n1_:=bs hb;clear BK107;clear HB;have BK107:=n0_;have HB:=n1_;clear n0_ n1_;(try clear hb);(try clear hb2);(try clear hk);(try clear hi)))
  go_ret
  exact ⟨rz,be⟩
mutual
def spec_PutNum.j0:Nat→Int→List Int→Option (List Int)
 | 0,_,_=>none
 | k+1,x1,x5=>if x1 < 0 then (spec_PutNum.j1 k 0 x5) else (spec_PutNum.j1 k x1 x5)
def spec_PutNum.j1:Nat→Int→List Int→Option (List Int)
 | 0,_,_=>none
 | k+1,x1,x5=>spec_PutNum.l0 k x1 x5
def spec_PutNum.l0:Nat→Int→List Int→Option (List Int)
 | 0,_,_=>none
 | k+1,x1,x5=>if x1 > 127 then (if x5.length < 140737488355328 then (spec_PutNum.l0 k (x1 / 128) (x5 ++ [(Go.bits .or .i64 (Go.bits .and .i64 x1 127) 128) % 256])) else (none)) else (if x5.length < 140737488355328 then (some (x5 ++ [(x1) % 256])) else (none))
end
def spec_PutNum.f (k:Nat) (l0:List Int) (a1:Int):Option (List Int):=(some (([]:List Int):List Int)).bind fun y109=>(if y109.length+l0.length < 140737488355328 then ((some (y109 ++ l0:List Int)).bind fun y112=>(if a1 > 1000000000 then (spec_PutNum.j0 k 1000000000 y112) else (spec_PutNum.j0 k a1 y112))) else (none))
set_option maxHeartbeats 8000000 in
set_option maxRecDepth 100000 in
theorem spec_PutNum.calls (k:Nat) (A0:Option Addr) (c0:Nat) (l0:List Int) (a1:Int) (r:List Int) (w:World) (hr0:Kd.C (Kd.int .u8) w A0 l0.length l0) (hc0:l0.length≤c0) (h:spec_PutNum.f k l0 a1=some r) :
  Calls Try.prog 88 #[.slice A0 l0.length c0,.int .i64 a1] w fun e w'=>∃ v0_:Value,e = .returned (v0_)∧Kd.R (Kd.int .u8) 5 w' w.heap.size (fun _=>True) v0_ r∧Below w.heap.size w w':=by
 have HR0:=Aside0.mk hr0
 have HC0:=Aside0.mk hc0
 clear hr0 hc0
 have HB:=Aside0.mk (Below.refl w.heap.size w)
 have H:((some (([]:List Int):List Int)).bind fun y109=>(if y109.length+l0.length < 140737488355328 then ((some (y109 ++ l0:List Int)).bind fun y112=>(if a1 > 1000000000 then (spec_PutNum.j0 k 1000000000 y112) else (spec_PutNum.j0 k a1 y112))) else (none)))=some r:=h
 clear h
 obtain ⟨y109,hy109⟩ : ∃ y_:List Int,y_=(([]:List Int)):=⟨_,rfl⟩
 replace H:(if y109.length+l0.length < 140737488355328 then ((some (y109 ++ l0:List Int)).bind fun y112=>(if a1 > 1000000000 then (spec_PutNum.j0 k 1000000000 y112) else (spec_PutNum.j0 k a1 y112))) else (none))=some r:=by first|(rw [hy109];with_reducible exact H)|(have H2_:=(Option.bind_some _ _).symm.trans H;rw [hy109];with_reducible exact H2_)|(have H2_:=(Option.bind_some _ _).symm.trans H;with_reducible exact H2_)|with_reducible exact H|(rw [hy109];exact H)|exact H
 have Ny109:=Aside0.mk hy109
 clear hy109
 by_cases c3:y109.length+l0.length < 140737488355328
 ·rw [if_pos c3] at H
  have LMc3:=Aside0.mk c3
  clear c3
  obtain ⟨y112,hy112⟩ : ∃ y_:List Int,y_=(y109 ++ l0):=⟨_,rfl⟩
  replace H:(if a1 > 1000000000 then (spec_PutNum.j0 k 1000000000 y112) else (spec_PutNum.j0 k a1 y112))=some r:=by first|(rw [hy112];with_reducible exact H)|(have H2_:=(Option.bind_some _ _).symm.trans H;rw [hy112];with_reducible exact H2_)|(have H2_:=(Option.bind_some _ _).symm.trans H;with_reducible exact H2_)|with_reducible exact H|(rw [hy112];exact H)|exact H
  have Ny112:=Aside0.mk hy112
  clear hy112
  have HC4:=Aside0.mk H
  clear H
  go_enter Try.func88,Try.ntmps88
  go_upto_if 10 with (first|((with_reducible refine gate_dst (N:=6) rfl ?_);refine Kd.R_lit (Kd.int .u8) _ 5 ?hg (N:=6) ?hd (xs:=([]:List Int)) (inner:=[]) (ok:=fun _=>True) (okp:=fun _=>True) ?hr ?hp (fun _ hk=>hk) trivial (Below.refl _ _) (Nat.le_refl _) (by simp) ?_;(case hd=>rfl);(case hg=>rfl);(case hr=>first|(go_simp;done)|(go_simp;rfl));(case hp=>exact (Reps.none _ _));intro v110 w5 ho6 hb hg_ hnew_;clear hg_ hnew_;(first|rw [← Ny109.out] at ho6|(simp only [Int.reduceToNat] at ho6;rw [← Ny109.out] at ho6));have n0_:=Aside0.mk (Kd.R_lower ho6 (below_size be));have n1_:=bs hb;clear HB;have HO111:=n0_;have HB:=n1_;clear n0_ n1_;clear hb ho6)|((with_reducible refine gate_builtin (b:=.append) (xs:=#[.tmp 6,.tmp 7]) rfl ?_);at_builtin;refine Kd.R_append_rows (Kd.int .u8) (w0:=w) w.heap.size rfl (.tmp 6) (.tmp 7) 54 5 (.int .u8 0) 1 rfl Try.underlying54 info5 rfl (by decide) (by omega) v110 y109 l0 _ _ _ (fun _=>True) (fun _=>False) rfl rfl ?aO ?aR (fun _ _ h=>h) (fun _ h=>h.elim) ?aF ?aB ?aS ?aL ?_;(case aR=>exact rC HR0);(case aB=>exact be);(case aF=>exact (fun _ _=>trivial));(case aO=>exact (rR HO111));(case aS=>exact (below_size be));(case aL=>have:=LMc3.out;omega);intro v113 w7 ho hb hg hat;rw [← Ny112.out] at ho;have n0_:=Aside0.mk (hb);have n1_:=Aside0.mk (ho);clear HB;clear HO111;have HB:=n0_;have HO114:=n1_;clear n0_ n1_;clear ho hb hg hat))
  (try simp only [Act.put,List.setIfInBounds_toArray,List.set_cons_zero,List.set_cons_succ])
  go_cut [1] (fun v1 wc=>∃ (kq:Nat) (x1_3:Int),v1 = .int .i64 x1_3∧Aside0 (spec_PutNum.j0 kq x1_3 y112=some r)∧Aside0 (kq≤k)∧Aside0 (Kd.R (Kd.int .u8) 5 wc w.heap.size (fun _=>True) v113 y112)∧Aside0 (Below w.heap.size w wc))
  case first=>
   have H:=HC4.out
   clear HC4
   by_cases c8:a1 > 1000000000
   ·rw [if_pos c8] at H
    have c8b0:decide (1000000000 < a1)=true:=decide_eq_true c8
    clear c8
    (first|rw [c8b0]|(simp only [i64_w,i32_w];rw [c8b0])|skip)
    have H':=Aside0.mk H
    clear H
    go_wp2
    go_meet
    case rel=>exact ⟨_,(1000000000),rd_,H',⟨by first|omega|exact Nat.le_refl _⟩,⟨rR HO114⟩,⟨be⟩⟩
   ·rw [if_neg c8] at H
    have c8b0:decide (1000000000 < a1)=false:=decide_eq_false c8
    clear c8
    (first|rw [c8b0]|(simp only [i64_w,i32_w];rw [c8b0])|skip)
    have H':=Aside0.mk H
    clear H
    go_wp2
    go_meet
    case rel=>exact ⟨_,(a1),rd_,H',⟨by first|omega|exact Nat.le_refl _⟩,⟨rR HO114⟩,⟨be⟩⟩
  case rest=>
   clear HC4
   try clear p2
   try clear c3
   try clear c8
   try clear c8b0
   obtain ⟨kq,x1_3,rfl,HA,HJ3,HO_5,HB⟩:=hcut
   cases kq with
   | zero=>exact absurd HA.out (by simp [spec_PutNum.j0])
   | succ kj3=>
    have H:=HA.out
    clear HA
    simp only [spec_PutNum.j0] at H
    have HC9:=Aside0.mk H
    clear H
    go_upto_if 12 with (fail)
    go_cut [1] (fun v1 wc=>∃ (kq:Nat) (x1_8:Int),v1 = .int .i64 x1_8∧Aside0 (spec_PutNum.j1 kq x1_8 y112=some r)∧Aside0 (kq≤kj3)∧Aside0 (Kd.R (Kd.int .u8) 5 wc w.heap.size (fun _=>True) v113 y112)∧Aside0 (Below w.heap.size w wc))
    case first=>
     have H:=HC9.out
     clear HC9
     by_cases c10:x1_3 < 0
     ·rw [if_pos c10] at H
      have c10b0:decide (x1_3 < 0)=true:=decide_eq_true c10
      clear c10
      (first|rw [c10b0]|(simp only [i64_w,i32_w];rw [c10b0])|skip)
      have H':=Aside0.mk H
      clear H
      go_wp2
      go_meet
      case rel=>exact ⟨_,(0),rd_,H',⟨by have:=HJ3.out;first|omega|exact Nat.le_refl _⟩,⟨rR HO_5⟩,⟨be⟩⟩
     ·rw [if_neg c10] at H
      have c10b0:decide (x1_3 < 0)=false:=decide_eq_false c10
      clear c10
      (first|rw [c10b0]|(simp only [i64_w,i32_w];rw [c10b0])|skip)
      have H':=Aside0.mk H
      clear H
      go_wp2
      go_meet
      case rel=>exact ⟨_,(x1_3),rd_,H',⟨by have:=HJ3.out;first|omega|exact Nat.le_refl _⟩,⟨rR HO_5⟩,⟨be⟩⟩
    case rest=>
     clear HC9
     try clear c1
     try clear p2
     try clear c3
     try clear c8
     try clear c8b0
     try clear c10
     try clear c10b0
     try clear p2
     obtain ⟨kq,x1_8,rfl,HA,HJ8,HO_5,HB⟩:=hcut
     cases kq with
     | zero=>exact absurd HA.out (by simp [spec_PutNum.j1])
     | succ kj8=>
      have H:=HA.out
      clear HA
      simp only [spec_PutNum.j1] at H
      have H':=Aside0.mk H
      clear H
      go_wp2
      go_loopg [1,5] kj8 (fun kq v1 v5 w'=>∃ (x1_3:Int) (x5_3:List Int),v1 = .int .i64 x1_3∧Aside0 (spec_PutNum.l0 kq x1_3 x5_3=some r)∧Aside0 (kq≤kj8)∧Aside0 (Kd.R (Kd.int .u8) 5 w' w.heap.size (fun _=>True) v5 x5_3)∧Aside0 (Below w.heap.size w w'))
      case atStart=>exact ⟨(x1_8),(y112),rd_,H',⟨Nat.le_refl _⟩,⟨rR HO_5⟩,⟨be⟩⟩
      case round=>
       clear H'
       try clear c1
       try clear p2
       try clear c3
       try clear c8
       try clear c8b0
       try clear c10
       try clear c10b0
       try clear p2
       obtain ⟨x1_3,x5_3,rfl,HA,HK3,HO_5,HB⟩:=hrel
       cases gk with
       | zero=>exact absurd HA.out (by simp [spec_PutNum.l0])
       | succ k3=>
        have H:=HA.out
        clear HA
        simp only [spec_PutNum.l0] at H
        by_cases c11:x1_3 > 127
        ·rw [if_pos c11] at H
         have c11b0:decide (127 < x1_3)=true:=decide_eq_true c11
         clear c11
         by_cases c12:x5_3.length < 140737488355328
         ·rw [if_pos c12] at H
          have LMc12:=Aside0.mk c12
          clear c12
          obtain ⟨y115,hy115⟩ : ∃ y_:List Int,y_=(x5_3 ++ [(Go.bits .or .i64 (Go.bits .and .i64 x1_3 127) 128) % 256]):=⟨_,rfl⟩
          replace H:(spec_PutNum.l0 k3 (x1_3 / 128) y115)=some r:=by first|(rw [hy115];with_reducible exact H)|(have H2_:=(Option.bind_some _ _).symm.trans H;rw [hy115];with_reducible exact H2_)|(have H2_:=(Option.bind_some _ _).symm.trans H;with_reducible exact H2_)|with_reducible exact H|(rw [hy115];exact H)|exact H
          have Ny115:=Aside0.mk hy115
          clear hy115
          have H':=Aside0.mk H
          clear H
          go_wp2_with (first|((with_reducible refine gate_builtin (b:=.append) (xs:=#[.tmp 15,.tmp 20]) rfl ?_);at_builtin;refine Kd.R_append (Kd.int .u8) (w0:=w) w.heap.size rfl (.tmp 15) (.tmp 20) 54 5 (.int .u8 0) 1 rfl Try.underlying54 info5 rfl (by decide) (by omega) u5 x5_3 ((Go.bits .or .i64 (Go.bits .and .i64 x1_3 127) 128) % 256) [.int .u8 ((Go.bits .or .i64 (Go.bits .and .i64 x1_3 127) 128) % 256)] (fun _=>True) (fun _=>False) rfl rfl ?aP (fun _ hk=>hk.elim) ?aF ?aO ?aB ?aS ?aL ?_;(case aP=>exact rfl);(case aB=>exact be);(case aF=>exact (fun _ _=>trivial));(case aO=>exact (rR HO_5));(case aS=>exact (below_size be));(case aL=>have:=LMc12.out;omega);intro v116 w13 ho hb hg hat;rw [← Ny115.out] at ho;have n0_:=Aside0.mk (hb);have n1_:=Aside0.mk (ho);clear HB;clear HO_5;have HB:=n0_;have HO117:=n1_;clear n0_ n1_;clear ho hb hg hat))
          go_roundg k3
          case measure=>have:=HJ3.out;have:=HJ8.out;have:=HK3.out;omega
          case rel=>exact ⟨(x1_3 / 128),(y115),rd_,H',⟨by have:=HJ3.out;have:=HJ8.out;have:=HK3.out;omega⟩,⟨rR HO117⟩,⟨be⟩⟩
         ·rw [if_neg c12] at H
          exact absurd H (by simp)
        ·rw [if_neg c11] at H
         have c11b0:decide (127 < x1_3)=false:=decide_eq_false c11
         clear c11
         by_cases c14:x5_3.length < 140737488355328
         ·rw [if_pos c14] at H
          have LMc14:=Aside0.mk c14
          clear c14
          obtain ⟨y118,hy118⟩ : ∃ y_:List Int,y_=(x5_3 ++ [(x1_3) % 256]):=⟨_,rfl⟩
          replace H:(some y118)=some r:=by first|(rw [hy118];with_reducible exact H)|(have H2_:=(Option.bind_some _ _).symm.trans H;rw [hy118];with_reducible exact H2_)|(have H2_:=(Option.bind_some _ _).symm.trans H;with_reducible exact H2_)|with_reducible exact H|(rw [hy118];exact H)|exact H
          have Ny118:=Aside0.mk hy118
          clear hy118
          obtain rfl:=Option.some.inj H
          go_wp2_with (first|((with_reducible refine gate_builtin (b:=.append) (xs:=#[.tmp 24,.tmp 27]) rfl ?_);at_builtin;refine Kd.R_append (Kd.int .u8) (w0:=w) w.heap.size rfl (.tmp 24) (.tmp 27) 54 5 (.int .u8 0) 1 rfl Try.underlying54 info5 rfl (by decide) (by omega) u5 x5_3 ((x1_3) % 256) [.int .u8 ((x1_3) % 256)] (fun _=>True) (fun _=>False) rfl rfl ?aP (fun _ hk=>hk.elim) ?aF ?aO ?aB ?aS ?aL ?_;(case aP=>exact rfl);(case aB=>exact be);(case aF=>exact (fun _ _=>trivial));(case aO=>exact (rR HO_5));(case aS=>exact (below_size be));(case aL=>have:=LMc14.out;omega);intro v119 w15 ho hb hg hat;rw [← Ny118.out] at ho;have n0_:=Aside0.mk (hb);have n1_:=Aside0.mk (ho);clear HB;clear HO_5;have HB:=n0_;have HO120:=n1_;clear n0_ n1_;clear ho hb hg hat))
          go_ret
          exact ⟨_,rz,rR HO120,be⟩
         ·rw [if_neg c14] at H
          exact absurd H (by simp)
 ·rw [if_neg c3] at H
  exact absurd H (by simp)
def spec_PutText.f (k:Nat) (l0:List Int) (a1:ByteArray):Option (List Int):=(spec_PutNum.f k l0 (a1.size:Int)).bind fun t121=>(if t121.length+a1.size < 140737488355328 then (some (t121 ++ bytesOf a1)) else (none))
set_option maxHeartbeats 8000000 in
set_option maxRecDepth 100000 in
theorem spec_PutText.calls (k:Nat) (A0:Option Addr) (c0:Nat) (l0:List Int) (a1:ByteArray) (r:List Int) (w:World) (hr0:Kd.C (Kd.int .u8) w A0 l0.length l0) (hc0:l0.length≤c0) (h:spec_PutText.f k l0 a1=some r) :
  Calls Try.prog 87 #[.slice A0 l0.length c0,.string a1] w fun e w'=>∃ v0_:Value,e = .returned (v0_)∧Kd.R (Kd.int .u8) 5 w' w.heap.size (fun _=>True) v0_ r∧Below w.heap.size w w':=by
 have HR0:=Aside0.mk hr0
 have HC0:=Aside0.mk hc0
 clear hr0 hc0
 have HB:=Aside0.mk (Below.refl w.heap.size w)
 have H:((spec_PutNum.f k l0 (a1.size:Int)).bind fun t121=>(if t121.length+a1.size < 140737488355328 then (some (t121 ++ bytesOf a1)) else (none)))=some r:=h
 clear h
 replace H:=Option.bind_eq_some_iff.mp H
 obtain ⟨t121,A30,H⟩:=H
 try dsimp only at H
 have A3:=Aside0.mk A30
 clear A30
 by_cases c4:t121.length+a1.size < 140737488355328
 ·rw [if_pos c4] at H
  have LMc4:=Aside0.mk c4
  clear c4
  obtain ⟨y124,hy124⟩ : ∃ y_:List Int,y_=(t121 ++ bytesOf a1):=⟨_,rfl⟩
  replace H:(some y124)=some r:=by first|(rw [hy124];with_reducible exact H)|(have H2_:=(Option.bind_some _ _).symm.trans H;rw [hy124];with_reducible exact H2_)|(have H2_:=(Option.bind_some _ _).symm.trans H;with_reducible exact H2_)|with_reducible exact H|(rw [hy124];exact H)|exact H
  have Ny124:=Aside0.mk hy124
  clear hy124
  obtain rfl:=Option.some.inj H
  go_enter Try.func87,Try.ntmps87
  go_wp2_with (first|((with_reducible refine gate_callee (f:=88) rfl ?_);refine goesL_ (some 8) rfl rfl Try.func88 (by kernel_rfl) rfl #[.slice A0 l0.length c0,.int .i64 (a1.size:Int)] rfl (by (try simp only [List.map_toArray,List.map_cons,List.map_nil]);first|done|rfl|(simp only [List.length_drop,List.length_take];rfl)) ?_;(with_reducible refine (spec_PutNum.calls k _ _ l0 (a1.size:Int) t121 _ ?side1 ?side2 A3.out).mono ?_);(case side1=>exact sC HR0);(case side2=>exact HC0.out);rintro e w5 ⟨v122,rfl,ho0,hb⟩;refine ⟨_,rfl,?_⟩;have n0_:=Aside0.mk (Kd.R_lower ho0 (below_size be));have n1_:=bs hb;clear HB;have HO123:=n0_;have HB:=n1_;clear n0_ n1_;(try clear hb);(try clear hb2);(try clear hk);(try clear hi);(try clear ho0))|(at_builtin;refine Aid.append_str_at (w0:=w) w.heap.size rfl (.tmp 8) _ 54 9 5 rfl Try.underlying54 Try.underlying9 info5 v122 t121 a1 rfl rfl ?aO ?aB ?aS ?aL ?_;(case aB=>exact be);(case aO=>exact (Kd.own_of_R (rR HO123)));(case aS=>exact (below_size be));(case aL=>have:=LMc4.out;omega);intro v125 w6 ho0 hb hg hat;have ho:=Kd.R_of_own (h1:=fun _=>rfl) (ok:=(fun _=>True)) ho0 (fun k_ hk_=>Or.elim hat (fun he_=>trivial) (fun ⟨_,hb1_,hb2_⟩=>(fun _ _=>trivial) k_ (Option.some.inj (hb1_.symm.trans hk_) ▸ hb2_)));clear ho0;rw [← Ny124.out] at ho;change Kd.R (Kd.int .u8) 5 w6 w.heap.size (fun _=>True) v125 y124 at ho;have n0_:=Aside0.mk (hb);have n1_:=Aside0.mk (ho);clear HB;clear HO123;have HB:=n0_;have HO126:=n1_;clear n0_ n1_;clear ho hb hg hat))
  go_ret
  exact ⟨_,rz,rR HO126,be⟩
 ·rw [if_neg c4] at H
  exact absurd H (by simp)
def spec_l8Stamp.f (k:Nat) (l0:List Int) (a1_0:Int) (a1_1:Int) (a1_2:Int):Option (List Int):=(spec_PutNum.f k l0 a1_0).bind fun t128=>((spec_PutNum.f k t128 a1_1).bind fun t131=>((spec_PutNum.f k t131 a1_2).bind fun t134=>(some t134)))
def spec_l8Stamp.T1:Bool × List (List Nat × List Nat):=(true,[([],[]),([],[]),([1],[1]),([0,2],[0,2]),([],[]),([4],[4]),([3,5,3],[3,5]),([],[]),([7],[7]),([6,8,6],[6,8]),([9,9,0,1,2,3,4,5,6,7,8,9],[9])])
def spec_l8Stamp.B1:List Nat:=[0,0,2,7,0,16,63,0,128,511,1023]
theorem spec_l8Stamp.tab1:rtab .any (opsOf Try.f89 1)=spec_l8Stamp.T1:=by kernel_rfl
theorem spec_l8Stamp.bits1:waitsOk spec_l8Stamp.T1.2 spec_l8Stamp.B1=true:=by kernel_rfl
set_option maxHeartbeats 8000000 in
set_option maxRecDepth 100000 in
theorem spec_l8Stamp.calls (k:Nat) (A0:Option Addr) (c0:Nat) (l0:List Int) (a1_0:Int) (a1_1:Int) (a1_2:Int) (r:List Int) (w:World) (hr0:Kd.C (Kd.int .u8) w A0 l0.length l0) (hc0:l0.length≤c0) (h:spec_l8Stamp.f k l0 a1_0 a1_1 a1_2=some r) :
  Calls Try.prog 89 #[.slice A0 l0.length c0,.agg #[.int .i64 a1_0,.int .i64 a1_1,.int .i64 a1_2]] w fun e w'=>∃ v0_:Value,e = .returned (v0_)∧Kd.R (Kd.int .u8) 5 w' w.heap.size (fun _=>True) v0_ r∧Below w.heap.size w w':=by
 have hu59:=Try.underlying59
 have HR0:=Aside0.mk hr0
 have HC0:=Aside0.mk hc0
 clear hr0 hc0
 have HB:=Aside0.mk (Below.refl w.heap.size w)
 have H:((spec_PutNum.f k l0 a1_0).bind fun t128=>((spec_PutNum.f k t128 a1_1).bind fun t131=>((spec_PutNum.f k t131 a1_2).bind fun t134=>(some t134))))=some r:=h
 clear h
 replace H:=Option.bind_eq_some_iff.mp H
 obtain ⟨t128,A30,H⟩:=H
 try dsimp only at H
 have A3:=Aside0.mk A30
 clear A30
 replace H:=Option.bind_eq_some_iff.mp H
 obtain ⟨t131,A40,H⟩:=H
 try dsimp only at H
 have A4:=Aside0.mk A40
 clear A40
 replace H:=Option.bind_eq_some_iff.mp H
 obtain ⟨t134,A50,H⟩:=H
 try dsimp only at H
 have A5:=Aside0.mk A50
 clear A50
 obtain rfl:=Option.some.inj H
 go_enter Try.func89,Try.ntmps89
 try go_wp2_with (first|((with_reducible refine gate_dst (N:=3) rfl ?_);refine box_event ?hg (N:=3) ?hd (cs:=#[.int .i64 a1_0,.int .i64 a1_1,.int .i64 a1_2]) (t:=59) ?hr ?_;(case hd=>rfl);(case hg=>rfl);(case hr=>first|(go_simp;done)|(go_simp;rfl));intro gb127 hg w6 hbox hb;have n0_:=bs hb;have n1_:=Aside0.mk (hbox);have n2_:=Aside0.mk ((by rw [hg];exact (below_size be):w.heap.size≤gb127));have n3_:=Aside0.mk ((by rw [hg];exact (below_size be):w.heap.size≤gb127));clear HB;have HB:=n0_;have BK127:=n1_;have GW127:=n2_;have GE127:=n3_;clear n0_ n1_ n2_ n3_;clear hb hbox hg))
 have n0_:=Aside0.mk (blk_drew BK127.out)
 have n1_:=Aside0.mk (below_drew1 HB.out)
 clear BK127
 clear HB
 have BK127:=n0_
 have HB:=n1_
 clear n0_ n1_
 refine start_ (n:=11) (S:=fun w'=>w'.cell? ⟨gb127,0,none⟩=some (.int .i64 a1_0)∧w'.cell? ⟨gb127,1,none⟩=some (.int .i64 a1_1)∧w'.cell? ⟨gb127,2,none⟩=some (.int .i64 a1_2)) (ds:=[]) (fl 11 0) (by kernel_rfl) rfl rfl ⟨(blk_cell BK127.out 0).trans rfl,(blk_cell BK127.out 1).trans rfl,(blk_cell BK127.out 2).trans rfl⟩ (fun hHeld=>?_);refine with_tabW spec_l8Stamp.tab1 spec_l8Stamp.bits1 (fun HT_ HW_=>?_)
 generalize w6.drew=w7 at BK127 HB hHeld ⊢
 refine pt 0 5 (fl 11 1) HT_ ?_
 refine pt 1 6 (fl 11 3) HT_ ?_
 refine pt 4 9 (fl 11 19) HT_ ?_
 refine pt 7 12 (fl 11 147) HT_ ?_
 refine tt 2 7 (fl 11 151) HT_ HW_ hHeld ?_
 refine tt 5 10 (fl 11 183) HT_ HW_ hHeld ?_
 refine tt 8 13 (fl 11 439) HT_ HW_ hHeld ?_
 refine ot 3 (some 8) (fl 11 447) HT_ (fun K hK=>?_)
 refine goes_ Try.func88 (by kernel_rfl) rfl #[.slice A0 l0.length c0,.int .i64 a1_0] (by rfl) rfl rfl (by (try simp only [List.map_toArray,List.map_cons,List.map_nil]);first|done|rfl|(simp only [List.length_drop,List.length_take];rfl)) ?_
 with_reducible refine (spec_PutNum.calls k _ _ l0 a1_0 t128 _ ?side1 ?side2 A3.out).mono ?_
 (case side1=>exact rC HR0)
 (case side2=>exact HC0.out)
 rintro e w8 ⟨v129,rfl,ho0,hb⟩
 refine ⟨_,rfl,?_⟩
 have n0_:=Aside0.mk (Kd.R_lower ho0 (below_size be))
 have n1_:=Aside0.mk (blk_below (g:=gb127) (o:=.cells #[.int .i64 a1_0,.int .i64 a1_1,.int .i64 a1_2] 59 (0,0)) (bk BK127) hb)
 have n2_:=bs hb
 clear BK127
 clear HB
 have HO130:=n0_
 have BK127:=n1_
 have HB:=n2_
 clear n0_ n1_ n2_
 (try clear hb)
 (try clear hb2)
 (try clear hk)
 (try clear hi)
 (try clear ho0)
 obtain ⟨Ao9,co9,eo9⟩:=Kd.R_slice HO130.out
 (first|subst eo9|(injection eo9 with f1_ f2_ f3_;have f4_:=f1_.symm;have f5_:=f3_.symm;clear f1_ f2_ f3_;subst f4_;subst f5_))
 refine hK.out _ _ ⟨(blk_cell BK127.out 0).trans rfl,(blk_cell BK127.out 1).trans rfl,(blk_cell BK127.out 2).trans rfl⟩ (fun hHeld=>?_)
 clear hK K
 refine no 8 ?_
 refine ot 6 (some 11) (fl 11 511) HT_ (fun K hK=>?_)
 refine goes_ Try.func88 (by kernel_rfl) rfl #[.slice Ao9 t128.length co9,.int .i64 a1_1] (by rfl) rfl rfl (by (try simp only [List.map_toArray,List.map_cons,List.map_nil]);first|done|rfl|(simp only [List.length_drop,List.length_take];rfl)) ?_
 with_reducible refine (spec_PutNum.calls k _ _ t128 a1_1 t131 _ ?side1 ?side2 A4.out).mono ?_
 (case side1=>exact sR HO130)
 (case side2=>exact (Kd.R_reads' HO130.out).2.1)
 rintro e w10 ⟨v132,rfl,ho0,hb⟩
 refine ⟨_,rfl,?_⟩
 have n0_:=Aside0.mk (Kd.R_elder' (rR HO130) (Kd.R_base ho0) hb)
 have n1_:=Aside0.mk (Kd.R_lower (Kd.R_new' ho0 (Kd.R_lt (rR HO130))) (below_size be))
 have n2_:=Aside0.mk (blk_below (g:=gb127) (o:=.cells #[.int .i64 a1_0,.int .i64 a1_1,.int .i64 a1_2] 59 (0,0)) (bk BK127) hb)
 have n3_:=bs hb
 clear HO130
 clear BK127
 clear HB
 have HO130:=n0_
 have HO133:=n1_
 have BK127:=n2_
 have HB:=n3_
 clear n0_ n1_ n2_ n3_
 (try clear hb)
 (try clear hb2)
 (try clear hk)
 (try clear hi)
 (try clear ho0)
 obtain ⟨Ao11,co11,eo11⟩:=Kd.R_slice HO133.out
 (first|subst eo11|(injection eo11 with f1_ f2_ f3_;have f4_:=f1_.symm;have f5_:=f3_.symm;clear f1_ f2_ f3_;subst f4_;subst f5_))
 refine hK.out _ _ ⟨(blk_cell BK127.out 0).trans rfl,(blk_cell BK127.out 1).trans rfl,(blk_cell BK127.out 2).trans rfl⟩ (fun hHeld=>?_)
 clear hK K
 refine no 11 ?_
 refine ot 9 (some 14) (fl 11 1023) HT_ (fun K hK=>?_)
 refine goes_ Try.func88 (by kernel_rfl) rfl #[.slice Ao11 t131.length co11,.int .i64 a1_2] (by rfl) rfl rfl (by (try simp only [List.map_toArray,List.map_cons,List.map_nil]);first|done|rfl|(simp only [List.length_drop,List.length_take];rfl)) ?_
 with_reducible refine (spec_PutNum.calls k _ _ t131 a1_2 t134 _ ?side1 ?side2 A5.out).mono ?_
 (case side1=>exact sR HO133)
 (case side2=>exact (Kd.R_reads' HO133.out).2.1)
 rintro e w12 ⟨v135,rfl,ho0,hb⟩
 refine ⟨_,rfl,?_⟩
 have n0_:=Aside0.mk (Kd.R_elder' (rR HO130) (Kd.R_base ho0) hb)
 have n1_:=Aside0.mk (Kd.R_elder' (rR HO133) (Kd.R_base ho0) hb)
 have n2_:=Aside0.mk (Kd.R_lower (Kd.R_new' (Kd.R_new' ho0 (Kd.R_lt (rR HO130))) (Kd.R_lt (rR HO133))) (below_size be))
 have n3_:=Aside0.mk (blk_below (g:=gb127) (o:=.cells #[.int .i64 a1_0,.int .i64 a1_1,.int .i64 a1_2] 59 (0,0)) (bk BK127) hb)
 have n4_:=bs hb
 clear HO130
 clear HO133
 clear BK127
 clear HB
 have HO130:=n0_
 have HO133:=n1_
 have HO136:=n2_
 have BK127:=n3_
 have HB:=n4_
 clear n0_ n1_ n2_ n3_ n4_
 (try clear hb)
 (try clear hb2)
 (try clear hk)
 (try clear hi)
 (try clear ho0)
 refine hK.out _ _ ⟨(blk_cell BK127.out 0).trans rfl,(blk_cell BK127.out 1).trans rfl,(blk_cell BK127.out 2).trans rfl⟩ (fun hHeld=>?_)
 clear hK K
 refine no 14 ?_
 refine pt 10 4 (fl 11 2047) HT_ ?_
 refine done_ (done_of HT_.out (by kernel_rfl)) ?_
 try go_wp2
 go_ret
 exact ⟨_,rz,by (with_reducible repeat (first|apply Kd.R_alloc|apply Kd.R_drewN|apply Kd.R_drew));exact Kd.R_mono HO136.out (fun _ hk=>trivial),be⟩
def spec_l8Bool.f (a0:Bool):Option (Int):=if a0=true then (some 1) else (some 0)
set_option maxHeartbeats 8000000 in
set_option maxRecDepth 100000 in
theorem spec_l8Bool.calls (a0:Bool) (r:Int) (w:World) (h:spec_l8Bool.f a0=some r) :
  Calls Try.prog 90 #[.bool a0] w fun e w'=>e = .returned (.int .i64 r)∧Drawn0 w w':=by
 have H:(if a0=true then (some 1) else (some 0))=some r:=h
 clear h
 by_cases c2:a0=true
 ·subst c2
  rw [if_pos rfl] at H
  obtain rfl:=Option.some.inj H
  go_enter Try.func90,Try.ntmps90
  go_wp2
  go_ret
  exact ⟨by first|rfl|(simp;done)|(simp [*];done),by repeat (first|exact Drawn0.refl _|apply Drawn0.step)⟩
 ·replace c2:=Bool.eq_false_iff.mpr c2
  subst c2
  have H1:(some 0)=some r:=by rw [if_neg (show ¬ (false=true) by decide)] at H;exact H
  clear H
  have H:=H1
  clear H1
  obtain rfl:=Option.some.inj H
  go_enter Try.func90,Try.ntmps90
  go_wp2
  go_ret
  exact ⟨by first|rfl|(simp;done)|(simp [*];done),by repeat (first|exact Drawn0.refl _|apply Drawn0.step)⟩
mutual
def spec_Crc.l0:Nat→List Int→Int→Int→Option (Int)
 | 0,_,_,_=>none
 | k+1,x0,x3,x4=>if x4 < (x0.length:Int) then (if 0≤x4 then (spec_Crc.l1 k x0 (Go.bits .xor .i64 x3 (wrap64 (rd x0 x4))) x4 0) else (none)) else (some (Go.bits .xor .i64 x3 4294967295))
def spec_Crc.l1:Nat→List Int→Int→Int→Int→Option (Int)
 | 0,_,_,_,_=>none
 | k+1,x0,x3,x4,x5=>if x5 < 8 then (if (Go.bits .and .i64 x3 1)=1 then (spec_Crc.l1 k x0 (Go.bits .xor .i64 (x3 / 2) 2197175160) x4 (wrap64 (x5+1))) else (spec_Crc.l1 k x0 (x3 / 2) x4 (wrap64 (x5+1)))) else (spec_Crc.l0 k x0 x3 (wrap64 (x4+1)))
end
def spec_Crc.f (k:Nat) (l0:List Int):Option (Int):=spec_Crc.l0 k l0 4294967295 0
set_option maxHeartbeats 8000000 in
set_option maxRecDepth 100000 in
theorem spec_Crc.calls (k:Nat) (A0:Option Addr) (c0:Nat) (l0:List Int) (r:Int) (w:World) (hr0:Kd.C (Kd.int .u8) w A0 l0.length l0) (hc0:l0.length≤c0) (h:spec_Crc.f k l0=some r) :
  Calls Try.prog 91 #[.slice A0 l0.length c0] w fun e w'=>e = .returned (.int .i64 r)∧Drawn0 w w':=by
 have HR0:=Aside0.mk hr0
 have HC0:=Aside0.mk hc0
 clear hr0 hc0
 have H:(spec_Crc.l0 k l0 4294967295 0)=some r:=h
 clear h
 have H':=Aside0.mk H
 clear H
 go_enter Try.func91,Try.ntmps91
 go_wp2
 go_loopg [3,4] k (fun kq v3 v4 w'=>∃ (x3_1:Int) (x4_1:Int),v3 = .int .i64 x3_1∧v4 = .int .i64 x4_1∧Aside0 (spec_Crc.l0 kq l0 x3_1 x4_1=some r)∧Aside0 (kq≤k)∧Drawn0 w w')
 case atStart=>exact ⟨(4294967295),(0),rd_,rd_,H',⟨Nat.le_refl _⟩,by repeat (first|exact Drawn0.refl _|apply Drawn0.step)⟩
 case round=>
  clear H'
  obtain ⟨x3_1,x4_1,rfl,rfl,HA,HK1,⟨m1,rfl⟩⟩:=hrel
  cases gk with
  | zero=>exact absurd HA.out (by simp [spec_Crc.l0])
  | succ k1=>
   have H:=HA.out
   clear HA
   simp only [spec_Crc.l0] at H
   by_cases c2:x4_1 < (l0.length:Int)
   ·rw [if_pos c2] at H
    have c2b0:decide (x4_1 < (l0.length:Int))=true:=decide_eq_true c2
    clear c2
    by_cases c3:0≤x4_1
    ·rw [if_pos c3] at H
     have c3b0:decide (0≤x4_1)=true:=decide_eq_true c3
     clear c3
     have H':=Aside0.mk H
     clear H
     have p137:0≤(x4_1:Int):=of_decide_eq_true (by first|(with_reducible assumption)|assumption)
     have q137:x4_1 < (l0.length:Int):=of_decide_eq_true (by first|(with_reducible assumption)|assumption)
     obtain ⟨ad137,e137,hx137_0⟩:=Kd.at_int HR0.out x4_1 p137 q137
     cases e137
     replace p137:=eq_true p137
     replace q137:=eq_true q137
     go_wp2
     go_loopg [3,5] k1 (fun kq v3 v5 w'=>∃ (x3_2:Int) (x5_2:Int),v3 = .int .i64 x3_2∧v5 = .int .i64 x5_2∧Aside0 (spec_Crc.l1 kq l0 x3_2 x4_1 x5_2=some r)∧Aside0 (kq≤k1)∧Drawn0 w w')
     case atStart=>exact ⟨(Go.bits .xor .i64 x3_1 (wrap64 (rd l0 x4_1))),(0),rd_,rd_,H',⟨Nat.le_refl _⟩,by repeat (first|exact Drawn0.refl _|apply Drawn0.step)⟩
     case round=>
      clear H'
      try clear p1
      try clear q1
      try clear hx1
      try clear c2
      try clear c2b0
      try clear p2
      try clear c3
      try clear c3b0
      try clear hx137_0
      try clear p137
      try clear q137
      obtain ⟨x3_2,x5_2,rfl,rfl,HA,HK2,⟨m2,rfl⟩⟩:=hrel
      cases gk with
      | zero=>exact absurd HA.out (by simp [spec_Crc.l1])
      | succ k2=>
       have H:=HA.out
       clear HA
       simp only [spec_Crc.l1] at H
       by_cases c4:x5_2 < 8
       ·rw [if_pos c4] at H
        have c4b0:decide (x5_2 < 8)=true:=decide_eq_true c4
        clear c4
        by_cases c5:(Go.bits .and .i64 x3_2 1)=1
        ·rw [if_pos c5] at H
         have c5b0:((Go.bits .and .i64 x3_2 1) == 1)=true:=beq_iff_eq.mpr c5
         have c5b1:((Go.bits .and .i64 x3_2 1) != 1)=false:=bne_eq_false_iff_eq.mpr c5
         clear c5
         have H':=Aside0.mk H
         clear H
         go_wp2
         go_roundg k2
         case measure=>have:=HK1.out;have:=HK2.out;omega
         case rel=>exact ⟨(Go.bits .xor .i64 (x3_2 / 2) 2197175160),(wrap64 (x5_2+1)),rd_,rd_,H',⟨by have:=HK1.out;have:=HK2.out;omega⟩,by repeat (first|exact Drawn0.refl _|apply Drawn0.step)⟩
        ·rw [if_neg c5] at H
         have c5b0:((Go.bits .and .i64 x3_2 1) == 1)=false:=beq_eq_false_iff_ne.mpr c5
         have c5b1:((Go.bits .and .i64 x3_2 1) != 1)=true:=bne_iff_ne.mpr c5
         have H':=Aside0.mk H
         clear H
         go_wp2
         go_roundg k2
         case measure=>have:=HK1.out;have:=HK2.out;omega
         case rel=>exact ⟨(x3_2 / 2),(wrap64 (x5_2+1)),rd_,rd_,H',⟨by have:=HK1.out;have:=HK2.out;omega⟩,by repeat (first|exact Drawn0.refl _|apply Drawn0.step)⟩
       ·rw [if_neg c4] at H
        have c4b0:decide (x5_2 < 8)=false:=decide_eq_false c4
        clear c4
        have H':=Aside0.mk H
        clear H
        go_wp2
        go_roundg k2
        case measure=>have:=HK1.out;have:=HK2.out;omega
        case rel=>exact ⟨(x3_2),(wrap64 (x4_1+1)),rd_,rd_,H',⟨by have:=HK1.out;have:=HK2.out;omega⟩,by repeat (first|exact Drawn0.refl _|apply Drawn0.step)⟩
    ·rw [if_neg c3] at H
     exact absurd H (by simp)
   ·rw [if_neg c2] at H
    have c2b0:decide (x4_1 < (l0.length:Int))=false:=decide_eq_false c2
    clear c2
    obtain rfl:=Option.some.inj H
    go_wp2
    go_ret
    exact ⟨by first|rfl|(simp;done)|(simp [*];done),by repeat (first|exact Drawn0.refl _|apply Drawn0.step)⟩
end Go.Proofs.Ytbhllgifciaepaa.PFnExactPutFile
