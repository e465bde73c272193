/- Trimmed by a program of this session (trim.py). Not trusted: Lean checks it. -/
import Derived.Test.YtnoglmdicdpabaaDoorTLStampOrderPFnStampOrderx0
import Derived.Lib.AtoiErrMem
import Derived.Lib.SplitLaws
import Derived.Test.YtnoglmdicdpabaaDoorTLStampOrderLaidE
import Derived.Test.YtnoglmdicdpabaaDoorTLStampOrderShelf
namespace Go.Proofs.YtnoglmdicdpabaaDoor.PFnStampOrder
open Go.RowKit Go.Proofs.YtnoglmdicdpabaaDoorW.PrintWords Go.Proofs.YtnoglmdicdpabaaDoorW.PrintLast Go.Proofs.YtnoglmdicdpabaaDoorW.PrintMore Go.Proofs.YtnoglmdicdpabaaDoor.St
attribute [local go_sem] max2_int min2_int max_two min_two max_three min_three max_four min_four
set_option linter.unusedVariables false
set_option linter.unusedSimpArgs false
def impl_in.f (a0:Int) (a1:Int) (a2:Int):Option (Bool):=if a0 ≥ a1 then (some (decide (a0≤a2))) else (some false)
set_option maxHeartbeats 8000000 in
set_option maxRecDepth 100000 in
theorem impl_in.calls (a0:Int) (a1:Int) (a2:Int) (r:Bool) (w:World) (h:impl_in.f a0 a1 a2=some r) :
  Calls Tryd.prog 53 #[.int .i64 a0,.int .i64 a1,.int .i64 a2] w fun e w'=>e = .returned (.bool r)∧Drawn0 w w':=by
 have H:(if a0 ≥ a1 then (some (decide (a0≤a2))) else (some false))=some r:=h
 clear h
 by_cases c4:a0 ≥ a1
 ·rw [if_pos c4] at H
  have c4b0:decide (a1≤a0)=true:=decide_eq_true c4
  clear c4
  obtain rfl:=Option.some.inj H
  go_enter Tryd.func53,Tryd.ntmps53
  go_wp2
  go_ret
  exact ⟨by first|rfl|(simp;done)|(simp [*];done),by repeat (first|exact Drawn0.refl _|apply Drawn0.step)⟩
 ·rw [if_neg c4] at H
  have c4b0:decide (a1≤a0)=false:=decide_eq_false c4
  clear c4
  obtain rfl:=Option.some.inj H
  go_enter Tryd.func53,Tryd.ntmps53
  go_wp2
  go_ret
  exact ⟨by first|rfl|(simp;done)|(simp [*];done),by repeat (first|exact Drawn0.refl _|apply Drawn0.step)⟩
def impl_StampOk.f (a0_0:Int) (a0_1:Int) (a0_2:Int):Option (Bool):=(impl_in.f a0_0 0 1000000000).bind fun t102=>(if t102=true then ((impl_in.f a0_1 0 1000000).bind fun t103=>(if t103=true then ((impl_in.f a0_2 0 20).bind fun t104=>(some t104)) else (some false))) else (some false))
set_option maxHeartbeats 8000000 in
set_option maxRecDepth 100000 in
theorem impl_StampOk.calls (a0_0:Int) (a0_1:Int) (a0_2:Int) (r:Bool) (w:World) (h:impl_StampOk.f a0_0 a0_1 a0_2=some r) :
  Calls Tryd.prog 27 #[.agg #[.int .i64 a0_0,.int .i64 a0_1,.int .i64 a0_2]] w fun e w'=>e = .returned (.bool r)∧Below w.heap.size w w':=by
 have hu25:=Tryd.underlying25
 have HB:=Aside0.mk (Below.refl w.heap.size w)
 have H:((impl_in.f a0_0 0 1000000000).bind fun t102=>(if t102=true then ((impl_in.f a0_1 0 1000000).bind fun t103=>(if t103=true then ((impl_in.f a0_2 0 20).bind fun t104=>(some t104)) else (some false))) else (some false)))=some r:=h
 clear h
 replace H:=Option.bind_eq_some_iff.mp H
 obtain ⟨t102,A20,H⟩:=H
 try dsimp only at H
 have A2:=Aside0.mk A20
 clear A20
 by_cases c3:t102=true
 ·subst c3
  rw [if_pos rfl] at H
  replace H:=Option.bind_eq_some_iff.mp H
  obtain ⟨t103,A40,H⟩:=H
  try dsimp only at H
  have A4:=Aside0.mk A40
  clear A40
  by_cases c5:t103=true
  ·subst c5
   rw [if_pos rfl] at H
   replace H:=Option.bind_eq_some_iff.mp H
   obtain ⟨t104,A60,H⟩:=H
   try dsimp only at H
   have A6:=Aside0.mk A60
   clear A60
   obtain rfl:=Option.some.inj H
   go_enter Tryd.func27,Tryd.ntmps27
   go_wp2_with (first|((with_reducible refine gate_dst (N:=1) rfl ?_);refine box_event ?hg (N:=1) ?hd (cs:=#[.int .i64 a0_0,.int .i64 a0_1,.int .i64 a0_2]) (t:=25) ?hr ?_;(case hd=>rfl);(case hg=>rfl);(case hr=>first|(go_simp;done)|(go_simp;rfl));intro gb101 hg w7 hbox hb;have n0_:=bs hb;have n1_:=Aside0.mk (hbox);have n2_:=Aside0.mk ((by rw [hg];exact (below_size be):w.heap.size≤gb101));have n3_:=Aside0.mk ((by rw [hg];exact (below_size be):w.heap.size≤gb101));clear HB;have HB:=n0_;have BK101:=n1_;have GW101:=n2_;have GE101:=n3_;clear n0_ n1_ n2_ n3_;clear hb hbox hg;have hcz8_0:w7.cell? ⟨gb101,0,none⟩=some (.int .i64 a0_0):=(blk_cell BK101.out 0).trans rfl;have hcz8_1:w7.cell? ⟨gb101,1,none⟩=some (.int .i64 a0_1):=(blk_cell BK101.out 1).trans rfl;have hcz8_2:w7.cell? ⟨gb101,2,none⟩=some (.int .i64 a0_2):=(blk_cell BK101.out 2).trans rfl;have hfz8_0:=blk_frozen BK101.out 0;have hfz8_1:=blk_frozen BK101.out 1;have hfz8_2:=blk_frozen BK101.out 2)|((with_reducible refine gate_callee (f:=53) rfl ?_);refine goesL_ (some 5) rfl rfl Tryd.func53 (by kernel_rfl) rfl #[.int .i64 a0_0,.int .i64 0,.int .i64 1000000000] rfl (by (try simp only [List.map_toArray,List.map_cons,List.map_nil]);first|done|rfl|(simp only [List.length_drop,List.length_take];rfl)) ?_;(with_reducible refine (impl_in.calls a0_0 0 1000000000 true _ A2.out).mono ?_);rintro e w' ⟨rfl,⟨nd,rfl⟩⟩;refine ⟨_,rfl,?_⟩)|(go_at_call 53;(with_reducible refine (impl_in.calls a0_1 0 1000000 true _ A4.out).mono ?_);rintro e w' ⟨rfl,⟨nd,rfl⟩⟩)|(go_at_call 53;(with_reducible refine (impl_in.calls a0_2 0 20 t104 _ A6.out).mono ?_);rintro e w' ⟨rfl,⟨nd,rfl⟩⟩))
   go_ret
   exact ⟨rz,be⟩
  ·replace c5:=Bool.eq_false_iff.mpr c5
   subst c5
   have H1:(some false)=some r:=by rw [if_neg (show ¬ (false=true) by decide)] at H;exact H
   clear H
   have H:=H1
   clear H1
   obtain rfl:=Option.some.inj H
   go_enter Tryd.func27,Tryd.ntmps27
   go_wp2_with (first|((with_reducible refine gate_dst (N:=1) rfl ?_);refine box_event ?hg (N:=1) ?hd (cs:=#[.int .i64 a0_0,.int .i64 a0_1,.int .i64 a0_2]) (t:=25) ?hr ?_;(case hd=>rfl);(case hg=>rfl);(case hr=>first|(go_simp;done)|(go_simp;rfl));intro gb101 hg w9 hbox hb;have n0_:=bs hb;have n1_:=Aside0.mk (hbox);have n2_:=Aside0.mk ((by rw [hg];exact (below_size be):w.heap.size≤gb101));have n3_:=Aside0.mk ((by rw [hg];exact (below_size be):w.heap.size≤gb101));clear HB;have HB:=n0_;have BK101:=n1_;have GW101:=n2_;have GE101:=n3_;clear n0_ n1_ n2_ n3_;clear hb hbox hg;have hcz10_0:w9.cell? ⟨gb101,0,none⟩=some (.int .i64 a0_0):=(blk_cell BK101.out 0).trans rfl;have hcz10_1:w9.cell? ⟨gb101,1,none⟩=some (.int .i64 a0_1):=(blk_cell BK101.out 1).trans rfl;have hcz10_2:w9.cell? ⟨gb101,2,none⟩=some (.int .i64 a0_2):=(blk_cell BK101.out 2).trans rfl;have hfz10_0:=blk_frozen BK101.out 0;have hfz10_1:=blk_frozen BK101.out 1;have hfz10_2:=blk_frozen BK101.out 2)|((with_reducible refine gate_callee (f:=53) rfl ?_);refine goesL_ (some 5) rfl rfl Tryd.func53 (by kernel_rfl) rfl #[.int .i64 a0_0,.int .i64 0,.int .i64 1000000000] rfl (by (try simp only [List.map_toArray,List.map_cons,List.map_nil]);first|done|rfl|(simp only [List.length_drop,List.length_take];rfl)) ?_;(with_reducible refine (impl_in.calls a0_0 0 1000000000 true _ A2.out).mono ?_);rintro e w' ⟨rfl,⟨nd,rfl⟩⟩;refine ⟨_,rfl,?_⟩)|(go_at_call 53;(with_reducible refine (impl_in.calls a0_1 0 1000000 false _ A4.out).mono ?_);rintro e w' ⟨rfl,⟨nd,rfl⟩⟩))
   go_ret
   exact ⟨rz,be⟩
 ·replace c3:=Bool.eq_false_iff.mpr c3
  subst c3
  have H1:(some false)=some r:=by rw [if_neg (show ¬ (false=true) by decide)] at H;exact H
  clear H
  have H:=H1
  clear H1
  obtain rfl:=Option.some.inj H
  go_enter Tryd.func27,Tryd.ntmps27
  go_wp2_with (first|((with_reducible refine gate_dst (N:=1) rfl ?_);refine box_event ?hg (N:=1) ?hd (cs:=#[.int .i64 a0_0,.int .i64 a0_1,.int .i64 a0_2]) (t:=25) ?hr ?_;(case hd=>rfl);(case hg=>rfl);(case hr=>first|(go_simp;done)|(go_simp;rfl));intro gb101 hg w11 hbox hb;have n0_:=bs hb;have n1_:=Aside0.mk (hbox);have n2_:=Aside0.mk ((by rw [hg];exact (below_size be):w.heap.size≤gb101));have n3_:=Aside0.mk ((by rw [hg];exact (below_size be):w.heap.size≤gb101));clear HB;have HB:=n0_;have BK101:=n1_;have GW101:=n2_;have GE101:=n3_;clear n0_ n1_ n2_ n3_;clear hb hbox hg;have hcz12_0:w11.cell? ⟨gb101,0,none⟩=some (.int .i64 a0_0):=(blk_cell BK101.out 0).trans rfl;have hcz12_1:w11.cell? ⟨gb101,1,none⟩=some (.int .i64 a0_1):=(blk_cell BK101.out 1).trans rfl;have hcz12_2:w11.cell? ⟨gb101,2,none⟩=some (.int .i64 a0_2):=(blk_cell BK101.out 2).trans rfl;have hfz12_0:=blk_frozen BK101.out 0;have hfz12_1:=blk_frozen BK101.out 1;have hfz12_2:=blk_frozen BK101.out 2)|((with_reducible refine gate_callee (f:=53) rfl ?_);refine goesL_ (some 5) rfl rfl Tryd.func53 (by kernel_rfl) rfl #[.int .i64 a0_0,.int .i64 0,.int .i64 1000000000] rfl (by (try simp only [List.map_toArray,List.map_cons,List.map_nil]);first|done|rfl|(simp only [List.length_drop,List.length_take];rfl)) ?_;(with_reducible refine (impl_in.calls a0_0 0 1000000000 false _ A2.out).mono ?_);rintro e w' ⟨rfl,⟨nd,rfl⟩⟩;refine ⟨_,rfl,?_⟩))
  go_ret
  exact ⟨rz,be⟩
def strconv_Itoa.f (a0:Int):Option ByteArray:=if -9223372036854775808≤a0∧a0≤9223372036854775807 then some ⟨(Lib.itoa a0).toArray⟩ else none
theorem strconv_Itoa.calls (a0:Int) (r:ByteArray) (w:World) (hL:Aside0 (Go.Proofs.YtnoglmdicdpabaaDoor.St.Laid w)) (h:strconv_Itoa.f a0=some r) :
  Calls Tryd.prog 42 #[.int .i64 a0] w fun e w'=>e = .returned (.string r)∧Below w.heap.size w w':=by
 unfold strconv_Itoa.f at h
 by_cases hl : -9223372036854775808≤a0∧a0≤9223372036854775807
 ·rw [if_pos hl] at h
  obtain rfl:=Option.some.inj h
  refine (Tryd.strconv_Itoa a0 hl.1 hl.2 w (Go.Proofs.YtnoglmdicdpabaaDoor.St.tab_at hL)).mono fun e w' he=>?_
  obtain ⟨rfl,k,os,rfl⟩:=he
  exact ⟨rfl,Lib.below_grow w.heap.size w (Nat.le_refl _) k os⟩
 ·rw [if_neg hl] at h
  cases h
def impl_StampText.f (a0_0:Int) (a0_1:Int) (a0_2:Int):Option (ByteArray):=(impl_StampOk.f a0_0 a0_1 a0_2).bind fun t106=>(if t106=true then ((strconv_Itoa.f a0_0).bind fun t107=>(if t107.size+1≤9223372036854775807 then ((strconv_Itoa.f a0_1).bind fun t108=>(if (t107 ++ (⟨#[46]⟩:ByteArray)).size+t108.size≤9223372036854775807 then (if ((t107 ++ (⟨#[46]⟩:ByteArray)) ++ t108).size+1≤9223372036854775807 then ((strconv_Itoa.f a0_2).bind fun t109=>(if (((t107 ++ (⟨#[46]⟩:ByteArray)) ++ t108) ++ (⟨#[46]⟩:ByteArray)).size+t109.size≤9223372036854775807 then (some ((((t107 ++ (⟨#[46]⟩:ByteArray)) ++ t108) ++ (⟨#[46]⟩:ByteArray)) ++ t109)) else (none))) else (none)) else (none))) else (none))) else (some (⟨#[]⟩:ByteArray)))
def impl_StampText.T3:Bool × List (List Nat × List Nat):=(true,[([],[]),([0],[0]),([1],[1]),([2],[2]),([],[]),([4],[4]),([5,2],[5]),([3,6],[3,6]),([7],[7]),([],[]),([9],[9]),([10,6],[10]),([8,11],[8,11]),([12,11,0,1,2,3,4,5,6,7,8,9,10,11,12],[12])])
def impl_StampText.B3:List Nat:=[0,1,3,7,0,16,55,127,255,0,512,1655,4095,8191]
theorem impl_StampText.tab3:rtab .any (opsOf Tryd.f13 3)=impl_StampText.T3:=by kernel_rfl
theorem impl_StampText.bits3:waitsOk impl_StampText.T3.2 impl_StampText.B3=true:=by kernel_rfl
set_option maxHeartbeats 8000000 in
set_option maxRecDepth 100000 in
theorem impl_StampText.calls (a0_0:Int) (a0_1:Int) (a0_2:Int) (r:ByteArray) (w:World) (hL:Aside0 (Laid w)) (h:impl_StampText.f a0_0 a0_1 a0_2=some r) :
  Calls Tryd.prog 13 #[.agg #[.int .i64 a0_0,.int .i64 a0_1,.int .i64 a0_2]] w fun e w'=>e = .returned (.string r)∧Below w.heap.size w w':=by
 have hu25:=Tryd.underlying25
 have HB:=Aside0.mk (Below.refl w.heap.size w)
 have H:((impl_StampOk.f a0_0 a0_1 a0_2).bind fun t106=>(if t106=true then ((strconv_Itoa.f a0_0).bind fun t107=>(if t107.size+1≤9223372036854775807 then ((strconv_Itoa.f a0_1).bind fun t108=>(if (t107 ++ (⟨#[46]⟩:ByteArray)).size+t108.size≤9223372036854775807 then (if ((t107 ++ (⟨#[46]⟩:ByteArray)) ++ t108).size+1≤9223372036854775807 then ((strconv_Itoa.f a0_2).bind fun t109=>(if (((t107 ++ (⟨#[46]⟩:ByteArray)) ++ t108) ++ (⟨#[46]⟩:ByteArray)).size+t109.size≤9223372036854775807 then (some ((((t107 ++ (⟨#[46]⟩:ByteArray)) ++ t108) ++ (⟨#[46]⟩:ByteArray)) ++ t109)) else (none))) else (none)) else (none))) else (none))) else (some (⟨#[]⟩:ByteArray))))=some r:=h
 clear h
 replace H:=Option.bind_eq_some_iff.mp H
 obtain ⟨t106,A20,H⟩:=H
 try dsimp only at H
 have A2:=Aside0.mk A20
 clear A20
 by_cases c3:t106=true
 ·subst c3
  rw [if_pos rfl] at H
  replace H:=Option.bind_eq_some_iff.mp H
  obtain ⟨t107,A40,H⟩:=H
  try dsimp only at H
  have A4:=Aside0.mk A40
  clear A40
  by_cases c5:t107.size+1≤9223372036854775807
  ·rw [if_pos c5] at H
   have c5b0:=eq_true c5
   have c5b1:decide (t107.size+1≤9223372036854775807)=true:=decide_eq_true c5
   try have c5b2:(9223372036854775807 < t107.size+1)=False:=eq_false (Nat.not_lt.2 c5)
   replace H:=Option.bind_eq_some_iff.mp H
   obtain ⟨t108,A60,H⟩:=H
   try dsimp only at H
   have A6:=Aside0.mk A60
   clear A60
   by_cases c7:(t107 ++ (⟨#[46]⟩:ByteArray)).size+t108.size≤9223372036854775807
   ·rw [if_pos c7] at H
    have c7b0:=eq_true c7
    have c7b1:decide ((t107 ++ (⟨#[46]⟩:ByteArray)).size+t108.size≤9223372036854775807)=true:=decide_eq_true c7
    try have c7b2:(9223372036854775807 < (t107 ++ (⟨#[46]⟩:ByteArray)).size+t108.size)=False:=eq_false (Nat.not_lt.2 c7)
    try (have c7b3:=Nat.not_lt.2 c7;simp only [ByteArray.size_append,one_size] at c7b3;replace c7b3:=eq_false c7b3)
    by_cases c8:((t107 ++ (⟨#[46]⟩:ByteArray)) ++ t108).size+1≤9223372036854775807
    ·rw [if_pos c8] at H
     have c8b0:=eq_true c8
     have c8b1:decide (((t107 ++ (⟨#[46]⟩:ByteArray)) ++ t108).size+1≤9223372036854775807)=true:=decide_eq_true c8
     try have c8b2:(9223372036854775807 < ((t107 ++ (⟨#[46]⟩:ByteArray)) ++ t108).size+1)=False:=eq_false (Nat.not_lt.2 c8)
     try (have c8b3:=Nat.not_lt.2 c8;simp only [ByteArray.size_append,one_size] at c8b3;replace c8b3:=eq_false c8b3)
     replace H:=Option.bind_eq_some_iff.mp H
     obtain ⟨t109,A90,H⟩:=H
     try dsimp only at H
     have A9:=Aside0.mk A90
     clear A90
     by_cases c10:(((t107 ++ (⟨#[46]⟩:ByteArray)) ++ t108) ++ (⟨#[46]⟩:ByteArray)).size+t109.size≤9223372036854775807
     ·rw [if_pos c10] at H
      have c10b0:=eq_true c10
      have c10b1:decide ((((t107 ++ (⟨#[46]⟩:ByteArray)) ++ t108) ++ (⟨#[46]⟩:ByteArray)).size+t109.size≤9223372036854775807)=true:=decide_eq_true c10
      try have c10b2:(9223372036854775807 < (((t107 ++ (⟨#[46]⟩:ByteArray)) ++ t108) ++ (⟨#[46]⟩:ByteArray)).size+t109.size)=False:=eq_false (Nat.not_lt.2 c10)
      try (have c10b3:=Nat.not_lt.2 c10;simp only [ByteArray.size_append,one_size] at c10b3;replace c10b3:=eq_false c10b3)
      obtain rfl:=Option.some.inj H
      go_enter Tryd.func13,Tryd.ntmps13
      try go_wp2_with (first|((with_reducible refine gate_dst (N:=1) rfl ?_);refine box_event ?hg (N:=1) ?hd (cs:=#[.int .i64 a0_0,.int .i64 a0_1,.int .i64 a0_2]) (t:=25) ?hr ?_;(case hd=>rfl);(case hg=>rfl);(case hr=>first|(go_simp;done)|(go_simp;rfl));intro gb105 hg w11 hbox hb;have n0_:=bs hb;have n1_:=Aside0.mk (hbox);have n2_:=Aside0.mk ((by rw [hg];exact (below_size be):w.heap.size≤gb105));have n3_:=Aside0.mk ((by rw [hg];exact (below_size be):w.heap.size≤gb105));clear HB;have HB:=n0_;have BK105:=n1_;have GW105:=n2_;have GE105:=n3_;clear n0_ n1_ n2_ n3_;clear hb hbox hg;have hcz12_0:w11.cell? ⟨gb105,0,none⟩=some (.int .i64 a0_0):=(blk_cell BK105.out 0).trans rfl;have hcz12_1:w11.cell? ⟨gb105,1,none⟩=some (.int .i64 a0_1):=(blk_cell BK105.out 1).trans rfl;have hcz12_2:w11.cell? ⟨gb105,2,none⟩=some (.int .i64 a0_2):=(blk_cell BK105.out 2).trans rfl;have hfz12_0:=blk_frozen BK105.out 0;have hfz12_1:=blk_frozen BK105.out 1;have hfz12_2:=blk_frozen BK105.out 2)|((with_reducible refine gate_callee (f:=27) rfl ?_);refine goesL_ (some 4) rfl rfl Tryd.func27 (by kernel_rfl) rfl #[.agg #[.int .i64 a0_0,.int .i64 a0_1,.int .i64 a0_2]] rfl (by (try simp only [List.map_toArray,List.map_cons,List.map_nil]);first|done|rfl|(simp only [List.length_drop,List.length_take];rfl)) ?_;(with_reducible refine (impl_StampOk.calls a0_0 a0_1 a0_2 true _ A2.out).mono ?_);rintro e w13 ⟨rfl,hb⟩;refine ⟨_,rfl,?_⟩;have n0_:=Aside0.mk (blk_below (g:=gb105) (o:=.cells #[.int .i64 a0_0,.int .i64 a0_1,.int .i64 a0_2] 25 (0,0)) (bk BK105) hb);have n1_:=bs hb;clear BK105;clear HB;have BK105:=n0_;have HB:=n1_;clear n0_ n1_;(try clear hb);(try clear hb2);(try clear hk);(try clear hi)))
      have n0_:=Aside0.mk (blk_drew BK105.out)
      have n1_:=Aside0.mk (below_drew1 HB.out)
      clear BK105
      clear HB
      have BK105:=n0_
      have HB:=n1_
      clear n0_ n1_
      refine start_ (n:=14) (S:=fun w'=>w'.cell? ⟨gb105,0,none⟩=some (.int .i64 a0_0)∧w'.cell? ⟨gb105,1,none⟩=some (.int .i64 a0_1)∧w'.cell? ⟨gb105,2,none⟩=some (.int .i64 a0_2)) (ds:=[]) (fl 14 0) (by kernel_rfl) rfl rfl ⟨(blk_cell BK105.out 0).trans rfl,(blk_cell BK105.out 1).trans rfl,(blk_cell BK105.out 2).trans rfl⟩ (fun hHeld=>?_);refine with_tabW impl_StampText.tab3 impl_StampText.bits3 (fun HT_ HW_=>?_)
      generalize w13.drew=w14 at BK105 HB hHeld ⊢
      refine pt 0 6 (fl 14 1) HT_ ?_
      refine pt 4 10 (fl 14 17) HT_ ?_
      refine pt 9 15 (fl 14 529) HT_ ?_
      refine tt 1 7 (fl 14 531) HT_ HW_ hHeld ?_
      refine tt 5 11 (fl 14 563) HT_ HW_ hHeld ?_
      refine tt 10 16 (fl 14 1587) HT_ HW_ hHeld ?_
      refine ot 2 (some 8) (fl 14 1591) HT_ (fun K hK=>?_)
      refine goes_ Tryd.func42 (by kernel_rfl) rfl #[.int .i64 a0_0] (by rfl) rfl rfl (by (try simp only [List.map_toArray,List.map_cons,List.map_nil]);first|done|rfl|(simp only [List.length_drop,List.length_take];rfl)) ?_
      with_reducible refine (strconv_Itoa.calls a0_0 t107 _ ?side1 A4.out).mono ?_
      (case side1=>exact lb hL)
      rintro e w15 ⟨rfl,hb⟩
      refine ⟨_,rfl,?_⟩
      have n0_:=Aside0.mk (blk_below (g:=gb105) (o:=.cells #[.int .i64 a0_0,.int .i64 a0_1,.int .i64 a0_2] 25 (0,0)) (bk BK105) hb)
      have n1_:=bs hb
      clear BK105
      clear HB
      have BK105:=n0_
      have HB:=n1_
      clear n0_ n1_
      (try clear hb)
      (try clear hb2)
      (try clear hk)
      (try clear hi)
      refine hK.out _ _ ⟨(blk_cell BK105.out 0).trans rfl,(blk_cell BK105.out 1).trans rfl,(blk_cell BK105.out 2).trans rfl⟩ (fun hHeld=>?_)
      clear hK K
      refine no 8 ?_
      refine pt 3 9 (fl 14 1599) HT_ ?_
      refine ot 6 (some 12) (fl 14 1663) HT_ (fun K hK=>?_)
      refine goes_ Tryd.func42 (by kernel_rfl) rfl #[.int .i64 a0_1] (by rfl) rfl rfl (by (try simp only [List.map_toArray,List.map_cons,List.map_nil]);first|done|rfl|(simp only [List.length_drop,List.length_take];rfl)) ?_
      with_reducible refine (strconv_Itoa.calls a0_1 t108 _ ?side1 A6.out).mono ?_
      (case side1=>exact lb hL)
      rintro e w16 ⟨rfl,hb⟩
      refine ⟨_,rfl,?_⟩
      have n0_:=Aside0.mk (blk_below (g:=gb105) (o:=.cells #[.int .i64 a0_0,.int .i64 a0_1,.int .i64 a0_2] 25 (0,0)) (bk BK105) hb)
      have n1_:=bs hb
      clear BK105
      clear HB
      have BK105:=n0_
      have HB:=n1_
      clear n0_ n1_
      (try clear hb)
      (try clear hb2)
      (try clear hk)
      (try clear hi)
      refine hK.out _ _ ⟨(blk_cell BK105.out 0).trans rfl,(blk_cell BK105.out 1).trans rfl,(blk_cell BK105.out 2).trans rfl⟩ (fun hHeld=>?_)
      clear hK K
      refine no 12 ?_
      refine pt 7 13 (fl 14 1791) HT_ ?_
      refine pt 8 14 (fl 14 2047) HT_ ?_
      refine ot 11 (some 17) (fl 14 4095) HT_ (fun K hK=>?_)
      refine goes_ Tryd.func42 (by kernel_rfl) rfl #[.int .i64 a0_2] (by rfl) rfl rfl (by (try simp only [List.map_toArray,List.map_cons,List.map_nil]);first|done|rfl|(simp only [List.length_drop,List.length_take];rfl)) ?_
      with_reducible refine (strconv_Itoa.calls a0_2 t109 _ ?side1 A9.out).mono ?_
      (case side1=>exact lb hL)
      rintro e w17 ⟨rfl,hb⟩
      refine ⟨_,rfl,?_⟩
      have n0_:=Aside0.mk (blk_below (g:=gb105) (o:=.cells #[.int .i64 a0_0,.int .i64 a0_1,.int .i64 a0_2] 25 (0,0)) (bk BK105) hb)
      have n1_:=bs hb
      clear BK105
      clear HB
      have BK105:=n0_
      have HB:=n1_
      clear n0_ n1_
      (try clear hb)
      (try clear hb2)
      (try clear hk)
      (try clear hi)
      refine hK.out _ _ ⟨(blk_cell BK105.out 0).trans rfl,(blk_cell BK105.out 1).trans rfl,(blk_cell BK105.out 2).trans rfl⟩ (fun hHeld=>?_)
      clear hK K
      refine no 17 ?_
      refine pt 12 18 (fl 14 8191) HT_ ?_
      refine pt 13 2 (fl 14 16383) HT_ ?_
      refine done_ (done_of HT_.out (by kernel_rfl)) ?_
      try go_wp2
      go_ret
      exact ⟨rz,be⟩
     ·rw [if_neg c10] at H
      exact absurd H (by simp)
    ·rw [if_neg c8] at H
     exact absurd H (by simp)
   ·rw [if_neg c7] at H
    exact absurd H (by simp)
  ·rw [if_neg c5] at H
   exact absurd H (by simp)
 ·replace c3:=Bool.eq_false_iff.mpr c3
  subst c3
  have H1:(some (⟨#[]⟩:ByteArray))=some r:=by rw [if_neg (show ¬ (false=true) by decide)] at H;exact H
  clear H
  have H:=H1
  clear H1
  obtain rfl:=Option.some.inj H
  go_enter Tryd.func13,Tryd.ntmps13
  go_wp2_with (first|((with_reducible refine gate_dst (N:=1) rfl ?_);refine box_event ?hg (N:=1) ?hd (cs:=#[.int .i64 a0_0,.int .i64 a0_1,.int .i64 a0_2]) (t:=25) ?hr ?_;(case hd=>rfl);(case hg=>rfl);(case hr=>first|(go_simp;done)|(go_simp;rfl));intro gb105 hg w18 hbox hb;have n0_:=bs hb;have n1_:=Aside0.mk (hbox);have n2_:=Aside0.mk ((by rw [hg];exact (below_size be):w.heap.size≤gb105));have n3_:=Aside0.mk ((by rw [hg];exact (below_size be):w.heap.size≤gb105));clear HB;have HB:=n0_;have BK105:=n1_;have GW105:=n2_;have GE105:=n3_;clear n0_ n1_ n2_ n3_;clear hb hbox hg;have hcz19_0:w18.cell? ⟨gb105,0,none⟩=some (.int .i64 a0_0):=(blk_cell BK105.out 0).trans rfl;have hcz19_1:w18.cell? ⟨gb105,1,none⟩=some (.int .i64 a0_1):=(blk_cell BK105.out 1).trans rfl;have hcz19_2:w18.cell? ⟨gb105,2,none⟩=some (.int .i64 a0_2):=(blk_cell BK105.out 2).trans rfl;have hfz19_0:=blk_frozen BK105.out 0;have hfz19_1:=blk_frozen BK105.out 1;have hfz19_2:=blk_frozen BK105.out 2)|((with_reducible refine gate_callee (f:=27) rfl ?_);refine goesL_ (some 4) rfl rfl Tryd.func27 (by kernel_rfl) rfl #[.agg #[.int .i64 a0_0,.int .i64 a0_1,.int .i64 a0_2]] rfl (by (try simp only [List.map_toArray,List.map_cons,List.map_nil]);first|done|rfl|(simp only [List.length_drop,List.length_take];rfl)) ?_;(with_reducible refine (impl_StampOk.calls a0_0 a0_1 a0_2 false _ A2.out).mono ?_);rintro e w20 ⟨rfl,hb⟩;refine ⟨_,rfl,?_⟩;have n0_:=Aside0.mk (blk_below (g:=gb105) (o:=.cells #[.int .i64 a0_0,.int .i64 a0_1,.int .i64 a0_2] 25 (0,0)) (bk BK105) hb);have n1_:=bs hb;clear BK105;clear HB;have BK105:=n0_;have HB:=n1_;clear n0_ n1_;(try clear hb);(try clear hb2);(try clear hk);(try clear hi)))
  go_ret
  exact ⟨rz,be⟩
def strings_Split.f (a0:ByteArray) (a1:ByteArray):Option (List ByteArray):=if a0.size < 4294967281∧1≤a1.size then some (Lib.splitB a1 0 (Lib.countB a0 a1) a0) else none
theorem strings_Split.calls (a0:ByteArray) (a1:ByteArray) (r:List ByteArray) (w:World) (hL:Aside0 (Go.Proofs.YtnoglmdicdpabaaDoor.St.Laid w)) (h:strings_Split.f a0 a1=some r) :
  Calls Tryd.prog 56 #[.string a0,.string a1] w fun e w'=>∃ v0_:Value,e = .returned (v0_)∧Kd.R Kd.string 9 w' w.heap.size (fun _=>True) v0_ r∧Below w.heap.size w w':=by
 unfold strings_Split.f at h
 by_cases hl:a0.size < 4294967281∧1≤a1.size
 ·rw [if_pos hl] at h
  obtain rfl:=Option.some.inj h
  obtain ⟨m,hm⟩:=hL.out.max
  refine (Tryd.strings_Split a0 a1 m w hl.1 hm hl.2).mono fun e w' he=>?_
  obtain ⟨rfl,rfl⟩:=he
  have hlen:=Lib.splitB_all a1 hl.2 0 (Lib.countB a0 a1) a0 rfl
  have hc:=Lib.countB_le a1 hl.2 a0.size a0 (Nat.le_refl _)
  refine ⟨_,rfl,Kd.R_of_own ⟨by simp [encs],Or.inr ⟨w.heap.size,Lib.countB a0 a1+1,((Lib.splitB a1 0 (Lib.countB a0 a1) a0).map Value.string).toArray,by rw [hlen],Nat.le_refl _,Array.getElem?_push_size,by omega,by unfold maxLen;omega,by simp [hlen],?_⟩⟩ (fun _ _=>trivial),(Below.refl _ _).alloc (Nat.le_refl _) _⟩
  rw [List.toList_toArray,Nat.mul_one,List.take_of_length_le (by simp)]
  rfl
 ·rw [if_neg hl] at h
  cases h
def atoiRes (l:List UInt8):Int × Option Int:=match Lib.atoiAll l with
 | .ok v=>(v,none)
 | .range=>(Lib.atoiSat l,some 0)
 | _=>(0,some 0)
def strconv_Atoi.f (a0:ByteArray):Option (Int × Option Int):=if a0.size≤281474976710656 then some (atoiRes a0.data.toList) else none
theorem strconv_Atoi.calls (a0:ByteArray) (r1:Int) (r2:Option Int) (w:World) (hL:Aside0 (Go.Proofs.YtnoglmdicdpabaaDoor.St.Laid w)) (h:strconv_Atoi.f a0=some (r1,r2)) :
  Calls Tryd.prog 66 #[.string a0] w fun e w'=>∃ (E_:Option Int→Value) (N_:Nat),E_ none = .nilIface∧(∀ c,E_ (some c) = .iface 111 (.pointer (some ⟨N_,0,none⟩)))∧e = .returned (.tuple #[.int .i64 r1,E_ r2])∧Below w.heap.size w w':=by
 unfold strconv_Atoi.f at h
 by_cases hl:a0.size≤281474976710656
 ·rw [if_pos hl] at h
  have h:=Option.some.inj h
  rw [atoiRes] at h
  cases e:Lib.atoiAll a0.data.toList with
  | ok v=>
   rw [e] at h
   simp only [Prod.mk.injEq] at h
   obtain ⟨rfl,rfl⟩:=h
   refine (Tryd.strconv_Atoi_ok a0 (by omega) v e w).mono fun e w' he=>?_
   obtain ⟨rfl,hw⟩:=he
   refine ⟨fun|none=>.nilIface|some _=>.iface 111 (.pointer (some ⟨0,0,none⟩)),0,rfl,fun _=>rfl,rfl,?_⟩
   rcases hw with rfl|⟨t,rfl⟩
   ·exact Below.refl _ _
   ·exact Lib.bytesWorld_below _ _ _
  | range=>
   rw [e] at h
   simp only [Prod.mk.injEq] at h
   obtain ⟨rfl,rfl⟩:=h
   obtain ⟨tp,p,hv⟩:=hL.out.rng
   refine (Tryd.strconv_Atoi_range_var a0 hl e tp p w hv).mono fun e w' he=>?_
   obtain ⟨N,rfl,_,_,hb⟩:=he
   exact ⟨fun|none=>.nilIface|some _=>.iface 111 (.pointer (some ⟨N,0,none⟩)),N,rfl,fun _=>rfl,rfl,hb⟩
  | _=>
   rw [e] at h
   simp only [Prod.mk.injEq] at h
   obtain ⟨rfl,rfl⟩:=h
   obtain ⟨tp,p,hv⟩:=hL.out.syn
   refine (Tryd.strconv_Atoi_syntax_var a0 hl _ ⟨fun _ c=>(by cases c),fun c=>(by cases c)⟩ e tp p w hv).mono fun e w' he=>?_
   obtain ⟨N,rfl,_,_,hb⟩:=he
   exact ⟨fun|none=>.nilIface|some _=>.iface 111 (.pointer (some ⟨N,0,none⟩)),N,rfl,fun _=>rfl,rfl,hb⟩
 ·rw [if_neg hl] at h
  cases h
def impl_numbersOf.l0:Nat→Int→List Int→List ByteArray→Int→Int→Option (List Int × Bool)
 | 0,_,_,_,_,_=>none
 | k+1,x2,x8,x15,x16,x17=>if x17 < x16 then (if 0≤x17 then (if x17 < (x15.length:Int) then ((strconv_Atoi.f (rdOf ByteArray.empty x15 x17)).bind fun bt114=>(if bt114.2.isNone=true then (if (x8.length:Int) ≥ x2 then (some (([]:List Int),false)) else (if x8.length < 17592186044416 then (impl_numbersOf.l0 k x2 (x8 ++ [bt114.1]) x15 x16 (wrap64 (x17+1))) else (none))) else (some (([]:List Int),false)))) else (none)) else (none)) else (some (x8,((x8.length:Int) == x2)))
def impl_numbersOf.f (k:Nat) (a0:ByteArray) (a1:ByteArray) (a2:Int):Option (List Int × Bool):=(strings_Split.f a0 a1).bind fun t110=>(impl_numbersOf.l0 k a2 ([]:List Int) t110 (t110.length:Int) 0)
set_option maxHeartbeats 8000000 in
set_option maxRecDepth 100000 in
theorem impl_numbersOf.calls (k:Nat) (a0:ByteArray) (a1:ByteArray) (a2:Int) (r1:List Int) (r2:Bool) (w:World) (hL:Aside0 (Laid w)) (h:impl_numbersOf.f k a0 a1 a2=some (r1,r2)) :
  Calls Tryd.prog 48 #[.string a0,.string a1,.int .i64 a2] w fun e w'=>∃ v0_:Value,e = .returned (.tuple #[v0_,.bool r2])∧Kd.R (Kd.int .i64) 3 w' w.heap.size (fun _=>True) v0_ r1∧Below w.heap.size w w':=by
 have hu82:=Tryd.underlying82
 have HB:=Aside0.mk (Below.refl w.heap.size w)
 have H:((strings_Split.f a0 a1).bind fun t110=>(impl_numbersOf.l0 k a2 ([]:List Int) t110 (t110.length:Int) 0))=some (r1,r2):=h
 clear h
 replace H:=Option.bind_eq_some_iff.mp H
 obtain ⟨t110,A40,H⟩:=H
 try dsimp only at H
 have A4:=Aside0.mk A40
 clear A40
 have H':=Aside0.mk H
 clear H
 go_enter Tryd.func48,Tryd.ntmps48
 go_wp2_with (first|((with_reducible refine gate_callee (f:=56) rfl ?_);refine goesL_ (some 15) rfl rfl Tryd.func56 (by kernel_rfl) rfl #[.string a0,.string a1] rfl (by (try simp only [List.map_toArray,List.map_cons,List.map_nil]);first|done|rfl|(simp only [List.length_drop,List.length_take];rfl)) ?_;(with_reducible refine (strings_Split.calls a0 a1 t110 _ ?side1 A4.out).mono ?_);(case side1=>exact lb hL);rintro e w5 ⟨v111,rfl,ho0,hb⟩;refine ⟨_,rfl,?_⟩;have n0_:=Aside0.mk (Kd.R_lower ho0 (below_size be));have n1_:=bs hb;clear HB;have HO112:=n0_;have HB:=n1_;clear n0_ n1_;(try clear hb);(try clear hb2);(try clear hk);(try clear hi);(try clear ho0);obtain ⟨Ao6,co6,eo6⟩:=Kd.R_slice HO112.out;subst eo6))
 go_loopg [8,17] k (fun kq v8 v17 w'=>∃ (x8_1:List Int) (x17_1:Int),v17 = .int .i64 x17_1∧Aside0 (impl_numbersOf.l0 kq a2 x8_1 t110 (t110.length:Int) x17_1=some (r1,r2))∧Aside0 (kq≤k)∧Aside0 (Kd.R (Kd.int .i64) 3 w' w.heap.size (fun _=>True) v8 x8_1)∧Aside0 (Kd.R Kd.string 9 w' w.heap.size (fun _=>True) (.slice Ao6 t110.length co6) t110)∧Aside0 (Below w.heap.size w w'))
 case atStart=>exact ⟨(([]:List Int)),(0),rd_,H',⟨Nat.le_refl _⟩,⟨by first|exact Kd.R_nil _ _ _ _ _|exact Kd.N_nil _ _ _ _ _|exact Kd.V_nil _ _ _ _ _|exact Kd.Q_nil _ _ _ _ _|exact Kd.S_nil _ _ _ _ _⟩,⟨rR HO112⟩,⟨be⟩⟩
 case round=>
  clear H'
  try clear p2
  try clear c4
  try clear c5
  obtain ⟨x8_1,x17_1,rfl,HA,HK1,HO_8,HO_15,HB⟩:=hrel
  cases gk with
  | zero=>exact absurd HA.out (by simp [impl_numbersOf.l0])
  | succ k1=>
   have H:=HA.out
   clear HA
   simp only [impl_numbersOf.l0] at H
   by_cases c7:x17_1 < (t110.length:Int)
   ·rw [if_pos c7] at H
    have c7b0:decide (x17_1 < (t110.length:Int))=true:=decide_eq_true c7
    clear c7
    by_cases c8:0≤x17_1
    ·rw [if_pos c8] at H
     have c8b0:decide (0≤x17_1)=true:=decide_eq_true c8
     clear c8
     by_cases c9:x17_1 < (t110.length:Int)
     ·rw [if_pos c9] at H
      have c9b0:decide (x17_1 < (t110.length:Int))=true:=decide_eq_true c9
      clear c9
      replace H:=Option.bind_eq_some_iff.mp H
      obtain ⟨⟨t114,t115⟩,A100,H⟩:=H
      try dsimp only at H
      have A10:=Aside0.mk A100
      clear A100
      rcases t115 with _|q116
      ·have H1:(if (x8_1.length:Int) ≥ a2 then (some (([]:List Int),false)) else (if x8_1.length < 17592186044416 then (impl_numbersOf.l0 k1 a2 (x8_1 ++ [t114]) t110 (t110.length:Int) (wrap64 (x17_1+1))) else (none)))=some (r1,r2):=by rw [if_pos (show (none:Option Int).isNone=true by rfl)] at H;exact H
       clear H
       have H:=H1
       clear H1
       try simp only [errW_none,errW_some]
       by_cases c11:(x8_1.length:Int) ≥ a2
       ·rw [if_pos c11] at H
        have c11b0:decide (a2≤(x8_1.length:Int))=true:=decide_eq_true c11
        clear c11
        simp only [Option.some.injEq,Prod.mk.injEq] at H
        obtain ⟨rfl,rfl⟩:=H
        have p113:0≤(x17_1:Int):=of_decide_eq_true (by first|(with_reducible assumption)|assumption)
        have q113:x17_1 < (t110.length:Int):=of_decide_eq_true (by first|(with_reducible assumption)|assumption)
        obtain ⟨ad113,e113,hx113_0⟩:=Kd.at_string (Kd.R_reads' HO_15.out).2.2 x17_1 p113 q113
        cases e113
        replace p113:=eq_true p113
        replace q113:=eq_true q113
        go_wp2_with (first|((with_reducible refine gate_callee (f:=66) rfl ?_);refine goesL_ (some 23) rfl rfl Tryd.func66 (by kernel_rfl) rfl #[.string (rdOf ByteArray.empty t110 x17_1)] rfl (by (try simp only [List.map_toArray,List.map_cons,List.map_nil]);first|done|rfl|(simp only [List.length_drop,List.length_take];rfl)) ?_;(with_reducible refine (strconv_Atoi.calls (rdOf ByteArray.empty t110 x17_1) t114 none _ ?side1 A10.out).mono ?_);(case side1=>exact lb hL);rintro e w12 ⟨E_,N_,E0_,E1_,rfl,hb⟩;refine ⟨_,rfl,?_⟩;(try simp only [E0_,E1_]);have n0_:=Aside0.mk (Kd.R_below ((rR HO_8)) hb);have n1_:=Aside0.mk (Kd.R_below ((rR HO_15)) hb);have n2_:=bs hb;clear HO_8;clear HO_15;clear HB;have HO_8:=n0_;have HO_15:=n1_;have HB:=n2_;clear n0_ n1_ n2_;(try clear hb);(try clear hb2);(try clear hk);(try clear hi);(try simp only [errW_none,errW_some]);obtain ⟨Ao13,co13,eo13⟩:=Kd.R_slice HO_8.out;subst eo13))
        go_ret2
        exact ⟨_,by first|rfl|(simp [errW_none,errW_some] <;> rfl)|(simp [*,errW_none,errW_some] <;> rfl),by first|exact Kd.R_nil _ _ _ _ _|exact Kd.N_nil _ _ _ _ _|exact Kd.V_nil _ _ _ _ _|exact Kd.Q_nil _ _ _ _ _|exact Kd.S_nil _ _ _ _ _,be⟩
       ·rw [if_neg c11] at H
        have c11b0:decide (a2≤(x8_1.length:Int))=false:=decide_eq_false c11
        clear c11
        by_cases c14:x8_1.length < 17592186044416
        ·rw [if_pos c14] at H
         have LMc14:=Aside0.mk c14
         clear c14
         obtain ⟨y117,hy117⟩ : ∃ y_:List Int,y_=(x8_1 ++ [t114]):=⟨_,rfl⟩
         replace H:(impl_numbersOf.l0 k1 a2 y117 t110 (t110.length:Int) (wrap64 (x17_1+1)))=some (r1,r2):=by first|(rw [hy117];with_reducible exact H)|(have H2_:=(Option.bind_some _ _).symm.trans H;rw [hy117];with_reducible exact H2_)|(have H2_:=(Option.bind_some _ _).symm.trans H;with_reducible exact H2_)|with_reducible exact H|(rw [hy117];exact H)|exact H
         have Ny117:=Aside0.mk hy117
         clear hy117
         have H':=Aside0.mk H
         clear H
         have p113:0≤(x17_1:Int):=of_decide_eq_true (by first|(with_reducible assumption)|assumption)
         have q113:x17_1 < (t110.length:Int):=of_decide_eq_true (by first|(with_reducible assumption)|assumption)
         obtain ⟨ad113,e113,hx113_0⟩:=Kd.at_string (Kd.R_reads' HO_15.out).2.2 x17_1 p113 q113
         cases e113
         replace p113:=eq_true p113
         replace q113:=eq_true q113
         go_wp2_with (first|((with_reducible refine gate_callee (f:=66) rfl ?_);refine goesL_ (some 23) rfl rfl Tryd.func66 (by kernel_rfl) rfl #[.string (rdOf ByteArray.empty t110 x17_1)] rfl (by (try simp only [List.map_toArray,List.map_cons,List.map_nil]);first|done|rfl|(simp only [List.length_drop,List.length_take];rfl)) ?_;(with_reducible refine (strconv_Atoi.calls (rdOf ByteArray.empty t110 x17_1) t114 none _ ?side1 A10.out).mono ?_);(case side1=>exact lb hL);rintro e w15 ⟨E_,N_,E0_,E1_,rfl,hb⟩;refine ⟨_,rfl,?_⟩;(try simp only [E0_,E1_]);have n0_:=Aside0.mk (Kd.R_below ((rR HO_8)) hb);have n1_:=Aside0.mk (Kd.R_below ((rR HO_15)) hb);have n2_:=bs hb;clear HO_8;clear HO_15;clear HB;have HO_8:=n0_;have HO_15:=n1_;have HB:=n2_;clear n0_ n1_ n2_;(try clear hb);(try clear hb2);(try clear hk);(try clear hi);(try simp only [errW_none,errW_some]);obtain ⟨Ao16,co16,eo16⟩:=Kd.R_slice HO_8.out;subst eo16)|((with_reducible refine gate_builtin (b:=.append) (xs:=#[.tmp 34,.tmp 36]) rfl ?_);(try (refine gate_guard (by rfl) ?_;dsimp only));at_builtin;refine Kd.R_append (Kd.int .i64) (w0:=w) w.heap.size rfl (.tmp 34) (.tmp 36) 50 3 (.int .i64 0) 8 rfl Tryd.underlying50 info3 rfl (by decide) (by omega) (.slice Ao16 x8_1.length co16) x8_1 t114 [.int .i64 t114] (fun _=>True) (fun _=>False) rfl rfl ?aP (fun _ hk=>hk.elim) ?aF ?aO ?aB ?aS ?aL ?_;(case aP=>exact rfl);(case aB=>exact be);(case aF=>exact (fun _ _=>trivial));(case aO=>exact (rR HO_8));(case aS=>exact (below_size be));(case aL=>have:=LMc14.out;omega);intro v118 w17 ho hb hg hat;rw [← Ny117.out] at ho;have n0_:=Aside0.mk (Kd.R_over' (rR HO_15) (Kd.R_typed (rR HO_8)) (by decide) hg);have n1_:=Aside0.mk (hb);have n2_:=Aside0.mk (ho);clear HO_15;clear HB;clear HO_8;have HO_15:=n0_;have HB:=n1_;have HO119:=n2_;clear n0_ n1_ n2_;clear ho hb hg hat))
         go_roundg k1
         case measure=>have:=HK1.out;omega
         case rel=>exact ⟨(y117),(wrap64 (x17_1+1)),rd_,H',⟨by have:=HK1.out;omega⟩,⟨rR HO119⟩,⟨rR HO_15⟩,⟨be⟩⟩
        ·rw [if_neg c14] at H
         exact absurd H (by simp)
      ·have H1:(some (([]:List Int),false))=some (r1,r2):=by rw [if_neg (show ¬ (some q116).isNone=true by simp)] at H;exact H
       clear H
       have H:=H1
       clear H1
       try simp only [errW_none,errW_some]
       simp only [Option.some.injEq,Prod.mk.injEq] at H
       obtain ⟨rfl,rfl⟩:=H
       have p113:0≤(x17_1:Int):=of_decide_eq_true (by first|(with_reducible assumption)|assumption)
       have q113:x17_1 < (t110.length:Int):=of_decide_eq_true (by first|(with_reducible assumption)|assumption)
       obtain ⟨ad113,e113,hx113_0⟩:=Kd.at_string (Kd.R_reads' HO_15.out).2.2 x17_1 p113 q113
       cases e113
       replace p113:=eq_true p113
       replace q113:=eq_true q113
       go_wp2_with (first|((with_reducible refine gate_callee (f:=66) rfl ?_);refine goesL_ (some 23) rfl rfl Tryd.func66 (by kernel_rfl) rfl #[.string (rdOf ByteArray.empty t110 x17_1)] rfl (by (try simp only [List.map_toArray,List.map_cons,List.map_nil]);first|done|rfl|(simp only [List.length_drop,List.length_take];rfl)) ?_;(with_reducible refine (strconv_Atoi.calls (rdOf ByteArray.empty t110 x17_1) t114 (some q116) _ ?side1 A10.out).mono ?_);(case side1=>exact lb hL);rintro e w18 ⟨E_,N_,E0_,E1_,rfl,hb⟩;refine ⟨_,rfl,?_⟩;(try simp only [E0_,E1_]);have n0_:=Aside0.mk (Kd.R_below ((rR HO_8)) hb);have n1_:=Aside0.mk (Kd.R_below ((rR HO_15)) hb);have n2_:=bs hb;clear HO_8;clear HO_15;clear HB;have HO_8:=n0_;have HO_15:=n1_;have HB:=n2_;clear n0_ n1_ n2_;(try clear hb);(try clear hb2);(try clear hk);(try clear hi);(try simp only [errW_none,errW_some])))
       go_ret2
       exact ⟨_,by first|rfl|(simp [errW_none,errW_some] <;> rfl)|(simp [*,errW_none,errW_some] <;> rfl),by first|exact Kd.R_nil _ _ _ _ _|exact Kd.N_nil _ _ _ _ _|exact Kd.V_nil _ _ _ _ _|exact Kd.Q_nil _ _ _ _ _|exact Kd.S_nil _ _ _ _ _,be⟩
     ·rw [if_neg c9] at H
      exact absurd H (by simp)
    ·rw [if_neg c8] at H
     exact absurd H (by simp)
   ·rw [if_neg c7] at H
    have c7b0:decide (x17_1 < (t110.length:Int))=false:=decide_eq_false c7
    clear c7
    simp only [Option.some.injEq,Prod.mk.injEq] at H
    obtain ⟨rfl,rfl⟩:=H
    obtain ⟨Ao19,co19,eo19⟩:=Kd.R_slice HO_8.out
    subst eo19
    go_wp2
    go_ret2
    exact ⟨_,by first|rfl|(simp [errW_none,errW_some] <;> rfl)|(simp [*,errW_none,errW_some] <;> rfl),rR HO_8,be⟩
end Go.Proofs.YtnoglmdicdpabaaDoor.PFnStampOrder
