/- Trimmed by a program of this session (trim.py). Not trusted: Lean checks it. -/
import Derived.Test.YtnoglmdicdpabaaDoorTLStampsReadPFnStampsReadx0
import Derived.Test.YtnoglmdicdpabaaDoorTLStampsReadLaidE
import Derived.Test.YtnoglmdicdpabaaDoorTLStampsReadShelf
namespace Go.Proofs.YtnoglmdicdpabaaDoor.PFnStampsRead
open Go.RowKit Go.Proofs.YtnoglmdicdpabaaDoorW.PrintWords Go.Proofs.YtnoglmdicdpabaaDoorW.PrintLast Go.Proofs.YtnoglmdicdpabaaDoorW.PrintMore Go.Proofs.YtnoglmdicdpabaaDoor.St
attribute [local go_sem] max2_int min2_int max_two min_two max_three min_three max_four min_four
set_option linter.unusedVariables false
set_option linter.unusedSimpArgs false
def impl_in.f (a0:Int) (a1:Int) (a2:Int):Option (Bool):=if a0 ≥ a1 then (some (decide (a0≤a2))) else (some false)
set_option maxHeartbeats 8000000 in
set_option maxRecDepth 100000 in
theorem impl_in.calls (a0:Int) (a1:Int) (a2:Int) (r:Bool) (w:World) (h:impl_in.f a0 a1 a2=some r) :
  Calls Tryd.prog 53 #[.int .i64 a0,.int .i64 a1,.int .i64 a2] w fun e w'=>e = .returned (.bool r)∧Drawn0 w w':=by
 have H:(if a0 ≥ a1 then (some (decide (a0≤a2))) else (some false))=some r:=h
 clear h
 by_cases c4:a0 ≥ a1
 ·rw [if_pos c4] at H
  have c4b0:decide (a1≤a0)=true:=decide_eq_true c4
  clear c4
  obtain rfl:=Option.some.inj H
  go_enter Tryd.func53,Tryd.ntmps53
  go_wp2
  go_ret
  exact ⟨by first|rfl|(simp;done)|(simp [*];done),by repeat (first|exact Drawn0.refl _|apply Drawn0.step)⟩
 ·rw [if_neg c4] at H
  have c4b0:decide (a1≤a0)=false:=decide_eq_false c4
  clear c4
  obtain rfl:=Option.some.inj H
  go_enter Tryd.func53,Tryd.ntmps53
  go_wp2
  go_ret
  exact ⟨by first|rfl|(simp;done)|(simp [*];done),by repeat (first|exact Drawn0.refl _|apply Drawn0.step)⟩
def impl_StampOk.f (a0_0:Int) (a0_1:Int) (a0_2:Int):Option (Bool):=(impl_in.f a0_0 0 1000000000).bind fun t102=>(if t102=true then ((impl_in.f a0_1 0 1000000).bind fun t103=>(if t103=true then ((impl_in.f a0_2 0 20).bind fun t104=>(some t104)) else (some false))) else (some false))
set_option maxHeartbeats 8000000 in
set_option maxRecDepth 100000 in
theorem impl_StampOk.calls (a0_0:Int) (a0_1:Int) (a0_2:Int) (r:Bool) (w:World) (h:impl_StampOk.f a0_0 a0_1 a0_2=some r) :
  Calls Tryd.prog 27 #[.agg #[.int .i64 a0_0,.int .i64 a0_1,.int .i64 a0_2]] w fun e w'=>e = .returned (.bool r)∧Below w.heap.size w w':=by
 have hu25:=Tryd.underlying25
 have HB:=Aside0.mk (Below.refl w.heap.size w)
 have H:((impl_in.f a0_0 0 1000000000).bind fun t102=>(if t102=true then ((impl_in.f a0_1 0 1000000).bind fun t103=>(if t103=true then ((impl_in.f a0_2 0 20).bind fun t104=>(some t104)) else (some false))) else (some false)))=some r:=h
 clear h
 replace H:=Option.bind_eq_some_iff.mp H
 obtain ⟨t102,A20,H⟩:=H
 try dsimp only at H
 have A2:=Aside0.mk A20
 clear A20
 by_cases c3:t102=true
 ·subst c3
  rw [if_pos rfl] at H
  replace H:=Option.bind_eq_some_iff.mp H
  obtain ⟨t103,A40,H⟩:=H
  try dsimp only at H
  have A4:=Aside0.mk A40
  clear A40
  by_cases c5:t103=true
  ·subst c5
   rw [if_pos rfl] at H
   replace H:=Option.bind_eq_some_iff.mp H
   obtain ⟨t104,A60,H⟩:=H
   try dsimp only at H
   have A6:=Aside0.mk A60
   clear A60
   obtain rfl:=Option.some.inj H
   go_enter Tryd.func27,Tryd.ntmps27
   go_wp2_with (first|((with_reducible refine gate_dst (N:=1) rfl ?_);refine box_event ?hg (N:=1) ?hd (cs:=#[.int .i64 a0_0,.int .i64 a0_1,.int .i64 a0_2]) (t:=25) ?hr ?_;(case hd=>rfl);(case hg=>rfl);(case hr=>first|(go_simp;done)|(go_simp;rfl));intro gb101 hg w7 hbox hb;have n0_:=bs hb;have n1_:=Aside0.mk (hbox);have n2_:=Aside0.mk ((by rw [hg];exact (below_size be):w.heap.size≤gb101));have n3_:=Aside0.mk ((by rw [hg];exact (below_size be):w.heap.size≤gb101));clear HB;have HB:=n0_;have BK101:=n1_;have GW101:=n2_;have GE101:=n3_;clear n0_ n1_ n2_ n3_;clear hb hbox hg;have hcz8_0:w7.cell? ⟨gb101,0,none⟩=some (.int .i64 a0_0):=(blk_cell BK101.out 0).trans rfl;have hcz8_1:w7.cell? ⟨gb101,1,none⟩=some (.int .i64 a0_1):=(blk_cell BK101.out 1).trans rfl;have hcz8_2:w7.cell? ⟨gb101,2,none⟩=some (.int .i64 a0_2):=(blk_cell BK101.out 2).trans rfl;have hfz8_0:=blk_frozen BK101.out 0;have hfz8_1:=blk_frozen BK101.out 1;have hfz8_2:=blk_frozen BK101.out 2)|((with_reducible refine gate_callee (f:=53) rfl ?_);refine goesL_ (some 5) rfl rfl Tryd.func53 (by kernel_rfl) rfl #[.int .i64 a0_0,.int .i64 0,.int .i64 1000000000] rfl (by (try simp only [List.map_toArray,List.map_cons,List.map_nil]);first|done|rfl|(simp only [List.length_drop,List.length_take];rfl)) ?_;(with_reducible refine (impl_in.calls a0_0 0 1000000000 true _ A2.out).mono ?_);rintro e w' ⟨rfl,⟨nd,rfl⟩⟩;refine ⟨_,rfl,?_⟩)|(go_at_call 53;(with_reducible refine (impl_in.calls a0_1 0 1000000 true _ A4.out).mono ?_);rintro e w' ⟨rfl,⟨nd,rfl⟩⟩)|(go_at_call 53;(with_reducible refine (impl_in.calls a0_2 0 20 t104 _ A6.out).mono ?_);rintro e w' ⟨rfl,⟨nd,rfl⟩⟩))
   go_ret
   exact ⟨rz,be⟩
  ·replace c5:=Bool.eq_false_iff.mpr c5
   subst c5
   have H1:(some false)=some r:=by rw [if_neg (show ¬ (false=true) by decide)] at H;exact H
   clear H
   have H:=H1
   clear H1
   obtain rfl:=Option.some.inj H
   go_enter Tryd.func27,Tryd.ntmps27
   go_wp2_with (first|((with_reducible refine gate_dst (N:=1) rfl ?_);refine box_event ?hg (N:=1) ?hd (cs:=#[.int .i64 a0_0,.int .i64 a0_1,.int .i64 a0_2]) (t:=25) ?hr ?_;(case hd=>rfl);(case hg=>rfl);(case hr=>first|(go_simp;done)|(go_simp;rfl));intro gb101 hg w9 hbox hb;have n0_:=bs hb;have n1_:=Aside0.mk (hbox);have n2_:=Aside0.mk ((by rw [hg];exact (below_size be):w.heap.size≤gb101));have n3_:=Aside0.mk ((by rw [hg];exact (below_size be):w.heap.size≤gb101));clear HB;have HB:=n0_;have BK101:=n1_;have GW101:=n2_;have GE101:=n3_;clear n0_ n1_ n2_ n3_;clear hb hbox hg;have hcz10_0:w9.cell? ⟨gb101,0,none⟩=some (.int .i64 a0_0):=(blk_cell BK101.out 0).trans rfl;have hcz10_1:w9.cell? ⟨gb101,1,none⟩=some (.int .i64 a0_1):=(blk_cell BK101.out 1).trans rfl;have hcz10_2:w9.cell? ⟨gb101,2,none⟩=some (.int .i64 a0_2):=(blk_cell BK101.out 2).trans rfl;have hfz10_0:=blk_frozen BK101.out 0;have hfz10_1:=blk_frozen BK101.out 1;have hfz10_2:=blk_frozen BK101.out 2)|((with_reducible refine gate_callee (f:=53) rfl ?_);refine goesL_ (some 5) rfl rfl Tryd.func53 (by kernel_rfl) rfl #[.int .i64 a0_0,.int .i64 0,.int .i64 1000000000] rfl (by (try simp only [List.map_toArray,List.map_cons,List.map_nil]);first|done|rfl|(simp only [List.length_drop,List.length_take];rfl)) ?_;(with_reducible refine (impl_in.calls a0_0 0 1000000000 true _ A2.out).mono ?_);rintro e w' ⟨rfl,⟨nd,rfl⟩⟩;refine ⟨_,rfl,?_⟩)|(go_at_call 53;(with_reducible refine (impl_in.calls a0_1 0 1000000 false _ A4.out).mono ?_);rintro e w' ⟨rfl,⟨nd,rfl⟩⟩))
   go_ret
   exact ⟨rz,be⟩
 ·replace c3:=Bool.eq_false_iff.mpr c3
  subst c3
  have H1:(some false)=some r:=by rw [if_neg (show ¬ (false=true) by decide)] at H;exact H
  clear H
  have H:=H1
  clear H1
  obtain rfl:=Option.some.inj H
  go_enter Tryd.func27,Tryd.ntmps27
  go_wp2_with (first|((with_reducible refine gate_dst (N:=1) rfl ?_);refine box_event ?hg (N:=1) ?hd (cs:=#[.int .i64 a0_0,.int .i64 a0_1,.int .i64 a0_2]) (t:=25) ?hr ?_;(case hd=>rfl);(case hg=>rfl);(case hr=>first|(go_simp;done)|(go_simp;rfl));intro gb101 hg w11 hbox hb;have n0_:=bs hb;have n1_:=Aside0.mk (hbox);have n2_:=Aside0.mk ((by rw [hg];exact (below_size be):w.heap.size≤gb101));have n3_:=Aside0.mk ((by rw [hg];exact (below_size be):w.heap.size≤gb101));clear HB;have HB:=n0_;have BK101:=n1_;have GW101:=n2_;have GE101:=n3_;clear n0_ n1_ n2_ n3_;clear hb hbox hg;have hcz12_0:w11.cell? ⟨gb101,0,none⟩=some (.int .i64 a0_0):=(blk_cell BK101.out 0).trans rfl;have hcz12_1:w11.cell? ⟨gb101,1,none⟩=some (.int .i64 a0_1):=(blk_cell BK101.out 1).trans rfl;have hcz12_2:w11.cell? ⟨gb101,2,none⟩=some (.int .i64 a0_2):=(blk_cell BK101.out 2).trans rfl;have hfz12_0:=blk_frozen BK101.out 0;have hfz12_1:=blk_frozen BK101.out 1;have hfz12_2:=blk_frozen BK101.out 2)|((with_reducible refine gate_callee (f:=53) rfl ?_);refine goesL_ (some 5) rfl rfl Tryd.func53 (by kernel_rfl) rfl #[.int .i64 a0_0,.int .i64 0,.int .i64 1000000000] rfl (by (try simp only [List.map_toArray,List.map_cons,List.map_nil]);first|done|rfl|(simp only [List.length_drop,List.length_take];rfl)) ?_;(with_reducible refine (impl_in.calls a0_0 0 1000000000 false _ A2.out).mono ?_);rintro e w' ⟨rfl,⟨nd,rfl⟩⟩;refine ⟨_,rfl,?_⟩))
  go_ret
  exact ⟨rz,be⟩
def strconv_Itoa.f (a0:Int):Option ByteArray:=if -9223372036854775808≤a0∧a0≤9223372036854775807 then some ⟨(Lib.itoa a0).toArray⟩ else none
theorem strconv_Itoa.calls (a0:Int) (r:ByteArray) (w:World) (hL:Aside0 (Go.Proofs.YtnoglmdicdpabaaDoor.St.Laid w)) (h:strconv_Itoa.f a0=some r) :
  Calls Tryd.prog 42 #[.int .i64 a0] w fun e w'=>e = .returned (.string r)∧Below w.heap.size w w':=by
 unfold strconv_Itoa.f at h
 by_cases hl : -9223372036854775808≤a0∧a0≤9223372036854775807
 ·rw [if_pos hl] at h
  obtain rfl:=Option.some.inj h
  refine (Tryd.strconv_Itoa a0 hl.1 hl.2 w (Go.Proofs.YtnoglmdicdpabaaDoor.St.tab_at hL)).mono fun e w' he=>?_
  obtain ⟨rfl,k,os,rfl⟩:=he
  exact ⟨rfl,Lib.below_grow w.heap.size w (Nat.le_refl _) k os⟩
 ·rw [if_neg hl] at h
  cases h
def impl_StampText.f (a0_0:Int) (a0_1:Int) (a0_2:Int):Option (ByteArray):=(impl_StampOk.f a0_0 a0_1 a0_2).bind fun t106=>(if t106=true then ((strconv_Itoa.f a0_0).bind fun t107=>(if t107.size+1≤9223372036854775807 then ((strconv_Itoa.f a0_1).bind fun t108=>(if (t107 ++ (⟨#[46]⟩:ByteArray)).size+t108.size≤9223372036854775807 then (if ((t107 ++ (⟨#[46]⟩:ByteArray)) ++ t108).size+1≤9223372036854775807 then ((strconv_Itoa.f a0_2).bind fun t109=>(if (((t107 ++ (⟨#[46]⟩:ByteArray)) ++ t108) ++ (⟨#[46]⟩:ByteArray)).size+t109.size≤9223372036854775807 then (some ((((t107 ++ (⟨#[46]⟩:ByteArray)) ++ t108) ++ (⟨#[46]⟩:ByteArray)) ++ t109)) else (none))) else (none)) else (none))) else (none))) else (some (⟨#[]⟩:ByteArray)))
def impl_StampText.T3:Bool × List (List Nat × List Nat):=(true,[([],[]),([0],[0]),([1],[1]),([2],[2]),([],[]),([4],[4]),([5,2],[5]),([3,6],[3,6]),([7],[7]),([],[]),([9],[9]),([10,6],[10]),([8,11],[8,11]),([12,11,0,1,2,3,4,5,6,7,8,9,10,11,12],[12])])
def impl_StampText.B3:List Nat:=[0,1,3,7,0,16,55,127,255,0,512,1655,4095,8191]
theorem impl_StampText.tab3:rtab .any (opsOf Tryd.f13 3)=impl_StampText.T3:=by kernel_rfl
theorem impl_StampText.bits3:waitsOk impl_StampText.T3.2 impl_StampText.B3=true:=by kernel_rfl
set_option maxHeartbeats 8000000 in
set_option maxRecDepth 100000 in
theorem impl_StampText.calls (a0_0:Int) (a0_1:Int) (a0_2:Int) (r:ByteArray) (w:World) (hL:Aside0 (Laid w)) (h:impl_StampText.f a0_0 a0_1 a0_2=some r) :
  Calls Tryd.prog 13 #[.agg #[.int .i64 a0_0,.int .i64 a0_1,.int .i64 a0_2]] w fun e w'=>e = .returned (.string r)∧Below w.heap.size w w':=by
 have hu25:=Tryd.underlying25
 have HB:=Aside0.mk (Below.refl w.heap.size w)
 have H:((impl_StampOk.f a0_0 a0_1 a0_2).bind fun t106=>(if t106=true then ((strconv_Itoa.f a0_0).bind fun t107=>(if t107.size+1≤9223372036854775807 then ((strconv_Itoa.f a0_1).bind fun t108=>(if (t107 ++ (⟨#[46]⟩:ByteArray)).size+t108.size≤9223372036854775807 then (if ((t107 ++ (⟨#[46]⟩:ByteArray)) ++ t108).size+1≤9223372036854775807 then ((strconv_Itoa.f a0_2).bind fun t109=>(if (((t107 ++ (⟨#[46]⟩:ByteArray)) ++ t108) ++ (⟨#[46]⟩:ByteArray)).size+t109.size≤9223372036854775807 then (some ((((t107 ++ (⟨#[46]⟩:ByteArray)) ++ t108) ++ (⟨#[46]⟩:ByteArray)) ++ t109)) else (none))) else (none)) else (none))) else (none))) else (some (⟨#[]⟩:ByteArray))))=some r:=h
 clear h
 replace H:=Option.bind_eq_some_iff.mp H
 obtain ⟨t106,A20,H⟩:=H
 try dsimp only at H
 have A2:=Aside0.mk A20
 clear A20
 by_cases c3:t106=true
 ·subst c3
  rw [if_pos rfl] at H
  replace H:=Option.bind_eq_some_iff.mp H
  obtain ⟨t107,A40,H⟩:=H
  try dsimp only at H
  have A4:=Aside0.mk A40
  clear A40
  by_cases c5:t107.size+1≤9223372036854775807
  ·rw [if_pos c5] at H
   have c5b0:=eq_true c5
   have c5b1:decide (t107.size+1≤9223372036854775807)=true:=decide_eq_true c5
   try have c5b2:(9223372036854775807 < t107.size+1)=False:=eq_false (Nat.not_lt.2 c5)
   replace H:=Option.bind_eq_some_iff.mp H
   obtain ⟨t108,A60,H⟩:=H
   try dsimp only at H
   have A6:=Aside0.mk A60
   clear A60
   by_cases c7:(t107 ++ (⟨#[46]⟩:ByteArray)).size+t108.size≤9223372036854775807
   ·rw [if_pos c7] at H
    have c7b0:=eq_true c7
    have c7b1:decide ((t107 ++ (⟨#[46]⟩:ByteArray)).size+t108.size≤9223372036854775807)=true:=decide_eq_true c7
    try have c7b2:(9223372036854775807 < (t107 ++ (⟨#[46]⟩:ByteArray)).size+t108.size)=False:=eq_false (Nat.not_lt.2 c7)
    try (have c7b3:=Nat.not_lt.2 c7;simp only [ByteArray.size_append,one_size] at c7b3;replace c7b3:=eq_false c7b3)
    by_cases c8:((t107 ++ (⟨#[46]⟩:ByteArray)) ++ t108).size+1≤9223372036854775807
    ·rw [if_pos c8] at H
     have c8b0:=eq_true c8
     have c8b1:decide (((t107 ++ (⟨#[46]⟩:ByteArray)) ++ t108).size+1≤9223372036854775807)=true:=decide_eq_true c8
     try have c8b2:(9223372036854775807 < ((t107 ++ (⟨#[46]⟩:ByteArray)) ++ t108).size+1)=False:=eq_false (Nat.not_lt.2 c8)
     try (have c8b3:=Nat.not_lt.2 c8;simp only [ByteArray.size_append,one_size] at c8b3;replace c8b3:=eq_false c8b3)
     replace H:=Option.bind_eq_some_iff.mp H
     obtain ⟨t109,A90,H⟩:=H
     try dsimp only at H
     have A9:=Aside0.mk A90
     clear A90
     by_cases c10:(((t107 ++ (⟨#[46]⟩:ByteArray)) ++ t108) ++ (⟨#[46]⟩:ByteArray)).size+t109.size≤9223372036854775807
     ·rw [if_pos c10] at H
      have c10b0:=eq_true c10
      have c10b1:decide ((((t107 ++ (⟨#[46]⟩:ByteArray)) ++ t108) ++ (⟨#[46]⟩:ByteArray)).size+t109.size≤9223372036854775807)=true:=decide_eq_true c10
      try have c10b2:(9223372036854775807 < (((t107 ++ (⟨#[46]⟩:ByteArray)) ++ t108) ++ (⟨#[46]⟩:ByteArray)).size+t109.size)=False:=eq_false (Nat.not_lt.2 c10)
      try (have c10b3:=Nat.not_lt.2 c10;simp only [ByteArray.size_append,one_size] at c10b3;replace c10b3:=eq_false c10b3)
      obtain rfl:=Option.some.inj H
      go_enter Tryd.func13,Tryd.ntmps13
      try go_wp2_with (first|((with_reducible refine gate_dst (N:=1) rfl ?_);refine box_event ?hg (N:=1) ?hd (cs:=#[.int .i64 a0_0,.int .i64 a0_1,.int .i64 a0_2]) (t:=25) ?hr ?_;(case hd=>rfl);(case hg=>rfl);(case hr=>first|(go_simp;done)|(go_simp;rfl));intro gb105 hg w11 hbox hb;have n0_:=bs hb;have n1_:=Aside0.mk (hbox);have n2_:=Aside0.mk ((by rw [hg];exact (below_size be):w.heap.size≤gb105));have n3_:=Aside0.mk ((by rw [hg];exact (below_size be):w.heap.size≤gb105));clear HB;have HB:=n0_;have BK105:=n1_;have GW105:=n2_;have GE105:=n3_;clear n0_ n1_ n2_ n3_;clear hb hbox hg;have hcz12_0:w11.cell? ⟨gb105,0,none⟩=some (.int .i64 a0_0):=(blk_cell BK105.out 0).trans rfl;have hcz12_1:w11.cell? ⟨gb105,1,none⟩=some (.int .i64 a0_1):=(blk_cell BK105.out 1).trans rfl;have hcz12_2:w11.cell? ⟨gb105,2,none⟩=some (.int .i64 a0_2):=(blk_cell BK105.out 2).trans rfl;have hfz12_0:=blk_frozen BK105.out 0;have hfz12_1:=blk_frozen BK105.out 1;have hfz12_2:=blk_frozen BK105.out 2)|((with_reducible refine gate_callee (f:=27) rfl ?_);refine goesL_ (some 4) rfl rfl Tryd.func27 (by kernel_rfl) rfl #[.agg #[.int .i64 a0_0,.int .i64 a0_1,.int .i64 a0_2]] rfl (by (try simp only [List.map_toArray,List.map_cons,List.map_nil]);first|done|rfl|(simp only [List.length_drop,List.length_take];rfl)) ?_;(with_reducible refine (impl_StampOk.calls a0_0 a0_1 a0_2 true _ A2.out).mono ?_);rintro e w13 ⟨rfl,hb⟩;refine ⟨_,rfl,?_⟩;have n0_:=Aside0.mk (blk_below (g:=gb105) (o:=.cells #[.int .i64 a0_0,.int .i64 a0_1,.int .i64 a0_2] 25 (0,0)) (bk BK105) hb);have n1_:=bs hb;clear BK105;clear HB;have BK105:=n0_;have HB:=n1_;clear n0_ n1_;(try clear hb);(try clear hb2);(try clear hk);(try clear hi)))
      have n0_:=Aside0.mk (blk_drew BK105.out)
      have n1_:=Aside0.mk (below_drew1 HB.out)
      clear BK105
      clear HB
      have BK105:=n0_
      have HB:=n1_
      clear n0_ n1_
      refine start_ (n:=14) (S:=fun w'=>w'.cell? ⟨gb105,0,none⟩=some (.int .i64 a0_0)∧w'.cell? ⟨gb105,1,none⟩=some (.int .i64 a0_1)∧w'.cell? ⟨gb105,2,none⟩=some (.int .i64 a0_2)) (ds:=[]) (fl 14 0) (by kernel_rfl) rfl rfl ⟨(blk_cell BK105.out 0).trans rfl,(blk_cell BK105.out 1).trans rfl,(blk_cell BK105.out 2).trans rfl⟩ (fun hHeld=>?_);refine with_tabW impl_StampText.tab3 impl_StampText.bits3 (fun HT_ HW_=>?_)
      generalize w13.drew=w14 at BK105 HB hHeld ⊢
      refine pt 0 6 (fl 14 1) HT_ ?_
      refine pt 4 10 (fl 14 17) HT_ ?_
      refine pt 9 15 (fl 14 529) HT_ ?_
      refine tt 1 7 (fl 14 531) HT_ HW_ hHeld ?_
      refine tt 5 11 (fl 14 563) HT_ HW_ hHeld ?_
      refine tt 10 16 (fl 14 1587) HT_ HW_ hHeld ?_
      refine ot 2 (some 8) (fl 14 1591) HT_ (fun K hK=>?_)
      refine goes_ Tryd.func42 (by kernel_rfl) rfl #[.int .i64 a0_0] (by rfl) rfl rfl (by (try simp only [List.map_toArray,List.map_cons,List.map_nil]);first|done|rfl|(simp only [List.length_drop,List.length_take];rfl)) ?_
      with_reducible refine (strconv_Itoa.calls a0_0 t107 _ ?side1 A4.out).mono ?_
      (case side1=>exact lb hL)
      rintro e w15 ⟨rfl,hb⟩
      refine ⟨_,rfl,?_⟩
      have n0_:=Aside0.mk (blk_below (g:=gb105) (o:=.cells #[.int .i64 a0_0,.int .i64 a0_1,.int .i64 a0_2] 25 (0,0)) (bk BK105) hb)
      have n1_:=bs hb
      clear BK105
      clear HB
      have BK105:=n0_
      have HB:=n1_
      clear n0_ n1_
      (try clear hb)
      (try clear hb2)
      (try clear hk)
      (try clear hi)
      refine hK.out _ _ ⟨(blk_cell BK105.out 0).trans rfl,(blk_cell BK105.out 1).trans rfl,(blk_cell BK105.out 2).trans rfl⟩ (fun hHeld=>?_)
      clear hK K
      refine no 8 ?_
      refine pt 3 9 (fl 14 1599) HT_ ?_
      refine ot 6 (some 12) (fl 14 1663) HT_ (fun K hK=>?_)
      refine goes_ Tryd.func42 (by kernel_rfl) rfl #[.int .i64 a0_1] (by rfl) rfl rfl (by (try simp only [List.map_toArray,List.map_cons,List.map_nil]);first|done|rfl|(simp only [List.length_drop,List.length_take];rfl)) ?_
      with_reducible refine (strconv_Itoa.calls a0_1 t108 _ ?side1 A6.out).mono ?_
      (case side1=>exact lb hL)
      rintro e w16 ⟨rfl,hb⟩
      refine ⟨_,rfl,?_⟩
      have n0_:=Aside0.mk (blk_below (g:=gb105) (o:=.cells #[.int .i64 a0_0,.int .i64 a0_1,.int .i64 a0_2] 25 (0,0)) (bk BK105) hb)
      have n1_:=bs hb
      clear BK105
      clear HB
      have BK105:=n0_
      have HB:=n1_
      clear n0_ n1_
      (try clear hb)
      (try clear hb2)
      (try clear hk)
      (try clear hi)
      refine hK.out _ _ ⟨(blk_cell BK105.out 0).trans rfl,(blk_cell BK105.out 1).trans rfl,(blk_cell BK105.out 2).trans rfl⟩ (fun hHeld=>?_)
      clear hK K
      refine no 12 ?_
      refine pt 7 13 (fl 14 1791) HT_ ?_
      refine pt 8 14 (fl 14 2047) HT_ ?_
      refine ot 11 (some 17) (fl 14 4095) HT_ (fun K hK=>?_)
      refine goes_ Tryd.func42 (by kernel_rfl) rfl #[.int .i64 a0_2] (by rfl) rfl rfl (by (try simp only [List.map_toArray,List.map_cons,List.map_nil]);first|done|rfl|(simp only [List.length_drop,List.length_take];rfl)) ?_
      with_reducible refine (strconv_Itoa.calls a0_2 t109 _ ?side1 A9.out).mono ?_
      (case side1=>exact lb hL)
      rintro e w17 ⟨rfl,hb⟩
      refine ⟨_,rfl,?_⟩
      have n0_:=Aside0.mk (blk_below (g:=gb105) (o:=.cells #[.int .i64 a0_0,.int .i64 a0_1,.int .i64 a0_2] 25 (0,0)) (bk BK105) hb)
      have n1_:=bs hb
      clear BK105
      clear HB
      have BK105:=n0_
      have HB:=n1_
      clear n0_ n1_
      (try clear hb)
      (try clear hb2)
      (try clear hk)
      (try clear hi)
      refine hK.out _ _ ⟨(blk_cell BK105.out 0).trans rfl,(blk_cell BK105.out 1).trans rfl,(blk_cell BK105.out 2).trans rfl⟩ (fun hHeld=>?_)
      clear hK K
      refine no 17 ?_
      refine pt 12 18 (fl 14 8191) HT_ ?_
      refine pt 13 2 (fl 14 16383) HT_ ?_
      refine done_ (done_of HT_.out (by kernel_rfl)) ?_
      try go_wp2
      go_ret
      exact ⟨rz,be⟩
     ·rw [if_neg c10] at H
      exact absurd H (by simp)
    ·rw [if_neg c8] at H
     exact absurd H (by simp)
   ·rw [if_neg c7] at H
    exact absurd H (by simp)
  ·rw [if_neg c5] at H
   exact absurd H (by simp)
 ·replace c3:=Bool.eq_false_iff.mpr c3
  subst c3
  have H1:(some (⟨#[]⟩:ByteArray))=some r:=by rw [if_neg (show ¬ (false=true) by decide)] at H;exact H
  clear H
  have H:=H1
  clear H1
  obtain rfl:=Option.some.inj H
  go_enter Tryd.func13,Tryd.ntmps13
  go_wp2_with (first|((with_reducible refine gate_dst (N:=1) rfl ?_);refine box_event ?hg (N:=1) ?hd (cs:=#[.int .i64 a0_0,.int .i64 a0_1,.int .i64 a0_2]) (t:=25) ?hr ?_;(case hd=>rfl);(case hg=>rfl);(case hr=>first|(go_simp;done)|(go_simp;rfl));intro gb105 hg w18 hbox hb;have n0_:=bs hb;have n1_:=Aside0.mk (hbox);have n2_:=Aside0.mk ((by rw [hg];exact (below_size be):w.heap.size≤gb105));have n3_:=Aside0.mk ((by rw [hg];exact (below_size be):w.heap.size≤gb105));clear HB;have HB:=n0_;have BK105:=n1_;have GW105:=n2_;have GE105:=n3_;clear n0_ n1_ n2_ n3_;clear hb hbox hg;have hcz19_0:w18.cell? ⟨gb105,0,none⟩=some (.int .i64 a0_0):=(blk_cell BK105.out 0).trans rfl;have hcz19_1:w18.cell? ⟨gb105,1,none⟩=some (.int .i64 a0_1):=(blk_cell BK105.out 1).trans rfl;have hcz19_2:w18.cell? ⟨gb105,2,none⟩=some (.int .i64 a0_2):=(blk_cell BK105.out 2).trans rfl;have hfz19_0:=blk_frozen BK105.out 0;have hfz19_1:=blk_frozen BK105.out 1;have hfz19_2:=blk_frozen BK105.out 2)|((with_reducible refine gate_callee (f:=27) rfl ?_);refine goesL_ (some 4) rfl rfl Tryd.func27 (by kernel_rfl) rfl #[.agg #[.int .i64 a0_0,.int .i64 a0_1,.int .i64 a0_2]] rfl (by (try simp only [List.map_toArray,List.map_cons,List.map_nil]);first|done|rfl|(simp only [List.length_drop,List.length_take];rfl)) ?_;(with_reducible refine (impl_StampOk.calls a0_0 a0_1 a0_2 false _ A2.out).mono ?_);rintro e w20 ⟨rfl,hb⟩;refine ⟨_,rfl,?_⟩;have n0_:=Aside0.mk (blk_below (g:=gb105) (o:=.cells #[.int .i64 a0_0,.int .i64 a0_1,.int .i64 a0_2] 25 (0,0)) (bk BK105) hb);have n1_:=bs hb;clear BK105;clear HB;have BK105:=n0_;have HB:=n1_;clear n0_ n1_;(try clear hb);(try clear hb2);(try clear hk);(try clear hi)))
  go_ret
  exact ⟨rz,be⟩
def spec_l1In.f (a0:Int) (a1:Int) (a2:Int):Option (Bool):=if a0 ≥ a1 then (some (decide (a0≤a2))) else (some false)
set_option maxHeartbeats 8000000 in
set_option maxRecDepth 100000 in
theorem spec_l1In.calls (a0:Int) (a1:Int) (a2:Int) (r:Bool) (w:World) (h:spec_l1In.f a0 a1 a2=some r) :
  Calls Tryd.prog 52 #[.int .i64 a0,.int .i64 a1,.int .i64 a2] w fun e w'=>e = .returned (.bool r)∧Drawn0 w w':=by
 have H:(if a0 ≥ a1 then (some (decide (a0≤a2))) else (some false))=some r:=h
 clear h
 by_cases c4:a0 ≥ a1
 ·rw [if_pos c4] at H
  have c4b0:decide (a1≤a0)=true:=decide_eq_true c4
  clear c4
  obtain rfl:=Option.some.inj H
  go_enter Tryd.func52,Tryd.ntmps52
  go_wp2
  go_ret
  exact ⟨by first|rfl|(simp;done)|(simp [*];done),by repeat (first|exact Drawn0.refl _|apply Drawn0.step)⟩
 ·rw [if_neg c4] at H
  have c4b0:decide (a1≤a0)=false:=decide_eq_false c4
  clear c4
  obtain rfl:=Option.some.inj H
  go_enter Tryd.func52,Tryd.ntmps52
  go_wp2
  go_ret
  exact ⟨by first|rfl|(simp;done)|(simp [*];done),by repeat (first|exact Drawn0.refl _|apply Drawn0.step)⟩
def spec_StampOk.f (a0_0:Int) (a0_1:Int) (a0_2:Int):Option (Bool):=(spec_l1In.f a0_0 0 1000000000).bind fun t111=>(if t111=true then ((spec_l1In.f a0_1 0 1000000).bind fun t112=>(if t112=true then ((spec_l1In.f a0_2 0 20).bind fun t113=>(some t113)) else (some false))) else (some false))
set_option maxHeartbeats 8000000 in
set_option maxRecDepth 100000 in
theorem spec_StampOk.calls (a0_0:Int) (a0_1:Int) (a0_2:Int) (r:Bool) (w:World) (h:spec_StampOk.f a0_0 a0_1 a0_2=some r) :
  Calls Tryd.prog 26 #[.agg #[.int .i64 a0_0,.int .i64 a0_1,.int .i64 a0_2]] w fun e w'=>e = .returned (.bool r)∧Below w.heap.size w w':=by
 have hu25:=Tryd.underlying25
 have HB:=Aside0.mk (Below.refl w.heap.size w)
 have H:((spec_l1In.f a0_0 0 1000000000).bind fun t111=>(if t111=true then ((spec_l1In.f a0_1 0 1000000).bind fun t112=>(if t112=true then ((spec_l1In.f a0_2 0 20).bind fun t113=>(some t113)) else (some false))) else (some false)))=some r:=h
 clear h
 replace H:=Option.bind_eq_some_iff.mp H
 obtain ⟨t111,A20,H⟩:=H
 try dsimp only at H
 have A2:=Aside0.mk A20
 clear A20
 by_cases c3:t111=true
 ·subst c3
  rw [if_pos rfl] at H
  replace H:=Option.bind_eq_some_iff.mp H
  obtain ⟨t112,A40,H⟩:=H
  try dsimp only at H
  have A4:=Aside0.mk A40
  clear A40
  by_cases c5:t112=true
  ·subst c5
   rw [if_pos rfl] at H
   replace H:=Option.bind_eq_some_iff.mp H
   obtain ⟨t113,A60,H⟩:=H
   try dsimp only at H
   have A6:=Aside0.mk A60
   clear A60
   obtain rfl:=Option.some.inj H
   go_enter Tryd.func26,Tryd.ntmps26
   go_wp2_with (first|((with_reducible refine gate_dst (N:=1) rfl ?_);refine box_event ?hg (N:=1) ?hd (cs:=#[.int .i64 a0_0,.int .i64 a0_1,.int .i64 a0_2]) (t:=25) ?hr ?_;(case hd=>rfl);(case hg=>rfl);(case hr=>first|(go_simp;done)|(go_simp;rfl));intro gb110 hg w7 hbox hb;have n0_:=bs hb;have n1_:=Aside0.mk (hbox);have n2_:=Aside0.mk ((by rw [hg];exact (below_size be):w.heap.size≤gb110));have n3_:=Aside0.mk ((by rw [hg];exact (below_size be):w.heap.size≤gb110));clear HB;have HB:=n0_;have BK110:=n1_;have GW110:=n2_;have GE110:=n3_;clear n0_ n1_ n2_ n3_;clear hb hbox hg;have hcz8_0:w7.cell? ⟨gb110,0,none⟩=some (.int .i64 a0_0):=(blk_cell BK110.out 0).trans rfl;have hcz8_1:w7.cell? ⟨gb110,1,none⟩=some (.int .i64 a0_1):=(blk_cell BK110.out 1).trans rfl;have hcz8_2:w7.cell? ⟨gb110,2,none⟩=some (.int .i64 a0_2):=(blk_cell BK110.out 2).trans rfl;have hfz8_0:=blk_frozen BK110.out 0;have hfz8_1:=blk_frozen BK110.out 1;have hfz8_2:=blk_frozen BK110.out 2)|((with_reducible refine gate_callee (f:=52) rfl ?_);refine goesL_ (some 5) rfl rfl Tryd.func52 (by kernel_rfl) rfl #[.int .i64 a0_0,.int .i64 0,.int .i64 1000000000] rfl (by (try simp only [List.map_toArray,List.map_cons,List.map_nil]);first|done|rfl|(simp only [List.length_drop,List.length_take];rfl)) ?_;(with_reducible refine (spec_l1In.calls a0_0 0 1000000000 true _ A2.out).mono ?_);rintro e w' ⟨rfl,⟨nd,rfl⟩⟩;refine ⟨_,rfl,?_⟩)|(go_at_call 52;(with_reducible refine (spec_l1In.calls a0_1 0 1000000 true _ A4.out).mono ?_);rintro e w' ⟨rfl,⟨nd,rfl⟩⟩)|(go_at_call 52;(with_reducible refine (spec_l1In.calls a0_2 0 20 t113 _ A6.out).mono ?_);rintro e w' ⟨rfl,⟨nd,rfl⟩⟩))
   go_ret
   exact ⟨rz,be⟩
  ·replace c5:=Bool.eq_false_iff.mpr c5
   subst c5
   have H1:(some false)=some r:=by rw [if_neg (show ¬ (false=true) by decide)] at H;exact H
   clear H
   have H:=H1
   clear H1
   obtain rfl:=Option.some.inj H
   go_enter Tryd.func26,Tryd.ntmps26
   go_wp2_with (first|((with_reducible refine gate_dst (N:=1) rfl ?_);refine box_event ?hg (N:=1) ?hd (cs:=#[.int .i64 a0_0,.int .i64 a0_1,.int .i64 a0_2]) (t:=25) ?hr ?_;(case hd=>rfl);(case hg=>rfl);(case hr=>first|(go_simp;done)|(go_simp;rfl));intro gb110 hg w9 hbox hb;have n0_:=bs hb;have n1_:=Aside0.mk (hbox);have n2_:=Aside0.mk ((by rw [hg];exact (below_size be):w.heap.size≤gb110));have n3_:=Aside0.mk ((by rw [hg];exact (below_size be):w.heap.size≤gb110));clear HB;have HB:=n0_;have BK110:=n1_;have GW110:=n2_;have GE110:=n3_;clear n0_ n1_ n2_ n3_;clear hb hbox hg;have hcz10_0:w9.cell? ⟨gb110,0,none⟩=some (.int .i64 a0_0):=(blk_cell BK110.out 0).trans rfl;have hcz10_1:w9.cell? ⟨gb110,1,none⟩=some (.int .i64 a0_1):=(blk_cell BK110.out 1).trans rfl;have hcz10_2:w9.cell? ⟨gb110,2,none⟩=some (.int .i64 a0_2):=(blk_cell BK110.out 2).trans rfl;have hfz10_0:=blk_frozen BK110.out 0;have hfz10_1:=blk_frozen BK110.out 1;have hfz10_2:=blk_frozen BK110.out 2)|((with_reducible refine gate_callee (f:=52) rfl ?_);refine goesL_ (some 5) rfl rfl Tryd.func52 (by kernel_rfl) rfl #[.int .i64 a0_0,.int .i64 0,.int .i64 1000000000] rfl (by (try simp only [List.map_toArray,List.map_cons,List.map_nil]);first|done|rfl|(simp only [List.length_drop,List.length_take];rfl)) ?_;(with_reducible refine (spec_l1In.calls a0_0 0 1000000000 true _ A2.out).mono ?_);rintro e w' ⟨rfl,⟨nd,rfl⟩⟩;refine ⟨_,rfl,?_⟩)|(go_at_call 52;(with_reducible refine (spec_l1In.calls a0_1 0 1000000 false _ A4.out).mono ?_);rintro e w' ⟨rfl,⟨nd,rfl⟩⟩))
   go_ret
   exact ⟨rz,be⟩
 ·replace c3:=Bool.eq_false_iff.mpr c3
  subst c3
  have H1:(some false)=some r:=by rw [if_neg (show ¬ (false=true) by decide)] at H;exact H
  clear H
  have H:=H1
  clear H1
  obtain rfl:=Option.some.inj H
  go_enter Tryd.func26,Tryd.ntmps26
  go_wp2_with (first|((with_reducible refine gate_dst (N:=1) rfl ?_);refine box_event ?hg (N:=1) ?hd (cs:=#[.int .i64 a0_0,.int .i64 a0_1,.int .i64 a0_2]) (t:=25) ?hr ?_;(case hd=>rfl);(case hg=>rfl);(case hr=>first|(go_simp;done)|(go_simp;rfl));intro gb110 hg w11 hbox hb;have n0_:=bs hb;have n1_:=Aside0.mk (hbox);have n2_:=Aside0.mk ((by rw [hg];exact (below_size be):w.heap.size≤gb110));have n3_:=Aside0.mk ((by rw [hg];exact (below_size be):w.heap.size≤gb110));clear HB;have HB:=n0_;have BK110:=n1_;have GW110:=n2_;have GE110:=n3_;clear n0_ n1_ n2_ n3_;clear hb hbox hg;have hcz12_0:w11.cell? ⟨gb110,0,none⟩=some (.int .i64 a0_0):=(blk_cell BK110.out 0).trans rfl;have hcz12_1:w11.cell? ⟨gb110,1,none⟩=some (.int .i64 a0_1):=(blk_cell BK110.out 1).trans rfl;have hcz12_2:w11.cell? ⟨gb110,2,none⟩=some (.int .i64 a0_2):=(blk_cell BK110.out 2).trans rfl;have hfz12_0:=blk_frozen BK110.out 0;have hfz12_1:=blk_frozen BK110.out 1;have hfz12_2:=blk_frozen BK110.out 2)|((with_reducible refine gate_callee (f:=52) rfl ?_);refine goesL_ (some 5) rfl rfl Tryd.func52 (by kernel_rfl) rfl #[.int .i64 a0_0,.int .i64 0,.int .i64 1000000000] rfl (by (try simp only [List.map_toArray,List.map_cons,List.map_nil]);first|done|rfl|(simp only [List.length_drop,List.length_take];rfl)) ?_;(with_reducible refine (spec_l1In.calls a0_0 0 1000000000 false _ A2.out).mono ?_);rintro e w' ⟨rfl,⟨nd,rfl⟩⟩;refine ⟨_,rfl,?_⟩))
  go_ret
  exact ⟨rz,be⟩
def spec_l2Split.l0:Nat→ByteArray→Int→List ByteArray→Int→Int→Option (List ByteArray)
 | 0,_,_,_,_,_=>none
 | k+1,x0,x1,x5,x6,x7=>if x7≤(x0.size:Int) then (if x7=(x0.size:Int) then (if 0≤x6 then (if x6≤x7 then (if x5.length < 8796093022208 then (spec_l2Split.l0 k x0 x1 (x5 ++ [x0.extract (x6:Int).toNat (x7:Int).toNat]) (wrap64 (x7+1)) (wrap64 (x7+1))) else (none)) else (none)) else (none)) else (if 0≤x7 then (if x7 < (x0.size:Int) then (if (bt x0 x7)=x1 then (if 0≤x6 then (if x6≤x7 then (if x5.length < 8796093022208 then (spec_l2Split.l0 k x0 x1 (x5 ++ [x0.extract (x6:Int).toNat (x7:Int).toNat]) (wrap64 (x7+1)) (wrap64 (x7+1))) else (none)) else (none)) else (none)) else (spec_l2Split.l0 k x0 x1 x5 x6 (wrap64 (x7+1)))) else (none)) else (none))) else (some x5)
def spec_l2Split.f (k:Nat) (a0:ByteArray) (a1:Int):Option (List ByteArray):=spec_l2Split.l0 k a0 a1 (([]:List ByteArray)) 0 0
set_option maxHeartbeats 8000000 in
set_option maxRecDepth 100000 in
theorem spec_l2Split.calls (k:Nat) (a0:ByteArray) (a1:Int) (r:List ByteArray) (w:World) (h:spec_l2Split.f k a0 a1=some r) :
  Calls Tryd.prog 46 #[.string a0,.int .u8 a1] w fun e w'=>∃ v0_:Value,e = .returned (v0_)∧Kd.R Kd.string 9 w' w.heap.size (fun _=>True) v0_ r∧Below w.heap.size w w':=by
 have HB:=Aside0.mk (Below.refl w.heap.size w)
 have H:(spec_l2Split.l0 k a0 a1 (([]:List ByteArray)) 0 0)=some r:=h
 clear h
 obtain ⟨y114,hy114⟩ : ∃ y_:List ByteArray,y_=(([]:List ByteArray)):=⟨_,rfl⟩
 replace H:(spec_l2Split.l0 k a0 a1 y114 0 0)=some r:=by first|(rw [hy114];with_reducible exact H)|(have H2_:=(Option.bind_some _ _).symm.trans H;rw [hy114];with_reducible exact H2_)|(have H2_:=(Option.bind_some _ _).symm.trans H;with_reducible exact H2_)|with_reducible exact H|(rw [hy114];exact H)|exact H
 have Ny114:=Aside0.mk hy114
 clear hy114
 have H':=Aside0.mk H
 clear H
 go_enter Tryd.func46,Tryd.ntmps46
 go_wp2_with (first|((with_reducible refine gate_dst (N:=8) rfl ?_);refine Kd.R_lit Kd.string _ 9 ?hg (N:=8) ?hd (xs:=([]:List ByteArray)) (inner:=[]) (ok:=fun _=>True) (okp:=fun _=>True) ?hr ?hp (fun _ hk=>hk) trivial (Below.refl _ _) (Nat.le_refl _) (by simp) ?_;(case hd=>rfl);(case hg=>rfl);(case hr=>first|(go_simp;done)|(go_simp;rfl));(case hp=>exact (Reps.none _ _));intro v115 w3 ho4 hb hg_ hnew_;clear hg_ hnew_;(first|rw [← Ny114.out] at ho4|(simp only [Int.reduceToNat] at ho4;rw [← Ny114.out] at ho4));have n0_:=Aside0.mk (Kd.R_lower ho4 (below_size be));have n1_:=bs hb;clear HB;have HO116:=n0_;have HB:=n1_;clear n0_ n1_;clear hb ho4))
 go_loopg [5,6,7] k (fun kq v5 v6 v7 w'=>∃ (x5_1:List ByteArray) (x6_1:Int) (x7_1:Int),v6 = .int .i64 x6_1∧v7 = .int .i64 x7_1∧Aside0 (spec_l2Split.l0 kq a0 a1 x5_1 x6_1 x7_1=some r)∧Aside0 (kq≤k)∧Aside0 (Kd.R Kd.string 9 w' w.heap.size (fun _=>True) v5 x5_1)∧Aside0 (Below w.heap.size w w'))
 case atStart=>exact ⟨(y114),(0),(0),rd_,rd_,H',⟨Nat.le_refl _⟩,⟨rR HO116⟩,⟨be⟩⟩
 case round=>
  clear H'
  try clear p2
  try clear c4
  obtain ⟨x5_1,x6_1,x7_1,rfl,rfl,HA,HK1,HO_5,HB⟩:=hrel
  cases gk with
  | zero=>exact absurd HA.out (by simp [spec_l2Split.l0])
  | succ k1=>
   have H:=HA.out
   clear HA
   simp only [spec_l2Split.l0] at H
   by_cases c5:x7_1≤(a0.size:Int)
   ·rw [if_pos c5] at H
    have c5b0:decide (x7_1≤(a0.size:Int))=true:=decide_eq_true c5
    clear c5
    by_cases c6:x7_1=(a0.size:Int)
    ·rw [if_pos c6] at H
     have c6b0:(x7_1 == (a0.size:Int))=true:=beq_iff_eq.mpr c6
     have c6b1:(x7_1 != (a0.size:Int))=false:=bne_eq_false_iff_eq.mpr c6
     clear c6
     by_cases c7:0≤x6_1
     ·rw [if_pos c7] at H
      have c7b0:=eq_true c7
      have c7b1:decide (0≤x6_1)=true:=decide_eq_true c7
      clear c7
      by_cases c8:x6_1≤x7_1
      ·rw [if_pos c8] at H
       have c8b0:=eq_true c8
       have c8b1:decide (x6_1≤x7_1)=true:=decide_eq_true c8
       clear c8
       have c9b0:=eq_true (of_decide_eq_true (by first|(with_reducible assumption)|assumption):x7_1≤(a0.size:Int))
       by_cases c10:x5_1.length < 8796093022208
       ·rw [if_pos c10] at H
        have LMc10:=Aside0.mk c10
        clear c10
        obtain ⟨y117,hy117⟩ : ∃ y_:List ByteArray,y_=(x5_1 ++ [a0.extract (x6_1:Int).toNat (x7_1:Int).toNat]):=⟨_,rfl⟩
        replace H:(spec_l2Split.l0 k1 a0 a1 y117 (wrap64 (x7_1+1)) (wrap64 (x7_1+1)))=some r:=by first|(rw [hy117];with_reducible exact H)|(have H2_:=(Option.bind_some _ _).symm.trans H;rw [hy117];with_reducible exact H2_)|(have H2_:=(Option.bind_some _ _).symm.trans H;with_reducible exact H2_)|with_reducible exact H|(rw [hy117];exact H)|exact H
        have Ny117:=Aside0.mk hy117
        clear hy117
        have H':=Aside0.mk H
        clear H
        go_wp2_with (first|((with_reducible refine gate_builtin (b:=.append) (xs:=#[.tmp 26,.tmp 31]) rfl ?_);at_builtin;refine Kd.R_append Kd.string (w0:=w) w.heap.size rfl (.tmp 26) (.tmp 31) 60 9 (.string ⟨#[]⟩) 16 rfl Tryd.underlying60 info9 rfl (by decide) (by omega) u5 x5_1 (a0.extract (x6_1:Int).toNat (x7_1:Int).toNat) [.string (a0.extract (x6_1:Int).toNat (x7_1:Int).toNat)] (fun _=>True) (fun _=>False) rfl rfl ?aP (fun _ hk=>hk.elim) ?aF ?aO ?aB ?aS ?aL ?_;(case aP=>exact rfl);(case aB=>exact be);(case aF=>exact (fun _ _=>trivial));(case aO=>exact (rR HO_5));(case aS=>exact (below_size be));(case aL=>have:=LMc10.out;omega);intro v118 w11 ho hb hg hat;rw [← Ny117.out] at ho;have n0_:=Aside0.mk (hb);have n1_:=Aside0.mk (ho);clear HB;clear HO_5;have HB:=n0_;have HO119:=n1_;clear n0_ n1_;clear ho hb hg hat))
        go_roundg k1
        case measure=>have:=HK1.out;omega
        case rel=>exact ⟨(y117),(wrap64 (x7_1+1)),(wrap64 (x7_1+1)),rd_,rd_,H',⟨by have:=HK1.out;omega⟩,⟨rR HO119⟩,⟨be⟩⟩
       ·rw [if_neg c10] at H
        exact absurd H (by simp)
      ·rw [if_neg c8] at H
       exact absurd H (by simp)
     ·rw [if_neg c7] at H
      exact absurd H (by simp)
    ·rw [if_neg c6] at H
     have c6b0:(x7_1 == (a0.size:Int))=false:=beq_eq_false_iff_ne.mpr c6
     have c6b1:(x7_1 != (a0.size:Int))=true:=bne_iff_ne.mpr c6
     by_cases c12:0≤x7_1
     ·rw [if_pos c12] at H
      have c12b0:decide (0≤x7_1)=true:=decide_eq_true c12
      clear c12
      by_cases c13:x7_1 < (a0.size:Int)
      ·rw [if_pos c13] at H
       have c13b0:decide (x7_1 < (a0.size:Int))=true:=decide_eq_true c13
       clear c13
       by_cases c15:(bt a0 x7_1)=a1
       ·rw [if_pos c15] at H
        have c15b0:((bt a0 x7_1) == a1)=true:=beq_iff_eq.mpr c15
        have c15b1:((bt a0 x7_1) != a1)=false:=bne_eq_false_iff_eq.mpr c15
        clear c15
        by_cases c16:0≤x6_1
        ·rw [if_pos c16] at H
         have c16b0:=eq_true c16
         have c16b1:decide (0≤x6_1)=true:=decide_eq_true c16
         clear c16
         by_cases c17:x6_1≤x7_1
         ·rw [if_pos c17] at H
          have c17b0:=eq_true c17
          have c17b1:decide (x6_1≤x7_1)=true:=decide_eq_true c17
          clear c17
          have c18b0:=eq_true (of_decide_eq_true (by first|(with_reducible assumption)|assumption):x7_1≤(a0.size:Int))
          by_cases c19:x5_1.length < 8796093022208
          ·rw [if_pos c19] at H
           have LMc19:=Aside0.mk c19
           clear c19
           obtain ⟨y120,hy120⟩ : ∃ y_:List ByteArray,y_=(x5_1 ++ [a0.extract (x6_1:Int).toNat (x7_1:Int).toNat]):=⟨_,rfl⟩
           replace H:(spec_l2Split.l0 k1 a0 a1 y120 (wrap64 (x7_1+1)) (wrap64 (x7_1+1)))=some r:=by first|(rw [hy120];with_reducible exact H)|(have H2_:=(Option.bind_some _ _).symm.trans H;rw [hy120];with_reducible exact H2_)|(have H2_:=(Option.bind_some _ _).symm.trans H;with_reducible exact H2_)|with_reducible exact H|(rw [hy120];exact H)|exact H
           have Ny120:=Aside0.mk hy120
           clear hy120
           have H':=Aside0.mk H
           clear H
           have p14:0≤(x7_1:Int):=of_decide_eq_true (by first|(with_reducible assumption)|assumption)
           have q14:x7_1 < (a0.size:Int):=of_decide_eq_true (by first|(with_reducible assumption)|assumption)
           have hx14:=bt_at a0 x7_1
           replace p14:=eq_true p14
           replace q14:=eq_true q14
           go_wp2_with (first|((with_reducible refine gate_builtin (b:=.append) (xs:=#[.tmp 26,.tmp 31]) rfl ?_);at_builtin;refine Kd.R_append Kd.string (w0:=w) w.heap.size rfl (.tmp 26) (.tmp 31) 60 9 (.string ⟨#[]⟩) 16 rfl Tryd.underlying60 info9 rfl (by decide) (by omega) u5 x5_1 (a0.extract (x6_1:Int).toNat (x7_1:Int).toNat) [.string (a0.extract (x6_1:Int).toNat (x7_1:Int).toNat)] (fun _=>True) (fun _=>False) rfl rfl ?aP (fun _ hk=>hk.elim) ?aF ?aO ?aB ?aS ?aL ?_;(case aP=>exact rfl);(case aB=>exact be);(case aF=>exact (fun _ _=>trivial));(case aO=>exact (rR HO_5));(case aS=>exact (below_size be));(case aL=>have:=LMc19.out;omega);intro v121 w20 ho hb hg hat;rw [← Ny120.out] at ho;have n0_:=Aside0.mk (hb);have n1_:=Aside0.mk (ho);clear HB;clear HO_5;have HB:=n0_;have HO122:=n1_;clear n0_ n1_;clear ho hb hg hat))
           go_roundg k1
           case measure=>have:=HK1.out;omega
           case rel=>exact ⟨(y120),(wrap64 (x7_1+1)),(wrap64 (x7_1+1)),rd_,rd_,H',⟨by have:=HK1.out;omega⟩,⟨rR HO122⟩,⟨be⟩⟩
          ·rw [if_neg c19] at H
           exact absurd H (by simp)
         ·rw [if_neg c17] at H
          exact absurd H (by simp)
        ·rw [if_neg c16] at H
         exact absurd H (by simp)
       ·rw [if_neg c15] at H
        have c15b0:((bt a0 x7_1) == a1)=false:=beq_eq_false_iff_ne.mpr c15
        have c15b1:((bt a0 x7_1) != a1)=true:=bne_iff_ne.mpr c15
        have H':=Aside0.mk H
        clear H
        have p14:0≤(x7_1:Int):=of_decide_eq_true (by first|(with_reducible assumption)|assumption)
        have q14:x7_1 < (a0.size:Int):=of_decide_eq_true (by first|(with_reducible assumption)|assumption)
        have hx14:=bt_at a0 x7_1
        replace p14:=eq_true p14
        replace q14:=eq_true q14
        go_wp2
        go_roundg k1
        case measure=>have:=HK1.out;omega
        case rel=>exact ⟨(x5_1),(x6_1),(wrap64 (x7_1+1)),rd_,rd_,H',⟨by have:=HK1.out;omega⟩,⟨rR HO_5⟩,⟨be⟩⟩
      ·rw [if_neg c13] at H
       exact absurd H (by simp)
     ·rw [if_neg c12] at H
      exact absurd H (by simp)
   ·rw [if_neg c5] at H
    have c5b0:decide (x7_1≤(a0.size:Int))=false:=decide_eq_false c5
    clear c5
    obtain rfl:=Option.some.inj H
    go_wp2
    go_ret
    exact ⟨_,rz,rR HO_5,be⟩
mutual
def spec_l2Number.j0:Nat→ByteArray→Bool→Option (Int)
 | 0,_,_=>none
 | k+1,x0,x18=>if x18=true then (some (-1)) else (spec_l2Number.l0 k x0 0 0)
def spec_l2Number.l0:Nat→ByteArray→Int→Int→Option (Int)
 | 0,_,_,_=>none
 | k+1,x0,x3,x4=>if x4 < (x0.size:Int) then (if 0≤x4 then ((spec_l1In.f (wrap64 (bt x0 x4)) 48 57).bind fun t124=>(if t124=true then (spec_l2Number.l0 k x0 (wrap64 ((wrap64 (x3 * 10))+(((bt x0 x4) - 48) % 256))) (wrap64 (x4+1))) else (some (-1)))) else (none)) else (some x3)
end
def spec_l2Number.f (k:Nat) (a0:ByteArray):Option (Int):=(spec_l1In.f (a0.size:Int) 1 10).bind fun t123=>(if t123=true then (if (a0.size:Int) > 1 then (if 0 < (a0.size:Int) then (spec_l2Number.j0 k a0 ((bt a0 0) == 48)) else (none)) else (spec_l2Number.j0 k a0 false)) else (spec_l2Number.j0 k a0 true))
set_option maxHeartbeats 8000000 in
set_option maxRecDepth 100000 in
theorem spec_l2Number.calls (k:Nat) (a0:ByteArray) (r:Int) (w:World) (h:spec_l2Number.f k a0=some r) :
  Calls Tryd.prog 47 #[.string a0] w fun e w'=>e = .returned (.int .i64 r)∧Drawn0 w w':=by
 have H:((spec_l1In.f (a0.size:Int) 1 10).bind fun t123=>(if t123=true then (if (a0.size:Int) > 1 then (if 0 < (a0.size:Int) then (spec_l2Number.j0 k a0 ((bt a0 0) == 48)) else (none)) else (spec_l2Number.j0 k a0 false)) else (spec_l2Number.j0 k a0 true)))=some r:=h
 clear h
 have HC2:=Aside0.mk H
 clear H
 go_enter Tryd.func47,Tryd.ntmps47
 go_upto_region 1 with (fail)
 go_cut [18] (fun v18 wc=>∃ (kq:Nat) (x18_1:Bool),v18 = .bool x18_1∧Aside0 (spec_l2Number.j0 kq a0 x18_1=some r)∧Aside0 (kq≤k)∧Drawn0 w wc)
 case first=>
  have H:=HC2.out
  clear HC2
  replace H:=Option.bind_eq_some_iff.mp H
  obtain ⟨t123,A30,H⟩:=H
  try dsimp only at H
  have A3:=Aside0.mk A30
  clear A30
  by_cases c4:t123=true
  ·subst c4
   rw [if_pos rfl] at H
   by_cases c5:(a0.size:Int) > 1
   ·rw [if_pos c5] at H
    have c5b0:decide (1 < (a0.size:Int))=true:=decide_eq_true c5
    have c5b1:decide (1 < a0.size)=true:=decide_eq_true (by omega)
    clear c5
    (first|rw [c5b0]|(simp only [i64_w,i32_w];rw [c5b0])|skip)
    by_cases c6:0 < (a0.size:Int)
    ·rw [if_pos c6] at H
     have c6b0:decide (0 < (a0.size:Int))=true:=decide_eq_true c6
     have c6b1:decide (0 < a0.size)=true:=decide_eq_true (by omega)
     clear c6
     have H':=Aside0.mk H
     clear H
     go_wp2_with (first|((with_reducible refine gate_callee (f:=52) rfl ?_);refine goesL_ (some 7) rfl rfl Tryd.func52 (by kernel_rfl) rfl #[.int .i64 (a0.size:Int),.int .i64 1,.int .i64 10] rfl (by (try simp only [List.map_toArray,List.map_cons,List.map_nil]);first|done|rfl|(simp only [List.length_drop,List.length_take];rfl)) ?_;(with_reducible refine (spec_l1In.calls (a0.size:Int) 1 10 true _ A3.out).mono ?_);rintro e w' ⟨rfl,⟨nd,rfl⟩⟩;refine ⟨_,rfl,?_⟩;have p7:0≤(0:Int):=(by omega);have q7:0 < a0.size:=(by have:(0:Int) < (a0.size:Int):=of_decide_eq_true (by first|(with_reducible assumption)|assumption);omega);have hx7 : ∀ h:0 < a0.size,((a0[0]'h).toNat:Int)=bt a0 0:=bt_at a0 0;clear p7;have qi7:(0 < (a0.size:Int))=True:=eq_true (of_decide_eq_true (by first|(with_reducible assumption)|assumption));replace q7:=eq_true q7))
     go_meet
     case rel=>exact ⟨_,(((bt a0 0) == 48)),rd_,H',⟨by first|omega|exact Nat.le_refl _⟩,by repeat (first|exact Drawn0.refl _|apply Drawn0.step)⟩
    ·rw [if_neg c6] at H
     exact absurd H (by simp)
   ·rw [if_neg c5] at H
    have c5b0:decide (1 < (a0.size:Int))=false:=decide_eq_false c5
    have c5b1:decide (1 < a0.size)=false:=decide_eq_false (by omega)
    clear c5
    (first|rw [c5b0]|(simp only [i64_w,i32_w];rw [c5b0])|skip)
    have H':=Aside0.mk H
    clear H
    go_wp2_with (first|((with_reducible refine gate_callee (f:=52) rfl ?_);refine goesL_ (some 7) rfl rfl Tryd.func52 (by kernel_rfl) rfl #[.int .i64 (a0.size:Int),.int .i64 1,.int .i64 10] rfl (by (try simp only [List.map_toArray,List.map_cons,List.map_nil]);first|done|rfl|(simp only [List.length_drop,List.length_take];rfl)) ?_;(with_reducible refine (spec_l1In.calls (a0.size:Int) 1 10 true _ A3.out).mono ?_);rintro e w' ⟨rfl,⟨nd,rfl⟩⟩;refine ⟨_,rfl,?_⟩))
    go_meet
    case rel=>exact ⟨_,(false),rd_,H',⟨by first|omega|exact Nat.le_refl _⟩,by repeat (first|exact Drawn0.refl _|apply Drawn0.step)⟩
  ·replace c4:=Bool.eq_false_iff.mpr c4
   subst c4
   have H1:(spec_l2Number.j0 k a0 true)=some r:=by rw [if_neg (show ¬ (false=true) by decide)] at H;exact H
   clear H
   have H:=H1
   clear H1
   have H':=Aside0.mk H
   clear H
   go_wp2_with (first|((with_reducible refine gate_callee (f:=52) rfl ?_);refine goesL_ (some 7) rfl rfl Tryd.func52 (by kernel_rfl) rfl #[.int .i64 (a0.size:Int),.int .i64 1,.int .i64 10] rfl (by (try simp only [List.map_toArray,List.map_cons,List.map_nil]);first|done|rfl|(simp only [List.length_drop,List.length_take];rfl)) ?_;(with_reducible refine (spec_l1In.calls (a0.size:Int) 1 10 false _ A3.out).mono ?_);rintro e w' ⟨rfl,⟨nd,rfl⟩⟩;refine ⟨_,rfl,?_⟩))
   go_meet
   case rel=>exact ⟨_,(true),rd_,H',⟨by first|omega|exact Nat.le_refl _⟩,by repeat (first|exact Drawn0.refl _|apply Drawn0.step)⟩
 case rest=>
  clear HC2
  try clear p2
  try clear c4
  try clear c5
  try clear c5b0
  try clear c5b1
  try clear c6
  try clear c6b0
  try clear c6b1
  try clear p7
  try clear q7
  try clear hx7
  try clear qi7
  try clear p7
  try clear q7
  obtain ⟨kq,x18_1,rfl,HA,HJ1,⟨mc1,rfl⟩⟩:=hcut
  cases kq with
  | zero=>exact absurd HA.out (by simp [spec_l2Number.j0])
  | succ kj1=>
   have H:=HA.out
   clear HA
   simp only [spec_l2Number.j0] at H
   by_cases c8:x18_1=true
   ·subst c8
    rw [if_pos rfl] at H
    obtain rfl:=Option.some.inj H
    go_wp2
    go_ret
    exact ⟨by first|rfl|(simp;done)|(simp [*];done),by repeat (first|exact Drawn0.refl _|apply Drawn0.step)⟩
   ·replace c8:=Bool.eq_false_iff.mpr c8
    subst c8
    have H1:(spec_l2Number.l0 kj1 a0 0 0)=some r:=by rw [if_neg (show ¬ (false=true) by decide)] at H;exact H
    clear H
    have H:=H1
    clear H1
    have H':=Aside0.mk H
    clear H
    go_wp2
    go_loopg [3,4] kj1 (fun kq v3 v4 w'=>∃ (x3_2:Int) (x4_2:Int),v3 = .int .i64 x3_2∧v4 = .int .i64 x4_2∧Aside0 (spec_l2Number.l0 kq a0 x3_2 x4_2=some r)∧Aside0 (kq≤kj1)∧Drawn0 w w')
    case atStart=>exact ⟨(0),(0),rd_,rd_,H',⟨Nat.le_refl _⟩,by repeat (first|exact Drawn0.refl _|apply Drawn0.step)⟩
    case round=>
     clear H'
     try clear c1
     try clear p2
     try clear c4
     try clear c5
     try clear c5b0
     try clear c5b1
     try clear c6
     try clear c6b0
     try clear c6b1
     try clear p7
     try clear q7
     try clear hx7
     try clear qi7
     try clear c8
     try clear p2
     try clear p7
     try clear q7
     obtain ⟨x3_2,x4_2,rfl,rfl,HA,HK2,⟨m2,rfl⟩⟩:=hrel
     cases gk with
     | zero=>exact absurd HA.out (by simp [spec_l2Number.l0])
     | succ k2=>
      have H:=HA.out
      clear HA
      simp only [spec_l2Number.l0] at H
      by_cases c9:x4_2 < (a0.size:Int)
      ·rw [if_pos c9] at H
       have c9b0:decide (x4_2 < (a0.size:Int))=true:=decide_eq_true c9
       clear c9
       by_cases c10:0≤x4_2
       ·rw [if_pos c10] at H
        have c10b0:decide (0≤x4_2)=true:=decide_eq_true c10
        clear c10
        replace H:=Option.bind_eq_some_iff.mp H
        obtain ⟨t124,A120,H⟩:=H
        try dsimp only at H
        have A12:=Aside0.mk A120
        clear A120
        by_cases c13:t124=true
        ·subst c13
         rw [if_pos rfl] at H
         have H':=Aside0.mk H
         clear H
         have p11:0≤(x4_2:Int):=of_decide_eq_true (by first|(with_reducible assumption)|assumption)
         have q11:x4_2 < (a0.size:Int):=of_decide_eq_true (by first|(with_reducible assumption)|assumption)
         have hx11:=bt_at a0 x4_2
         replace p11:=eq_true p11
         replace q11:=eq_true q11
         go_wp2_with (first|((with_reducible refine gate_callee (f:=52) rfl ?_);refine goesL_ (some 29) rfl rfl Tryd.func52 (by kernel_rfl) rfl #[.int .i64 (wrap64 (bt a0 x4_2)),.int .i64 48,.int .i64 57] rfl (by (try simp only [List.map_toArray,List.map_cons,List.map_nil]);first|done|rfl|(simp only [List.length_drop,List.length_take];rfl)) ?_;(with_reducible refine (spec_l1In.calls (wrap64 (bt a0 x4_2)) 48 57 true _ A12.out).mono ?_);rintro e w' ⟨rfl,⟨nd,rfl⟩⟩;refine ⟨_,rfl,?_⟩;have p14:0≤(x4_2:Int):=of_decide_eq_true (by first|(with_reducible assumption)|assumption);have q14:x4_2 < (a0.size:Int):=of_decide_eq_true (by first|(with_reducible assumption)|assumption);have hx14:=bt_at a0 x4_2;replace p14:=eq_true p14;replace q14:=eq_true q14))
         go_roundg k2
         case measure=>have:=HJ1.out;have:=HK2.out;omega
         case rel=>exact ⟨(wrap64 ((wrap64 (x3_2 * 10))+(((bt a0 x4_2) - 48) % 256))),(wrap64 (x4_2+1)),rd_,rd_,H',⟨by have:=HJ1.out;have:=HK2.out;omega⟩,by repeat (first|exact Drawn0.refl _|apply Drawn0.step)⟩
        ·replace c13:=Bool.eq_false_iff.mpr c13
         subst c13
         have H1:(some (-1))=some r:=by rw [if_neg (show ¬ (false=true) by decide)] at H;exact H
         clear H
         have H:=H1
         clear H1
         obtain rfl:=Option.some.inj H
         have p11:0≤(x4_2:Int):=of_decide_eq_true (by first|(with_reducible assumption)|assumption)
         have q11:x4_2 < (a0.size:Int):=of_decide_eq_true (by first|(with_reducible assumption)|assumption)
         have hx11:=bt_at a0 x4_2
         replace p11:=eq_true p11
         replace q11:=eq_true q11
         go_wp2_with (first|((with_reducible refine gate_callee (f:=52) rfl ?_);refine goesL_ (some 29) rfl rfl Tryd.func52 (by kernel_rfl) rfl #[.int .i64 (wrap64 (bt a0 x4_2)),.int .i64 48,.int .i64 57] rfl (by (try simp only [List.map_toArray,List.map_cons,List.map_nil]);first|done|rfl|(simp only [List.length_drop,List.length_take];rfl)) ?_;(with_reducible refine (spec_l1In.calls (wrap64 (bt a0 x4_2)) 48 57 false _ A12.out).mono ?_);rintro e w' ⟨rfl,⟨nd,rfl⟩⟩;refine ⟨_,rfl,?_⟩))
         go_ret
         exact ⟨by first|rfl|(simp;done)|(simp [*];done),by repeat (first|exact Drawn0.refl _|apply Drawn0.step)⟩
       ·rw [if_neg c10] at H
        exact absurd H (by simp)
      ·rw [if_neg c9] at H
       have c9b0:decide (x4_2 < (a0.size:Int))=false:=decide_eq_false c9
       clear c9
       obtain rfl:=Option.some.inj H
       go_wp2
       go_ret
       exact ⟨by first|rfl|(simp;done)|(simp [*];done),by repeat (first|exact Drawn0.refl _|apply Drawn0.step)⟩
end Go.Proofs.YtnoglmdicdpabaaDoor.PFnStampsRead
