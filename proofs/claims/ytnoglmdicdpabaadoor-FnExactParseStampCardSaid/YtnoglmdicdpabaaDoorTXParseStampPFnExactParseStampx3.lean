/- Trimmed by a program of this session (trim.py). Not trusted: Lean checks it. -/
import Derived.Test.YtnoglmdicdpabaaDoorTXParseStampPFnExactParseStampx0
import Derived.Test.YtnoglmdicdpabaaDoorTXParseStampPFnExactParseStampx2
import Derived.Lib.AtoiErrMem
import Derived.Lib.SplitLaws
import Derived.Test.YtnoglmdicdpabaaDoorTXParseStampLaidE
import Derived.Test.YtnoglmdicdpabaaDoorTXParseStampShelf
namespace Go.Proofs.YtnoglmdicdpabaaDoor.PFnExactParseStamp
open Go.RowKit Go.Proofs.YtnoglmdicdpabaaDoorW.PrintWords Go.Proofs.YtnoglmdicdpabaaDoorW.PrintLast Go.Proofs.YtnoglmdicdpabaaDoorW.PrintMore Go.Proofs.YtnoglmdicdpabaaDoor.St
attribute [local go_sem] max2_int min2_int max_two min_two max_three min_three max_four min_four
set_option linter.unusedVariables false
set_option linter.unusedSimpArgs false
def impl_StampText.f (a0_0:Int) (a0_1:Int) (a0_2:Int):Option (ByteArray):=(impl_StampOk.f a0_0 a0_1 a0_2).bind fun t133=>(if t133=true then ((strconv_Itoa.f a0_0).bind fun t134=>(if t134.size+1≤9223372036854775807 then ((strconv_Itoa.f a0_1).bind fun t135=>(if (t134 ++ (⟨#[46]⟩:ByteArray)).size+t135.size≤9223372036854775807 then (if ((t134 ++ (⟨#[46]⟩:ByteArray)) ++ t135).size+1≤9223372036854775807 then ((strconv_Itoa.f a0_2).bind fun t136=>(if (((t134 ++ (⟨#[46]⟩:ByteArray)) ++ t135) ++ (⟨#[46]⟩:ByteArray)).size+t136.size≤9223372036854775807 then (some ((((t134 ++ (⟨#[46]⟩:ByteArray)) ++ t135) ++ (⟨#[46]⟩:ByteArray)) ++ t136)) else (none))) else (none)) else (none))) else (none))) else (some (⟨#[]⟩:ByteArray)))
def impl_StampText.T3:Bool × List (List Nat × List Nat):=(true,[([],[]),([0],[0]),([1],[1]),([2],[2]),([],[]),([4],[4]),([5,2],[5]),([3,6],[3,6]),([7],[7]),([],[]),([9],[9]),([10,6],[10]),([8,11],[8,11]),([12,11,0,1,2,3,4,5,6,7,8,9,10,11,12],[12])])
def impl_StampText.B3:List Nat:=[0,1,3,7,0,16,55,127,255,0,512,1655,4095,8191]
theorem impl_StampText.tab3:rtab .any (opsOf Tryd.f13 3)=impl_StampText.T3:=by kernel_rfl
theorem impl_StampText.bits3:waitsOk impl_StampText.T3.2 impl_StampText.B3=true:=by kernel_rfl
set_option maxHeartbeats 8000000 in
set_option maxRecDepth 100000 in
theorem impl_StampText.calls (a0_0:Int) (a0_1:Int) (a0_2:Int) (r:ByteArray) (w:World) (hL:Aside0 (Laid w)) (h:impl_StampText.f a0_0 a0_1 a0_2=some r) :
  Calls Tryd.prog 13 #[.agg #[.int .i64 a0_0,.int .i64 a0_1,.int .i64 a0_2]] w fun e w'=>e = .returned (.string r)∧Below w.heap.size w w':=by
 have hu25:=Tryd.underlying25
 have HB:=Aside0.mk (Below.refl w.heap.size w)
 have H:((impl_StampOk.f a0_0 a0_1 a0_2).bind fun t133=>(if t133=true then ((strconv_Itoa.f a0_0).bind fun t134=>(if t134.size+1≤9223372036854775807 then ((strconv_Itoa.f a0_1).bind fun t135=>(if (t134 ++ (⟨#[46]⟩:ByteArray)).size+t135.size≤9223372036854775807 then (if ((t134 ++ (⟨#[46]⟩:ByteArray)) ++ t135).size+1≤9223372036854775807 then ((strconv_Itoa.f a0_2).bind fun t136=>(if (((t134 ++ (⟨#[46]⟩:ByteArray)) ++ t135) ++ (⟨#[46]⟩:ByteArray)).size+t136.size≤9223372036854775807 then (some ((((t134 ++ (⟨#[46]⟩:ByteArray)) ++ t135) ++ (⟨#[46]⟩:ByteArray)) ++ t136)) else (none))) else (none)) else (none))) else (none))) else (some (⟨#[]⟩:ByteArray))))=some r:=h
 clear h
 replace H:=Option.bind_eq_some_iff.mp H
 obtain ⟨t133,A20,H⟩:=H
 try dsimp only at H
 have A2:=Aside0.mk A20
 clear A20
 by_cases c3:t133=true
 ·subst c3
  rw [if_pos rfl] at H
  replace H:=Option.bind_eq_some_iff.mp H
  obtain ⟨t134,A40,H⟩:=H
  try dsimp only at H
  have A4:=Aside0.mk A40
  clear A40
  by_cases c5:t134.size+1≤9223372036854775807
  ·rw [if_pos c5] at H
   have c5b0:=eq_true c5
   have c5b1:decide (t134.size+1≤9223372036854775807)=true:=decide_eq_true c5
   try have c5b2:(9223372036854775807 < t134.size+1)=False:=eq_false (Nat.not_lt.2 c5)
   replace H:=Option.bind_eq_some_iff.mp H
   obtain ⟨t135,A60,H⟩:=H
   try dsimp only at H
   have A6:=Aside0.mk A60
   clear A60
   by_cases c7:(t134 ++ (⟨#[46]⟩:ByteArray)).size+t135.size≤9223372036854775807
   ·rw [if_pos c7] at H
    have c7b0:=eq_true c7
    have c7b1:decide ((t134 ++ (⟨#[46]⟩:ByteArray)).size+t135.size≤9223372036854775807)=true:=decide_eq_true c7
    try have c7b2:(9223372036854775807 < (t134 ++ (⟨#[46]⟩:ByteArray)).size+t135.size)=False:=eq_false (Nat.not_lt.2 c7)
    try (have c7b3:=Nat.not_lt.2 c7;simp only [ByteArray.size_append,one_size] at c7b3;replace c7b3:=eq_false c7b3)
    by_cases c8:((t134 ++ (⟨#[46]⟩:ByteArray)) ++ t135).size+1≤9223372036854775807
    ·rw [if_pos c8] at H
     have c8b0:=eq_true c8
     have c8b1:decide (((t134 ++ (⟨#[46]⟩:ByteArray)) ++ t135).size+1≤9223372036854775807)=true:=decide_eq_true c8
     try have c8b2:(9223372036854775807 < ((t134 ++ (⟨#[46]⟩:ByteArray)) ++ t135).size+1)=False:=eq_false (Nat.not_lt.2 c8)
     try (have c8b3:=Nat.not_lt.2 c8;simp only [ByteArray.size_append,one_size] at c8b3;replace c8b3:=eq_false c8b3)
     replace H:=Option.bind_eq_some_iff.mp H
     obtain ⟨t136,A90,H⟩:=H
     try dsimp only at H
     have A9:=Aside0.mk A90
     clear A90
     by_cases c10:(((t134 ++ (⟨#[46]⟩:ByteArray)) ++ t135) ++ (⟨#[46]⟩:ByteArray)).size+t136.size≤9223372036854775807
     ·rw [if_pos c10] at H
      have c10b0:=eq_true c10
      have c10b1:decide ((((t134 ++ (⟨#[46]⟩:ByteArray)) ++ t135) ++ (⟨#[46]⟩:ByteArray)).size+t136.size≤9223372036854775807)=true:=decide_eq_true c10
      try have c10b2:(9223372036854775807 < (((t134 ++ (⟨#[46]⟩:ByteArray)) ++ t135) ++ (⟨#[46]⟩:ByteArray)).size+t136.size)=False:=eq_false (Nat.not_lt.2 c10)
      try (have c10b3:=Nat.not_lt.2 c10;simp only [ByteArray.size_append,one_size] at c10b3;replace c10b3:=eq_false c10b3)
      obtain rfl:=Option.some.inj H
      go_enter Tryd.func13,Tryd.ntmps13
      try go_wp2_with (first|((with_reducible refine gate_dst (N:=1) rfl ?_);refine box_event ?hg (N:=1) ?hd (cs:=#[.int .i64 a0_0,.int .i64 a0_1,.int .i64 a0_2]) (t:=25) ?hr ?_;(case hd=>rfl);(case hg=>rfl);(case hr=>first|(go_simp;done)|(go_simp;rfl));intro gb132 hg w11 hbox hb;have n0_:=bs hb;have n1_:=Aside0.mk (hbox);have n2_:=Aside0.mk ((by rw [hg];exact (below_size be):w.heap.size≤gb132));have n3_:=Aside0.mk ((by rw [hg];exact (below_size be):w.heap.size≤gb132));clear HB;have HB:=n0_;have BK132:=n1_;have GW132:=n2_;have GE132:=n3_;clear n0_ n1_ n2_ n3_;clear hb hbox hg;have hcz12_0:w11.cell? ⟨gb132,0,none⟩=some (.int .i64 a0_0):=(blk_cell BK132.out 0).trans rfl;have hcz12_1:w11.cell? ⟨gb132,1,none⟩=some (.int .i64 a0_1):=(blk_cell BK132.out 1).trans rfl;have hcz12_2:w11.cell? ⟨gb132,2,none⟩=some (.int .i64 a0_2):=(blk_cell BK132.out 2).trans rfl;have hfz12_0:=blk_frozen BK132.out 0;have hfz12_1:=blk_frozen BK132.out 1;have hfz12_2:=blk_frozen BK132.out 2)|((with_reducible refine gate_callee (f:=27) rfl ?_);refine goesL_ (some 4) rfl rfl Tryd.func27 (by kernel_rfl) rfl #[.agg #[.int .i64 a0_0,.int .i64 a0_1,.int .i64 a0_2]] rfl (by (try simp only [List.map_toArray,List.map_cons,List.map_nil]);first|done|rfl|(simp only [List.length_drop,List.length_take];rfl)) ?_;(with_reducible refine (impl_StampOk.calls a0_0 a0_1 a0_2 true _ A2.out).mono ?_);rintro e w13 ⟨rfl,hb⟩;refine ⟨_,rfl,?_⟩;have n0_:=Aside0.mk (blk_below (g:=gb132) (o:=.cells #[.int .i64 a0_0,.int .i64 a0_1,.int .i64 a0_2] 25 (0,0)) (bk BK132) hb);have n1_:=bs hb;clear BK132;clear HB;have BK132:=n0_;have HB:=n1_;clear n0_ n1_;(try clear hb);(try clear hb2);(try clear hk);(try clear hi)))
      have n0_:=Aside0.mk (blk_drew BK132.out)
      have n1_:=Aside0.mk (below_drew1 HB.out)
      clear BK132
      clear HB
      have BK132:=n0_
      have HB:=n1_
      clear n0_ n1_
      refine start_ (n:=14) (S:=fun w'=>w'.cell? ⟨gb132,0,none⟩=some (.int .i64 a0_0)∧w'.cell? ⟨gb132,1,none⟩=some (.int .i64 a0_1)∧w'.cell? ⟨gb132,2,none⟩=some (.int .i64 a0_2)) (ds:=[]) (fl 14 0) (by kernel_rfl) rfl rfl ⟨(blk_cell BK132.out 0).trans rfl,(blk_cell BK132.out 1).trans rfl,(blk_cell BK132.out 2).trans rfl⟩ (fun hHeld=>?_);refine with_tabW impl_StampText.tab3 impl_StampText.bits3 (fun HT_ HW_=>?_)
      generalize w13.drew=w14 at BK132 HB hHeld ⊢
      refine pt 0 6 (fl 14 1) HT_ ?_
      refine pt 4 10 (fl 14 17) HT_ ?_
      refine pt 9 15 (fl 14 529) HT_ ?_
      refine tt 1 7 (fl 14 531) HT_ HW_ hHeld ?_
      refine tt 5 11 (fl 14 563) HT_ HW_ hHeld ?_
      refine tt 10 16 (fl 14 1587) HT_ HW_ hHeld ?_
      refine ot 2 (some 8) (fl 14 1591) HT_ (fun K hK=>?_)
      refine goes_ Tryd.func42 (by kernel_rfl) rfl #[.int .i64 a0_0] (by rfl) rfl rfl (by (try simp only [List.map_toArray,List.map_cons,List.map_nil]);first|done|rfl|(simp only [List.length_drop,List.length_take];rfl)) ?_
      with_reducible refine (strconv_Itoa.calls a0_0 t134 _ ?side1 A4.out).mono ?_
      (case side1=>exact lb hL)
      rintro e w15 ⟨rfl,hb⟩
      refine ⟨_,rfl,?_⟩
      have n0_:=Aside0.mk (blk_below (g:=gb132) (o:=.cells #[.int .i64 a0_0,.int .i64 a0_1,.int .i64 a0_2] 25 (0,0)) (bk BK132) hb)
      have n1_:=bs hb
      clear BK132
      clear HB
      have BK132:=n0_
      have HB:=n1_
      clear n0_ n1_
      (try clear hb)
      (try clear hb2)
      (try clear hk)
      (try clear hi)
      refine hK.out _ _ ⟨(blk_cell BK132.out 0).trans rfl,(blk_cell BK132.out 1).trans rfl,(blk_cell BK132.out 2).trans rfl⟩ (fun hHeld=>?_)
      clear hK K
      refine no 8 ?_
      refine pt 3 9 (fl 14 1599) HT_ ?_
      refine ot 6 (some 12) (fl 14 1663) HT_ (fun K hK=>?_)
      refine goes_ Tryd.func42 (by kernel_rfl) rfl #[.int .i64 a0_1] (by rfl) rfl rfl (by (try simp only [List.map_toArray,List.map_cons,List.map_nil]);first|done|rfl|(simp only [List.length_drop,List.length_take];rfl)) ?_
      with_reducible refine (strconv_Itoa.calls a0_1 t135 _ ?side1 A6.out).mono ?_
      (case side1=>exact lb hL)
      rintro e w16 ⟨rfl,hb⟩
      refine ⟨_,rfl,?_⟩
      have n0_:=Aside0.mk (blk_below (g:=gb132) (o:=.cells #[.int .i64 a0_0,.int .i64 a0_1,.int .i64 a0_2] 25 (0,0)) (bk BK132) hb)
      have n1_:=bs hb
      clear BK132
      clear HB
      have BK132:=n0_
      have HB:=n1_
      clear n0_ n1_
      (try clear hb)
      (try clear hb2)
      (try clear hk)
      (try clear hi)
      refine hK.out _ _ ⟨(blk_cell BK132.out 0).trans rfl,(blk_cell BK132.out 1).trans rfl,(blk_cell BK132.out 2).trans rfl⟩ (fun hHeld=>?_)
      clear hK K
      refine no 12 ?_
      refine pt 7 13 (fl 14 1791) HT_ ?_
      refine pt 8 14 (fl 14 2047) HT_ ?_
      refine ot 11 (some 17) (fl 14 4095) HT_ (fun K hK=>?_)
      refine goes_ Tryd.func42 (by kernel_rfl) rfl #[.int .i64 a0_2] (by rfl) rfl rfl (by (try simp only [List.map_toArray,List.map_cons,List.map_nil]);first|done|rfl|(simp only [List.length_drop,List.length_take];rfl)) ?_
      with_reducible refine (strconv_Itoa.calls a0_2 t136 _ ?side1 A9.out).mono ?_
      (case side1=>exact lb hL)
      rintro e w17 ⟨rfl,hb⟩
      refine ⟨_,rfl,?_⟩
      have n0_:=Aside0.mk (blk_below (g:=gb132) (o:=.cells #[.int .i64 a0_0,.int .i64 a0_1,.int .i64 a0_2] 25 (0,0)) (bk BK132) hb)
      have n1_:=bs hb
      clear BK132
      clear HB
      have BK132:=n0_
      have HB:=n1_
      clear n0_ n1_
      (try clear hb)
      (try clear hb2)
      (try clear hk)
      (try clear hi)
      refine hK.out _ _ ⟨(blk_cell BK132.out 0).trans rfl,(blk_cell BK132.out 1).trans rfl,(blk_cell BK132.out 2).trans rfl⟩ (fun hHeld=>?_)
      clear hK K
      refine no 17 ?_
      refine pt 12 18 (fl 14 8191) HT_ ?_
      refine pt 13 2 (fl 14 16383) HT_ ?_
      refine done_ (done_of HT_.out (by kernel_rfl)) ?_
      try go_wp2
      go_ret
      exact ⟨rz,be⟩
     ·rw [if_neg c10] at H
      exact absurd H (by simp)
    ·rw [if_neg c8] at H
     exact absurd H (by simp)
   ·rw [if_neg c7] at H
    exact absurd H (by simp)
  ·rw [if_neg c5] at H
   exact absurd H (by simp)
 ·replace c3:=Bool.eq_false_iff.mpr c3
  subst c3
  have H1:(some (⟨#[]⟩:ByteArray))=some r:=by rw [if_neg (show ¬ (false=true) by decide)] at H;exact H
  clear H
  have H:=H1
  clear H1
  obtain rfl:=Option.some.inj H
  go_enter Tryd.func13,Tryd.ntmps13
  go_wp2_with (first|((with_reducible refine gate_dst (N:=1) rfl ?_);refine box_event ?hg (N:=1) ?hd (cs:=#[.int .i64 a0_0,.int .i64 a0_1,.int .i64 a0_2]) (t:=25) ?hr ?_;(case hd=>rfl);(case hg=>rfl);(case hr=>first|(go_simp;done)|(go_simp;rfl));intro gb132 hg w18 hbox hb;have n0_:=bs hb;have n1_:=Aside0.mk (hbox);have n2_:=Aside0.mk ((by rw [hg];exact (below_size be):w.heap.size≤gb132));have n3_:=Aside0.mk ((by rw [hg];exact (below_size be):w.heap.size≤gb132));clear HB;have HB:=n0_;have BK132:=n1_;have GW132:=n2_;have GE132:=n3_;clear n0_ n1_ n2_ n3_;clear hb hbox hg;have hcz19_0:w18.cell? ⟨gb132,0,none⟩=some (.int .i64 a0_0):=(blk_cell BK132.out 0).trans rfl;have hcz19_1:w18.cell? ⟨gb132,1,none⟩=some (.int .i64 a0_1):=(blk_cell BK132.out 1).trans rfl;have hcz19_2:w18.cell? ⟨gb132,2,none⟩=some (.int .i64 a0_2):=(blk_cell BK132.out 2).trans rfl;have hfz19_0:=blk_frozen BK132.out 0;have hfz19_1:=blk_frozen BK132.out 1;have hfz19_2:=blk_frozen BK132.out 2)|((with_reducible refine gate_callee (f:=27) rfl ?_);refine goesL_ (some 4) rfl rfl Tryd.func27 (by kernel_rfl) rfl #[.agg #[.int .i64 a0_0,.int .i64 a0_1,.int .i64 a0_2]] rfl (by (try simp only [List.map_toArray,List.map_cons,List.map_nil]);first|done|rfl|(simp only [List.length_drop,List.length_take];rfl)) ?_;(with_reducible refine (impl_StampOk.calls a0_0 a0_1 a0_2 false _ A2.out).mono ?_);rintro e w20 ⟨rfl,hb⟩;refine ⟨_,rfl,?_⟩;have n0_:=Aside0.mk (blk_below (g:=gb132) (o:=.cells #[.int .i64 a0_0,.int .i64 a0_1,.int .i64 a0_2] 25 (0,0)) (bk BK132) hb);have n1_:=bs hb;clear BK132;clear HB;have BK132:=n0_;have HB:=n1_;clear n0_ n1_;(try clear hb);(try clear hb2);(try clear hk);(try clear hi)))
  go_ret
  exact ⟨rz,be⟩
def strings_Split.f (a0:ByteArray) (a1:ByteArray):Option (List ByteArray):=if a0.size < 4294967281∧1≤a1.size then some (Lib.splitB a1 0 (Lib.countB a0 a1) a0) else none
theorem strings_Split.calls (a0:ByteArray) (a1:ByteArray) (r:List ByteArray) (w:World) (hL:Aside0 (Go.Proofs.YtnoglmdicdpabaaDoor.St.Laid w)) (h:strings_Split.f a0 a1=some r) :
  Calls Tryd.prog 56 #[.string a0,.string a1] w fun e w'=>∃ v0_:Value,e = .returned (v0_)∧Kd.R Kd.string 9 w' w.heap.size (fun _=>True) v0_ r∧Below w.heap.size w w':=by
 unfold strings_Split.f at h
 by_cases hl:a0.size < 4294967281∧1≤a1.size
 ·rw [if_pos hl] at h
  obtain rfl:=Option.some.inj h
  obtain ⟨m,hm⟩:=hL.out.max
  refine (Tryd.strings_Split a0 a1 m w hl.1 hm hl.2).mono fun e w' he=>?_
  obtain ⟨rfl,rfl⟩:=he
  have hlen:=Lib.splitB_all a1 hl.2 0 (Lib.countB a0 a1) a0 rfl
  have hc:=Lib.countB_le a1 hl.2 a0.size a0 (Nat.le_refl _)
  refine ⟨_,rfl,Kd.R_of_own ⟨by simp [encs],Or.inr ⟨w.heap.size,Lib.countB a0 a1+1,((Lib.splitB a1 0 (Lib.countB a0 a1) a0).map Value.string).toArray,by rw [hlen],Nat.le_refl _,Array.getElem?_push_size,by omega,by unfold maxLen;omega,by simp [hlen],?_⟩⟩ (fun _ _=>trivial),(Below.refl _ _).alloc (Nat.le_refl _) _⟩
  rw [List.toList_toArray,Nat.mul_one,List.take_of_length_le (by simp)]
  rfl
 ·rw [if_neg hl] at h
  cases h
def atoiRes (l:List UInt8):Int × Option Int:=match Lib.atoiAll l with
 | .ok v=>(v,none)
 | .range=>(Lib.atoiSat l,some 0)
 | _=>(0,some 0)
def strconv_Atoi.f (a0:ByteArray):Option (Int × Option Int):=if a0.size≤281474976710656 then some (atoiRes a0.data.toList) else none
theorem strconv_Atoi.calls (a0:ByteArray) (r1:Int) (r2:Option Int) (w:World) (hL:Aside0 (Go.Proofs.YtnoglmdicdpabaaDoor.St.Laid w)) (h:strconv_Atoi.f a0=some (r1,r2)) :
  Calls Tryd.prog 66 #[.string a0] w fun e w'=>∃ (E_:Option Int→Value) (N_:Nat),E_ none = .nilIface∧(∀ c,E_ (some c) = .iface 111 (.pointer (some ⟨N_,0,none⟩)))∧e = .returned (.tuple #[.int .i64 r1,E_ r2])∧Below w.heap.size w w':=by
 unfold strconv_Atoi.f at h
 by_cases hl:a0.size≤281474976710656
 ·rw [if_pos hl] at h
  have h:=Option.some.inj h
  rw [atoiRes] at h
  cases e:Lib.atoiAll a0.data.toList with
  | ok v=>
   rw [e] at h
   simp only [Prod.mk.injEq] at h
   obtain ⟨rfl,rfl⟩:=h
   refine (Tryd.strconv_Atoi_ok a0 (by omega) v e w).mono fun e w' he=>?_
   obtain ⟨rfl,hw⟩:=he
   refine ⟨fun|none=>.nilIface|some _=>.iface 111 (.pointer (some ⟨0,0,none⟩)),0,rfl,fun _=>rfl,rfl,?_⟩
   rcases hw with rfl|⟨t,rfl⟩
   ·exact Below.refl _ _
   ·exact Lib.bytesWorld_below _ _ _
  | range=>
   rw [e] at h
   simp only [Prod.mk.injEq] at h
   obtain ⟨rfl,rfl⟩:=h
   obtain ⟨tp,p,hv⟩:=hL.out.rng
   refine (Tryd.strconv_Atoi_range_var a0 hl e tp p w hv).mono fun e w' he=>?_
   obtain ⟨N,rfl,_,_,hb⟩:=he
   exact ⟨fun|none=>.nilIface|some _=>.iface 111 (.pointer (some ⟨N,0,none⟩)),N,rfl,fun _=>rfl,rfl,hb⟩
  | _=>
   rw [e] at h
   simp only [Prod.mk.injEq] at h
   obtain ⟨rfl,rfl⟩:=h
   obtain ⟨tp,p,hv⟩:=hL.out.syn
   refine (Tryd.strconv_Atoi_syntax_var a0 hl _ ⟨fun _ c=>(by cases c),fun c=>(by cases c)⟩ e tp p w hv).mono fun e w' he=>?_
   obtain ⟨N,rfl,_,_,hb⟩:=he
   exact ⟨fun|none=>.nilIface|some _=>.iface 111 (.pointer (some ⟨N,0,none⟩)),N,rfl,fun _=>rfl,rfl,hb⟩
 ·rw [if_neg hl] at h
  cases h
def impl_numbersOf.l0:Nat→Int→List Int→List ByteArray→Int→Int→Option (List Int × Bool)
 | 0,_,_,_,_,_=>none
 | k+1,x2,x8,x15,x16,x17=>if x17 < x16 then (if 0≤x17 then (if x17 < (x15.length:Int) then ((strconv_Atoi.f (rdOf ByteArray.empty x15 x17)).bind fun bt141=>(if bt141.2.isNone=true then (if (x8.length:Int) ≥ x2 then (some (([]:List Int),false)) else (if x8.length < 17592186044416 then (impl_numbersOf.l0 k x2 (x8 ++ [bt141.1]) x15 x16 (wrap64 (x17+1))) else (none))) else (some (([]:List Int),false)))) else (none)) else (none)) else (some (x8,((x8.length:Int) == x2)))
def impl_numbersOf.f (k:Nat) (a0:ByteArray) (a1:ByteArray) (a2:Int):Option (List Int × Bool):=(strings_Split.f a0 a1).bind fun t137=>(impl_numbersOf.l0 k a2 ([]:List Int) t137 (t137.length:Int) 0)
set_option maxHeartbeats 8000000 in
set_option maxRecDepth 100000 in
theorem impl_numbersOf.calls (k:Nat) (a0:ByteArray) (a1:ByteArray) (a2:Int) (r1:List Int) (r2:Bool) (w:World) (hL:Aside0 (Laid w)) (h:impl_numbersOf.f k a0 a1 a2=some (r1,r2)) :
  Calls Tryd.prog 48 #[.string a0,.string a1,.int .i64 a2] w fun e w'=>∃ v0_:Value,e = .returned (.tuple #[v0_,.bool r2])∧Kd.R (Kd.int .i64) 3 w' w.heap.size (fun _=>True) v0_ r1∧Below w.heap.size w w':=by
 have hu82:=Tryd.underlying82
 have HB:=Aside0.mk (Below.refl w.heap.size w)
 have H:((strings_Split.f a0 a1).bind fun t137=>(impl_numbersOf.l0 k a2 ([]:List Int) t137 (t137.length:Int) 0))=some (r1,r2):=h
 clear h
 replace H:=Option.bind_eq_some_iff.mp H
 obtain ⟨t137,A40,H⟩:=H
 try dsimp only at H
 have A4:=Aside0.mk A40
 clear A40
 have H':=Aside0.mk H
 clear H
 go_enter Tryd.func48,Tryd.ntmps48
 go_wp2_with (first|((with_reducible refine gate_callee (f:=56) rfl ?_);refine goesL_ (some 15) rfl rfl Tryd.func56 (by kernel_rfl) rfl #[.string a0,.string a1] rfl (by (try simp only [List.map_toArray,List.map_cons,List.map_nil]);first|done|rfl|(simp only [List.length_drop,List.length_take];rfl)) ?_;(with_reducible refine (strings_Split.calls a0 a1 t137 _ ?side1 A4.out).mono ?_);(case side1=>exact lb hL);rintro e w5 ⟨v138,rfl,ho0,hb⟩;refine ⟨_,rfl,?_⟩;have n0_:=Aside0.mk (Kd.R_lower ho0 (below_size be));have n1_:=bs hb;clear HB;have HO139:=n0_;have HB:=n1_;clear n0_ n1_;(try clear hb);(try clear hb2);(try clear hk);(try clear hi);(try clear ho0);obtain ⟨Ao6,co6,eo6⟩:=Kd.R_slice HO139.out;subst eo6))
 go_loopg [8,17] k (fun kq v8 v17 w'=>∃ (x8_1:List Int) (x17_1:Int),v17 = .int .i64 x17_1∧Aside0 (impl_numbersOf.l0 kq a2 x8_1 t137 (t137.length:Int) x17_1=some (r1,r2))∧Aside0 (kq≤k)∧Aside0 (Kd.R (Kd.int .i64) 3 w' w.heap.size (fun _=>True) v8 x8_1)∧Aside0 (Kd.R Kd.string 9 w' w.heap.size (fun _=>True) (.slice Ao6 t137.length co6) t137)∧Aside0 (Below w.heap.size w w'))
 case atStart=>exact ⟨(([]:List Int)),(0),rd_,H',⟨Nat.le_refl _⟩,⟨by first|exact Kd.R_nil _ _ _ _ _|exact Kd.N_nil _ _ _ _ _|exact Kd.V_nil _ _ _ _ _|exact Kd.Q_nil _ _ _ _ _|exact Kd.S_nil _ _ _ _ _⟩,⟨rR HO139⟩,⟨be⟩⟩
 case round=>
  clear H'
  try clear p2
  try clear c4
  try clear c5
  obtain ⟨x8_1,x17_1,rfl,HA,HK1,HO_8,HO_15,HB⟩:=hrel
  cases gk with
  | zero=>exact absurd HA.out (by simp [impl_numbersOf.l0])
  | succ k1=>
   have H:=HA.out
   clear HA
   simp only [impl_numbersOf.l0] at H
   by_cases c7:x17_1 < (t137.length:Int)
   ·rw [if_pos c7] at H
    have c7b0:decide (x17_1 < (t137.length:Int))=true:=decide_eq_true c7
    clear c7
    by_cases c8:0≤x17_1
    ·rw [if_pos c8] at H
     have c8b0:decide (0≤x17_1)=true:=decide_eq_true c8
     clear c8
     by_cases c9:x17_1 < (t137.length:Int)
     ·rw [if_pos c9] at H
      have c9b0:decide (x17_1 < (t137.length:Int))=true:=decide_eq_true c9
      clear c9
      replace H:=Option.bind_eq_some_iff.mp H
      obtain ⟨⟨t141,t142⟩,A100,H⟩:=H
      try dsimp only at H
      have A10:=Aside0.mk A100
      clear A100
      rcases t142 with _|q143
      ·have H1:(if (x8_1.length:Int) ≥ a2 then (some (([]:List Int),false)) else (if x8_1.length < 17592186044416 then (impl_numbersOf.l0 k1 a2 (x8_1 ++ [t141]) t137 (t137.length:Int) (wrap64 (x17_1+1))) else (none)))=some (r1,r2):=by rw [if_pos (show (none:Option Int).isNone=true by rfl)] at H;exact H
       clear H
       have H:=H1
       clear H1
       try simp only [errW_none,errW_some]
       by_cases c11:(x8_1.length:Int) ≥ a2
       ·rw [if_pos c11] at H
        have c11b0:decide (a2≤(x8_1.length:Int))=true:=decide_eq_true c11
        clear c11
        simp only [Option.some.injEq,Prod.mk.injEq] at H
        obtain ⟨rfl,rfl⟩:=H
        have p140:0≤(x17_1:Int):=of_decide_eq_true (by first|(with_reducible assumption)|assumption)
        have q140:x17_1 < (t137.length:Int):=of_decide_eq_true (by first|(with_reducible assumption)|assumption)
        obtain ⟨ad140,e140,hx140_0⟩:=Kd.at_string (Kd.R_reads' HO_15.out).2.2 x17_1 p140 q140
        cases e140
        replace p140:=eq_true p140
        replace q140:=eq_true q140
        go_wp2_with (first|((with_reducible refine gate_callee (f:=66) rfl ?_);refine goesL_ (some 23) rfl rfl Tryd.func66 (by kernel_rfl) rfl #[.string (rdOf ByteArray.empty t137 x17_1)] rfl (by (try simp only [List.map_toArray,List.map_cons,List.map_nil]);first|done|rfl|(simp only [List.length_drop,List.length_take];rfl)) ?_;(with_reducible refine (strconv_Atoi.calls (rdOf ByteArray.empty t137 x17_1) t141 none _ ?side1 A10.out).mono ?_);(case side1=>exact lb hL);rintro e w12 ⟨E_,N_,E0_,E1_,rfl,hb⟩;refine ⟨_,rfl,?_⟩;(try simp only [E0_,E1_]);have n0_:=Aside0.mk (Kd.R_below ((rR HO_8)) hb);have n1_:=Aside0.mk (Kd.R_below ((rR HO_15)) hb);have n2_:=bs hb;clear HO_8;clear HO_15;clear HB;have HO_8:=n0_;have HO_15:=n1_;have HB:=n2_;clear n0_ n1_ n2_;(try clear hb);(try clear hb2);(try clear hk);(try clear hi);(try simp only [errW_none,errW_some]);obtain ⟨Ao13,co13,eo13⟩:=Kd.R_slice HO_8.out;subst eo13))
        go_ret2
        exact ⟨_,by first|rfl|(simp [errW_none,errW_some] <;> rfl)|(simp [*,errW_none,errW_some] <;> rfl),by first|exact Kd.R_nil _ _ _ _ _|exact Kd.N_nil _ _ _ _ _|exact Kd.V_nil _ _ _ _ _|exact Kd.Q_nil _ _ _ _ _|exact Kd.S_nil _ _ _ _ _,be⟩
       ·rw [if_neg c11] at H
        have c11b0:decide (a2≤(x8_1.length:Int))=false:=decide_eq_false c11
        clear c11
        by_cases c14:x8_1.length < 17592186044416
        ·rw [if_pos c14] at H
         have LMc14:=Aside0.mk c14
         clear c14
         obtain ⟨y144,hy144⟩ : ∃ y_:List Int,y_=(x8_1 ++ [t141]):=⟨_,rfl⟩
         replace H:(impl_numbersOf.l0 k1 a2 y144 t137 (t137.length:Int) (wrap64 (x17_1+1)))=some (r1,r2):=by first|(rw [hy144];with_reducible exact H)|(have H2_:=(Option.bind_some _ _).symm.trans H;rw [hy144];with_reducible exact H2_)|(have H2_:=(Option.bind_some _ _).symm.trans H;with_reducible exact H2_)|with_reducible exact H|(rw [hy144];exact H)|exact H
         have Ny144:=Aside0.mk hy144
         clear hy144
         have H':=Aside0.mk H
         clear H
         have p140:0≤(x17_1:Int):=of_decide_eq_true (by first|(with_reducible assumption)|assumption)
         have q140:x17_1 < (t137.length:Int):=of_decide_eq_true (by first|(with_reducible assumption)|assumption)
         obtain ⟨ad140,e140,hx140_0⟩:=Kd.at_string (Kd.R_reads' HO_15.out).2.2 x17_1 p140 q140
         cases e140
         replace p140:=eq_true p140
         replace q140:=eq_true q140
         go_wp2_with (first|((with_reducible refine gate_callee (f:=66) rfl ?_);refine goesL_ (some 23) rfl rfl Tryd.func66 (by kernel_rfl) rfl #[.string (rdOf ByteArray.empty t137 x17_1)] rfl (by (try simp only [List.map_toArray,List.map_cons,List.map_nil]);first|done|rfl|(simp only [List.length_drop,List.length_take];rfl)) ?_;(with_reducible refine (strconv_Atoi.calls (rdOf ByteArray.empty t137 x17_1) t141 none _ ?side1 A10.out).mono ?_);(case side1=>exact lb hL);rintro e w15 ⟨E_,N_,E0_,E1_,rfl,hb⟩;refine ⟨_,rfl,?_⟩;(try simp only [E0_,E1_]);have n0_:=Aside0.mk (Kd.R_below ((rR HO_8)) hb);have n1_:=Aside0.mk (Kd.R_below ((rR HO_15)) hb);have n2_:=bs hb;clear HO_8;clear HO_15;clear HB;have HO_8:=n0_;have HO_15:=n1_;have HB:=n2_;clear n0_ n1_ n2_;(try clear hb);(try clear hb2);(try clear hk);(try clear hi);(try simp only [errW_none,errW_some]);obtain ⟨Ao16,co16,eo16⟩:=Kd.R_slice HO_8.out;subst eo16)|((with_reducible refine gate_builtin (b:=.append) (xs:=#[.tmp 34,.tmp 36]) rfl ?_);(try (refine gate_guard (by rfl) ?_;dsimp only));at_builtin;refine Kd.R_append (Kd.int .i64) (w0:=w) w.heap.size rfl (.tmp 34) (.tmp 36) 50 3 (.int .i64 0) 8 rfl Tryd.underlying50 info3 rfl (by decide) (by omega) (.slice Ao16 x8_1.length co16) x8_1 t141 [.int .i64 t141] (fun _=>True) (fun _=>False) rfl rfl ?aP (fun _ hk=>hk.elim) ?aF ?aO ?aB ?aS ?aL ?_;(case aP=>exact rfl);(case aB=>exact be);(case aF=>exact (fun _ _=>trivial));(case aO=>exact (rR HO_8));(case aS=>exact (below_size be));(case aL=>have:=LMc14.out;omega);intro v145 w17 ho hb hg hat;rw [← Ny144.out] at ho;have n0_:=Aside0.mk (Kd.R_over' (rR HO_15) (Kd.R_typed (rR HO_8)) (by decide) hg);have n1_:=Aside0.mk (hb);have n2_:=Aside0.mk (ho);clear HO_15;clear HB;clear HO_8;have HO_15:=n0_;have HB:=n1_;have HO146:=n2_;clear n0_ n1_ n2_;clear ho hb hg hat))
         go_roundg k1
         case measure=>have:=HK1.out;omega
         case rel=>exact ⟨(y144),(wrap64 (x17_1+1)),rd_,H',⟨by have:=HK1.out;omega⟩,⟨rR HO146⟩,⟨rR HO_15⟩,⟨be⟩⟩
        ·rw [if_neg c14] at H
         exact absurd H (by simp)
      ·have H1:(some (([]:List Int),false))=some (r1,r2):=by rw [if_neg (show ¬ (some q143).isNone=true by simp)] at H;exact H
       clear H
       have H:=H1
       clear H1
       try simp only [errW_none,errW_some]
       simp only [Option.some.injEq,Prod.mk.injEq] at H
       obtain ⟨rfl,rfl⟩:=H
       have p140:0≤(x17_1:Int):=of_decide_eq_true (by first|(with_reducible assumption)|assumption)
       have q140:x17_1 < (t137.length:Int):=of_decide_eq_true (by first|(with_reducible assumption)|assumption)
       obtain ⟨ad140,e140,hx140_0⟩:=Kd.at_string (Kd.R_reads' HO_15.out).2.2 x17_1 p140 q140
       cases e140
       replace p140:=eq_true p140
       replace q140:=eq_true q140
       go_wp2_with (first|((with_reducible refine gate_callee (f:=66) rfl ?_);refine goesL_ (some 23) rfl rfl Tryd.func66 (by kernel_rfl) rfl #[.string (rdOf ByteArray.empty t137 x17_1)] rfl (by (try simp only [List.map_toArray,List.map_cons,List.map_nil]);first|done|rfl|(simp only [List.length_drop,List.length_take];rfl)) ?_;(with_reducible refine (strconv_Atoi.calls (rdOf ByteArray.empty t137 x17_1) t141 (some q143) _ ?side1 A10.out).mono ?_);(case side1=>exact lb hL);rintro e w18 ⟨E_,N_,E0_,E1_,rfl,hb⟩;refine ⟨_,rfl,?_⟩;(try simp only [E0_,E1_]);have n0_:=Aside0.mk (Kd.R_below ((rR HO_8)) hb);have n1_:=Aside0.mk (Kd.R_below ((rR HO_15)) hb);have n2_:=bs hb;clear HO_8;clear HO_15;clear HB;have HO_8:=n0_;have HO_15:=n1_;have HB:=n2_;clear n0_ n1_ n2_;(try clear hb);(try clear hb2);(try clear hk);(try clear hi);(try simp only [errW_none,errW_some])))
       go_ret2
       exact ⟨_,by first|rfl|(simp [errW_none,errW_some] <;> rfl)|(simp [*,errW_none,errW_some] <;> rfl),by first|exact Kd.R_nil _ _ _ _ _|exact Kd.N_nil _ _ _ _ _|exact Kd.V_nil _ _ _ _ _|exact Kd.Q_nil _ _ _ _ _|exact Kd.S_nil _ _ _ _ _,be⟩
     ·rw [if_neg c9] at H
      exact absurd H (by simp)
    ·rw [if_neg c8] at H
     exact absurd H (by simp)
   ·rw [if_neg c7] at H
    have c7b0:decide (x17_1 < (t137.length:Int))=false:=decide_eq_false c7
    clear c7
    simp only [Option.some.injEq,Prod.mk.injEq] at H
    obtain ⟨rfl,rfl⟩:=H
    obtain ⟨Ao19,co19,eo19⟩:=Kd.R_slice HO_8.out
    subst eo19
    go_wp2
    go_ret2
    exact ⟨_,by first|rfl|(simp [errW_none,errW_some] <;> rfl)|(simp [*,errW_none,errW_some] <;> rfl),rR HO_8,be⟩
def impl_ParseStamp.f (k:Nat) (a0:ByteArray):Option (Int × Int × Int × Bool):=(impl_numbersOf.f k a0 (⟨#[46]⟩:ByteArray) 3).bind fun bt148=>(if bt148.2=true then (if 0 < (bt148.1.length:Int) then (if 1 < (bt148.1.length:Int) then (if 2 < (bt148.1.length:Int) then ((impl_StampOk.f (rd bt148.1 0) (rd bt148.1 1) (rd bt148.1 2)).bind fun t156=>(if t156=true then ((impl_StampText.f (rd bt148.1 0) (rd bt148.1 1) (rd bt148.1 2)).bind fun t157=>(if t157.toList=a0.toList then (some (rd bt148.1 0,rd bt148.1 1,rd bt148.1 2,true)) else (some (0,0,0,false)))) else (some (0,0,0,false)))) else (none)) else (none)) else (none)) else (some (0,0,0,false)))
def impl_ParseStamp.T4:Bool × List (List Nat × List Nat):=(true,[([],[]),([0],[0]),([1],[1]),([],[]),([3],[3]),([4],[4]),([],[]),([6],[6]),([7],[7]),([2,5,8],[2,5,8]),([],[]),([10,9,0,1,2,3,4,5,6,7,8,9,10],[9,10])])
def impl_ParseStamp.B4:List Nat:=[0,1,3,0,8,24,0,64,192,511,0,2047]
theorem impl_ParseStamp.tab4:rtab .any (opsOf Tryd.f20 4)=impl_ParseStamp.T4:=by kernel_rfl
theorem impl_ParseStamp.bits4:waitsOk impl_ParseStamp.T4.2 impl_ParseStamp.B4=true:=by kernel_rfl
set_option maxHeartbeats 8000000 in
set_option maxRecDepth 100000 in
theorem impl_ParseStamp.calls (k:Nat) (a0:ByteArray) (r1:Int) (r2:Int) (r3:Int) (r4:Bool) (w:World) (hL:Aside0 (Laid w)) (h:impl_ParseStamp.f k a0=some (r1,r2,r3,r4)) :
  Calls Tryd.prog 20 #[.string a0] w fun e w'=>e = .returned (.tuple #[.agg #[.int .i64 r1,.int .i64 r2,.int .i64 r3],.bool r4])∧Below w.heap.size w w':=by
 have hu25:=Tryd.underlying25
 have HB:=Aside0.mk (Below.refl w.heap.size w)
 have H:((impl_numbersOf.f k a0 (⟨#[46]⟩:ByteArray) 3).bind fun bt148=>(if bt148.2=true then (if 0 < (bt148.1.length:Int) then (if 1 < (bt148.1.length:Int) then (if 2 < (bt148.1.length:Int) then ((impl_StampOk.f (rd bt148.1 0) (rd bt148.1 1) (rd bt148.1 2)).bind fun t156=>(if t156=true then ((impl_StampText.f (rd bt148.1 0) (rd bt148.1 1) (rd bt148.1 2)).bind fun t157=>(if t157.toList=a0.toList then (some (rd bt148.1 0,rd bt148.1 1,rd bt148.1 2,true)) else (some (0,0,0,false)))) else (some (0,0,0,false)))) else (none)) else (none)) else (none)) else (some (0,0,0,false))))=some (r1,r2,r3,r4):=h
 clear h
 replace H:=Option.bind_eq_some_iff.mp H
 obtain ⟨⟨t148,t149⟩,A20,H⟩:=H
 try dsimp only at H
 have A2:=Aside0.mk A20
 clear A20
 by_cases c3:t149=true
 ·subst c3
  rw [if_pos rfl] at H
  by_cases c4:0 < (t148.length:Int)
  ·rw [if_pos c4] at H
   have c4b0:decide (0 < (t148.length:Int))=true:=decide_eq_true c4
   have c4b1:decide (0 < t148.length)=true:=decide_eq_true (by omega)
   clear c4
   by_cases c5:1 < (t148.length:Int)
   ·rw [if_pos c5] at H
    have c5b0:decide (1 < (t148.length:Int))=true:=decide_eq_true c5
    have c5b1:decide (1 < t148.length)=true:=decide_eq_true (by omega)
    clear c5
    by_cases c6:2 < (t148.length:Int)
    ·rw [if_pos c6] at H
     have c6b0:decide (2 < (t148.length:Int))=true:=decide_eq_true c6
     have c6b1:decide (2 < t148.length)=true:=decide_eq_true (by omega)
     clear c6
     replace H:=Option.bind_eq_some_iff.mp H
     obtain ⟨t156,A70,H⟩:=H
     try dsimp only at H
     have A7:=Aside0.mk A70
     clear A70
     by_cases c8:t156=true
     ·subst c8
      rw [if_pos rfl] at H
      replace H:=Option.bind_eq_some_iff.mp H
      obtain ⟨t157,A90,H⟩:=H
      try dsimp only at H
      have A9:=Aside0.mk A90
      clear A90
      by_cases c10:t157.toList=a0.toList
      ·rw [if_pos c10] at H
       have c10b0:(t157.toList == a0.toList)=true:=beq_iff_eq.mpr c10
       have c10b1:(t157.toList != a0.toList)=false:=bne_eq_false_iff_eq.mpr c10
       clear c10
       simp only [Option.some.injEq,Prod.mk.injEq] at H
       obtain ⟨rfl,rfl,rfl,rfl⟩:=H
       go_enter Tryd.func20,Tryd.ntmps20
       try go_wp2_with (first|((with_reducible refine gate_dst (N:=2) rfl ?_);refine box_event ?hg (N:=2) ?hd (cs:=#[.int .i64 0,.int .i64 0,.int .i64 0]) (t:=25) ?hr ?_;(case hd=>rfl);(case hg=>rfl);(case hr=>first|(go_simp;done)|(go_simp;rfl));intro gb147 hg w11 hbox hb;have n0_:=bs hb;have n1_:=Aside0.mk (hbox);have n2_:=Aside0.mk ((by rw [hg];exact (below_size be):w.heap.size≤gb147));have n3_:=Aside0.mk ((by rw [hg];exact (below_size be):w.heap.size≤gb147));clear HB;have HB:=n0_;have BK147:=n1_;have GW147:=n2_;have GE147:=n3_;clear n0_ n1_ n2_ n3_;clear hb hbox hg)|((with_reducible refine gate_callee (f:=48) rfl ?_);refine goesL_ (some 9) rfl rfl Tryd.func48 (by kernel_rfl) rfl #[.string a0,.string (⟨#[46]⟩:ByteArray),.int .i64 3] rfl (by (try simp only [List.map_toArray,List.map_cons,List.map_nil]);first|done|rfl|(simp only [List.length_drop,List.length_take];rfl)) ?_;(with_reducible refine (impl_numbersOf.calls k a0 (⟨#[46]⟩:ByteArray) 3 t148 true _ ?side1 A2.out).mono ?_);(case side1=>exact lb hL);rintro e w12 ⟨v150,rfl,ho0,hb⟩;refine ⟨_,rfl,?_⟩;have n0_:=Aside0.mk (Kd.R_lower ho0 (below_size be));have n1_:=Aside0.mk (blk_below (g:=gb147) (o:=.cells #[.int .i64 0,.int .i64 0,.int .i64 0] 25 (0,0)) (bk BK147) hb);have n2_:=bs hb;clear BK147;clear HB;have HO151:=n0_;have BK147:=n1_;have HB:=n2_;clear n0_ n1_ n2_;(try clear hb);(try clear hb2);(try clear hk);(try clear hi);(try clear ho0)))
       have n0_:=Aside0.mk (Kd.R_drew HO151.out)
       have n1_:=Aside0.mk (blk_drew BK147.out)
       have n2_:=Aside0.mk (below_drew1 HB.out)
       clear HO151
       clear BK147
       clear HB
       have HO151:=n0_
       have BK147:=n1_
       have HB:=n2_
       clear n0_ n1_ n2_
       obtain ⟨Ao14,co14,eo14⟩:=Kd.R_slice HO151.out
       (first|subst eo14|(injection eo14 with f1_ f2_ f3_;have f4_:=f1_.symm;have f5_:=f3_.symm;clear f1_ f2_ f3_;subst f4_;subst f5_))
       have p152:0≤(0:Int):=(by omega)
       have q152:0 < (t148.length:Int):=of_decide_eq_true (by first|(with_reducible assumption)|assumption)
       obtain ⟨ad152,e152,hx152_0⟩:=Kd.at_int (Kd.R_reads' HO151.out).2.2 0 p152 q152
       cases e152
       have qi152:(0 < t148.length)=True:=eq_true (by omega)
       (try rw [show ((0:Int)).toNat=0 from rfl] at hx152_0)
       (try rw [Addr.add_zero'] at hx152_0)
       replace p152:=eq_true p152
       replace q152:=eq_true q152
       have p153:0≤(1:Int):=(by omega)
       have q153:1 < (t148.length:Int):=of_decide_eq_true (by first|(with_reducible assumption)|assumption)
       obtain ⟨ad153,e153,hx153_0⟩:=Kd.at_int (Kd.R_reads' HO151.out).2.2 1 p153 q153
       obtain rfl:ad152=ad153:=(by injection e153)
       (try simp only [show (1:Int).toNat=1 from rfl,Nat.reduceMul,Nat.reduceEqDiff,Go.Addr.add,↓reduceIte] at hx153_0)
       have qi153:(1 < t148.length)=True:=eq_true (by omega)
       (try rw [show ((1:Int)).toNat=1 from rfl] at hx153_0)
       replace p153:=eq_true p153
       replace q153:=eq_true q153
       have p154:0≤(2:Int):=(by omega)
       have q154:2 < (t148.length:Int):=of_decide_eq_true (by first|(with_reducible assumption)|assumption)
       obtain ⟨ad154,e154,hx154_0⟩:=Kd.at_int (Kd.R_reads' HO151.out).2.2 2 p154 q154
       obtain rfl:ad152=ad154:=(by injection e154)
       (try simp only [show (2:Int).toNat=2 from rfl,Nat.reduceMul,Nat.reduceEqDiff,Go.Addr.add,↓reduceIte] at hx154_0)
       have qi154:(2 < t148.length)=True:=eq_true (by omega)
       (try rw [show ((2:Int)).toNat=2 from rfl] at hx154_0)
       replace p154:=eq_true p154
       replace q154:=eq_true q154
       refine start_ (n:=12) (S:=fun w'=>w'.cell? ad152=some (.int .i64 (rd t148 0))∧w'.cell? ⟨ad152.block,ad152.off+1,none⟩=some (.int .i64 (rd t148 1))∧w'.cell? ⟨ad152.block,ad152.off+2,none⟩=some (.int .i64 (rd t148 2))) (ds:=[]) (fl 12 0) (by kernel_rfl) rfl rfl ⟨hx152_0,hx153_0,hx154_0⟩ (fun hHeld=>?_);refine with_tabW impl_ParseStamp.tab4 impl_ParseStamp.bits4 (fun HT_ HW_=>?_)
       generalize w12.drew=w13 at HO151 BK147 HB hx152_0 hx153_0 hx154_0 hHeld ⊢
       refine pt 0 15 (fl 12 1) HT_ ?_
       refine pt 1 16 (fl 12 3) HT_ ?_
       refine pt 3 18 (fl 12 11) HT_ ?_
       refine pt 4 19 (fl 12 27) HT_ ?_
       refine pt 6 21 (fl 12 91) HT_ ?_
       refine pt 7 22 (fl 12 219) HT_ ?_
       refine tt 2 17 (fl 12 223) HT_ HW_ hHeld ?_
       refine tt 5 20 (fl 12 255) HT_ HW_ hHeld ?_
       refine tt 8 23 (fl 12 511) HT_ HW_ hHeld ?_
       refine pt 9 24 (fl 12 1023) HT_ ?_
       refine ot 10 (some 6) (fl 12 2047) HT_ (fun K hK=>?_)
       refine box_step ?hg (N:=6) ?hd (cs:=#[.int .i64 0,.int .i64 0,.int .i64 0]) (t:=25) ?hr ?_;(case hd=>rfl);(case hg=>rfl);(case hr=>first|(go_simp;done)|(go_simp;rfl))
       intro gb155 hg w15 hbox hb
       have HS0_:=(hb.cell (World.block_lt_of_cell? _ _ (hHeld.1))).trans (hHeld.1)
       have HS1_:=(hb.cell (World.block_lt_of_cell? _ _ (hHeld.2.1))).trans (hHeld.2.1)
       have HS2_:=(hb.cell (World.block_lt_of_cell? _ _ (hHeld.2.2))).trans (hHeld.2.2)
       have n0_:=Aside0.mk (Kd.R_below (rR HO151) hb)
       have n1_:=Aside0.mk (blk_below (g:=gb147) (o:=.cells #[.int .i64 0,.int .i64 0,.int .i64 0] 25 (0,0)) (bk BK147) hb)
       have n2_:=bs hb
       have n3_:=Aside0.mk (hbox)
       have n4_:=Aside0.mk ((by rw [hg];exact (below_size be):w.heap.size≤gb155))
       have n5_:=Aside0.mk ((by rw [hg];exact (below_size be):w.heap.size≤gb155))
       have n6_:=Aside0.mk ((by rw [hg];exact Nat.ne_of_lt (blk_lt (g:=gb147) (o:=.cells #[.int .i64 0,.int .i64 0,.int .i64 0] 25 (0,0)) (bk BK147)):gb147 ≠ gb155))
       have n7_:=Aside0.mk ((by rw [hg];exact Nat.ne_of_gt (blk_lt (g:=gb147) (o:=.cells #[.int .i64 0,.int .i64 0,.int .i64 0] 25 (0,0)) (bk BK147)):gb155 ≠ gb147))
       clear HO151
       clear BK147
       clear HB
       have HO151:=n0_
       have BK147:=n1_
       have HB:=n2_
       have BK155:=n3_
       have GW155:=n4_
       have GE155:=n5_
       have NB147_155:=n6_
       have NB155_147:=n7_
       clear n0_ n1_ n2_ n3_ n4_ n5_ n6_ n7_
       clear hb hbox hg
       refine hK.out _ _ ⟨HS0_,HS1_,HS2_⟩ (fun hHeld=>?_)
       clear hK K
       refine no 6 ?_
       refine ot 11 none (fl 12 4095) HT_ (fun K hK=>?_)
       have hs16:w15.cell? ⟨gb155,0,none⟩=some (.int .i64 0):=(blk_cell BK155.out 0).trans rfl
       have hfs16:=blk_frozen BK155.out 0
       have hns16_0:=NB147_155.out
       have hms16_0:=NB155_147.out
       have hs17:w15.cell? ⟨gb155,1,none⟩=some (.int .i64 0):=(blk_cell BK155.out 1).trans rfl
       have hfs17:=blk_frozen BK155.out 1
       have hns17_0:=NB147_155.out
       have hms17_0:=NB155_147.out
       have hs18:w15.cell? ⟨gb155,2,none⟩=some (.int .i64 0):=(blk_cell BK155.out 2).trans rfl
       have hfs18:=blk_frozen BK155.out 2
       have hns18_0:=NB147_155.out
       have hms18_0:=NB155_147.out
       refine skip_ (w1:=?_) (by rfl) rfl ?_ ?_
       rotate_left
       ·go_simp
        rfl
       refine hK.out _ _ ⟨((cell_far (p:=⟨gb155,_,none⟩) (by first|exact Kd.own_blk (Kd.R_ne HO151.out BK155.out (by decide))|(rw [add_block];exact Kd.own_blk (Kd.R_ne HO151.out BK155.out (by decide)))|(show (Addr.add _ _).block ≠ _;rw [add_block];exact Kd.own_blk (Kd.R_ne HO151.out BK155.out (by decide)))|(dsimp only;exact Kd.own_blk (Kd.R_ne HO151.out BK155.out (by decide)))) _).trans (((cell_far (p:=⟨gb155,_,none⟩) (by first|exact Kd.own_blk (Kd.R_ne HO151.out BK155.out (by decide))|(rw [add_block];exact Kd.own_blk (Kd.R_ne HO151.out BK155.out (by decide)))|(show (Addr.add _ _).block ≠ _;rw [add_block];exact Kd.own_blk (Kd.R_ne HO151.out BK155.out (by decide)))|(dsimp only;exact Kd.own_blk (Kd.R_ne HO151.out BK155.out (by decide)))) _).trans (((cell_far (p:=⟨gb155,_,none⟩) (by first|exact Kd.own_blk (Kd.R_ne HO151.out BK155.out (by decide))|(rw [add_block];exact Kd.own_blk (Kd.R_ne HO151.out BK155.out (by decide)))|(show (Addr.add _ _).block ≠ _;rw [add_block];exact Kd.own_blk (Kd.R_ne HO151.out BK155.out (by decide)))|(dsimp only;exact Kd.own_blk (Kd.R_ne HO151.out BK155.out (by decide)))) _).trans (hHeld.1)))))),((cell_far (p:=⟨gb155,_,none⟩) (by first|exact Kd.own_blk (Kd.R_ne HO151.out BK155.out (by decide))|(rw [add_block];exact Kd.own_blk (Kd.R_ne HO151.out BK155.out (by decide)))|(show (Addr.add _ _).block ≠ _;rw [add_block];exact Kd.own_blk (Kd.R_ne HO151.out BK155.out (by decide)))|(dsimp only;exact Kd.own_blk (Kd.R_ne HO151.out BK155.out (by decide)))) _).trans (((cell_far (p:=⟨gb155,_,none⟩) (by first|exact Kd.own_blk (Kd.R_ne HO151.out BK155.out (by decide))|(rw [add_block];exact Kd.own_blk (Kd.R_ne HO151.out BK155.out (by decide)))|(show (Addr.add _ _).block ≠ _;rw [add_block];exact Kd.own_blk (Kd.R_ne HO151.out BK155.out (by decide)))|(dsimp only;exact Kd.own_blk (Kd.R_ne HO151.out BK155.out (by decide)))) _).trans (((cell_far (p:=⟨gb155,_,none⟩) (by first|exact Kd.own_blk (Kd.R_ne HO151.out BK155.out (by decide))|(rw [add_block];exact Kd.own_blk (Kd.R_ne HO151.out BK155.out (by decide)))|(show (Addr.add _ _).block ≠ _;rw [add_block];exact Kd.own_blk (Kd.R_ne HO151.out BK155.out (by decide)))|(dsimp only;exact Kd.own_blk (Kd.R_ne HO151.out BK155.out (by decide)))) _).trans (hHeld.2.1)))))),((cell_far (p:=⟨gb155,_,none⟩) (by first|exact Kd.own_blk (Kd.R_ne HO151.out BK155.out (by decide))|(rw [add_block];exact Kd.own_blk (Kd.R_ne HO151.out BK155.out (by decide)))|(show (Addr.add _ _).block ≠ _;rw [add_block];exact Kd.own_blk (Kd.R_ne HO151.out BK155.out (by decide)))|(dsimp only;exact Kd.own_blk (Kd.R_ne HO151.out BK155.out (by decide)))) _).trans (((cell_far (p:=⟨gb155,_,none⟩) (by first|exact Kd.own_blk (Kd.R_ne HO151.out BK155.out (by decide))|(rw [add_block];exact Kd.own_blk (Kd.R_ne HO151.out BK155.out (by decide)))|(show (Addr.add _ _).block ≠ _;rw [add_block];exact Kd.own_blk (Kd.R_ne HO151.out BK155.out (by decide)))|(dsimp only;exact Kd.own_blk (Kd.R_ne HO151.out BK155.out (by decide)))) _).trans (((cell_far (p:=⟨gb155,_,none⟩) (by first|exact Kd.own_blk (Kd.R_ne HO151.out BK155.out (by decide))|(rw [add_block];exact Kd.own_blk (Kd.R_ne HO151.out BK155.out (by decide)))|(show (Addr.add _ _).block ≠ _;rw [add_block];exact Kd.own_blk (Kd.R_ne HO151.out BK155.out (by decide)))|(dsimp only;exact Kd.own_blk (Kd.R_ne HO151.out BK155.out (by decide)))) _).trans (hHeld.2.2))))))⟩ (fun hHeld=>?_)
       clear hK K
       refine done_ (done_of HT_.out (by kernel_rfl)) ?_
       have hnb19:=NB155_147.out
       have hnc19:=NB147_155.out
       have hcz20_0:w15.cell? ⟨gb155,0,none⟩=some (.int .i64 0):=(blk_cell BK155.out 0).trans rfl
       have hcz20_1:w15.cell? ⟨gb155,1,none⟩=some (.int .i64 0):=(blk_cell BK155.out 1).trans rfl
       have hcz20_2:w15.cell? ⟨gb155,2,none⟩=some (.int .i64 0):=(blk_cell BK155.out 2).trans rfl
       have hfz20_0:=blk_frozen BK155.out 0
       have hfz20_1:=blk_frozen BK155.out 1
       have hfz20_2:=blk_frozen BK155.out 2
       try go_wp2_with (first|((with_reducible refine gate_callee (f:=27) rfl ?_);refine goesL_ (some 26) rfl rfl Tryd.func27 (by kernel_rfl) rfl #[.agg #[.int .i64 (rd t148 0),.int .i64 (rd t148 1),.int .i64 (rd t148 2)]] rfl (by (try simp only [List.map_toArray,List.map_cons,List.map_nil]);first|done|rfl|(simp only [List.length_drop,List.length_take];rfl)) ?_;(with_reducible refine (impl_StampOk.calls (rd t148 0) (rd t148 1) (rd t148 2) true _ A7.out).mono ?_);rintro e w21 ⟨rfl,hb⟩;refine ⟨_,rfl,?_⟩;have n0_:=Aside0.mk (Kd.R_below ((by (with_reducible repeat (first|apply Kd.R_alloc|apply Kd.R_drewN|apply Kd.R_drew));exact (Kd.R_mono (Kd.R_far (p:=⟨gb155,2,none⟩) (Kd.R_far (p:=⟨gb155,1,none⟩) (Kd.R_far (p:=⟨gb155,0,none⟩) (Kd.R_types HO151.out BK155.out (by decide)) (fun _ hk=>hk.2) (.int .i64 (rd t148 0))) (fun _ hk=>hk.2) (.int .i64 (rd t148 1))) (fun _ hk=>hk.2) (.int .i64 (rd t148 2))) (fun _ h_=>h_.1)))) hb);have n1_:=Aside0.mk (blk_below (g:=gb147) (o:=.cells #[.int .i64 0,.int .i64 0,.int .i64 0] 25 (0,0)) (by (with_reducible repeat (first|refine blk_drewN ?_ _|refine blk_drew ?_|refine blk_alloc ?_ _));refine blk_far ?_ NB147_155.out _;(with_reducible repeat (first|refine blk_drewN ?_ _|refine blk_drew ?_|refine blk_alloc ?_ _));refine blk_far ?_ NB147_155.out _;(with_reducible repeat (first|refine blk_drewN ?_ _|refine blk_drew ?_|refine blk_alloc ?_ _));refine blk_far ?_ NB147_155.out _;(with_reducible repeat (first|refine blk_drewN ?_ _|refine blk_drew ?_|refine blk_alloc ?_ _));exact BK147.out) hb);have n2_:=Aside0.mk (blk_below (g:=gb155) (o:=.cells #[.int .i64 (rd t148 0),.int .i64 (rd t148 1),.int .i64 (rd t148 2)] 25 (0,0)) (by (with_reducible repeat (first|refine blk_drewN ?_ _|refine blk_drew ?_|refine blk_alloc ?_ _));refine blk_put (cs:=#[.int .i64 (rd t148 0),.int .i64 (rd t148 1),.int .i64 0]) ?_ 2 _ rfl;(with_reducible repeat (first|refine blk_drewN ?_ _|refine blk_drew ?_|refine blk_alloc ?_ _));refine blk_put (cs:=#[.int .i64 (rd t148 0),.int .i64 0,.int .i64 0]) ?_ 1 _ rfl;(with_reducible repeat (first|refine blk_drewN ?_ _|refine blk_drew ?_|refine blk_alloc ?_ _));refine blk_put (cs:=#[.int .i64 0,.int .i64 0,.int .i64 0]) ?_ 0 _ rfl;(with_reducible repeat (first|refine blk_drewN ?_ _|refine blk_drew ?_|refine blk_alloc ?_ _));exact BK155.out) hb);have n3_:=bs hb;clear HO151;clear BK147;clear BK155;clear HB;have HO151:=n0_;have BK147:=n1_;have BK155:=n2_;have HB:=n3_;clear n0_ n1_ n2_ n3_;(try clear hb);(try clear hb2);(try clear hk);(try clear hi);have hcz22_0:w21.cell? ⟨gb155,0,none⟩=some (.int .i64 (rd t148 0)):=(blk_cell BK155.out 0).trans rfl;have hcz22_1:w21.cell? ⟨gb155,1,none⟩=some (.int .i64 (rd t148 1)):=(blk_cell BK155.out 1).trans rfl;have hcz22_2:w21.cell? ⟨gb155,2,none⟩=some (.int .i64 (rd t148 2)):=(blk_cell BK155.out 2).trans rfl;have hfz22_0:=blk_frozen BK155.out 0;have hfz22_1:=blk_frozen BK155.out 1;have hfz22_2:=blk_frozen BK155.out 2)|(go_at_call 13;(with_reducible refine (impl_StampText.calls (rd t148 0) (rd t148 1) (rd t148 2) t157 _ ?side1 A9.out).mono ?_);(case side1=>exact lb hL);rintro e w23 ⟨rfl,hb⟩;have n0_:=Aside0.mk (Kd.R_below ((rR HO151)) hb);have n1_:=Aside0.mk (blk_below (g:=gb147) (o:=.cells #[.int .i64 0,.int .i64 0,.int .i64 0] 25 (0,0)) (bk BK147) hb);have n2_:=Aside0.mk (blk_below (g:=gb155) (o:=.cells #[.int .i64 (rd t148 0),.int .i64 (rd t148 1),.int .i64 (rd t148 2)] 25 (0,0)) (bk BK155) hb);have n3_:=bs hb;clear HO151;clear BK147;clear BK155;clear HB;have HO151:=n0_;have BK147:=n1_;have BK155:=n2_;have HB:=n3_;clear n0_ n1_ n2_ n3_;(try clear hb);(try clear hb2);(try clear hk);(try clear hi);have hcz24_0:w23.cell? ⟨gb155,0,none⟩=some (.int .i64 (rd t148 0)):=(blk_cell BK155.out 0).trans rfl;have hcz24_1:w23.cell? ⟨gb155,1,none⟩=some (.int .i64 (rd t148 1)):=(blk_cell BK155.out 1).trans rfl;have hcz24_2:w23.cell? ⟨gb155,2,none⟩=some (.int .i64 (rd t148 2)):=(blk_cell BK155.out 2).trans rfl;have hfz24_0:=blk_frozen BK155.out 0;have hfz24_1:=blk_frozen BK155.out 1;have hfz24_2:=blk_frozen BK155.out 2;have hcz25_0:w23.cell? ⟨gb147,0,none⟩=some (.int .i64 0):=(blk_cell BK147.out 0).trans rfl;have hcz25_1:w23.cell? ⟨gb147,1,none⟩=some (.int .i64 0):=(blk_cell BK147.out 1).trans rfl;have hcz25_2:w23.cell? ⟨gb147,2,none⟩=some (.int .i64 0):=(blk_cell BK147.out 2).trans rfl;have hfz25_0:=blk_frozen BK147.out 0;have hfz25_1:=blk_frozen BK147.out 1;have hfz25_2:=blk_frozen BK147.out 2))
       refine bodyPost_ret (results_ct rfl _ _ gb147 25 #[.int .i64 (rd t148 0),.int .i64 (rd t148 1),.int .i64 (rd t148 2)] (0,0) _ rfl (by (with_reducible repeat (first|refine blk_drewN ?_ _|refine blk_drew ?_|refine blk_alloc ?_ _));refine blk_put (cs:=#[.int .i64 (rd t148 0),.int .i64 (rd t148 1),.int .i64 0]) ?_ 2 _ rfl;(with_reducible repeat (first|refine blk_drewN ?_ _|refine blk_drew ?_|refine blk_alloc ?_ _));refine blk_put (cs:=#[.int .i64 (rd t148 0),.int .i64 0,.int .i64 0]) ?_ 1 _ rfl;(with_reducible repeat (first|refine blk_drewN ?_ _|refine blk_drew ?_|refine blk_alloc ?_ _));refine blk_put (cs:=#[.int .i64 0,.int .i64 0,.int .i64 0]) ?_ 0 _ rfl;(with_reducible repeat (first|refine blk_drewN ?_ _|refine blk_drew ?_|refine blk_alloc ?_ _));exact BK147.out) Tryd.underlying25 rfl (by kernel_rfl)) rfl ?_
       exact ⟨rz,be⟩
      ·rw [if_neg c10] at H
       have c10b0:(t157.toList == a0.toList)=false:=beq_eq_false_iff_ne.mpr c10
       have c10b1:(t157.toList != a0.toList)=true:=bne_iff_ne.mpr c10
       simp only [Option.some.injEq,Prod.mk.injEq] at H
       obtain ⟨rfl,rfl,rfl,rfl⟩:=H
       go_enter Tryd.func20,Tryd.ntmps20
       try go_wp2_with (first|((with_reducible refine gate_dst (N:=2) rfl ?_);refine box_event ?hg (N:=2) ?hd (cs:=#[.int .i64 0,.int .i64 0,.int .i64 0]) (t:=25) ?hr ?_;(case hd=>rfl);(case hg=>rfl);(case hr=>first|(go_simp;done)|(go_simp;rfl));intro gb147 hg w26 hbox hb;have n0_:=bs hb;have n1_:=Aside0.mk (hbox);have n2_:=Aside0.mk ((by rw [hg];exact (below_size be):w.heap.size≤gb147));have n3_:=Aside0.mk ((by rw [hg];exact (below_size be):w.heap.size≤gb147));clear HB;have HB:=n0_;have BK147:=n1_;have GW147:=n2_;have GE147:=n3_;clear n0_ n1_ n2_ n3_;clear hb hbox hg)|((with_reducible refine gate_callee (f:=48) rfl ?_);refine goesL_ (some 9) rfl rfl Tryd.func48 (by kernel_rfl) rfl #[.string a0,.string (⟨#[46]⟩:ByteArray),.int .i64 3] rfl (by (try simp only [List.map_toArray,List.map_cons,List.map_nil]);first|done|rfl|(simp only [List.length_drop,List.length_take];rfl)) ?_;(with_reducible refine (impl_numbersOf.calls k a0 (⟨#[46]⟩:ByteArray) 3 t148 true _ ?side1 A2.out).mono ?_);(case side1=>exact lb hL);rintro e w27 ⟨v150,rfl,ho0,hb⟩;refine ⟨_,rfl,?_⟩;have n0_:=Aside0.mk (Kd.R_lower ho0 (below_size be));have n1_:=Aside0.mk (blk_below (g:=gb147) (o:=.cells #[.int .i64 0,.int .i64 0,.int .i64 0] 25 (0,0)) (bk BK147) hb);have n2_:=bs hb;clear BK147;clear HB;have HO151:=n0_;have BK147:=n1_;have HB:=n2_;clear n0_ n1_ n2_;(try clear hb);(try clear hb2);(try clear hk);(try clear hi);(try clear ho0)))
       have n0_:=Aside0.mk (Kd.R_drew HO151.out)
       have n1_:=Aside0.mk (blk_drew BK147.out)
       have n2_:=Aside0.mk (below_drew1 HB.out)
       clear HO151
       clear BK147
       clear HB
       have HO151:=n0_
       have BK147:=n1_
       have HB:=n2_
       clear n0_ n1_ n2_
       obtain ⟨Ao29,co29,eo29⟩:=Kd.R_slice HO151.out
       (first|subst eo29|(injection eo29 with f1_ f2_ f3_;have f4_:=f1_.symm;have f5_:=f3_.symm;clear f1_ f2_ f3_;subst f4_;subst f5_))
       have p152:0≤(0:Int):=(by omega)
       have q152:0 < (t148.length:Int):=of_decide_eq_true (by first|(with_reducible assumption)|assumption)
       obtain ⟨ad152,e152,hx152_0⟩:=Kd.at_int (Kd.R_reads' HO151.out).2.2 0 p152 q152
       cases e152
       have qi152:(0 < t148.length)=True:=eq_true (by omega)
       (try rw [show ((0:Int)).toNat=0 from rfl] at hx152_0)
       (try rw [Addr.add_zero'] at hx152_0)
       replace p152:=eq_true p152
       replace q152:=eq_true q152
       have p153:0≤(1:Int):=(by omega)
       have q153:1 < (t148.length:Int):=of_decide_eq_true (by first|(with_reducible assumption)|assumption)
       obtain ⟨ad153,e153,hx153_0⟩:=Kd.at_int (Kd.R_reads' HO151.out).2.2 1 p153 q153
       obtain rfl:ad152=ad153:=(by injection e153)
       (try simp only [show (1:Int).toNat=1 from rfl,Nat.reduceMul,Nat.reduceEqDiff,Go.Addr.add,↓reduceIte] at hx153_0)
       have qi153:(1 < t148.length)=True:=eq_true (by omega)
       (try rw [show ((1:Int)).toNat=1 from rfl] at hx153_0)
       replace p153:=eq_true p153
       replace q153:=eq_true q153
       have p154:0≤(2:Int):=(by omega)
       have q154:2 < (t148.length:Int):=of_decide_eq_true (by first|(with_reducible assumption)|assumption)
       obtain ⟨ad154,e154,hx154_0⟩:=Kd.at_int (Kd.R_reads' HO151.out).2.2 2 p154 q154
       obtain rfl:ad152=ad154:=(by injection e154)
       (try simp only [show (2:Int).toNat=2 from rfl,Nat.reduceMul,Nat.reduceEqDiff,Go.Addr.add,↓reduceIte] at hx154_0)
       have qi154:(2 < t148.length)=True:=eq_true (by omega)
       (try rw [show ((2:Int)).toNat=2 from rfl] at hx154_0)
       replace p154:=eq_true p154
       replace q154:=eq_true q154
       refine start_ (n:=12) (S:=fun w'=>w'.cell? ad152=some (.int .i64 (rd t148 0))∧w'.cell? ⟨ad152.block,ad152.off+1,none⟩=some (.int .i64 (rd t148 1))∧w'.cell? ⟨ad152.block,ad152.off+2,none⟩=some (.int .i64 (rd t148 2))) (ds:=[]) (fl 12 0) (by kernel_rfl) rfl rfl ⟨hx152_0,hx153_0,hx154_0⟩ (fun hHeld=>?_);refine with_tabW impl_ParseStamp.tab4 impl_ParseStamp.bits4 (fun HT_ HW_=>?_)
       generalize w27.drew=w28 at HO151 BK147 HB hx152_0 hx153_0 hx154_0 hHeld ⊢
       refine pt 0 15 (fl 12 1) HT_ ?_
       refine pt 1 16 (fl 12 3) HT_ ?_
       refine pt 3 18 (fl 12 11) HT_ ?_
       refine pt 4 19 (fl 12 27) HT_ ?_
       refine pt 6 21 (fl 12 91) HT_ ?_
       refine pt 7 22 (fl 12 219) HT_ ?_
       refine tt 2 17 (fl 12 223) HT_ HW_ hHeld ?_
       refine tt 5 20 (fl 12 255) HT_ HW_ hHeld ?_
       refine tt 8 23 (fl 12 511) HT_ HW_ hHeld ?_
       refine pt 9 24 (fl 12 1023) HT_ ?_
       refine ot 10 (some 6) (fl 12 2047) HT_ (fun K hK=>?_)
       refine box_step ?hg (N:=6) ?hd (cs:=#[.int .i64 0,.int .i64 0,.int .i64 0]) (t:=25) ?hr ?_;(case hd=>rfl);(case hg=>rfl);(case hr=>first|(go_simp;done)|(go_simp;rfl))
       intro gb155 hg w30 hbox hb
       have HS0_:=(hb.cell (World.block_lt_of_cell? _ _ (hHeld.1))).trans (hHeld.1)
       have HS1_:=(hb.cell (World.block_lt_of_cell? _ _ (hHeld.2.1))).trans (hHeld.2.1)
       have HS2_:=(hb.cell (World.block_lt_of_cell? _ _ (hHeld.2.2))).trans (hHeld.2.2)
       have n0_:=Aside0.mk (Kd.R_below (rR HO151) hb)
       have n1_:=Aside0.mk (blk_below (g:=gb147) (o:=.cells #[.int .i64 0,.int .i64 0,.int .i64 0] 25 (0,0)) (bk BK147) hb)
       have n2_:=bs hb
       have n3_:=Aside0.mk (hbox)
       have n4_:=Aside0.mk ((by rw [hg];exact (below_size be):w.heap.size≤gb155))
       have n5_:=Aside0.mk ((by rw [hg];exact (below_size be):w.heap.size≤gb155))
       have n6_:=Aside0.mk ((by rw [hg];exact Nat.ne_of_lt (blk_lt (g:=gb147) (o:=.cells #[.int .i64 0,.int .i64 0,.int .i64 0] 25 (0,0)) (bk BK147)):gb147 ≠ gb155))
       have n7_:=Aside0.mk ((by rw [hg];exact Nat.ne_of_gt (blk_lt (g:=gb147) (o:=.cells #[.int .i64 0,.int .i64 0,.int .i64 0] 25 (0,0)) (bk BK147)):gb155 ≠ gb147))
       clear HO151
       clear BK147
       clear HB
       have HO151:=n0_
       have BK147:=n1_
       have HB:=n2_
       have BK155:=n3_
       have GW155:=n4_
       have GE155:=n5_
       have NB147_155:=n6_
       have NB155_147:=n7_
       clear n0_ n1_ n2_ n3_ n4_ n5_ n6_ n7_
       clear hb hbox hg
       refine hK.out _ _ ⟨HS0_,HS1_,HS2_⟩ (fun hHeld=>?_)
       clear hK K
       refine no 6 ?_
       refine ot 11 none (fl 12 4095) HT_ (fun K hK=>?_)
       have hs31:w30.cell? ⟨gb155,0,none⟩=some (.int .i64 0):=(blk_cell BK155.out 0).trans rfl
       have hfs31:=blk_frozen BK155.out 0
       have hns31_0:=NB147_155.out
       have hms31_0:=NB155_147.out
       have hs32:w30.cell? ⟨gb155,1,none⟩=some (.int .i64 0):=(blk_cell BK155.out 1).trans rfl
       have hfs32:=blk_frozen BK155.out 1
       have hns32_0:=NB147_155.out
       have hms32_0:=NB155_147.out
       have hs33:w30.cell? ⟨gb155,2,none⟩=some (.int .i64 0):=(blk_cell BK155.out 2).trans rfl
       have hfs33:=blk_frozen BK155.out 2
       have hns33_0:=NB147_155.out
       have hms33_0:=NB155_147.out
       refine skip_ (w1:=?_) (by rfl) rfl ?_ ?_
       rotate_left
       ·go_simp
        rfl
       refine hK.out _ _ ⟨((cell_far (p:=⟨gb155,_,none⟩) (by first|exact Kd.own_blk (Kd.R_ne HO151.out BK155.out (by decide))|(rw [add_block];exact Kd.own_blk (Kd.R_ne HO151.out BK155.out (by decide)))|(show (Addr.add _ _).block ≠ _;rw [add_block];exact Kd.own_blk (Kd.R_ne HO151.out BK155.out (by decide)))|(dsimp only;exact Kd.own_blk (Kd.R_ne HO151.out BK155.out (by decide)))) _).trans (((cell_far (p:=⟨gb155,_,none⟩) (by first|exact Kd.own_blk (Kd.R_ne HO151.out BK155.out (by decide))|(rw [add_block];exact Kd.own_blk (Kd.R_ne HO151.out BK155.out (by decide)))|(show (Addr.add _ _).block ≠ _;rw [add_block];exact Kd.own_blk (Kd.R_ne HO151.out BK155.out (by decide)))|(dsimp only;exact Kd.own_blk (Kd.R_ne HO151.out BK155.out (by decide)))) _).trans (((cell_far (p:=⟨gb155,_,none⟩) (by first|exact Kd.own_blk (Kd.R_ne HO151.out BK155.out (by decide))|(rw [add_block];exact Kd.own_blk (Kd.R_ne HO151.out BK155.out (by decide)))|(show (Addr.add _ _).block ≠ _;rw [add_block];exact Kd.own_blk (Kd.R_ne HO151.out BK155.out (by decide)))|(dsimp only;exact Kd.own_blk (Kd.R_ne HO151.out BK155.out (by decide)))) _).trans (hHeld.1)))))),((cell_far (p:=⟨gb155,_,none⟩) (by first|exact Kd.own_blk (Kd.R_ne HO151.out BK155.out (by decide))|(rw [add_block];exact Kd.own_blk (Kd.R_ne HO151.out BK155.out (by decide)))|(show (Addr.add _ _).block ≠ _;rw [add_block];exact Kd.own_blk (Kd.R_ne HO151.out BK155.out (by decide)))|(dsimp only;exact Kd.own_blk (Kd.R_ne HO151.out BK155.out (by decide)))) _).trans (((cell_far (p:=⟨gb155,_,none⟩) (by first|exact Kd.own_blk (Kd.R_ne HO151.out BK155.out (by decide))|(rw [add_block];exact Kd.own_blk (Kd.R_ne HO151.out BK155.out (by decide)))|(show (Addr.add _ _).block ≠ _;rw [add_block];exact Kd.own_blk (Kd.R_ne HO151.out BK155.out (by decide)))|(dsimp only;exact Kd.own_blk (Kd.R_ne HO151.out BK155.out (by decide)))) _).trans (((cell_far (p:=⟨gb155,_,none⟩) (by first|exact Kd.own_blk (Kd.R_ne HO151.out BK155.out (by decide))|(rw [add_block];exact Kd.own_blk (Kd.R_ne HO151.out BK155.out (by decide)))|(show (Addr.add _ _).block ≠ _;rw [add_block];exact Kd.own_blk (Kd.R_ne HO151.out BK155.out (by decide)))|(dsimp only;exact Kd.own_blk (Kd.R_ne HO151.out BK155.out (by decide)))) _).trans (hHeld.2.1)))))),((cell_far (p:=⟨gb155,_,none⟩) (by first|exact Kd.own_blk (Kd.R_ne HO151.out BK155.out (by decide))|(rw [add_block];exact Kd.own_blk (Kd.R_ne HO151.out BK155.out (by decide)))|(show (Addr.add _ _).block ≠ _;rw [add_block];exact Kd.own_blk (Kd.R_ne HO151.out BK155.out (by decide)))|(dsimp only;exact Kd.own_blk (Kd.R_ne HO151.out BK155.out (by decide)))) _).trans (((cell_far (p:=⟨gb155,_,none⟩) (by first|exact Kd.own_blk (Kd.R_ne HO151.out BK155.out (by decide))|(rw [add_block];exact Kd.own_blk (Kd.R_ne HO151.out BK155.out (by decide)))|(show (Addr.add _ _).block ≠ _;rw [add_block];exact Kd.own_blk (Kd.R_ne HO151.out BK155.out (by decide)))|(dsimp only;exact Kd.own_blk (Kd.R_ne HO151.out BK155.out (by decide)))) _).trans (((cell_far (p:=⟨gb155,_,none⟩) (by first|exact Kd.own_blk (Kd.R_ne HO151.out BK155.out (by decide))|(rw [add_block];exact Kd.own_blk (Kd.R_ne HO151.out BK155.out (by decide)))|(show (Addr.add _ _).block ≠ _;rw [add_block];exact Kd.own_blk (Kd.R_ne HO151.out BK155.out (by decide)))|(dsimp only;exact Kd.own_blk (Kd.R_ne HO151.out BK155.out (by decide)))) _).trans (hHeld.2.2))))))⟩ (fun hHeld=>?_)
       clear hK K
       refine done_ (done_of HT_.out (by kernel_rfl)) ?_
       have hnb34:=NB155_147.out
       have hnc34:=NB147_155.out
       have hcz35_0:w30.cell? ⟨gb155,0,none⟩=some (.int .i64 0):=(blk_cell BK155.out 0).trans rfl
       have hcz35_1:w30.cell? ⟨gb155,1,none⟩=some (.int .i64 0):=(blk_cell BK155.out 1).trans rfl
       have hcz35_2:w30.cell? ⟨gb155,2,none⟩=some (.int .i64 0):=(blk_cell BK155.out 2).trans rfl
       have hfz35_0:=blk_frozen BK155.out 0
       have hfz35_1:=blk_frozen BK155.out 1
       have hfz35_2:=blk_frozen BK155.out 2
       try go_wp2_with (first|((with_reducible refine gate_callee (f:=27) rfl ?_);refine goesL_ (some 26) rfl rfl Tryd.func27 (by kernel_rfl) rfl #[.agg #[.int .i64 (rd t148 0),.int .i64 (rd t148 1),.int .i64 (rd t148 2)]] rfl (by (try simp only [List.map_toArray,List.map_cons,List.map_nil]);first|done|rfl|(simp only [List.length_drop,List.length_take];rfl)) ?_;(with_reducible refine (impl_StampOk.calls (rd t148 0) (rd t148 1) (rd t148 2) true _ A7.out).mono ?_);rintro e w36 ⟨rfl,hb⟩;refine ⟨_,rfl,?_⟩;have n0_:=Aside0.mk (Kd.R_below ((by (with_reducible repeat (first|apply Kd.R_alloc|apply Kd.R_drewN|apply Kd.R_drew));exact (Kd.R_mono (Kd.R_far (p:=⟨gb155,2,none⟩) (Kd.R_far (p:=⟨gb155,1,none⟩) (Kd.R_far (p:=⟨gb155,0,none⟩) (Kd.R_types HO151.out BK155.out (by decide)) (fun _ hk=>hk.2) (.int .i64 (rd t148 0))) (fun _ hk=>hk.2) (.int .i64 (rd t148 1))) (fun _ hk=>hk.2) (.int .i64 (rd t148 2))) (fun _ h_=>h_.1)))) hb);have n1_:=Aside0.mk (blk_below (g:=gb147) (o:=.cells #[.int .i64 0,.int .i64 0,.int .i64 0] 25 (0,0)) (by (with_reducible repeat (first|refine blk_drewN ?_ _|refine blk_drew ?_|refine blk_alloc ?_ _));refine blk_far ?_ NB147_155.out _;(with_reducible repeat (first|refine blk_drewN ?_ _|refine blk_drew ?_|refine blk_alloc ?_ _));refine blk_far ?_ NB147_155.out _;(with_reducible repeat (first|refine blk_drewN ?_ _|refine blk_drew ?_|refine blk_alloc ?_ _));refine blk_far ?_ NB147_155.out _;(with_reducible repeat (first|refine blk_drewN ?_ _|refine blk_drew ?_|refine blk_alloc ?_ _));exact BK147.out) hb);have n2_:=Aside0.mk (blk_below (g:=gb155) (o:=.cells #[.int .i64 (rd t148 0),.int .i64 (rd t148 1),.int .i64 (rd t148 2)] 25 (0,0)) (by (with_reducible repeat (first|refine blk_drewN ?_ _|refine blk_drew ?_|refine blk_alloc ?_ _));refine blk_put (cs:=#[.int .i64 (rd t148 0),.int .i64 (rd t148 1),.int .i64 0]) ?_ 2 _ rfl;(with_reducible repeat (first|refine blk_drewN ?_ _|refine blk_drew ?_|refine blk_alloc ?_ _));refine blk_put (cs:=#[.int .i64 (rd t148 0),.int .i64 0,.int .i64 0]) ?_ 1 _ rfl;(with_reducible repeat (first|refine blk_drewN ?_ _|refine blk_drew ?_|refine blk_alloc ?_ _));refine blk_put (cs:=#[.int .i64 0,.int .i64 0,.int .i64 0]) ?_ 0 _ rfl;(with_reducible repeat (first|refine blk_drewN ?_ _|refine blk_drew ?_|refine blk_alloc ?_ _));exact BK155.out) hb);have n3_:=bs hb;clear HO151;clear BK147;clear BK155;clear HB;have HO151:=n0_;have BK147:=n1_;have BK155:=n2_;have HB:=n3_;clear n0_ n1_ n2_ n3_;(try clear hb);(try clear hb2);(try clear hk);(try clear hi);have hcz37_0:w36.cell? ⟨gb155,0,none⟩=some (.int .i64 (rd t148 0)):=(blk_cell BK155.out 0).trans rfl;have hcz37_1:w36.cell? ⟨gb155,1,none⟩=some (.int .i64 (rd t148 1)):=(blk_cell BK155.out 1).trans rfl;have hcz37_2:w36.cell? ⟨gb155,2,none⟩=some (.int .i64 (rd t148 2)):=(blk_cell BK155.out 2).trans rfl;have hfz37_0:=blk_frozen BK155.out 0;have hfz37_1:=blk_frozen BK155.out 1;have hfz37_2:=blk_frozen BK155.out 2)|(go_at_call 13;(with_reducible refine (impl_StampText.calls (rd t148 0) (rd t148 1) (rd t148 2) t157 _ ?side1 A9.out).mono ?_);(case side1=>exact lb hL);rintro e w38 ⟨rfl,hb⟩;have n0_:=Aside0.mk (Kd.R_below ((rR HO151)) hb);have n1_:=Aside0.mk (blk_below (g:=gb147) (o:=.cells #[.int .i64 0,.int .i64 0,.int .i64 0] 25 (0,0)) (bk BK147) hb);have n2_:=Aside0.mk (blk_below (g:=gb155) (o:=.cells #[.int .i64 (rd t148 0),.int .i64 (rd t148 1),.int .i64 (rd t148 2)] 25 (0,0)) (bk BK155) hb);have n3_:=bs hb;clear HO151;clear BK147;clear BK155;clear HB;have HO151:=n0_;have BK147:=n1_;have BK155:=n2_;have HB:=n3_;clear n0_ n1_ n2_ n3_;(try clear hb);(try clear hb2);(try clear hk);(try clear hi);have hcz39_0:w38.cell? ⟨gb147,0,none⟩=some (.int .i64 0):=(blk_cell BK147.out 0).trans rfl;have hcz39_1:w38.cell? ⟨gb147,1,none⟩=some (.int .i64 0):=(blk_cell BK147.out 1).trans rfl;have hcz39_2:w38.cell? ⟨gb147,2,none⟩=some (.int .i64 0):=(blk_cell BK147.out 2).trans rfl;have hfz39_0:=blk_frozen BK147.out 0;have hfz39_1:=blk_frozen BK147.out 1;have hfz39_2:=blk_frozen BK147.out 2))
       refine bodyPost_ret (results_ct rfl _ _ gb147 25 #[.int .i64 0,.int .i64 0,.int .i64 0] (0,0) _ rfl (by (with_reducible repeat (first|refine blk_drewN ?_ _|refine blk_drew ?_|refine blk_alloc ?_ _));refine blk_put (cs:=#[.int .i64 0,.int .i64 0,.int .i64 0]) ?_ 2 _ rfl;(with_reducible repeat (first|refine blk_drewN ?_ _|refine blk_drew ?_|refine blk_alloc ?_ _));refine blk_put (cs:=#[.int .i64 0,.int .i64 0,.int .i64 0]) ?_ 1 _ rfl;(with_reducible repeat (first|refine blk_drewN ?_ _|refine blk_drew ?_|refine blk_alloc ?_ _));refine blk_put (cs:=#[.int .i64 0,.int .i64 0,.int .i64 0]) ?_ 0 _ rfl;(with_reducible repeat (first|refine blk_drewN ?_ _|refine blk_drew ?_|refine blk_alloc ?_ _));exact BK147.out) Tryd.underlying25 rfl (by kernel_rfl)) rfl ?_
       exact ⟨rz,be⟩
     ·replace c8:=Bool.eq_false_iff.mpr c8
      subst c8
      have H1:(some (0,0,0,false))=some (r1,r2,r3,r4):=by rw [if_neg (show ¬ (false=true) by decide)] at H;exact H
      clear H
      have H:=H1
      clear H1
      simp only [Option.some.injEq,Prod.mk.injEq] at H
      obtain ⟨rfl,rfl,rfl,rfl⟩:=H
      go_enter Tryd.func20,Tryd.ntmps20
      try go_wp2_with (first|((with_reducible refine gate_dst (N:=2) rfl ?_);refine box_event ?hg (N:=2) ?hd (cs:=#[.int .i64 0,.int .i64 0,.int .i64 0]) (t:=25) ?hr ?_;(case hd=>rfl);(case hg=>rfl);(case hr=>first|(go_simp;done)|(go_simp;rfl));intro gb147 hg w40 hbox hb;have n0_:=bs hb;have n1_:=Aside0.mk (hbox);have n2_:=Aside0.mk ((by rw [hg];exact (below_size be):w.heap.size≤gb147));have n3_:=Aside0.mk ((by rw [hg];exact (below_size be):w.heap.size≤gb147));clear HB;have HB:=n0_;have BK147:=n1_;have GW147:=n2_;have GE147:=n3_;clear n0_ n1_ n2_ n3_;clear hb hbox hg)|((with_reducible refine gate_callee (f:=48) rfl ?_);refine goesL_ (some 9) rfl rfl Tryd.func48 (by kernel_rfl) rfl #[.string a0,.string (⟨#[46]⟩:ByteArray),.int .i64 3] rfl (by (try simp only [List.map_toArray,List.map_cons,List.map_nil]);first|done|rfl|(simp only [List.length_drop,List.length_take];rfl)) ?_;(with_reducible refine (impl_numbersOf.calls k a0 (⟨#[46]⟩:ByteArray) 3 t148 true _ ?side1 A2.out).mono ?_);(case side1=>exact lb hL);rintro e w41 ⟨v150,rfl,ho0,hb⟩;refine ⟨_,rfl,?_⟩;have n0_:=Aside0.mk (Kd.R_lower ho0 (below_size be));have n1_:=Aside0.mk (blk_below (g:=gb147) (o:=.cells #[.int .i64 0,.int .i64 0,.int .i64 0] 25 (0,0)) (bk BK147) hb);have n2_:=bs hb;clear BK147;clear HB;have HO151:=n0_;have BK147:=n1_;have HB:=n2_;clear n0_ n1_ n2_;(try clear hb);(try clear hb2);(try clear hk);(try clear hi);(try clear ho0)))
      have n0_:=Aside0.mk (Kd.R_drew HO151.out)
      have n1_:=Aside0.mk (blk_drew BK147.out)
      have n2_:=Aside0.mk (below_drew1 HB.out)
      clear HO151
      clear BK147
      clear HB
      have HO151:=n0_
      have BK147:=n1_
      have HB:=n2_
      clear n0_ n1_ n2_
      obtain ⟨Ao43,co43,eo43⟩:=Kd.R_slice HO151.out
      (first|subst eo43|(injection eo43 with f1_ f2_ f3_;have f4_:=f1_.symm;have f5_:=f3_.symm;clear f1_ f2_ f3_;subst f4_;subst f5_))
      have p152:0≤(0:Int):=(by omega)
      have q152:0 < (t148.length:Int):=of_decide_eq_true (by first|(with_reducible assumption)|assumption)
      obtain ⟨ad152,e152,hx152_0⟩:=Kd.at_int (Kd.R_reads' HO151.out).2.2 0 p152 q152
      cases e152
      have qi152:(0 < t148.length)=True:=eq_true (by omega)
      (try rw [show ((0:Int)).toNat=0 from rfl] at hx152_0)
      (try rw [Addr.add_zero'] at hx152_0)
      replace p152:=eq_true p152
      replace q152:=eq_true q152
      have p153:0≤(1:Int):=(by omega)
      have q153:1 < (t148.length:Int):=of_decide_eq_true (by first|(with_reducible assumption)|assumption)
      obtain ⟨ad153,e153,hx153_0⟩:=Kd.at_int (Kd.R_reads' HO151.out).2.2 1 p153 q153
      obtain rfl:ad152=ad153:=(by injection e153)
      (try simp only [show (1:Int).toNat=1 from rfl,Nat.reduceMul,Nat.reduceEqDiff,Go.Addr.add,↓reduceIte] at hx153_0)
      have qi153:(1 < t148.length)=True:=eq_true (by omega)
      (try rw [show ((1:Int)).toNat=1 from rfl] at hx153_0)
      replace p153:=eq_true p153
      replace q153:=eq_true q153
      have p154:0≤(2:Int):=(by omega)
      have q154:2 < (t148.length:Int):=of_decide_eq_true (by first|(with_reducible assumption)|assumption)
      obtain ⟨ad154,e154,hx154_0⟩:=Kd.at_int (Kd.R_reads' HO151.out).2.2 2 p154 q154
      obtain rfl:ad152=ad154:=(by injection e154)
      (try simp only [show (2:Int).toNat=2 from rfl,Nat.reduceMul,Nat.reduceEqDiff,Go.Addr.add,↓reduceIte] at hx154_0)
      have qi154:(2 < t148.length)=True:=eq_true (by omega)
      (try rw [show ((2:Int)).toNat=2 from rfl] at hx154_0)
      replace p154:=eq_true p154
      replace q154:=eq_true q154
      refine start_ (n:=12) (S:=fun w'=>w'.cell? ad152=some (.int .i64 (rd t148 0))∧w'.cell? ⟨ad152.block,ad152.off+1,none⟩=some (.int .i64 (rd t148 1))∧w'.cell? ⟨ad152.block,ad152.off+2,none⟩=some (.int .i64 (rd t148 2))) (ds:=[]) (fl 12 0) (by kernel_rfl) rfl rfl ⟨hx152_0,hx153_0,hx154_0⟩ (fun hHeld=>?_);refine with_tabW impl_ParseStamp.tab4 impl_ParseStamp.bits4 (fun HT_ HW_=>?_)
      generalize w41.drew=w42 at HO151 BK147 HB hx152_0 hx153_0 hx154_0 hHeld ⊢
      refine pt 0 15 (fl 12 1) HT_ ?_
      refine pt 1 16 (fl 12 3) HT_ ?_
      refine pt 3 18 (fl 12 11) HT_ ?_
      refine pt 4 19 (fl 12 27) HT_ ?_
      refine pt 6 21 (fl 12 91) HT_ ?_
      refine pt 7 22 (fl 12 219) HT_ ?_
      refine tt 2 17 (fl 12 223) HT_ HW_ hHeld ?_
      refine tt 5 20 (fl 12 255) HT_ HW_ hHeld ?_
      refine tt 8 23 (fl 12 511) HT_ HW_ hHeld ?_
      refine pt 9 24 (fl 12 1023) HT_ ?_
      refine ot 10 (some 6) (fl 12 2047) HT_ (fun K hK=>?_)
      refine box_step ?hg (N:=6) ?hd (cs:=#[.int .i64 0,.int .i64 0,.int .i64 0]) (t:=25) ?hr ?_;(case hd=>rfl);(case hg=>rfl);(case hr=>first|(go_simp;done)|(go_simp;rfl))
      intro gb155 hg w44 hbox hb
      have HS0_:=(hb.cell (World.block_lt_of_cell? _ _ (hHeld.1))).trans (hHeld.1)
      have HS1_:=(hb.cell (World.block_lt_of_cell? _ _ (hHeld.2.1))).trans (hHeld.2.1)
      have HS2_:=(hb.cell (World.block_lt_of_cell? _ _ (hHeld.2.2))).trans (hHeld.2.2)
      have n0_:=Aside0.mk (Kd.R_below (rR HO151) hb)
      have n1_:=Aside0.mk (blk_below (g:=gb147) (o:=.cells #[.int .i64 0,.int .i64 0,.int .i64 0] 25 (0,0)) (bk BK147) hb)
      have n2_:=bs hb
      have n3_:=Aside0.mk (hbox)
      have n4_:=Aside0.mk ((by rw [hg];exact (below_size be):w.heap.size≤gb155))
      have n5_:=Aside0.mk ((by rw [hg];exact (below_size be):w.heap.size≤gb155))
      have n6_:=Aside0.mk ((by rw [hg];exact Nat.ne_of_lt (blk_lt (g:=gb147) (o:=.cells #[.int .i64 0,.int .i64 0,.int .i64 0] 25 (0,0)) (bk BK147)):gb147 ≠ gb155))
      have n7_:=Aside0.mk ((by rw [hg];exact Nat.ne_of_gt (blk_lt (g:=gb147) (o:=.cells #[.int .i64 0,.int .i64 0,.int .i64 0] 25 (0,0)) (bk BK147)):gb155 ≠ gb147))
      clear HO151
      clear BK147
      clear HB
      have HO151:=n0_
      have BK147:=n1_
      have HB:=n2_
      have BK155:=n3_
      have GW155:=n4_
      have GE155:=n5_
      have NB147_155:=n6_
      have NB155_147:=n7_
      clear n0_ n1_ n2_ n3_ n4_ n5_ n6_ n7_
      clear hb hbox hg
      refine hK.out _ _ ⟨HS0_,HS1_,HS2_⟩ (fun hHeld=>?_)
      clear hK K
      refine no 6 ?_
      refine ot 11 none (fl 12 4095) HT_ (fun K hK=>?_)
      have hs45:w44.cell? ⟨gb155,0,none⟩=some (.int .i64 0):=(blk_cell BK155.out 0).trans rfl
      have hfs45:=blk_frozen BK155.out 0
      have hns45_0:=NB147_155.out
      have hms45_0:=NB155_147.out
      have hs46:w44.cell? ⟨gb155,1,none⟩=some (.int .i64 0):=(blk_cell BK155.out 1).trans rfl
      have hfs46:=blk_frozen BK155.out 1
      have hns46_0:=NB147_155.out
      have hms46_0:=NB155_147.out
      have hs47:w44.cell? ⟨gb155,2,none⟩=some (.int .i64 0):=(blk_cell BK155.out 2).trans rfl
      have hfs47:=blk_frozen BK155.out 2
      have hns47_0:=NB147_155.out
      have hms47_0:=NB155_147.out
      refine skip_ (w1:=?_) (by rfl) rfl ?_ ?_
      rotate_left
      ·go_simp
       rfl
      refine hK.out _ _ ⟨((cell_far (p:=⟨gb155,_,none⟩) (by first|exact Kd.own_blk (Kd.R_ne HO151.out BK155.out (by decide))|(rw [add_block];exact Kd.own_blk (Kd.R_ne HO151.out BK155.out (by decide)))|(show (Addr.add _ _).block ≠ _;rw [add_block];exact Kd.own_blk (Kd.R_ne HO151.out BK155.out (by decide)))|(dsimp only;exact Kd.own_blk (Kd.R_ne HO151.out BK155.out (by decide)))) _).trans (((cell_far (p:=⟨gb155,_,none⟩) (by first|exact Kd.own_blk (Kd.R_ne HO151.out BK155.out (by decide))|(rw [add_block];exact Kd.own_blk (Kd.R_ne HO151.out BK155.out (by decide)))|(show (Addr.add _ _).block ≠ _;rw [add_block];exact Kd.own_blk (Kd.R_ne HO151.out BK155.out (by decide)))|(dsimp only;exact Kd.own_blk (Kd.R_ne HO151.out BK155.out (by decide)))) _).trans (((cell_far (p:=⟨gb155,_,none⟩) (by first|exact Kd.own_blk (Kd.R_ne HO151.out BK155.out (by decide))|(rw [add_block];exact Kd.own_blk (Kd.R_ne HO151.out BK155.out (by decide)))|(show (Addr.add _ _).block ≠ _;rw [add_block];exact Kd.own_blk (Kd.R_ne HO151.out BK155.out (by decide)))|(dsimp only;exact Kd.own_blk (Kd.R_ne HO151.out BK155.out (by decide)))) _).trans (hHeld.1)))))),((cell_far (p:=⟨gb155,_,none⟩) (by first|exact Kd.own_blk (Kd.R_ne HO151.out BK155.out (by decide))|(rw [add_block];exact Kd.own_blk (Kd.R_ne HO151.out BK155.out (by decide)))|(show (Addr.add _ _).block ≠ _;rw [add_block];exact Kd.own_blk (Kd.R_ne HO151.out BK155.out (by decide)))|(dsimp only;exact Kd.own_blk (Kd.R_ne HO151.out BK155.out (by decide)))) _).trans (((cell_far (p:=⟨gb155,_,none⟩) (by first|exact Kd.own_blk (Kd.R_ne HO151.out BK155.out (by decide))|(rw [add_block];exact Kd.own_blk (Kd.R_ne HO151.out BK155.out (by decide)))|(show (Addr.add _ _).block ≠ _;rw [add_block];exact Kd.own_blk (Kd.R_ne HO151.out BK155.out (by decide)))|(dsimp only;exact Kd.own_blk (Kd.R_ne HO151.out BK155.out (by decide)))) _).trans (((cell_far (p:=⟨gb155,_,none⟩) (by first|exact Kd.own_blk (Kd.R_ne HO151.out BK155.out (by decide))|(rw [add_block];exact Kd.own_blk (Kd.R_ne HO151.out BK155.out (by decide)))|(show (Addr.add _ _).block ≠ _;rw [add_block];exact Kd.own_blk (Kd.R_ne HO151.out BK155.out (by decide)))|(dsimp only;exact Kd.own_blk (Kd.R_ne HO151.out BK155.out (by decide)))) _).trans (hHeld.2.1)))))),((cell_far (p:=⟨gb155,_,none⟩) (by first|exact Kd.own_blk (Kd.R_ne HO151.out BK155.out (by decide))|(rw [add_block];exact Kd.own_blk (Kd.R_ne HO151.out BK155.out (by decide)))|(show (Addr.add _ _).block ≠ _;rw [add_block];exact Kd.own_blk (Kd.R_ne HO151.out BK155.out (by decide)))|(dsimp only;exact Kd.own_blk (Kd.R_ne HO151.out BK155.out (by decide)))) _).trans (((cell_far (p:=⟨gb155,_,none⟩) (by first|exact Kd.own_blk (Kd.R_ne HO151.out BK155.out (by decide))|(rw [add_block];exact Kd.own_blk (Kd.R_ne HO151.out BK155.out (by decide)))|(show (Addr.add _ _).block ≠ _;rw [add_block];exact Kd.own_blk (Kd.R_ne HO151.out BK155.out (by decide)))|(dsimp only;exact Kd.own_blk (Kd.R_ne HO151.out BK155.out (by decide)))) _).trans (((cell_far (p:=⟨gb155,_,none⟩) (by first|exact Kd.own_blk (Kd.R_ne HO151.out BK155.out (by decide))|(rw [add_block];exact Kd.own_blk (Kd.R_ne HO151.out BK155.out (by decide)))|(show (Addr.add _ _).block ≠ _;rw [add_block];exact Kd.own_blk (Kd.R_ne HO151.out BK155.out (by decide)))|(dsimp only;exact Kd.own_blk (Kd.R_ne HO151.out BK155.out (by decide)))) _).trans (hHeld.2.2))))))⟩ (fun hHeld=>?_)
      clear hK K
      refine done_ (done_of HT_.out (by kernel_rfl)) ?_
      have hnb48:=NB155_147.out
      have hnc48:=NB147_155.out
      have hcz49_0:w44.cell? ⟨gb155,0,none⟩=some (.int .i64 0):=(blk_cell BK155.out 0).trans rfl
      have hcz49_1:w44.cell? ⟨gb155,1,none⟩=some (.int .i64 0):=(blk_cell BK155.out 1).trans rfl
      have hcz49_2:w44.cell? ⟨gb155,2,none⟩=some (.int .i64 0):=(blk_cell BK155.out 2).trans rfl
      have hfz49_0:=blk_frozen BK155.out 0
      have hfz49_1:=blk_frozen BK155.out 1
      have hfz49_2:=blk_frozen BK155.out 2
      try go_wp2_with (first|((with_reducible refine gate_callee (f:=27) rfl ?_);refine goesL_ (some 26) rfl rfl Tryd.func27 (by kernel_rfl) rfl #[.agg #[.int .i64 (rd t148 0),.int .i64 (rd t148 1),.int .i64 (rd t148 2)]] rfl (by (try simp only [List.map_toArray,List.map_cons,List.map_nil]);first|done|rfl|(simp only [List.length_drop,List.length_take];rfl)) ?_;(with_reducible refine (impl_StampOk.calls (rd t148 0) (rd t148 1) (rd t148 2) false _ A7.out).mono ?_);rintro e w50 ⟨rfl,hb⟩;refine ⟨_,rfl,?_⟩;have n0_:=Aside0.mk (Kd.R_below ((by (with_reducible repeat (first|apply Kd.R_alloc|apply Kd.R_drewN|apply Kd.R_drew));exact (Kd.R_mono (Kd.R_far (p:=⟨gb155,2,none⟩) (Kd.R_far (p:=⟨gb155,1,none⟩) (Kd.R_far (p:=⟨gb155,0,none⟩) (Kd.R_types HO151.out BK155.out (by decide)) (fun _ hk=>hk.2) (.int .i64 (rd t148 0))) (fun _ hk=>hk.2) (.int .i64 (rd t148 1))) (fun _ hk=>hk.2) (.int .i64 (rd t148 2))) (fun _ h_=>h_.1)))) hb);have n1_:=Aside0.mk (blk_below (g:=gb147) (o:=.cells #[.int .i64 0,.int .i64 0,.int .i64 0] 25 (0,0)) (by (with_reducible repeat (first|refine blk_drewN ?_ _|refine blk_drew ?_|refine blk_alloc ?_ _));refine blk_far ?_ NB147_155.out _;(with_reducible repeat (first|refine blk_drewN ?_ _|refine blk_drew ?_|refine blk_alloc ?_ _));refine blk_far ?_ NB147_155.out _;(with_reducible repeat (first|refine blk_drewN ?_ _|refine blk_drew ?_|refine blk_alloc ?_ _));refine blk_far ?_ NB147_155.out _;(with_reducible repeat (first|refine blk_drewN ?_ _|refine blk_drew ?_|refine blk_alloc ?_ _));exact BK147.out) hb);have n2_:=Aside0.mk (blk_below (g:=gb155) (o:=.cells #[.int .i64 (rd t148 0),.int .i64 (rd t148 1),.int .i64 (rd t148 2)] 25 (0,0)) (by (with_reducible repeat (first|refine blk_drewN ?_ _|refine blk_drew ?_|refine blk_alloc ?_ _));refine blk_put (cs:=#[.int .i64 (rd t148 0),.int .i64 (rd t148 1),.int .i64 0]) ?_ 2 _ rfl;(with_reducible repeat (first|refine blk_drewN ?_ _|refine blk_drew ?_|refine blk_alloc ?_ _));refine blk_put (cs:=#[.int .i64 (rd t148 0),.int .i64 0,.int .i64 0]) ?_ 1 _ rfl;(with_reducible repeat (first|refine blk_drewN ?_ _|refine blk_drew ?_|refine blk_alloc ?_ _));refine blk_put (cs:=#[.int .i64 0,.int .i64 0,.int .i64 0]) ?_ 0 _ rfl;(with_reducible repeat (first|refine blk_drewN ?_ _|refine blk_drew ?_|refine blk_alloc ?_ _));exact BK155.out) hb);have n3_:=bs hb;clear HO151;clear BK147;clear BK155;clear HB;have HO151:=n0_;have BK147:=n1_;have BK155:=n2_;have HB:=n3_;clear n0_ n1_ n2_ n3_;(try clear hb);(try clear hb2);(try clear hk);(try clear hi);have hcz51_0:w50.cell? ⟨gb147,0,none⟩=some (.int .i64 0):=(blk_cell BK147.out 0).trans rfl;have hcz51_1:w50.cell? ⟨gb147,1,none⟩=some (.int .i64 0):=(blk_cell BK147.out 1).trans rfl;have hcz51_2:w50.cell? ⟨gb147,2,none⟩=some (.int .i64 0):=(blk_cell BK147.out 2).trans rfl;have hfz51_0:=blk_frozen BK147.out 0;have hfz51_1:=blk_frozen BK147.out 1;have hfz51_2:=blk_frozen BK147.out 2))
      refine bodyPost_ret (results_ct rfl _ _ gb147 25 #[.int .i64 0,.int .i64 0,.int .i64 0] (0,0) _ rfl (by (with_reducible repeat (first|refine blk_drewN ?_ _|refine blk_drew ?_|refine blk_alloc ?_ _));refine blk_put (cs:=#[.int .i64 0,.int .i64 0,.int .i64 0]) ?_ 2 _ rfl;(with_reducible repeat (first|refine blk_drewN ?_ _|refine blk_drew ?_|refine blk_alloc ?_ _));refine blk_put (cs:=#[.int .i64 0,.int .i64 0,.int .i64 0]) ?_ 1 _ rfl;(with_reducible repeat (first|refine blk_drewN ?_ _|refine blk_drew ?_|refine blk_alloc ?_ _));refine blk_put (cs:=#[.int .i64 0,.int .i64 0,.int .i64 0]) ?_ 0 _ rfl;(with_reducible repeat (first|refine blk_drewN ?_ _|refine blk_drew ?_|refine blk_alloc ?_ _));exact BK147.out) Tryd.underlying25 rfl (by kernel_rfl)) rfl ?_
      exact ⟨rz,be⟩
    ·rw [if_neg c6] at H
     exact absurd H (by simp)
   ·rw [if_neg c5] at H
    exact absurd H (by simp)
  ·rw [if_neg c4] at H
   exact absurd H (by simp)
 ·replace c3:=Bool.eq_false_iff.mpr c3
  subst c3
  have H1:(some (0,0,0,false))=some (r1,r2,r3,r4):=by rw [if_neg (show ¬ (false=true) by decide)] at H;exact H
  clear H
  have H:=H1
  clear H1
  simp only [Option.some.injEq,Prod.mk.injEq] at H
  obtain ⟨rfl,rfl,rfl,rfl⟩:=H
  go_enter Tryd.func20,Tryd.ntmps20
  go_wp2_with (first|((with_reducible refine gate_dst (N:=2) rfl ?_);refine box_event ?hg (N:=2) ?hd (cs:=#[.int .i64 0,.int .i64 0,.int .i64 0]) (t:=25) ?hr ?_;(case hd=>rfl);(case hg=>rfl);(case hr=>first|(go_simp;done)|(go_simp;rfl));intro gb147 hg w52 hbox hb;have n0_:=bs hb;have n1_:=Aside0.mk (hbox);have n2_:=Aside0.mk ((by rw [hg];exact (below_size be):w.heap.size≤gb147));have n3_:=Aside0.mk ((by rw [hg];exact (below_size be):w.heap.size≤gb147));clear HB;have HB:=n0_;have BK147:=n1_;have GW147:=n2_;have GE147:=n3_;clear n0_ n1_ n2_ n3_;clear hb hbox hg)|((with_reducible refine gate_callee (f:=48) rfl ?_);refine goesL_ (some 9) rfl rfl Tryd.func48 (by kernel_rfl) rfl #[.string a0,.string (⟨#[46]⟩:ByteArray),.int .i64 3] rfl (by (try simp only [List.map_toArray,List.map_cons,List.map_nil]);first|done|rfl|(simp only [List.length_drop,List.length_take];rfl)) ?_;(with_reducible refine (impl_numbersOf.calls k a0 (⟨#[46]⟩:ByteArray) 3 t148 false _ ?side1 A2.out).mono ?_);(case side1=>exact lb hL);rintro e w53 ⟨v150,rfl,ho0,hb⟩;refine ⟨_,rfl,?_⟩;have n0_:=Aside0.mk (Kd.R_lower ho0 (below_size be));have n1_:=Aside0.mk (blk_below (g:=gb147) (o:=.cells #[.int .i64 0,.int .i64 0,.int .i64 0] 25 (0,0)) (bk BK147) hb);have n2_:=bs hb;clear BK147;clear HB;have HO151:=n0_;have BK147:=n1_;have HB:=n2_;clear n0_ n1_ n2_;(try clear hb);(try clear hb2);(try clear hk);(try clear hi);(try clear ho0);have hcz54_0:w53.cell? ⟨gb147,0,none⟩=some (.int .i64 0):=(blk_cell BK147.out 0).trans rfl;have hcz54_1:w53.cell? ⟨gb147,1,none⟩=some (.int .i64 0):=(blk_cell BK147.out 1).trans rfl;have hcz54_2:w53.cell? ⟨gb147,2,none⟩=some (.int .i64 0):=(blk_cell BK147.out 2).trans rfl;have hfz54_0:=blk_frozen BK147.out 0;have hfz54_1:=blk_frozen BK147.out 1;have hfz54_2:=blk_frozen BK147.out 2))
  refine bodyPost_ret (results_ct rfl _ _ gb147 25 #[.int .i64 0,.int .i64 0,.int .i64 0] (0,0) _ rfl (by (with_reducible repeat (first|refine blk_drewN ?_ _|refine blk_drew ?_|refine blk_alloc ?_ _));refine blk_put (cs:=#[.int .i64 0,.int .i64 0,.int .i64 0]) ?_ 2 _ rfl;(with_reducible repeat (first|refine blk_drewN ?_ _|refine blk_drew ?_|refine blk_alloc ?_ _));refine blk_put (cs:=#[.int .i64 0,.int .i64 0,.int .i64 0]) ?_ 1 _ rfl;(with_reducible repeat (first|refine blk_drewN ?_ _|refine blk_drew ?_|refine blk_alloc ?_ _));refine blk_put (cs:=#[.int .i64 0,.int .i64 0,.int .i64 0]) ?_ 0 _ rfl;(with_reducible repeat (first|refine blk_drewN ?_ _|refine blk_drew ?_|refine blk_alloc ?_ _));exact BK147.out) Tryd.underlying25 rfl (by kernel_rfl)) rfl ?_
  exact ⟨rz,be⟩
def laws_eqStamp.f (a0_0:Int) (a0_1:Int) (a0_2:Int) (a1_0:Int) (a1_1:Int) (a1_2:Int):Option (Bool):=if a0_0=a1_0 then (if a0_1=a1_1 then (if a0_2=a1_2 then (some true) else (some false)) else (some false)) else (some false)
set_option maxHeartbeats 8000000 in
set_option maxRecDepth 100000 in
theorem laws_eqStamp.calls (a0_0:Int) (a0_1:Int) (a0_2:Int) (a1_0:Int) (a1_1:Int) (a1_2:Int) (r:Bool) (w:World) (h:laws_eqStamp.f a0_0 a0_1 a0_2 a1_0 a1_1 a1_2=some r) :
  Calls Tryd.prog 21 #[.agg #[.int .i64 a0_0,.int .i64 a0_1,.int .i64 a0_2],.agg #[.int .i64 a1_0,.int .i64 a1_1,.int .i64 a1_2]] w fun e w'=>e = .returned (.bool r)∧Below w.heap.size w w':=by
 have hu25:=Tryd.underlying25
 have HB:=Aside0.mk (Below.refl w.heap.size w)
 have H:(if a0_0=a1_0 then (if a0_1=a1_1 then (if a0_2=a1_2 then (some true) else (some false)) else (some false)) else (some false))=some r:=h
 clear h
 by_cases c3:a0_0=a1_0
 ·rw [if_pos c3] at H
  have c3b0:(a0_0 == a1_0)=true:=beq_iff_eq.mpr c3
  have c3b1:(a0_0 != a1_0)=false:=bne_eq_false_iff_eq.mpr c3
  clear c3
  by_cases c4:a0_1=a1_1
  ·rw [if_pos c4] at H
   have c4b0:(a0_1 == a1_1)=true:=beq_iff_eq.mpr c4
   have c4b1:(a0_1 != a1_1)=false:=bne_eq_false_iff_eq.mpr c4
   clear c4
   by_cases c5:a0_2=a1_2
   ·rw [if_pos c5] at H
    have c5b0:(a0_2 == a1_2)=true:=beq_iff_eq.mpr c5
    have c5b1:(a0_2 != a1_2)=false:=bne_eq_false_iff_eq.mpr c5
    clear c5
    obtain rfl:=Option.some.inj H
    go_enter Tryd.func21,Tryd.ntmps21
    go_wp2_with (first|((with_reducible refine gate_dst (N:=2) rfl ?_);refine box_event ?hg (N:=2) ?hd (cs:=#[.int .i64 a0_0,.int .i64 a0_1,.int .i64 a0_2]) (t:=25) ?hr ?_;(case hd=>rfl);(case hg=>rfl);(case hr=>first|(go_simp;done)|(go_simp;rfl));intro gb158 hg w6 hbox hb;have n0_:=bs hb;have n1_:=Aside0.mk (hbox);have n2_:=Aside0.mk ((by rw [hg];exact (below_size be):w.heap.size≤gb158));have n3_:=Aside0.mk ((by rw [hg];exact (below_size be):w.heap.size≤gb158));clear HB;have HB:=n0_;have BK158:=n1_;have GW158:=n2_;have GE158:=n3_;clear n0_ n1_ n2_ n3_;clear hb hbox hg)|((with_reducible refine gate_dst (N:=3) rfl ?_);refine box_event ?hg (N:=3) ?hd (cs:=#[.int .i64 a1_0,.int .i64 a1_1,.int .i64 a1_2]) (t:=25) ?hr ?_;(case hd=>rfl);(case hg=>rfl);(case hr=>first|(go_simp;done)|(go_simp;rfl));intro gb159 hg w7 hbox hb;have n0_:=Aside0.mk (blk_below (g:=gb158) (o:=.cells #[.int .i64 a0_0,.int .i64 a0_1,.int .i64 a0_2] 25 (0,0)) (bk BK158) hb);have n1_:=bs hb;have n2_:=Aside0.mk (hbox);have n3_:=Aside0.mk ((by rw [hg];exact (below_size be):w.heap.size≤gb159));have n4_:=Aside0.mk ((by rw [hg];exact (below_size be):w.heap.size≤gb159));have n5_:=Aside0.mk ((by rw [hg];exact Nat.ne_of_lt (blk_lt (g:=gb158) (o:=.cells #[.int .i64 a0_0,.int .i64 a0_1,.int .i64 a0_2] 25 (0,0)) (bk BK158)):gb158 ≠ gb159));have n6_:=Aside0.mk ((by rw [hg];exact Nat.ne_of_gt (blk_lt (g:=gb158) (o:=.cells #[.int .i64 a0_0,.int .i64 a0_1,.int .i64 a0_2] 25 (0,0)) (bk BK158)):gb159 ≠ gb158));clear BK158;clear HB;have BK158:=n0_;have HB:=n1_;have BK159:=n2_;have GW159:=n3_;have GE159:=n4_;have NB158_159:=n5_;have NB159_158:=n6_;clear n0_ n1_ n2_ n3_ n4_ n5_ n6_;clear hb hbox hg;have hnb8:=NB158_159.out;have hnc8:=NB159_158.out;have hcz9_0:w7.cell? ⟨gb158,0,none⟩=some (.int .i64 a0_0):=(blk_cell BK158.out 0).trans rfl;have hcz9_1:w7.cell? ⟨gb158,1,none⟩=some (.int .i64 a0_1):=(blk_cell BK158.out 1).trans rfl;have hcz9_2:w7.cell? ⟨gb158,2,none⟩=some (.int .i64 a0_2):=(blk_cell BK158.out 2).trans rfl;have hfz9_0:=blk_frozen BK158.out 0;have hfz9_1:=blk_frozen BK158.out 1;have hfz9_2:=blk_frozen BK158.out 2;have hcz10_0:w7.cell? ⟨gb159,0,none⟩=some (.int .i64 a1_0):=(blk_cell BK159.out 0).trans rfl;have hcz10_1:w7.cell? ⟨gb159,1,none⟩=some (.int .i64 a1_1):=(blk_cell BK159.out 1).trans rfl;have hcz10_2:w7.cell? ⟨gb159,2,none⟩=some (.int .i64 a1_2):=(blk_cell BK159.out 2).trans rfl;have hfz10_0:=blk_frozen BK159.out 0;have hfz10_1:=blk_frozen BK159.out 1;have hfz10_2:=blk_frozen BK159.out 2))
    go_ret
    exact ⟨rz,be⟩
   ·rw [if_neg c5] at H
    have c5b0:(a0_2 == a1_2)=false:=beq_eq_false_iff_ne.mpr c5
    have c5b1:(a0_2 != a1_2)=true:=bne_iff_ne.mpr c5
    obtain rfl:=Option.some.inj H
    go_enter Tryd.func21,Tryd.ntmps21
    go_wp2_with (first|((with_reducible refine gate_dst (N:=2) rfl ?_);refine box_event ?hg (N:=2) ?hd (cs:=#[.int .i64 a0_0,.int .i64 a0_1,.int .i64 a0_2]) (t:=25) ?hr ?_;(case hd=>rfl);(case hg=>rfl);(case hr=>first|(go_simp;done)|(go_simp;rfl));intro gb158 hg w11 hbox hb;have n0_:=bs hb;have n1_:=Aside0.mk (hbox);have n2_:=Aside0.mk ((by rw [hg];exact (below_size be):w.heap.size≤gb158));have n3_:=Aside0.mk ((by rw [hg];exact (below_size be):w.heap.size≤gb158));clear HB;have HB:=n0_;have BK158:=n1_;have GW158:=n2_;have GE158:=n3_;clear n0_ n1_ n2_ n3_;clear hb hbox hg)|((with_reducible refine gate_dst (N:=3) rfl ?_);refine box_event ?hg (N:=3) ?hd (cs:=#[.int .i64 a1_0,.int .i64 a1_1,.int .i64 a1_2]) (t:=25) ?hr ?_;(case hd=>rfl);(case hg=>rfl);(case hr=>first|(go_simp;done)|(go_simp;rfl));intro gb159 hg w12 hbox hb;have n0_:=Aside0.mk (blk_below (g:=gb158) (o:=.cells #[.int .i64 a0_0,.int .i64 a0_1,.int .i64 a0_2] 25 (0,0)) (bk BK158) hb);have n1_:=bs hb;have n2_:=Aside0.mk (hbox);have n3_:=Aside0.mk ((by rw [hg];exact (below_size be):w.heap.size≤gb159));have n4_:=Aside0.mk ((by rw [hg];exact (below_size be):w.heap.size≤gb159));have n5_:=Aside0.mk ((by rw [hg];exact Nat.ne_of_lt (blk_lt (g:=gb158) (o:=.cells #[.int .i64 a0_0,.int .i64 a0_1,.int .i64 a0_2] 25 (0,0)) (bk BK158)):gb158 ≠ gb159));have n6_:=Aside0.mk ((by rw [hg];exact Nat.ne_of_gt (blk_lt (g:=gb158) (o:=.cells #[.int .i64 a0_0,.int .i64 a0_1,.int .i64 a0_2] 25 (0,0)) (bk BK158)):gb159 ≠ gb158));clear BK158;clear HB;have BK158:=n0_;have HB:=n1_;have BK159:=n2_;have GW159:=n3_;have GE159:=n4_;have NB158_159:=n5_;have NB159_158:=n6_;clear n0_ n1_ n2_ n3_ n4_ n5_ n6_;clear hb hbox hg;have hnb13:=NB158_159.out;have hnc13:=NB159_158.out;have hcz14_0:w12.cell? ⟨gb158,0,none⟩=some (.int .i64 a0_0):=(blk_cell BK158.out 0).trans rfl;have hcz14_1:w12.cell? ⟨gb158,1,none⟩=some (.int .i64 a0_1):=(blk_cell BK158.out 1).trans rfl;have hcz14_2:w12.cell? ⟨gb158,2,none⟩=some (.int .i64 a0_2):=(blk_cell BK158.out 2).trans rfl;have hfz14_0:=blk_frozen BK158.out 0;have hfz14_1:=blk_frozen BK158.out 1;have hfz14_2:=blk_frozen BK158.out 2;have hcz15_0:w12.cell? ⟨gb159,0,none⟩=some (.int .i64 a1_0):=(blk_cell BK159.out 0).trans rfl;have hcz15_1:w12.cell? ⟨gb159,1,none⟩=some (.int .i64 a1_1):=(blk_cell BK159.out 1).trans rfl;have hcz15_2:w12.cell? ⟨gb159,2,none⟩=some (.int .i64 a1_2):=(blk_cell BK159.out 2).trans rfl;have hfz15_0:=blk_frozen BK159.out 0;have hfz15_1:=blk_frozen BK159.out 1;have hfz15_2:=blk_frozen BK159.out 2))
    go_ret
    exact ⟨rz,be⟩
  ·rw [if_neg c4] at H
   have c4b0:(a0_1 == a1_1)=false:=beq_eq_false_iff_ne.mpr c4
   have c4b1:(a0_1 != a1_1)=true:=bne_iff_ne.mpr c4
   obtain rfl:=Option.some.inj H
   go_enter Tryd.func21,Tryd.ntmps21
   go_wp2_with (first|((with_reducible refine gate_dst (N:=2) rfl ?_);refine box_event ?hg (N:=2) ?hd (cs:=#[.int .i64 a0_0,.int .i64 a0_1,.int .i64 a0_2]) (t:=25) ?hr ?_;(case hd=>rfl);(case hg=>rfl);(case hr=>first|(go_simp;done)|(go_simp;rfl));intro gb158 hg w16 hbox hb;have n0_:=bs hb;have n1_:=Aside0.mk (hbox);have n2_:=Aside0.mk ((by rw [hg];exact (below_size be):w.heap.size≤gb158));have n3_:=Aside0.mk ((by rw [hg];exact (below_size be):w.heap.size≤gb158));clear HB;have HB:=n0_;have BK158:=n1_;have GW158:=n2_;have GE158:=n3_;clear n0_ n1_ n2_ n3_;clear hb hbox hg)|((with_reducible refine gate_dst (N:=3) rfl ?_);refine box_event ?hg (N:=3) ?hd (cs:=#[.int .i64 a1_0,.int .i64 a1_1,.int .i64 a1_2]) (t:=25) ?hr ?_;(case hd=>rfl);(case hg=>rfl);(case hr=>first|(go_simp;done)|(go_simp;rfl));intro gb159 hg w17 hbox hb;have n0_:=Aside0.mk (blk_below (g:=gb158) (o:=.cells #[.int .i64 a0_0,.int .i64 a0_1,.int .i64 a0_2] 25 (0,0)) (bk BK158) hb);have n1_:=bs hb;have n2_:=Aside0.mk (hbox);have n3_:=Aside0.mk ((by rw [hg];exact (below_size be):w.heap.size≤gb159));have n4_:=Aside0.mk ((by rw [hg];exact (below_size be):w.heap.size≤gb159));have n5_:=Aside0.mk ((by rw [hg];exact Nat.ne_of_lt (blk_lt (g:=gb158) (o:=.cells #[.int .i64 a0_0,.int .i64 a0_1,.int .i64 a0_2] 25 (0,0)) (bk BK158)):gb158 ≠ gb159));have n6_:=Aside0.mk ((by rw [hg];exact Nat.ne_of_gt (blk_lt (g:=gb158) (o:=.cells #[.int .i64 a0_0,.int .i64 a0_1,.int .i64 a0_2] 25 (0,0)) (bk BK158)):gb159 ≠ gb158));clear BK158;clear HB;have BK158:=n0_;have HB:=n1_;have BK159:=n2_;have GW159:=n3_;have GE159:=n4_;have NB158_159:=n5_;have NB159_158:=n6_;clear n0_ n1_ n2_ n3_ n4_ n5_ n6_;clear hb hbox hg;have hnb18:=NB158_159.out;have hnc18:=NB159_158.out;have hcz19_0:w17.cell? ⟨gb158,0,none⟩=some (.int .i64 a0_0):=(blk_cell BK158.out 0).trans rfl;have hcz19_1:w17.cell? ⟨gb158,1,none⟩=some (.int .i64 a0_1):=(blk_cell BK158.out 1).trans rfl;have hcz19_2:w17.cell? ⟨gb158,2,none⟩=some (.int .i64 a0_2):=(blk_cell BK158.out 2).trans rfl;have hfz19_0:=blk_frozen BK158.out 0;have hfz19_1:=blk_frozen BK158.out 1;have hfz19_2:=blk_frozen BK158.out 2;have hcz20_0:w17.cell? ⟨gb159,0,none⟩=some (.int .i64 a1_0):=(blk_cell BK159.out 0).trans rfl;have hcz20_1:w17.cell? ⟨gb159,1,none⟩=some (.int .i64 a1_1):=(blk_cell BK159.out 1).trans rfl;have hcz20_2:w17.cell? ⟨gb159,2,none⟩=some (.int .i64 a1_2):=(blk_cell BK159.out 2).trans rfl;have hfz20_0:=blk_frozen BK159.out 0;have hfz20_1:=blk_frozen BK159.out 1;have hfz20_2:=blk_frozen BK159.out 2))
   go_ret
   exact ⟨rz,be⟩
 ·rw [if_neg c3] at H
  have c3b0:(a0_0 == a1_0)=false:=beq_eq_false_iff_ne.mpr c3
  have c3b1:(a0_0 != a1_0)=true:=bne_iff_ne.mpr c3
  obtain rfl:=Option.some.inj H
  go_enter Tryd.func21,Tryd.ntmps21
  go_wp2_with (first|((with_reducible refine gate_dst (N:=2) rfl ?_);refine box_event ?hg (N:=2) ?hd (cs:=#[.int .i64 a0_0,.int .i64 a0_1,.int .i64 a0_2]) (t:=25) ?hr ?_;(case hd=>rfl);(case hg=>rfl);(case hr=>first|(go_simp;done)|(go_simp;rfl));intro gb158 hg w21 hbox hb;have n0_:=bs hb;have n1_:=Aside0.mk (hbox);have n2_:=Aside0.mk ((by rw [hg];exact (below_size be):w.heap.size≤gb158));have n3_:=Aside0.mk ((by rw [hg];exact (below_size be):w.heap.size≤gb158));clear HB;have HB:=n0_;have BK158:=n1_;have GW158:=n2_;have GE158:=n3_;clear n0_ n1_ n2_ n3_;clear hb hbox hg)|((with_reducible refine gate_dst (N:=3) rfl ?_);refine box_event ?hg (N:=3) ?hd (cs:=#[.int .i64 a1_0,.int .i64 a1_1,.int .i64 a1_2]) (t:=25) ?hr ?_;(case hd=>rfl);(case hg=>rfl);(case hr=>first|(go_simp;done)|(go_simp;rfl));intro gb159 hg w22 hbox hb;have n0_:=Aside0.mk (blk_below (g:=gb158) (o:=.cells #[.int .i64 a0_0,.int .i64 a0_1,.int .i64 a0_2] 25 (0,0)) (bk BK158) hb);have n1_:=bs hb;have n2_:=Aside0.mk (hbox);have n3_:=Aside0.mk ((by rw [hg];exact (below_size be):w.heap.size≤gb159));have n4_:=Aside0.mk ((by rw [hg];exact (below_size be):w.heap.size≤gb159));have n5_:=Aside0.mk ((by rw [hg];exact Nat.ne_of_lt (blk_lt (g:=gb158) (o:=.cells #[.int .i64 a0_0,.int .i64 a0_1,.int .i64 a0_2] 25 (0,0)) (bk BK158)):gb158 ≠ gb159));have n6_:=Aside0.mk ((by rw [hg];exact Nat.ne_of_gt (blk_lt (g:=gb158) (o:=.cells #[.int .i64 a0_0,.int .i64 a0_1,.int .i64 a0_2] 25 (0,0)) (bk BK158)):gb159 ≠ gb158));clear BK158;clear HB;have BK158:=n0_;have HB:=n1_;have BK159:=n2_;have GW159:=n3_;have GE159:=n4_;have NB158_159:=n5_;have NB159_158:=n6_;clear n0_ n1_ n2_ n3_ n4_ n5_ n6_;clear hb hbox hg;have hnb23:=NB158_159.out;have hnc23:=NB159_158.out;have hcz24_0:w22.cell? ⟨gb158,0,none⟩=some (.int .i64 a0_0):=(blk_cell BK158.out 0).trans rfl;have hcz24_1:w22.cell? ⟨gb158,1,none⟩=some (.int .i64 a0_1):=(blk_cell BK158.out 1).trans rfl;have hcz24_2:w22.cell? ⟨gb158,2,none⟩=some (.int .i64 a0_2):=(blk_cell BK158.out 2).trans rfl;have hfz24_0:=blk_frozen BK158.out 0;have hfz24_1:=blk_frozen BK158.out 1;have hfz24_2:=blk_frozen BK158.out 2;have hcz25_0:w22.cell? ⟨gb159,0,none⟩=some (.int .i64 a1_0):=(blk_cell BK159.out 0).trans rfl;have hcz25_1:w22.cell? ⟨gb159,1,none⟩=some (.int .i64 a1_1):=(blk_cell BK159.out 1).trans rfl;have hcz25_2:w22.cell? ⟨gb159,2,none⟩=some (.int .i64 a1_2):=(blk_cell BK159.out 2).trans rfl;have hfz25_0:=blk_frozen BK159.out 0;have hfz25_1:=blk_frozen BK159.out 1;have hfz25_2:=blk_frozen BK159.out 2))
  go_ret
  exact ⟨rz,be⟩
end Go.Proofs.YtnoglmdicdpabaaDoor.PFnExactParseStamp
