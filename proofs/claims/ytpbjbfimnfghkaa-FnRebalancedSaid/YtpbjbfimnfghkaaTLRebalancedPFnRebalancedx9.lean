/- Trimmed by a program of this session (trim.py). Not trusted: Lean checks it. -/
import Derived.Test.YtpbjbfimnfghkaaTLRebalancedPFnRebalancedx0
import Derived.Test.YtpbjbfimnfghkaaTLRebalancedPFnRebalancedx8
namespace Go.Proofs.Ytpbjbfimnfghkaa.PFnRebalanced
open Go.RowKit Go.Proofs.YtpbjbfimnfghkaaW.PrintWords Go.Proofs.YtpbjbfimnfghkaaW.PrintLast Go.Proofs.YtpbjbfimnfghkaaW.PrintMore Go.Proofs.Ytpbjbfimnfghkaa.St
attribute [local go_sem] max2_int min2_int max_two min_two max_three min_three max_four min_four
set_option linter.unusedVariables false
set_option linter.unusedSimpArgs false
def impl_hasInt.l0:Nat→Int→List Int→Int→Int→Option (Bool)
 | 0,_,_,_,_=>none
 | k+1,x1,x7,x8,x9=>if x9 < x8 then (if 0≤x9 then (if x9 < (x7.length:Int) then (if (rd x7 x9)=x1 then (some true) else (impl_hasInt.l0 k x1 x7 x8 (wrap64 (x9+1)))) else (none)) else (none)) else (some false)
def impl_hasInt.f (k:Nat) (l0:List Int) (a1:Int):Option (Bool):=impl_hasInt.l0 k a1 l0 (l0.length:Int) 0
set_option maxHeartbeats 8000000 in
set_option maxRecDepth 100000 in
theorem impl_hasInt.calls (k:Nat) (A0:Option Addr) (c0:Nat) (l0:List Int) (a1:Int) (r:Bool) (w:World) (hr0:Kd.C (Kd.int .i64) w A0 l0.length l0) (hc0:l0.length≤c0) (h:impl_hasInt.f k l0 a1=some r) :
  Calls Try.prog 52 #[.slice A0 l0.length c0,.int .i64 a1] w fun e w'=>e = .returned (.bool r)∧Drawn0 w w':=by
 have HR0:=aM hr0
 have HC0:=aM hc0
 clear hr0 hc0
 have H:(impl_hasInt.l0 k a1 l0 (l0.length:Int) 0)=some r:=h
 clear h
 have H':=Aside0.mk H
 clear H
 go_enter Try.func52,Try.ntmps52
 go_wp2
 go_loopg [9] k (fun kq v9 w'=>∃ (x9_1:Int),v9 = .int .i64 x9_1∧Aside0 (impl_hasInt.l0 kq a1 l0 (l0.length:Int) x9_1=some r)∧Aside0 (kq≤k)∧Drawn0 w w')
 case atStart=>exact ⟨(0),rd_,H',⟨Nat.le_refl _⟩,by repeat (exact Drawn0.refl _)⟩
 case round=>
  clear H'
  obtain ⟨x9_1,rfl,HA,HK1,⟨m1,rfl⟩⟩:=hrel
  cases gk with
  | zero=>exact absurd HA.out (by simp [impl_hasInt.l0])
  | succ k1=>
   have H:=HA.out
   clear HA
   simp only [impl_hasInt.l0] at H
   by_cases c3:x9_1 < (l0.length:Int)
   ·rw [if_pos c3] at H
    have c3b0:decide (x9_1 < (l0.length:Int))=true:=decide_eq_true c3
    clear c3
    obtain ⟨c4,H⟩:=ifs H
    have c4b0:decide (0≤x9_1)=true:=decide_eq_true c4
    clear c4
    obtain ⟨c5,H⟩:=ifs H
    have c5b0:decide (x9_1 < (l0.length:Int))=true:=decide_eq_true c5
    clear c5
    by_cases c6:(rd l0 x9_1)=a1
    ·rw [if_pos c6] at H
     have c6b0:((rd l0 x9_1) == a1)=true:=beq_iff_eq.mpr c6
     have c6b1:((rd l0 x9_1) != a1)=false:=bne_eq_false_iff_eq.mpr c6
     clear c6
     obtain rfl:=Option.some.inj H
     have p424:0≤(x9_1:Int):=od
     have q424:x9_1 < (l0.length:Int):=od
     obtain ⟨ad424,e424,hx424_0⟩:=Kd.at_int HR0.out x9_1 p424 q424
     cases e424
     replace p424:=eq_true p424
     replace q424:=eq_true q424
     go_wp2
     go_ret
     exact ⟨by rfl,by repeat (first|exact Drawn0.refl _|apply Drawn0.step)⟩
    ·rw [if_neg c6] at H
     have c6b0:((rd l0 x9_1) == a1)=false:=beq_eq_false_iff_ne.mpr c6
     have c6b1:((rd l0 x9_1) != a1)=true:=bne_iff_ne.mpr c6
     have H':=Aside0.mk H
     clear H
     have p424:0≤(x9_1:Int):=od
     have q424:x9_1 < (l0.length:Int):=od
     obtain ⟨ad424,e424,hx424_0⟩:=Kd.at_int HR0.out x9_1 p424 q424
     cases e424
     replace p424:=eq_true p424
     replace q424:=eq_true q424
     go_wp2
     go_roundg k1
     case measure=>have:=HK1.out;omega
     case rel=>exact ⟨(wrap64 (x9_1+1)),rd_,H',⟨by have:=HK1.out;omega⟩,by repeat (first|exact Drawn0.refl _|apply Drawn0.step)⟩
   ·rw [if_neg c3] at H
    have c3b0:decide (x9_1 < (l0.length:Int))=false:=decide_eq_false c3
    clear c3
    obtain rfl:=Option.some.inj H
    go_wp2
    go_ret
    exact ⟨by rfl,by repeat (first|exact Drawn0.refl _|apply Drawn0.step)⟩
def impl_apart.l0:Nat→List Int→List Int→Int→Int→Option (Bool)
 | 0,_,_,_,_=>none
 | k+1,x0,x5,x6,x7=>if x7 < x6 then (if 0≤x7 then (if x7 < (x5.length:Int) then (if x7≤(x0.length:Int) then ((impl_hasInt.f k (x0.take (x7:Int).toNat) (rd x5 x7)).bind fun t427=>(if t427=true then (some false) else (impl_apart.l0 k x0 x5 x6 (wrap64 (x7+1))))) else (none)) else (none)) else (none)) else (some true)
def impl_apart.f (k:Nat) (l0:List Int):Option (Bool):=impl_apart.l0 k l0 l0 (l0.length:Int) 0
set_option maxHeartbeats 8000000 in
set_option maxRecDepth 100000 in
theorem impl_apart.calls (k:Nat) (A0:Option Addr) (c0:Nat) (l0:List Int) (r:Bool) (w:World) (hr0:Kd.C (Kd.int .i64) w A0 l0.length l0) (hc0:l0.length≤c0) (h:impl_apart.f k l0=some r) :
  Calls Try.prog 59 #[.slice A0 l0.length c0] w fun e w'=>e = .returned (.bool r)∧Drawn0 w w':=by
 have HR0:=aM hr0
 have HC0:=aM hc0
 clear hr0 hc0
 have H:(impl_apart.l0 k l0 l0 (l0.length:Int) 0)=some r:=h
 clear h
 have H':=Aside0.mk H
 clear H
 go_enter Try.func59,Try.ntmps59
 go_wp2
 go_loopg [7] k (fun kq v7 w'=>∃ (x7_1:Int),v7 = .int .i64 x7_1∧Aside0 (impl_apart.l0 kq l0 l0 (l0.length:Int) x7_1=some r)∧Aside0 (kq≤k)∧Drawn0 w w')
 case atStart=>exact ⟨(0),rd_,H',⟨Nat.le_refl _⟩,by repeat (exact Drawn0.refl _)⟩
 case round=>
  clear H'
  obtain ⟨x7_1,rfl,HA,HK1,⟨m1,rfl⟩⟩:=hrel
  cases gk with
  | zero=>exact absurd HA.out (by simp [impl_apart.l0])
  | succ k1=>
   have H:=HA.out
   clear HA
   simp only [impl_apart.l0] at H
   by_cases c2:x7_1 < (l0.length:Int)
   ·rw [if_pos c2] at H
    have c2b0:decide (x7_1 < (l0.length:Int))=true:=decide_eq_true c2
    clear c2
    obtain ⟨c3,H⟩:=ifs H
    have c3b0:decide (0≤x7_1)=true:=decide_eq_true c3
    clear c3
    obtain ⟨c4,H⟩:=ifs H
    have c4b0:decide (x7_1 < (l0.length:Int))=true:=decide_eq_true c4
    clear c4
    have c5b0:=eq_true (od:0≤x7_1)
    obtain ⟨c6,H⟩:=ifs H
    have c6b0:=eq_true c6
    have c6b1:decide (x7_1≤(l0.length:Int))=true:=decide_eq_true c6
    clear c6
    replace H:=Option.bind_eq_some_iff.mp H
    obtain ⟨t427,A70,H⟩:=H
    try dsimp only at H
    have A7:=aM A70
    clear A70
    by_cases c8:t427=true
    ·subst c8
     rw [if_pos rfl] at H
     obtain rfl:=Option.some.inj H
     have p425:0≤(x7_1:Int):=od
     have q425:x7_1 < (l0.length:Int):=od
     obtain ⟨ad425,e425,hx425_0⟩:=Kd.at_int HR0.out x7_1 p425 q425
     cases e425
     replace p425:=eq_true p425
     replace q425:=eq_true q425
     obtain ⟨i09,hi09,_,hsz9,_⟩:=info_parts info3
     obtain ⟨hcut9,hA9,hC9⟩:=print_take_of (P:=Try.prog) (Value.int .i64) 0 33 3 .i64 Try.underlying33 hi09 hsz9 (some ad425) c0 l0 x7_1 od od HC0.out
     have HR426:=aM (Kd.C_of_reads (h1:=fun _=>rfl) (hA9 _ (Kd.reads_of_C HR0.out)))
     have HC426:=aM hC9
     clear hA9 hC9 hi09 hsz9
     go_wp2_with ((with_reducible refine gate_callee (f:=52) rfl ?_);refine goesL_ (some 16) rfl rfl Try.func52 (by kernel_rfl) rfl #[.slice (some ad425) (l0.take (x7_1:Int).toNat).length c0,.int .i64 (rd l0 x7_1)] rfl (by (try simp only [List.map_toArray,List.map_cons,List.map_nil]);(rw [show (l0.take (x7_1:Int).toNat).length=x7_1.toNat from (by rw [List.length_take];have h_:(x7_1:Int)≤(l0.length:Int):=od;omega)] <;> rfl)) ?_;(with_reducible refine (impl_hasInt.calls k1 _ _ (l0.take (x7_1:Int).toNat) (rd l0 x7_1) true _ ?side1 ?side2 A7.out).mono ?_);(case side1=>exact sC HR426);(case side2=>exact HC426.out);rintro e w' ⟨rfl,⟨nd,rfl⟩⟩;refine ⟨_,rfl,?_⟩)
     go_ret
     exact ⟨by rfl,by repeat (first|exact Drawn0.refl _|apply Drawn0.step)⟩
    ·replace c8:=Bool.eq_false_iff.mpr c8
     subst c8
     replace H:=(if_neg (show ¬ (false=true) by decide)).symm.trans H
     have H':=Aside0.mk H
     clear H
     have p425:0≤(x7_1:Int):=od
     have q425:x7_1 < (l0.length:Int):=od
     obtain ⟨ad425,e425,hx425_0⟩:=Kd.at_int HR0.out x7_1 p425 q425
     cases e425
     replace p425:=eq_true p425
     replace q425:=eq_true q425
     obtain ⟨i010,hi010,_,hsz10,_⟩:=info_parts info3
     obtain ⟨hcut10,hA10,hC10⟩:=print_take_of (P:=Try.prog) (Value.int .i64) 0 33 3 .i64 Try.underlying33 hi010 hsz10 (some ad425) c0 l0 x7_1 od od HC0.out
     have HR426:=aM (Kd.C_of_reads (h1:=fun _=>rfl) (hA10 _ (Kd.reads_of_C HR0.out)))
     have HC426:=aM hC10
     clear hA10 hC10 hi010 hsz10
     go_wp2_with ((with_reducible refine gate_callee (f:=52) rfl ?_);refine goesL_ (some 16) rfl rfl Try.func52 (by kernel_rfl) rfl #[.slice (some ad425) (l0.take (x7_1:Int).toNat).length c0,.int .i64 (rd l0 x7_1)] rfl (by (try simp only [List.map_toArray,List.map_cons,List.map_nil]);(rw [show (l0.take (x7_1:Int).toNat).length=x7_1.toNat from (by rw [List.length_take];have h_:(x7_1:Int)≤(l0.length:Int):=od;omega)] <;> rfl)) ?_;(with_reducible refine (impl_hasInt.calls k1 _ _ (l0.take (x7_1:Int).toNat) (rd l0 x7_1) false _ ?side1 ?side2 A7.out).mono ?_);(case side1=>exact sC HR426);(case side2=>exact HC426.out);rintro e w' ⟨rfl,⟨nd,rfl⟩⟩;refine ⟨_,rfl,?_⟩)
     go_roundg k1
     case measure=>have:=HK1.out;omega
     case rel=>exact ⟨(wrap64 (x7_1+1)),rd_,H',⟨by have:=HK1.out;omega⟩,by repeat (first|exact Drawn0.refl _|apply Drawn0.step)⟩
   ·rw [if_neg c2] at H
    have c2b0:decide (x7_1 < (l0.length:Int))=false:=decide_eq_false c2
    clear c2
    obtain rfl:=Option.some.inj H
    go_wp2
    go_ret
    exact ⟨by rfl,by repeat (first|exact Drawn0.refl _|apply Drawn0.step)⟩
mutual
def impl_canMove.j0:Nat→Bool→Int→List (S35)→Option (Bool)
 | 0,_,_,_=>none
 | k+1,x29,x429000,x429001=>if x29=true then (some false) else (impl_canMove.l0 k x429001 (x429001.length:Int) 0 x429000 x429001)
def impl_canMove.l0:Nat→List (S35)→Int→Int→Int→List (S35)→Option (Bool)
 | 0,_,_,_,_,_=>none
 | k+1,x31,x32,x33,x429000,x429001=>if x33 < x32 then (if 0≤x33 then (if x33 < (x31.length:Int) then (if (((rd_T35 x31 x33).f0).length:Int)=x429000 then ((impl_apart.f k ((rd_T35 x31 x33).f0)).bind fun t434=>(if t434=true then (impl_canMove.l0 k x31 x32 (wrap64 (x33+1)) x429000 x429001) else (some false))) else (some false)) else (none)) else (none)) else (some true)
end
def impl_canMove.f (k:Nat) (a0_0:Int) (l0_1:List (S35)) (l1:List (S61)):Option (Bool):=(impl_DevsOk.f k l1).bind fun t429=>(if t429=true then ((impl_in.f a0_0 1 5).bind fun t430=>(if t430=true then (if a0_0 > (l1.length:Int) then (impl_canMove.j0 k true a0_0 l0_1) else ((impl_in.f (l0_1.length:Int) 1 64).bind fun t431=>(impl_canMove.j0 k (!t431) a0_0 l0_1))) else (impl_canMove.j0 k true a0_0 l0_1))) else (impl_canMove.j0 k true a0_0 l0_1))
set_option maxHeartbeats 8000000 in
set_option maxRecDepth 100000 in
theorem impl_canMove.calls (k:Nat) (a0_0:Int) (A0_1:Option Addr) (c0_1:Nat) (l0_1:List (S35)) (A1:Option Addr) (c1:Nat) (l1:List (S61)) (r:Bool) (w:World) (hr0_1:Kd.C k35 w A0_1 l0_1.length l0_1) (hc0_1:l0_1.length≤c0_1) (hr1:Kd.C k61 w A1 l1.length l1) (hc1:l1.length≤c1) (h:impl_canMove.f k a0_0 l0_1 l1=some r) :
  Calls Try.prog 42 #[.agg #[.int .i64 a0_0,.slice A0_1 l0_1.length c0_1],.slice A1 l1.length c1] w fun e w'=>e = .returned (.bool r)∧Below w.heap.size w w':=by
 have hu26:=Try.underlying26
 have hu35:=Try.underlying35
 have HR0_1:=aM hr0_1
 have HC0_1:=aM hc0_1
 clear hr0_1 hc0_1
 have HR1:=aM hr1
 have HC1:=aM hc1
 clear hr1 hc1
 have HB:=aM (Below.refl w.heap.size w)
 have H:((impl_DevsOk.f k l1).bind fun t429=>(if t429=true then ((impl_in.f a0_0 1 5).bind fun t430=>(if t430=true then (if a0_0 > (l1.length:Int) then (impl_canMove.j0 k true a0_0 l0_1) else ((impl_in.f (l0_1.length:Int) 1 64).bind fun t431=>(impl_canMove.j0 k (!t431) a0_0 l0_1))) else (impl_canMove.j0 k true a0_0 l0_1))) else (impl_canMove.j0 k true a0_0 l0_1)))=some r:=h
 clear h
 have HC3:=aM H
 clear H
 go_enter Try.func42,Try.ntmps42
 go_upto_region 1 with ((with_reducible refine gate_dst (N:=2) rfl ?_);(try (refine gate_guard (by rfl) ?_;dsimp only));refine box_event ?hg (N:=2) ?hd (cs:=#[.int .i64 a0_0,.slice A0_1 l0_1.length c0_1]) (t:=26) ?hr ?_;(case hd=>rfl);(case hg=>rfl);(case hr=>(go_simp;done));intro gb428 hg w4 hbox hb;have BK428:=aM (hbox);have GW428:=gS w hg;replace HB:=bs hb;clear hb hbox hg)
 skip
 go_cut [29] (fun v29 wc=>∃ (kq:Nat) (x29_2:Bool),v29 = .bool x29_2∧Aside0 (impl_canMove.j0 kq x29_2 a0_0 l0_1=some r)∧Aside0 (kq≤k)∧Aside0 (wc.heap[gb428]?=some (.cells #[.int .i64 a0_0,(.slice A0_1 l0_1.length c0_1)] 26 (0,0)))∧Aside0 (Below w.heap.size w wc))
 case first=>
  have H:=HC3.out
  clear HC3
  replace H:=Option.bind_eq_some_iff.mp H
  obtain ⟨t429,A50,H⟩:=H
  try dsimp only at H
  have A5:=aM A50
  clear A50
  by_cases c6:t429=true
  ·subst c6
   rw [if_pos rfl] at H
   replace H:=Option.bind_eq_some_iff.mp H
   obtain ⟨t430,A70,H⟩:=H
   try dsimp only at H
   have A7:=aM A70
   clear A70
   by_cases c8:t430=true
   ·subst c8
    rw [if_pos rfl] at H
    by_cases c9:a0_0 > (l1.length:Int)
    ·rw [if_pos c9] at H
     have c9b0:decide ((l1.length:Int) < a0_0)=true:=decide_eq_true c9
     clear c9
     (skip)
     have H':=Aside0.mk H
     clear H
     go_wp2_with (first|((with_reducible refine gate_callee (f:=57) rfl ?_);refine goesL_ (some 8) rfl rfl Try.func57 (by kernel_rfl) rfl #[.slice A1 l1.length c1] rfl (by (try simp only [List.map_toArray,List.map_cons,List.map_nil]);rfl) ?_;(with_reducible refine (impl_DevsOk.calls k _ _ l1 true _ ?side1 ?side2 A5.out).mono ?_);(case side1=>exact rC HR1);(case side2=>exact HC1.out);rintro e w10 ⟨rfl,hb⟩;refine ⟨_,rfl,?_⟩;replace BK428:=bB BK428 hb;replace HB:=bs hb;(try clear hb);obtain ⟨hcz11_0,hcz11_1,hfz11_0,hfz11_1⟩:=b2 BK428)|(go_at_call 58;(with_reducible refine (impl_in.calls a0_0 1 5 true _ A7.out).mono ?_);rintro e w' ⟨rfl,⟨nd,rfl⟩⟩))
     go_meet
     case rel=>exact ⟨_,(true),rd_,H',⟨by omega⟩,⟨bk BK428⟩,⟨be⟩⟩
    ·rw [if_neg c9] at H
     have c9b0:decide ((l1.length:Int) < a0_0)=false:=decide_eq_false c9
     clear c9
     (skip)
     replace H:=Option.bind_eq_some_iff.mp H
     obtain ⟨t431,A120,H⟩:=H
     try dsimp only at H
     have A12:=aM A120
     clear A120
     have H':=Aside0.mk H
     clear H
     go_wp2_with (first|((with_reducible refine gate_callee (f:=57) rfl ?_);refine goesL_ (some 8) rfl rfl Try.func57 (by kernel_rfl) rfl #[.slice A1 l1.length c1] rfl (by (try simp only [List.map_toArray,List.map_cons,List.map_nil]);rfl) ?_;(with_reducible refine (impl_DevsOk.calls k _ _ l1 true _ ?side1 ?side2 A5.out).mono ?_);(case side1=>exact rC HR1);(case side2=>exact HC1.out);rintro e w13 ⟨rfl,hb⟩;refine ⟨_,rfl,?_⟩;replace BK428:=bB BK428 hb;replace HB:=bs hb;(try clear hb);obtain ⟨hcz14_0,hcz14_1,hfz14_0,hfz14_1⟩:=b2 BK428)|(go_at_call 58;(with_reducible refine (impl_in.calls a0_0 1 5 true _ A7.out).mono ?_);rintro e w' ⟨rfl,⟨nd,rfl⟩⟩)|(go_at_call 58;(with_reducible refine (impl_in.calls (l0_1.length:Int) 1 64 t431 _ A12.out).mono ?_);rintro e w' ⟨rfl,⟨nd,rfl⟩⟩))
     go_meet
     case rel=>exact ⟨_,(!t431),rd_,H',⟨by omega⟩,⟨bk BK428⟩,⟨be⟩⟩
   ·replace c8:=Bool.eq_false_iff.mpr c8
    subst c8
    replace H:=(if_neg (show ¬ (false=true) by decide)).symm.trans H
    have H':=Aside0.mk H
    clear H
    go_wp2_with (first|((with_reducible refine gate_callee (f:=57) rfl ?_);refine goesL_ (some 8) rfl rfl Try.func57 (by kernel_rfl) rfl #[.slice A1 l1.length c1] rfl (by (try simp only [List.map_toArray,List.map_cons,List.map_nil]);rfl) ?_;(with_reducible refine (impl_DevsOk.calls k _ _ l1 true _ ?side1 ?side2 A5.out).mono ?_);(case side1=>exact rC HR1);(case side2=>exact HC1.out);rintro e w15 ⟨rfl,hb⟩;refine ⟨_,rfl,?_⟩;replace BK428:=bB BK428 hb;replace HB:=bs hb;(try clear hb);obtain ⟨hcz16_0,hcz16_1,hfz16_0,hfz16_1⟩:=b2 BK428)|(go_at_call 58;(with_reducible refine (impl_in.calls a0_0 1 5 false _ A7.out).mono ?_);rintro e w' ⟨rfl,⟨nd,rfl⟩⟩))
    go_meet
    case rel=>exact ⟨_,(true),rd_,H',⟨by omega⟩,⟨bk BK428⟩,⟨be⟩⟩
  ·replace c6:=Bool.eq_false_iff.mpr c6
   subst c6
   replace H:=(if_neg (show ¬ (false=true) by decide)).symm.trans H
   have H':=Aside0.mk H
   clear H
   go_wp2_with ((with_reducible refine gate_callee (f:=57) rfl ?_);refine goesL_ (some 8) rfl rfl Try.func57 (by kernel_rfl) rfl #[.slice A1 l1.length c1] rfl (by (try simp only [List.map_toArray,List.map_cons,List.map_nil]);rfl) ?_;(with_reducible refine (impl_DevsOk.calls k _ _ l1 false _ ?side1 ?side2 A5.out).mono ?_);(case side1=>exact rC HR1);(case side2=>exact HC1.out);rintro e w17 ⟨rfl,hb⟩;refine ⟨_,rfl,?_⟩;replace BK428:=bB BK428 hb;replace HB:=bs hb;(try clear hb))
   go_meet
   case rel=>exact ⟨_,(true),rd_,H',⟨by omega⟩,⟨bk BK428⟩,⟨be⟩⟩
 case rest=>
  clear HC3
  obtain ⟨kq,x29_2,rfl,HA,HJ2,BK428,HB⟩:=hcut
  cases kq with
  | zero=>exact absurd HA.out (by simp [impl_canMove.j0])
  | succ kj2=>
   have H:=HA.out
   clear HA
   simp only [impl_canMove.j0] at H
   by_cases c18:x29_2=true
   ·subst c18
    rw [if_pos rfl] at H
    obtain rfl:=Option.some.inj H
    go_wp2
    go_ret
    exact ⟨rz,be⟩
   ·replace c18:=Bool.eq_false_iff.mpr c18
    subst c18
    replace H:=(if_neg (show ¬ (false=true) by decide)).symm.trans H
    have H':=Aside0.mk H
    clear H
    obtain ⟨hcz19_0,hcz19_1,hfz19_0,hfz19_1⟩:=b2 BK428
    go_wp2
    go_loopg [33] kj2 (fun kq v33 w'=>∃ (x33_2:Int),v33 = .int .i64 x33_2∧Aside0 (impl_canMove.l0 kq l0_1 (l0_1.length:Int) x33_2 a0_0 l0_1=some r)∧Aside0 (kq≤kj2)∧Aside0 (w'.heap[gb428]?=some (.cells #[.int .i64 a0_0,(.slice A0_1 l0_1.length c0_1)] 26 (0,0)))∧Aside0 (Below w.heap.size w w'))
    case atStart=>exact ⟨(0),rd_,H',⟨Nat.le_refl _⟩,⟨bk BK428⟩,⟨be⟩⟩
    case round=>
     clear H'
     try clear hcz19_0
     try clear hcz19_1
     try clear hfz19_0
     try clear hfz19_1
     obtain ⟨x33_2,rfl,HA,HK2,BK428,HB⟩:=hrel
     cases gk with
     | zero=>exact absurd HA.out (by simp [impl_canMove.l0])
     | succ k2=>
      have H:=HA.out
      clear HA
      simp only [impl_canMove.l0] at H
      by_cases c20:x33_2 < (l0_1.length:Int)
      ·rw [if_pos c20] at H
       have c20b0:decide (x33_2 < (l0_1.length:Int))=true:=decide_eq_true c20
       clear c20
       obtain ⟨c21,H⟩:=ifs H
       have c21b0:decide (0≤x33_2)=true:=decide_eq_true c21
       clear c21
       obtain ⟨c22,H⟩:=ifs H
       have c22b0:decide (x33_2 < (l0_1.length:Int))=true:=decide_eq_true c22
       clear c22
       by_cases c23:(((rd_T35 l0_1 x33_2).f0).length:Int)=a0_0
       ·rw [if_pos c23] at H
        have c23b0:((((rd_T35 l0_1 x33_2).f0).length:Int) == a0_0)=true:=beq_iff_eq.mpr c23
        have c23b1:((((rd_T35 l0_1 x33_2).f0).length:Int) != a0_0)=false:=bne_eq_false_iff_eq.mpr c23
        clear c23
        replace H:=Option.bind_eq_some_iff.mp H
        obtain ⟨t434,A240,H⟩:=H
        try dsimp only at H
        have A24:=aM A240
        clear A240
        by_cases c25:t434=true
        ·subst c25
         rw [if_pos rfl] at H
         have H':=Aside0.mk H
         clear H
         have p432:0≤(x33_2:Int):=od
         have q432:x33_2 < (l0_1.length:Int):=od
         obtain ⟨ad432,A432_0,c432_0,e432,hx432_0,hl432_0,hi432_0⟩:=at_T35 HR0_1.out x33_2 p432 q432
         cases e432
         replace hx432_0:=xH HB hx432_0
         have HR432_0:=aM hi432_0
         have HC432_0:=aM hl432_0
         clear hi432_0 hl432_0
         replace p432:=eq_true p432
         replace q432:=eq_true q432
         go_wp2_with (first|((with_reducible refine gate_dst (N:=6) rfl ?_);(try (refine gate_guard (by rfl) ?_;dsimp only));refine box_event ?hg (N:=6) ?hd (cs:=#[.slice none 0 0]) (t:=35) ?hr ?_;(case hd=>rfl);(case hg=>rfl);(case hr=>(go_simp;done));intro gb433 hg w26 hbox hb;have BK433:=aM (hbox);have GW433:=gS w hg;have GE433:=gS w hg;replace HB:=bs hb;have NB428_433:=nL hg BK428;have NB433_428:=nG hg BK428;replace BK428:=bB BK428 hb;clear hb hbox hg;have hnb27:=NB433_428.out;have hnc27:=NB428_433.out;obtain ⟨hcz28_0,hfz28_0⟩:=b1 BK433;obtain ⟨hcz29_0,hcz29_1,hfz29_0,hfz29_1⟩:=b2 BK428)|(go_at_call 59;(with_reducible refine (impl_apart.calls k2 _ _ ((rd_T35 l0_1 x33_2).f0) true _ ?side1 ?side2 A24.out).mono ?_);(case side1=>exact Kd.C_below HR432_0.out be);(case side2=>exact HC432_0.out);rintro e w' ⟨rfl,⟨nd,rfl⟩⟩))
         go_roundg k2
         case measure=>have:=HJ2.out;have:=HK2.out;omega
         case rel=>exact ⟨(wrap64 (x33_2+1)),rd_,H',⟨by have:=HJ2.out;have:=HK2.out;omega⟩,⟨by (with_reducible repeat (refine blk_drewN ?_ _));refine blk_far ?_ NB428_433.out _;exact BK428.out⟩,⟨be⟩⟩
        ·replace c25:=Bool.eq_false_iff.mpr c25
         subst c25
         replace H:=(if_neg (show ¬ (false=true) by decide)).symm.trans H
         obtain rfl:=Option.some.inj H
         have p432:0≤(x33_2:Int):=od
         have q432:x33_2 < (l0_1.length:Int):=od
         obtain ⟨ad432,A432_0,c432_0,e432,hx432_0,hl432_0,hi432_0⟩:=at_T35 HR0_1.out x33_2 p432 q432
         cases e432
         replace hx432_0:=xH HB hx432_0
         have HR432_0:=aM hi432_0
         have HC432_0:=aM hl432_0
         clear hi432_0 hl432_0
         replace p432:=eq_true p432
         replace q432:=eq_true q432
         go_wp2_with (first|((with_reducible refine gate_dst (N:=6) rfl ?_);(try (refine gate_guard (by rfl) ?_;dsimp only));refine box_event ?hg (N:=6) ?hd (cs:=#[.slice none 0 0]) (t:=35) ?hr ?_;(case hd=>rfl);(case hg=>rfl);(case hr=>(go_simp;done));intro gb433 hg w30 hbox hb;have BK433:=aM (hbox);have GW433:=gS w hg;have GE433:=gS w hg;replace HB:=bs hb;have NB428_433:=nL hg BK428;have NB433_428:=nG hg BK428;replace BK428:=bB BK428 hb;clear hb hbox hg;have hnb31:=NB433_428.out;have hnc31:=NB428_433.out;obtain ⟨hcz32_0,hfz32_0⟩:=b1 BK433;obtain ⟨hcz33_0,hcz33_1,hfz33_0,hfz33_1⟩:=b2 BK428)|(go_at_call 59;(with_reducible refine (impl_apart.calls k2 _ _ ((rd_T35 l0_1 x33_2).f0) false _ ?side1 ?side2 A24.out).mono ?_);(case side1=>exact Kd.C_below HR432_0.out be);(case side2=>exact HC432_0.out);rintro e w' ⟨rfl,⟨nd,rfl⟩⟩))
         go_ret
         exact ⟨rz,be⟩
       ·rw [if_neg c23] at H
        have c23b0:((((rd_T35 l0_1 x33_2).f0).length:Int) == a0_0)=false:=beq_eq_false_iff_ne.mpr c23
        have c23b1:((((rd_T35 l0_1 x33_2).f0).length:Int) != a0_0)=true:=bne_iff_ne.mpr c23
        obtain rfl:=Option.some.inj H
        have p432:0≤(x33_2:Int):=od
        have q432:x33_2 < (l0_1.length:Int):=od
        obtain ⟨ad432,A432_0,c432_0,e432,hx432_0,hl432_0,hi432_0⟩:=at_T35 HR0_1.out x33_2 p432 q432
        cases e432
        replace hx432_0:=xH HB hx432_0
        have HR432_0:=aM hi432_0
        have HC432_0:=aM hl432_0
        clear hi432_0 hl432_0
        replace p432:=eq_true p432
        replace q432:=eq_true q432
        go_wp2_with ((with_reducible refine gate_dst (N:=6) rfl ?_);(try (refine gate_guard (by rfl) ?_;dsimp only));refine box_event ?hg (N:=6) ?hd (cs:=#[.slice none 0 0]) (t:=35) ?hr ?_;(case hd=>rfl);(case hg=>rfl);(case hr=>(go_simp;done));intro gb433 hg w34 hbox hb;have BK433:=aM (hbox);have GW433:=gS w hg;have GE433:=gS w hg;replace HB:=bs hb;have NB428_433:=nL hg BK428;have NB433_428:=nG hg BK428;replace BK428:=bB BK428 hb;clear hb hbox hg;have hnb35:=NB433_428.out;have hnc35:=NB428_433.out;obtain ⟨hcz36_0,hfz36_0⟩:=b1 BK433;obtain ⟨hcz37_0,hcz37_1,hfz37_0,hfz37_1⟩:=b2 BK428)
        go_ret
        exact ⟨rz,be⟩
      ·rw [if_neg c20] at H
       have c20b0:decide (x33_2 < (l0_1.length:Int))=false:=decide_eq_false c20
       clear c20
       obtain rfl:=Option.some.inj H
       go_wp2
       go_ret
       exact ⟨rz,be⟩
def impl_DevAt.l0:Nat→Int→List (S61)→Int→Int→Option (Int × Int × Int × Bool)
 | 0,_,_,_,_=>none
 | k+1,x1,x8,x9,x10=>if x10 < x9 then (if 0≤x10 then (if x10 < (x8.length:Int) then (if ((rd_T61 x8 x10).f0)=x1 then (some ((rd_T61 x8 x10).f0,(rd_T61 x8 x10).f1,(rd_T61 x8 x10).f2,true)) else (impl_DevAt.l0 k x1 x8 x9 (wrap64 (x10+1)))) else (none)) else (none)) else (some (0,0,0,false))
def impl_DevAt.f (k:Nat) (l0:List (S61)) (a1:Int):Option (Int × Int × Int × Bool):=impl_DevAt.l0 k a1 l0 (l0.length:Int) 0
set_option maxHeartbeats 8000000 in
set_option maxRecDepth 100000 in
theorem impl_DevAt.calls (k:Nat) (A0:Option Addr) (c0:Nat) (l0:List (S61)) (a1:Int) (r1:Int) (r2:Int) (r3:Int) (r4:Bool) (w:World) (hr0:Kd.C k61 w A0 l0.length l0) (hc0:l0.length≤c0) (h:impl_DevAt.f k l0 a1=some (r1,r2,r3,r4)) :
  Calls Try.prog 60 #[.slice A0 l0.length c0,.int .i64 a1] w fun e w'=>e = .returned (.tuple #[.agg #[.int .i64 r1,.int .i64 r2,.int .i64 r3],.bool r4])∧Below w.heap.size w w':=by
 have hu61:=Try.underlying61
 have HR0:=aM hr0
 have HC0:=aM hc0
 clear hr0 hc0
 have HB:=aM (Below.refl w.heap.size w)
 have H:(impl_DevAt.l0 k a1 l0 (l0.length:Int) 0)=some (r1,r2,r3,r4):=h
 clear h
 have H':=Aside0.mk H
 clear H
 go_enter Try.func60,Try.ntmps60
 go_wp2_with ((with_reducible refine gate_dst (N:=4) rfl ?_);refine box_event ?hg (N:=4) ?hd (cs:=#[.int .i64 0,.int .i64 0,.int .i64 0]) (t:=61) ?hr ?_;(case hd=>rfl);(case hg=>rfl);(case hr=>(go_simp;done));intro gb435 hg w3 hbox hb;have BK435:=aM (hbox);have GW435:=gS w hg;replace HB:=bs hb;clear hb hbox hg)
 go_loopg [10] k (fun kq v10 w'=>∃ (x10_1:Int) (x436000_1:Int) (x436001_1:Int) (x436002_1:Int),v10 = .int .i64 x10_1∧Aside0 (impl_DevAt.l0 kq a1 l0 (l0.length:Int) x10_1=some (r1,r2,r3,r4))∧Aside0 (kq≤k)∧Aside0 (w'.heap[gb435]?=some (.cells #[.int .i64 x436000_1,.int .i64 x436001_1,.int .i64 x436002_1] 61 (0,0)))∧Aside0 (Below w.heap.size w w'))
 case atStart=>exact ⟨(0),(0),(0),(0),rd_,H',⟨Nat.le_refl _⟩,⟨bk BK435⟩,⟨be⟩⟩
 case round=>
  clear H'
  obtain ⟨x10_1,x436000_1,x436001_1,x436002_1,rfl,HA,HK1,BK435,HB⟩:=hrel
  cases gk with
  | zero=>exact absurd HA.out (by simp [impl_DevAt.l0])
  | succ k1=>
   have H:=HA.out
   clear HA
   simp only [impl_DevAt.l0] at H
   by_cases c4:x10_1 < (l0.length:Int)
   ·rw [if_pos c4] at H
    have c4b0:decide (x10_1 < (l0.length:Int))=true:=decide_eq_true c4
    clear c4
    obtain ⟨c5,H⟩:=ifs H
    have c5b0:decide (0≤x10_1)=true:=decide_eq_true c5
    clear c5
    obtain ⟨c6,H⟩:=ifs H
    have c6b0:decide (x10_1 < (l0.length:Int))=true:=decide_eq_true c6
    clear c6
    by_cases c7:((rd_T61 l0 x10_1).f0)=a1
    ·rw [if_pos c7] at H
     have c7b0:(((rd_T61 l0 x10_1).f0) == a1)=true:=beq_iff_eq.mpr c7
     have c7b1:(((rd_T61 l0 x10_1).f0) != a1)=false:=bne_eq_false_iff_eq.mpr c7
     clear c7
     simp only [Option.some.injEq,Prod.mk.injEq] at H
     obtain ⟨rfl,rfl,rfl,rfl⟩:=H
     have p436:0≤(x10_1:Int):=od
     have q436:x10_1 < (l0.length:Int):=od
     obtain ⟨ad436,e436,hx436_0,hx436_1,hx436_2⟩:=at_T61 HR0.out x10_1 p436 q436
     cases e436
     replace hx436_0:=xH HB hx436_0
     replace hx436_1:=xH HB hx436_1
     replace hx436_2:=xH HB hx436_2
     replace p436:=eq_true p436
     replace q436:=eq_true q436
     go_wp2_with ((with_reducible refine gate_dst (N:=7) rfl ?_);refine box_event ?hg (N:=7) ?hd (cs:=#[.int .i64 0,.int .i64 0,.int .i64 0]) (t:=61) ?hr ?_;(case hd=>rfl);(case hg=>rfl);(case hr=>(go_simp;done));intro gb437 hg w8 hbox hb;have BK437:=aM (hbox);have GW437:=gS w hg;have GE437:=gS w hg;replace HB:=bs hb;have NB435_437:=nL hg BK435;have NB437_435:=nG hg BK435;replace BK435:=bB BK435 hb;clear hb hbox hg;have hnb9:=NB437_435.out;have hnc9:=NB435_437.out;obtain ⟨hcz10_0,hcz10_1,hcz10_2,hfz10_0,hfz10_1,hfz10_2⟩:=b3 BK437;obtain ⟨hcz11_0,hcz11_1,hcz11_2,hfz11_0,hfz11_1,hfz11_2⟩:=b3 BK435)
     refine bodyPost_ret (results_ct rfl _ _ gb435 61 #[.int .i64 ((rd_T61 l0 x10_1).f0),.int .i64 ((rd_T61 l0 x10_1).f1),.int .i64 ((rd_T61 l0 x10_1).f2)] (0,0) _ rfl (by refine blk_put (cs:=#[.int .i64 ((rd_T61 l0 x10_1).f0),.int .i64 ((rd_T61 l0 x10_1).f1),.int .i64 x436002_1]) ?_ 2 _ rfl;refine blk_put (cs:=#[.int .i64 ((rd_T61 l0 x10_1).f0),.int .i64 x436001_1,.int .i64 x436002_1]) ?_ 1 _ rfl;refine blk_put (cs:=#[.int .i64 x436000_1,.int .i64 x436001_1,.int .i64 x436002_1]) ?_ 0 _ rfl;refine blk_far ?_ NB435_437.out _;refine blk_far ?_ NB435_437.out _;refine blk_far ?_ NB435_437.out _;exact BK435.out) Try.underlying61 rfl (by kernel_rfl)) rfl ?_
     exact ⟨rz,be⟩
    ·rw [if_neg c7] at H
     have c7b0:(((rd_T61 l0 x10_1).f0) == a1)=false:=beq_eq_false_iff_ne.mpr c7
     have c7b1:(((rd_T61 l0 x10_1).f0) != a1)=true:=bne_iff_ne.mpr c7
     have H':=Aside0.mk H
     clear H
     have p436:0≤(x10_1:Int):=od
     have q436:x10_1 < (l0.length:Int):=od
     obtain ⟨ad436,e436,hx436_0,hx436_1,hx436_2⟩:=at_T61 HR0.out x10_1 p436 q436
     cases e436
     replace hx436_0:=xH HB hx436_0
     replace hx436_1:=xH HB hx436_1
     replace hx436_2:=xH HB hx436_2
     replace p436:=eq_true p436
     replace q436:=eq_true q436
     go_wp2_with ((with_reducible refine gate_dst (N:=7) rfl ?_);refine box_event ?hg (N:=7) ?hd (cs:=#[.int .i64 0,.int .i64 0,.int .i64 0]) (t:=61) ?hr ?_;(case hd=>rfl);(case hg=>rfl);(case hr=>(go_simp;done));intro gb437 hg w12 hbox hb;have BK437:=aM (hbox);have GW437:=gS w hg;have GE437:=gS w hg;replace HB:=bs hb;have NB435_437:=nL hg BK435;have NB437_435:=nG hg BK435;replace BK435:=bB BK435 hb;clear hb hbox hg;have hnb13:=NB437_435.out;have hnc13:=NB435_437.out;obtain ⟨hcz14_0,hcz14_1,hcz14_2,hfz14_0,hfz14_1,hfz14_2⟩:=b3 BK437)
     go_roundg k1
     case measure=>have:=HK1.out;omega
     case rel=>exact ⟨(wrap64 (x10_1+1)),(x436000_1),(x436001_1),(x436002_1),rd_,H',⟨by have:=HK1.out;omega⟩,⟨by refine blk_far ?_ NB435_437.out _;refine blk_far ?_ NB435_437.out _;refine blk_far ?_ NB435_437.out _;exact BK435.out⟩,⟨be⟩⟩
   ·rw [if_neg c4] at H
    have c4b0:decide (x10_1 < (l0.length:Int))=false:=decide_eq_false c4
    clear c4
    simp only [Option.some.injEq,Prod.mk.injEq] at H
    obtain ⟨rfl,rfl,rfl,rfl⟩:=H
    obtain ⟨hcz15_0,hcz15_1,hcz15_2,hfz15_0,hfz15_1,hfz15_2⟩:=b3 BK435
    go_wp2
    refine bodyPost_ret (results_ct rfl _ _ gb435 61 #[.int .i64 0,.int .i64 0,.int .i64 0] (0,0) _ rfl (by refine blk_put (cs:=#[.int .i64 0,.int .i64 0,.int .i64 x436002_1]) ?_ 2 _ rfl;refine blk_put (cs:=#[.int .i64 0,.int .i64 x436001_1,.int .i64 x436002_1]) ?_ 1 _ rfl;refine blk_put (cs:=#[.int .i64 x436000_1,.int .i64 x436001_1,.int .i64 x436002_1]) ?_ 0 _ rfl;exact BK435.out) Try.underlying61 rfl (by kernel_rfl)) rfl ?_
    exact ⟨rz,be⟩
def impl_lost.l0:Nat→List (S61)→List Int→Int→Int→Option (Int)
 | 0,_,_,_,_=>none
 | k+1,x1,x10,x11,x12=>if x12 < x11 then (if 0≤x12 then (if x12 < (x10.length:Int) then ((impl_DevAt.f k x1 (rd x10 x12)).bind fun bt440=>(if bt440.2.2.2=true then (impl_lost.l0 k x1 x10 x11 (wrap64 (x12+1))) else (some x12))) else (none)) else (none)) else (some (-1))
def impl_lost.f (k:Nat) (l0_0:List Int) (l1:List (S61)):Option (Int):=impl_lost.l0 k l1 l0_0 (l0_0.length:Int) 0
set_option maxHeartbeats 8000000 in
set_option maxRecDepth 100000 in
theorem impl_lost.calls (k:Nat) (A0_0:Option Addr) (c0_0:Nat) (l0_0:List Int) (A1:Option Addr) (c1:Nat) (l1:List (S61)) (r:Int) (w:World) (hr0_0:Kd.C (Kd.int .i64) w A0_0 l0_0.length l0_0) (hc0_0:l0_0.length≤c0_0) (hr1:Kd.C k61 w A1 l1.length l1) (hc1:l1.length≤c1) (h:impl_lost.f k l0_0 l1=some r) :
  Calls Try.prog 43 #[.agg #[.slice A0_0 l0_0.length c0_0],.slice A1 l1.length c1] w fun e w'=>e = .returned (.int .i64 r)∧Below w.heap.size w w':=by
 have hu35:=Try.underlying35
 have hu61:=Try.underlying61
 have HR0_0:=aM hr0_0
 have HC0_0:=aM hc0_0
 clear hr0_0 hc0_0
 have HR1:=aM hr1
 have HC1:=aM hc1
 clear hr1 hc1
 have HB:=aM (Below.refl w.heap.size w)
 have H:(impl_lost.l0 k l1 l0_0 (l0_0.length:Int) 0)=some r:=h
 clear h
 have H':=Aside0.mk H
 clear H
 go_enter Try.func43,Try.ntmps43
 go_wp2_with ((with_reducible refine gate_dst (N:=2) rfl ?_);refine box_event ?hg (N:=2) ?hd (cs:=#[.slice A0_0 l0_0.length c0_0]) (t:=35) ?hr ?_;(case hd=>rfl);(case hg=>rfl);(case hr=>(go_simp;done));intro gb438 hg w3 hbox hb;have BK438:=aM (hbox);have GW438:=gS w hg;replace HB:=bs hb;clear hb hbox hg;obtain ⟨hcz4_0,hfz4_0⟩:=b1 BK438)
 go_loopg [12] k (fun kq v12 w'=>∃ (x12_1:Int),v12 = .int .i64 x12_1∧Aside0 (impl_lost.l0 kq l1 l0_0 (l0_0.length:Int) x12_1=some r)∧Aside0 (kq≤k)∧Aside0 (w'.heap[gb438]?=some (.cells #[(.slice A0_0 l0_0.length c0_0)] 35 (0,0)))∧Aside0 (Below w.heap.size w w'))
 case atStart=>exact ⟨(0),rd_,H',⟨Nat.le_refl _⟩,⟨bk BK438⟩,⟨be⟩⟩
 case round=>
  clear H'
  try clear hcz4_0
  try clear hfz4_0
  obtain ⟨x12_1,rfl,HA,HK1,BK438,HB⟩:=hrel
  cases gk with
  | zero=>exact absurd HA.out (by simp [impl_lost.l0])
  | succ k1=>
   have H:=HA.out
   clear HA
   simp only [impl_lost.l0] at H
   by_cases c5:x12_1 < (l0_0.length:Int)
   ·rw [if_pos c5] at H
    have c5b0:decide (x12_1 < (l0_0.length:Int))=true:=decide_eq_true c5
    clear c5
    obtain ⟨c6,H⟩:=ifs H
    have c6b0:decide (0≤x12_1)=true:=decide_eq_true c6
    clear c6
    obtain ⟨c7,H⟩:=ifs H
    have c7b0:decide (x12_1 < (l0_0.length:Int))=true:=decide_eq_true c7
    clear c7
    replace H:=Option.bind_eq_some_iff.mp H
    obtain ⟨⟨t440,t441,t442,t443⟩,A80,H⟩:=H
    try dsimp only at H
    have A8:=aM A80
    clear A80
    by_cases c9:t443=true
    ·subst c9
     rw [if_pos rfl] at H
     have H':=Aside0.mk H
     clear H
     have p439:0≤(x12_1:Int):=od
     have q439:x12_1 < (l0_0.length:Int):=od
     obtain ⟨ad439,e439,hx439_0⟩:=Kd.at_int HR0_0.out x12_1 p439 q439
     cases e439
     replace hx439_0:=xH HB hx439_0
     replace p439:=eq_true p439
     replace q439:=eq_true q439
     go_wp2_with (first|((with_reducible refine gate_callee (f:=60) rfl ?_);refine goesL_ (some 20) rfl rfl Try.func60 (by kernel_rfl) rfl #[.slice A1 l1.length c1,.int .i64 (rd l0_0 x12_1)] rfl (by (try simp only [List.map_toArray,List.map_cons,List.map_nil]);rfl) ?_;(with_reducible refine (impl_DevAt.calls k1 _ _ l1 (rd l0_0 x12_1) t440 t441 t442 true _ ?side1 ?side2 A8.out).mono ?_);(case side1=>exact rC HR1);(case side2=>exact HC1.out);rintro e w10 ⟨rfl,hb⟩;refine ⟨_,rfl,?_⟩;replace BK438:=bB BK438 hb;replace HB:=bs hb;(try clear hb))|((with_reducible refine gate_dst (N:=7) rfl ?_);refine box_event ?hg (N:=7) ?hd (cs:=#[.int .i64 0,.int .i64 0,.int .i64 0]) (t:=61) ?hr ?_;(case hd=>rfl);(case hg=>rfl);(case hr=>(go_simp;done));intro gb444 hg w11 hbox hb;have BK444:=aM (hbox);have GW444:=gS w hg;have GE444:=gS w hg;replace HB:=bs hb;have NB438_444:=nL hg BK438;have NB444_438:=nG hg BK438;replace BK438:=bB BK438 hb;clear hb hbox hg;have hnb12:=NB444_438.out;have hnc12:=NB438_444.out;obtain ⟨hcz13_0,hcz13_1,hcz13_2,hfz13_0,hfz13_1,hfz13_2⟩:=b3 BK444))
     go_roundg k1
     case measure=>have:=HK1.out;omega
     case rel=>exact ⟨(wrap64 (x12_1+1)),rd_,H',⟨by have:=HK1.out;omega⟩,⟨by refine blk_far ?_ NB438_444.out _;refine blk_far ?_ NB438_444.out _;refine blk_far ?_ NB438_444.out _;exact BK438.out⟩,⟨be⟩⟩
    ·replace c9:=Bool.eq_false_iff.mpr c9
     subst c9
     replace H:=(if_neg (show ¬ (false=true) by decide)).symm.trans H
     obtain rfl:=Option.some.inj H
     have p439:0≤(x12_1:Int):=od
     have q439:x12_1 < (l0_0.length:Int):=od
     obtain ⟨ad439,e439,hx439_0⟩:=Kd.at_int HR0_0.out x12_1 p439 q439
     cases e439
     replace hx439_0:=xH HB hx439_0
     replace p439:=eq_true p439
     replace q439:=eq_true q439
     go_wp2_with (first|((with_reducible refine gate_callee (f:=60) rfl ?_);refine goesL_ (some 20) rfl rfl Try.func60 (by kernel_rfl) rfl #[.slice A1 l1.length c1,.int .i64 (rd l0_0 x12_1)] rfl (by (try simp only [List.map_toArray,List.map_cons,List.map_nil]);rfl) ?_;(with_reducible refine (impl_DevAt.calls k1 _ _ l1 (rd l0_0 x12_1) t440 t441 t442 false _ ?side1 ?side2 A8.out).mono ?_);(case side1=>exact rC HR1);(case side2=>exact HC1.out);rintro e w14 ⟨rfl,hb⟩;refine ⟨_,rfl,?_⟩;replace BK438:=bB BK438 hb;replace HB:=bs hb;(try clear hb))|((with_reducible refine gate_dst (N:=7) rfl ?_);refine box_event ?hg (N:=7) ?hd (cs:=#[.int .i64 0,.int .i64 0,.int .i64 0]) (t:=61) ?hr ?_;(case hd=>rfl);(case hg=>rfl);(case hr=>(go_simp;done));intro gb444 hg w15 hbox hb;have BK444:=aM (hbox);have GW444:=gS w hg;have GE444:=gS w hg;replace HB:=bs hb;have NB438_444:=nL hg BK438;have NB444_438:=nG hg BK438;clear BK438;clear hb hbox hg;have hnb16:=NB444_438.out;have hnc16:=NB438_444.out;obtain ⟨hcz17_0,hcz17_1,hcz17_2,hfz17_0,hfz17_1,hfz17_2⟩:=b3 BK444))
     go_ret
     exact ⟨rz,be⟩
   ·rw [if_neg c5] at H
    have c5b0:decide (x12_1 < (l0_0.length:Int))=false:=decide_eq_false c5
    clear c5
    obtain rfl:=Option.some.inj H
    go_wp2
    go_ret
    exact ⟨rz,be⟩
end Go.Proofs.Ytpbjbfimnfghkaa.PFnRebalanced
