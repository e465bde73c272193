/- Trimmed by a program of this session (trim.py). Not trusted: Lean checks it. -/
import Derived.Test.YtpbjbfimnfghkaaTLRebalancedPFnRebalancedx0
import Derived.Test.YtpbjbfimnfghkaaTLRebalancedPFnRebalancedx1
import Derived.Test.YtpbjbfimnfghkaaTLRebalancedPFnRebalancedx2
namespace Go.Proofs.Ytpbjbfimnfghkaa.PFnRebalanced
open Go.RowKit Go.Proofs.YtpbjbfimnfghkaaW.PrintWords Go.Proofs.YtpbjbfimnfghkaaW.PrintLast Go.Proofs.YtpbjbfimnfghkaaW.PrintMore Go.Proofs.Ytpbjbfimnfghkaa.St
attribute [local go_sem] max2_int min2_int max_two min_two max_three min_three max_four min_four
set_option linter.unusedVariables false
set_option linter.unusedSimpArgs false
def spec_l5Part.l0:Nat→Int→Int→List Int→Option (Bool)
 | 0,_,_,_=>none
 | k+1,x1,x5,x537000=>if x5 < (x537000.length:Int) then (if 0≤x5 then (if x5≤(x537000.length:Int) then ((spec_l4Has.f k (x537000.take (x5:Int).toNat) (rd x537000 x5)).bind fun t539=>(if t539=true then (some false) else (spec_l5Part.l0 k x1 (wrap64 (x5+1)) x537000))) else (none)) else (none)) else (some ((x537000.length:Int) == x1))
def spec_l5Part.f (k:Nat) (l0_0:List Int) (a1:Int):Option (Bool):=spec_l5Part.l0 k a1 0 l0_0
set_option maxHeartbeats 8000000 in
set_option maxRecDepth 100000 in
theorem spec_l5Part.calls (k:Nat) (A0_0:Option Addr) (c0_0:Nat) (l0_0:List Int) (a1:Int) (r:Bool) (w:World) (hr0_0:Kd.C (Kd.int .i64) w A0_0 l0_0.length l0_0) (hc0_0:l0_0.length≤c0_0) (h:spec_l5Part.f k l0_0 a1=some r) :
  Calls Try.prog 55 #[.agg #[.slice A0_0 l0_0.length c0_0],.int .i64 a1] w fun e w'=>e = .returned (.bool r)∧Below w.heap.size w w':=by
 have hu35:=Try.underlying35
 have HR0_0:=aM hr0_0
 have HC0_0:=aM hc0_0
 clear hr0_0 hc0_0
 have HB:=aM (Below.refl w.heap.size w)
 have H:(spec_l5Part.l0 k a1 0 l0_0)=some r:=h
 clear h
 have H':=Aside0.mk H
 clear H
 go_enter Try.func55,Try.ntmps55
 go_wp2_with ((with_reducible refine gate_dst (N:=2) rfl ?_);refine box_event ?hg (N:=2) ?hd (cs:=#[.slice A0_0 l0_0.length c0_0]) (t:=35) ?hr ?_;(case hd=>rfl);(case hg=>rfl);(case hr=>(go_simp;done));intro gb536 hg w3 hbox hb;have BK536:=aM (hbox);have GW536:=gS w hg;have GE536:=gS w hg;replace HB:=bs hb;clear hb hbox hg)
 repeat (go_quiet (first|((with_reducible refine gate_dst (N:=2) rfl ?_);refine box_event ?hg (N:=2) ?hd (cs:=#[.slice A0_0 l0_0.length c0_0]) (t:=35) ?hr ?_;(case hd=>rfl);(case hg=>rfl);(case hr=>first|(go_simp;done)|(go_simp;rfl));intro gb536 hg w3 hbox hb;have BK536:=aM (hbox);have GW536:=gS w hg;have GE536:=gS w hg;replace HB:=bs hb;clear hb hbox hg));try go_wp2_with ((with_reducible refine gate_dst (N:=2) rfl ?_);refine box_event ?hg (N:=2) ?hd (cs:=#[.slice A0_0 l0_0.length c0_0]) (t:=35) ?hr ?_;(case hd=>rfl);(case hg=>rfl);(case hr=>first|(go_simp;done)|(go_simp;rfl));intro gb536 hg w3 hbox hb;have BK536:=aM (hbox);have GW536:=gS w hg;have GE536:=gS w hg;replace HB:=bs hb;clear hb hbox hg))
 go_loopg [5] k (fun kq v5 w'=>∃ (x5_1:Int),v5 = .int .i64 x5_1∧Aside0 (spec_l5Part.l0 kq a1 x5_1 l0_0=some r)∧Aside0 (kq≤k)∧Aside0 (w'.heap[gb536]?=some (.cells #[(.slice A0_0 l0_0.length c0_0)] 35 (0,0)))∧Aside0 (Below w.heap.size w w'))
 case atStart=>exact ⟨(0),rd_,H',⟨Nat.le_refl _⟩,⟨bk BK536⟩,⟨be⟩⟩
 case round=>
  clear H'
  obtain ⟨x5_1,rfl,HA,HK1,BK536,HB⟩:=hrel
  cases gk with
  | zero=>exact absurd HA.out (by simp [spec_l5Part.l0])
  | succ k1=>
   have H:=HA.out
   clear HA
   simp only [spec_l5Part.l0] at H
   by_cases c4:x5_1 < (l0_0.length:Int)
   ·rw [if_pos c4] at H
    have c4b0:decide (x5_1 < (l0_0.length:Int))=true:=decide_eq_true c4
    clear c4
    obtain ⟨c5,H⟩:=ifs H
    have c5b0:=eq_true c5
    have c5b1:decide (0≤x5_1)=true:=decide_eq_true c5
    clear c5
    obtain ⟨c6,H⟩:=ifs H
    have c6b0:=eq_true c6
    have c6b1:decide (x5_1≤(l0_0.length:Int))=true:=decide_eq_true c6
    clear c6
    replace H:=Option.bind_eq_some_iff.mp H
    obtain ⟨t539,A70,H⟩:=H
    try dsimp only at H
    have A7:=aM A70
    clear A70
    by_cases c8:t539=true
    ·subst c8
     rw [if_pos rfl] at H
     obtain rfl:=Option.some.inj H
     obtain ⟨hcz9_0,hfz9_0⟩:=b1 BK536
     obtain ⟨i010,hi010,_,hsz10,_⟩:=info_parts info3
     obtain ⟨hcut10,hA10,hC10⟩:=print_take_of (P:=Try.prog) (Value.int .i64) 0 33 3 .i64 Try.underlying33 hi010 hsz10 A0_0 c0_0 l0_0 x5_1 od od HC0_0.out
     have HR537:=aM (Kd.C_of_reads (h1:=fun _=>rfl) (hA10 _ (Kd.reads_of_C HR0_0.out)))
     have HC537:=aM hC10
     clear hA10 hC10 hi010 hsz10
     have p538:0≤(x5_1:Int):=od
     have q538:x5_1 < (l0_0.length:Int):=od
     obtain ⟨ad538,e538,hx538_0⟩:=Kd.at_int HR0_0.out x5_1 p538 q538
     cases e538
     replace hx538_0:=xH HB hx538_0
     replace p538:=eq_true p538
     replace q538:=eq_true q538
     have HLx_:=aM (show (l0_0.take (x5_1:Int).toNat).length=(x5_1:Int).toNat from (by rw [List.length_take];have q_:x5_1≤(l0_0.length:Int):=of_decide_eq_true (by assumption);omega))
     go_wp2_with (go_at_call 68;(with_reducible refine (Aid.calls_len HLx_.out (spec_l4Has.calls k1 _ _ (l0_0.take (x5_1:Int).toNat) (rd l0_0 x5_1) true _ ?side1 ?side2 A7.out)).mono ?_);(case side1=>exact rC HR537);(case side2=>exact HC537.out);rintro e w' ⟨rfl,⟨nd,rfl⟩⟩)
     repeat (go_quiet ((go_at_call 68;(with_reducible refine (Aid.calls_len HLx_.out (spec_l4Has.calls k1 _ _ (l0_0.take (x5_1:Int).toNat) (rd l0_0 x5_1) true _ ?side1 ?side2 A7.out)).mono ?_);(case side1=>exact rC HR537);(case side2=>exact HC537.out);rintro e w' ⟨rfl,⟨nd,rfl⟩⟩;(try first|exact ⟨rfl,_,World.drewN_drewN _ _ _⟩|exact ⟨rfl,_,Eq.trans (World.drewN_drewN _ _ _) (congrArg (World.drewN _) (Nat.add_assoc _ _ _))⟩)));try go_wp2_with (go_at_call 68;(with_reducible refine (Aid.calls_len HLx_.out (spec_l4Has.calls k1 _ _ (l0_0.take (x5_1:Int).toNat) (rd l0_0 x5_1) true _ ?side1 ?side2 A7.out)).mono ?_);(case side1=>exact rC HR537);(case side2=>exact HC537.out);rintro e w' ⟨rfl,⟨nd,rfl⟩⟩))
     go_ret
     exact ⟨rz,be⟩
    ·replace c8:=Bool.eq_false_iff.mpr c8
     subst c8
     replace H:=(if_neg (show ¬ (false=true) by decide)).symm.trans H
     have H':=Aside0.mk H
     clear H
     obtain ⟨hcz11_0,hfz11_0⟩:=b1 BK536
     obtain ⟨i012,hi012,_,hsz12,_⟩:=info_parts info3
     obtain ⟨hcut12,hA12,hC12⟩:=print_take_of (P:=Try.prog) (Value.int .i64) 0 33 3 .i64 Try.underlying33 hi012 hsz12 A0_0 c0_0 l0_0 x5_1 od od HC0_0.out
     have HR537:=aM (Kd.C_of_reads (h1:=fun _=>rfl) (hA12 _ (Kd.reads_of_C HR0_0.out)))
     have HC537:=aM hC12
     clear hA12 hC12 hi012 hsz12
     have p538:0≤(x5_1:Int):=od
     have q538:x5_1 < (l0_0.length:Int):=od
     obtain ⟨ad538,e538,hx538_0⟩:=Kd.at_int HR0_0.out x5_1 p538 q538
     cases e538
     replace hx538_0:=xH HB hx538_0
     replace p538:=eq_true p538
     replace q538:=eq_true q538
     have HLx_:=aM (show (l0_0.take (x5_1:Int).toNat).length=(x5_1:Int).toNat from (by rw [List.length_take];have q_:x5_1≤(l0_0.length:Int):=of_decide_eq_true (by assumption);omega))
     go_wp2_with (go_at_call 68;(with_reducible refine (Aid.calls_len HLx_.out (spec_l4Has.calls k1 _ _ (l0_0.take (x5_1:Int).toNat) (rd l0_0 x5_1) false _ ?side1 ?side2 A7.out)).mono ?_);(case side1=>exact rC HR537);(case side2=>exact HC537.out);rintro e w' ⟨rfl,⟨nd,rfl⟩⟩)
     repeat (go_quiet ((go_at_call 68;(with_reducible refine (Aid.calls_len HLx_.out (spec_l4Has.calls k1 _ _ (l0_0.take (x5_1:Int).toNat) (rd l0_0 x5_1) false _ ?side1 ?side2 A7.out)).mono ?_);(case side1=>exact rC HR537);(case side2=>exact HC537.out);rintro e w' ⟨rfl,⟨nd,rfl⟩⟩;(try first|exact ⟨rfl,_,World.drewN_drewN _ _ _⟩|exact ⟨rfl,_,Eq.trans (World.drewN_drewN _ _ _) (congrArg (World.drewN _) (Nat.add_assoc _ _ _))⟩)));try go_wp2_with (go_at_call 68;(with_reducible refine (Aid.calls_len HLx_.out (spec_l4Has.calls k1 _ _ (l0_0.take (x5_1:Int).toNat) (rd l0_0 x5_1) false _ ?side1 ?side2 A7.out)).mono ?_);(case side1=>exact rC HR537);(case side2=>exact HC537.out);rintro e w' ⟨rfl,⟨nd,rfl⟩⟩))
     go_roundg k1
     case measure=>have:=HK1.out;omega
     case rel=>exact ⟨(wrap64 (x5_1+1)),rd_,H',⟨by have:=HK1.out;omega⟩,⟨bk BK536⟩,⟨be⟩⟩
   ·rw [if_neg c4] at H
    have c4b0:decide (x5_1 < (l0_0.length:Int))=false:=decide_eq_false c4
    clear c4
    obtain rfl:=Option.some.inj H
    obtain ⟨hcz13_0,hfz13_0⟩:=b1 BK536
    go_wp2
    repeat (go_quiet (fail);try go_wp2)
    go_ret
    exact ⟨rz,be⟩
mutual
def spec_l6Ok.j0:Nat→Bool→Int→List (S35)→Option (Bool)
 | 0,_,_,_=>none
 | k+1,x28,x541000,x541001=>if x28=true then (some false) else (spec_l6Ok.l0 k 0 x541000 x541001)
def spec_l6Ok.l0:Nat→Int→Int→List (S35)→Option (Bool)
 | 0,_,_,_=>none
 | k+1,x5,x541000,x541001=>if x5 < (x541001.length:Int) then (if 0≤x5 then ((spec_l5Part.f k ((rd_T35 x541001 x5).f0) x541000).bind fun t545=>(if t545=true then (spec_l6Ok.l0 k (wrap64 (x5+1)) x541000 x541001) else (some false))) else (none)) else (some true)
end
def spec_l6Ok.f (k:Nat) (a0_0:Int) (l0_1:List (S35)) (l1:List (S61)):Option (Bool):=(spec_DevsOk.f k l1).bind fun t541=>(if t541=true then ((spec_l1In.f a0_0 1 5).bind fun t542=>(if t542=true then (if a0_0 > (l1.length:Int) then (spec_l6Ok.j0 k true a0_0 l0_1) else ((spec_l1In.f (l0_1.length:Int) 1 64).bind fun t543=>(spec_l6Ok.j0 k (!t543) a0_0 l0_1))) else (spec_l6Ok.j0 k true a0_0 l0_1))) else (spec_l6Ok.j0 k true a0_0 l0_1))
def spec_l6Ok.T6:Bool × List (List Nat × List Nat):=(true,[([],[]),([0],[0]),([],[]),([1,2],[1,2]),([3],[3]),([],[]),([5],[5]),([4,6],[4,6]),([7],[7])])
def spec_l6Ok.B6:List Nat:=[0,1,0,7,15,0,32,127,255]
theorem spec_l6Ok.tab6:rtab .any (opsOf Try.f48 6)=spec_l6Ok.T6:=by kernel_rfl
theorem spec_l6Ok.bits6:waitsOk spec_l6Ok.T6.2 spec_l6Ok.B6=true:=by kernel_rfl
set_option maxHeartbeats 8000000 in
set_option maxRecDepth 100000 in
theorem spec_l6Ok.calls (k:Nat) (a0_0:Int) (A0_1:Option Addr) (c0_1:Nat) (l0_1:List (S35)) (A1:Option Addr) (c1:Nat) (l1:List (S61)) (r:Bool) (w:World) (hr0_1:Kd.C k35 w A0_1 l0_1.length l0_1) (hc0_1:l0_1.length≤c0_1) (hr1:Kd.C k61 w A1 l1.length l1) (hc1:l1.length≤c1) (h:spec_l6Ok.f k a0_0 l0_1 l1=some r) :
  Calls Try.prog 48 #[.agg #[.int .i64 a0_0,.slice A0_1 l0_1.length c0_1],.slice A1 l1.length c1] w fun e w'=>e = .returned (.bool r)∧Below w.heap.size w w':=by
 have hu26:=Try.underlying26
 have hu35:=Try.underlying35
 have HR0_1:=aM hr0_1
 have HC0_1:=aM hc0_1
 clear hr0_1 hc0_1
 have HR1:=aM hr1
 have HC1:=aM hc1
 clear hr1 hc1
 have HB:=aM (Below.refl w.heap.size w)
 have H:((spec_DevsOk.f k l1).bind fun t541=>(if t541=true then ((spec_l1In.f a0_0 1 5).bind fun t542=>(if t542=true then (if a0_0 > (l1.length:Int) then (spec_l6Ok.j0 k true a0_0 l0_1) else ((spec_l1In.f (l0_1.length:Int) 1 64).bind fun t543=>(spec_l6Ok.j0 k (!t543) a0_0 l0_1))) else (spec_l6Ok.j0 k true a0_0 l0_1))) else (spec_l6Ok.j0 k true a0_0 l0_1)))=some r:=h
 clear h
 have HC3:=aM H
 clear H
 go_enter Try.func48,Try.ntmps48
 go_upto_region 1 with ((with_reducible refine gate_dst (N:=2) rfl ?_);(try (refine gate_guard (by rfl) ?_;dsimp only));refine box_event ?hg (N:=2) ?hd (cs:=#[.int .i64 a0_0,.slice A0_1 l0_1.length c0_1]) (t:=26) ?hr ?_;(case hd=>rfl);(case hg=>rfl);(case hr=>(go_simp;done));intro gb540 hg w4 hbox hb;have BK540:=aM (hbox);have GW540:=gS w hg;replace HB:=bs hb;clear hb hbox hg)
 skip
 go_cut [28] (fun v28 wc=>∃ (kq:Nat) (x28_2:Bool),v28 = .bool x28_2∧Aside0 (spec_l6Ok.j0 kq x28_2 a0_0 l0_1=some r)∧Aside0 (kq≤k)∧Aside0 (wc.heap[gb540]?=some (.cells #[.int .i64 a0_0,(.slice A0_1 l0_1.length c0_1)] 26 (0,0)))∧Aside0 (Below w.heap.size w wc))
 case first=>
  have H:=HC3.out
  clear HC3
  replace H:=Option.bind_eq_some_iff.mp H
  obtain ⟨t541,A50,H⟩:=H
  try dsimp only at H
  have A5:=aM A50
  clear A50
  by_cases c6:t541=true
  ·subst c6
   rw [if_pos rfl] at H
   replace H:=Option.bind_eq_some_iff.mp H
   obtain ⟨t542,A70,H⟩:=H
   try dsimp only at H
   have A7:=aM A70
   clear A70
   by_cases c8:t542=true
   ·subst c8
    rw [if_pos rfl] at H
    by_cases c9:a0_0 > (l1.length:Int)
    ·rw [if_pos c9] at H
     have c9b0:decide ((l1.length:Int) < a0_0)=true:=decide_eq_true c9
     clear c9
     (skip)
     have H':=Aside0.mk H
     clear H
     go_wp2_with (first|((with_reducible refine gate_callee (f:=53) rfl ?_);refine goesL_ (some 7) rfl rfl Try.func53 (by kernel_rfl) rfl #[.slice A1 l1.length c1] rfl (by (try simp only [List.map_toArray,List.map_cons,List.map_nil]);rfl) ?_;(with_reducible refine (spec_DevsOk.calls k _ _ l1 true _ ?side1 ?side2 A5.out).mono ?_);(case side1=>exact rC HR1);(case side2=>exact HC1.out);rintro e w10 ⟨rfl,hb⟩;refine ⟨_,rfl,?_⟩;replace BK540:=bB BK540 hb;replace HB:=bs hb;(try clear hb);obtain ⟨hcz11_0,hcz11_1,hfz11_0,hfz11_1⟩:=b2 BK540)|(go_at_call 54;(with_reducible refine (spec_l1In.calls a0_0 1 5 true _ A7.out).mono ?_);rintro e w' ⟨rfl,⟨nd,rfl⟩⟩))
     go_meet
     case rel=>exact ⟨_,(true),rd_,H',⟨by omega⟩,⟨bk BK540⟩,⟨be⟩⟩
    ·rw [if_neg c9] at H
     have c9b0:decide ((l1.length:Int) < a0_0)=false:=decide_eq_false c9
     clear c9
     (skip)
     replace H:=Option.bind_eq_some_iff.mp H
     obtain ⟨t543,A120,H⟩:=H
     try dsimp only at H
     have A12:=aM A120
     clear A120
     have H':=Aside0.mk H
     clear H
     go_wp2_with (first|((with_reducible refine gate_callee (f:=53) rfl ?_);refine goesL_ (some 7) rfl rfl Try.func53 (by kernel_rfl) rfl #[.slice A1 l1.length c1] rfl (by (try simp only [List.map_toArray,List.map_cons,List.map_nil]);rfl) ?_;(with_reducible refine (spec_DevsOk.calls k _ _ l1 true _ ?side1 ?side2 A5.out).mono ?_);(case side1=>exact rC HR1);(case side2=>exact HC1.out);rintro e w13 ⟨rfl,hb⟩;refine ⟨_,rfl,?_⟩;replace BK540:=bB BK540 hb;replace HB:=bs hb;(try clear hb);obtain ⟨hcz14_0,hcz14_1,hfz14_0,hfz14_1⟩:=b2 BK540)|(go_at_call 54;(with_reducible refine (spec_l1In.calls a0_0 1 5 true _ A7.out).mono ?_);rintro e w' ⟨rfl,⟨nd,rfl⟩⟩)|(go_at_call 54;(with_reducible refine (spec_l1In.calls (l0_1.length:Int) 1 64 t543 _ A12.out).mono ?_);rintro e w' ⟨rfl,⟨nd,rfl⟩⟩))
     go_meet
     case rel=>exact ⟨_,(!t543),rd_,H',⟨by omega⟩,⟨bk BK540⟩,⟨be⟩⟩
   ·replace c8:=Bool.eq_false_iff.mpr c8
    subst c8
    replace H:=(if_neg (show ¬ (false=true) by decide)).symm.trans H
    have H':=Aside0.mk H
    clear H
    go_wp2_with (first|((with_reducible refine gate_callee (f:=53) rfl ?_);refine goesL_ (some 7) rfl rfl Try.func53 (by kernel_rfl) rfl #[.slice A1 l1.length c1] rfl (by (try simp only [List.map_toArray,List.map_cons,List.map_nil]);rfl) ?_;(with_reducible refine (spec_DevsOk.calls k _ _ l1 true _ ?side1 ?side2 A5.out).mono ?_);(case side1=>exact rC HR1);(case side2=>exact HC1.out);rintro e w15 ⟨rfl,hb⟩;refine ⟨_,rfl,?_⟩;replace BK540:=bB BK540 hb;replace HB:=bs hb;(try clear hb);obtain ⟨hcz16_0,hcz16_1,hfz16_0,hfz16_1⟩:=b2 BK540)|(go_at_call 54;(with_reducible refine (spec_l1In.calls a0_0 1 5 false _ A7.out).mono ?_);rintro e w' ⟨rfl,⟨nd,rfl⟩⟩))
    go_meet
    case rel=>exact ⟨_,(true),rd_,H',⟨by omega⟩,⟨bk BK540⟩,⟨be⟩⟩
  ·replace c6:=Bool.eq_false_iff.mpr c6
   subst c6
   replace H:=(if_neg (show ¬ (false=true) by decide)).symm.trans H
   have H':=Aside0.mk H
   clear H
   go_wp2_with ((with_reducible refine gate_callee (f:=53) rfl ?_);refine goesL_ (some 7) rfl rfl Try.func53 (by kernel_rfl) rfl #[.slice A1 l1.length c1] rfl (by (try simp only [List.map_toArray,List.map_cons,List.map_nil]);rfl) ?_;(with_reducible refine (spec_DevsOk.calls k _ _ l1 false _ ?side1 ?side2 A5.out).mono ?_);(case side1=>exact rC HR1);(case side2=>exact HC1.out);rintro e w17 ⟨rfl,hb⟩;refine ⟨_,rfl,?_⟩;replace BK540:=bB BK540 hb;replace HB:=bs hb;(try clear hb))
   go_meet
   case rel=>exact ⟨_,(true),rd_,H',⟨by omega⟩,⟨bk BK540⟩,⟨be⟩⟩
 case rest=>
  clear HC3
  obtain ⟨kq,x28_2,rfl,HA,HJ2,BK540,HB⟩:=hcut
  cases kq with
  | zero=>exact absurd HA.out (by simp [spec_l6Ok.j0])
  | succ kj2=>
   have H:=HA.out
   clear HA
   simp only [spec_l6Ok.j0] at H
   by_cases c18:x28_2=true
   ·subst c18
    rw [if_pos rfl] at H
    obtain rfl:=Option.some.inj H
    go_wp2
    go_ret
    exact ⟨rz,be⟩
   ·replace c18:=Bool.eq_false_iff.mpr c18
    subst c18
    replace H:=(if_neg (show ¬ (false=true) by decide)).symm.trans H
    have H':=Aside0.mk H
    clear H
    go_wp2
    go_loopg [5] kj2 (fun kq v5 w'=>∃ (x5_2:Int),v5 = .int .i64 x5_2∧Aside0 (spec_l6Ok.l0 kq x5_2 a0_0 l0_1=some r)∧Aside0 (kq≤kj2)∧Aside0 (w'.heap[gb540]?=some (.cells #[.int .i64 a0_0,(.slice A0_1 l0_1.length c0_1)] 26 (0,0)))∧Aside0 (Below w.heap.size w w'))
    case atStart=>exact ⟨(0),rd_,H',⟨Nat.le_refl _⟩,⟨bk BK540⟩,⟨be⟩⟩
    case round=>
     clear H'
     obtain ⟨x5_2,rfl,HA,HK2,BK540,HB⟩:=hrel
     cases gk with
     | zero=>exact absurd HA.out (by simp [spec_l6Ok.l0])
     | succ k2=>
      have H:=HA.out
      clear HA
      simp only [spec_l6Ok.l0] at H
      by_cases c19:x5_2 < (l0_1.length:Int)
      ·rw [if_pos c19] at H
       have c19b0:decide (x5_2 < (l0_1.length:Int))=true:=decide_eq_true c19
       clear c19
       obtain ⟨c20,H⟩:=ifs H
       have c20b0:decide (0≤x5_2)=true:=decide_eq_true c20
       clear c20
       replace H:=Option.bind_eq_some_iff.mp H
       obtain ⟨t545,A210,H⟩:=H
       try dsimp only at H
       have A21:=aM A210
       clear A210
       by_cases c22:t545=true
       ·subst c22
        rw [if_pos rfl] at H
        have H':=Aside0.mk H
        clear H
        obtain ⟨hcz23_0,hcz23_1,hfz23_0,hfz23_1⟩:=b2 BK540
        try go_wp2
        replace BK540:=aM (blk_drew BK540.out);replace HB:=aM (below_drew1 HB.out)
        have p544:0≤(x5_2:Int):=od
        have q544:x5_2 < (l0_1.length:Int):=od
        obtain ⟨ad544,A544_0,c544_0,e544,hx544_0,hl544_0,hi544_0⟩:=at_T35 HR0_1.out x5_2 p544 q544
        have hw544_0:=hx544_0
        cases e544
        replace hx544_0:=xH HB hx544_0
        have HR544_0:=aM hi544_0
        have HC544_0:=aM hl544_0
        clear hi544_0 hl544_0
        replace p544:=eq_true p544
        replace q544:=eq_true q544
        refine start_ (n:=9) (S:=fun w'=>w'.cell? ⟨gb540,0,none⟩=some (.int .i64 a0_0)∧w'.cell? ⟨gb540,1,none⟩=some (.slice (some ad544) l0_1.length c0_1)∧w'.cell? (ad544.add (x5_2).toNat)=some (.slice A544_0 ((rd_T35 l0_1 x5_2).f0).length c544_0)) (ds:=[]) (fl 9 0) (by kernel_rfl) rfl rfl ⟨bq BK540 0,bq BK540 1,(xH HB hw544_0)⟩ (fun hHeld=>?_);refine with_tabW spec_l6Ok.tab6 spec_l6Ok.bits6 (fun HT_ HW_=>?_)
        generalize wr.drew=w24 at BK540 HB HR544_0 hx544_0 hHeld ⊢
        refine pt 0 36 (fl 9 1) HT_ ?_
        refine pt 2 38 (fl 9 5) HT_ ?_
        refine pt 5 41 (fl 9 37) HT_ ?_
        refine tt 1 37 (fl 9 39) HT_ HW_ hHeld ?_
        refine pt 3 39 (fl 9 47) HT_ ?_
        refine tt 4 40 (fl 9 63) HT_ HW_ hHeld ?_
        refine tt 6 42 (fl 9 127) HT_ HW_ hHeld ?_
        refine ot 7 (some 43) (fl 9 255) HT_ (fun K hK=>?_)
        refine goes_ Try.func55 (by kernel_rfl) rfl #[.agg #[.slice A544_0 ((rd_T35 l0_1 x5_2).f0).length c544_0],.int .i64 a0_0] (by rfl) rfl rfl (by (try simp only [List.map_toArray,List.map_cons,List.map_nil]);rfl) ?_
        with_reducible refine (spec_l5Part.calls k2 _ _ ((rd_T35 l0_1 x5_2).f0) a0_0 true _ ?side1 ?side2 A21.out).mono ?_
        (case side1=>exact rC HR544_0)
        (case side2=>exact HC544_0.out)
        rintro e w25 ⟨rfl,hb⟩
        refine ⟨_,rfl,?_⟩
        replace BK540:=bB BK540 hb;replace HB:=bs hb;(try clear hb);skip
        refine hK.out _ _ ⟨bq BK540 0,bq BK540 1,(xH HB hw544_0)⟩ (fun hHeld=>?_)
        clear hK K
        refine no 43 ?_
        refine pt 8 44 (fl 9 511) HT_ ?_
        refine done_ (done_of HT_.out (by kernel_rfl)) ?_
        try go_wp2
        go_roundg k2
        case measure=>have:=HJ2.out;have:=HK2.out;omega
        case rel=>exact ⟨(wrap64 (x5_2+1)),rd_,H',⟨by have:=HJ2.out;have:=HK2.out;omega⟩,⟨bk BK540⟩,⟨be⟩⟩
       ·replace c22:=Bool.eq_false_iff.mpr c22
        subst c22
        replace H:=(if_neg (show ¬ (false=true) by decide)).symm.trans H
        obtain rfl:=Option.some.inj H
        obtain ⟨hcz26_0,hcz26_1,hfz26_0,hfz26_1⟩:=b2 BK540
        try go_wp2
        replace BK540:=aM (blk_drew BK540.out);replace HB:=aM (below_drew1 HB.out)
        have p544:0≤(x5_2:Int):=od
        have q544:x5_2 < (l0_1.length:Int):=od
        obtain ⟨ad544,A544_0,c544_0,e544,hx544_0,hl544_0,hi544_0⟩:=at_T35 HR0_1.out x5_2 p544 q544
        have hw544_0:=hx544_0
        cases e544
        replace hx544_0:=xH HB hx544_0
        have HR544_0:=aM hi544_0
        have HC544_0:=aM hl544_0
        clear hi544_0 hl544_0
        replace p544:=eq_true p544
        replace q544:=eq_true q544
        refine start_ (n:=9) (S:=fun w'=>w'.cell? ⟨gb540,0,none⟩=some (.int .i64 a0_0)∧w'.cell? ⟨gb540,1,none⟩=some (.slice (some ad544) l0_1.length c0_1)∧w'.cell? (ad544.add (x5_2).toNat)=some (.slice A544_0 ((rd_T35 l0_1 x5_2).f0).length c544_0)) (ds:=[]) (fl 9 0) (by kernel_rfl) rfl rfl ⟨bq BK540 0,bq BK540 1,(xH HB hw544_0)⟩ (fun hHeld=>?_);refine with_tabW spec_l6Ok.tab6 spec_l6Ok.bits6 (fun HT_ HW_=>?_)
        generalize wr.drew=w27 at BK540 HB HR544_0 hx544_0 hHeld ⊢
        refine pt 0 36 (fl 9 1) HT_ ?_
        refine pt 2 38 (fl 9 5) HT_ ?_
        refine pt 5 41 (fl 9 37) HT_ ?_
        refine tt 1 37 (fl 9 39) HT_ HW_ hHeld ?_
        refine pt 3 39 (fl 9 47) HT_ ?_
        refine tt 4 40 (fl 9 63) HT_ HW_ hHeld ?_
        refine tt 6 42 (fl 9 127) HT_ HW_ hHeld ?_
        refine ot 7 (some 43) (fl 9 255) HT_ (fun K hK=>?_)
        refine goes_ Try.func55 (by kernel_rfl) rfl #[.agg #[.slice A544_0 ((rd_T35 l0_1 x5_2).f0).length c544_0],.int .i64 a0_0] (by rfl) rfl rfl (by (try simp only [List.map_toArray,List.map_cons,List.map_nil]);rfl) ?_
        with_reducible refine (spec_l5Part.calls k2 _ _ ((rd_T35 l0_1 x5_2).f0) a0_0 false _ ?side1 ?side2 A21.out).mono ?_
        (case side1=>exact rC HR544_0)
        (case side2=>exact HC544_0.out)
        rintro e w28 ⟨rfl,hb⟩
        refine ⟨_,rfl,?_⟩
        replace BK540:=bB BK540 hb;replace HB:=bs hb;(try clear hb);skip
        refine hK.out _ _ ⟨bq BK540 0,bq BK540 1,(xH HB hw544_0)⟩ (fun hHeld=>?_)
        clear hK K
        refine no 43 ?_
        refine pt 8 44 (fl 9 511) HT_ ?_
        refine done_ (done_of HT_.out (by kernel_rfl)) ?_
        try go_wp2
        go_ret
        exact ⟨rz,be⟩
      ·rw [if_neg c19] at H
       have c19b0:decide (x5_2 < (l0_1.length:Int))=false:=decide_eq_false c19
       clear c19
       obtain rfl:=Option.some.inj H
       obtain ⟨hcz29_0,hcz29_1,hfz29_0,hfz29_1⟩:=b2 BK540
       go_wp2
       go_ret
       exact ⟨rz,be⟩
def spec_l6Lost.l0:Nat→List (S61)→Int→List Int→Option (Int)
 | 0,_,_,_=>none
 | k+1,x1,x5,x547000=>if x5 < (x547000.length:Int) then (if 0≤x5 then ((spec_DevAt.f k x1 (rd x547000 x5)).bind fun bt548=>(if bt548.2.2.2=true then (spec_l6Lost.l0 k x1 (wrap64 (x5+1)) x547000) else (some x5))) else (none)) else (some (-1))
def spec_l6Lost.f (k:Nat) (l0_0:List Int) (l1:List (S61)):Option (Int):=spec_l6Lost.l0 k l1 0 l0_0
set_option maxHeartbeats 8000000 in
set_option maxRecDepth 100000 in
theorem spec_l6Lost.calls (k:Nat) (A0_0:Option Addr) (c0_0:Nat) (l0_0:List Int) (A1:Option Addr) (c1:Nat) (l1:List (S61)) (r:Int) (w:World) (hr0_0:Kd.C (Kd.int .i64) w A0_0 l0_0.length l0_0) (hc0_0:l0_0.length≤c0_0) (hr1:Kd.C k61 w A1 l1.length l1) (hc1:l1.length≤c1) (h:spec_l6Lost.f k l0_0 l1=some r) :
  Calls Try.prog 49 #[.agg #[.slice A0_0 l0_0.length c0_0],.slice A1 l1.length c1] w fun e w'=>e = .returned (.int .i64 r)∧Below w.heap.size w w':=by
 have hu35:=Try.underlying35
 have hu61:=Try.underlying61
 have HR0_0:=aM hr0_0
 have HC0_0:=aM hc0_0
 clear hr0_0 hc0_0
 have HR1:=aM hr1
 have HC1:=aM hc1
 clear hr1 hc1
 have HB:=aM (Below.refl w.heap.size w)
 have H:(spec_l6Lost.l0 k l1 0 l0_0)=some r:=h
 clear h
 have H':=Aside0.mk H
 clear H
 go_enter Try.func49,Try.ntmps49
 go_wp2_with ((with_reducible refine gate_dst (N:=2) rfl ?_);refine box_event ?hg (N:=2) ?hd (cs:=#[.slice A0_0 l0_0.length c0_0]) (t:=35) ?hr ?_;(case hd=>rfl);(case hg=>rfl);(case hr=>(go_simp;done));intro gb546 hg w3 hbox hb;have BK546:=aM (hbox);have GW546:=gS w hg;replace HB:=bs hb;clear hb hbox hg)
 go_loopg [5] k (fun kq v5 w'=>∃ (x5_1:Int),v5 = .int .i64 x5_1∧Aside0 (spec_l6Lost.l0 kq l1 x5_1 l0_0=some r)∧Aside0 (kq≤k)∧Aside0 (w'.heap[gb546]?=some (.cells #[(.slice A0_0 l0_0.length c0_0)] 35 (0,0)))∧Aside0 (Below w.heap.size w w'))
 case atStart=>exact ⟨(0),rd_,H',⟨Nat.le_refl _⟩,⟨bk BK546⟩,⟨be⟩⟩
 case round=>
  clear H'
  obtain ⟨x5_1,rfl,HA,HK1,BK546,HB⟩:=hrel
  cases gk with
  | zero=>exact absurd HA.out (by simp [spec_l6Lost.l0])
  | succ k1=>
   have H:=HA.out
   clear HA
   simp only [spec_l6Lost.l0] at H
   by_cases c4:x5_1 < (l0_0.length:Int)
   ·rw [if_pos c4] at H
    have c4b0:decide (x5_1 < (l0_0.length:Int))=true:=decide_eq_true c4
    clear c4
    obtain ⟨c5,H⟩:=ifs H
    have c5b0:decide (0≤x5_1)=true:=decide_eq_true c5
    clear c5
    replace H:=Option.bind_eq_some_iff.mp H
    obtain ⟨⟨t548,t549,t550,t551⟩,A60,H⟩:=H
    try dsimp only at H
    have A6:=aM A60
    clear A60
    by_cases c7:t551=true
    ·subst c7
     rw [if_pos rfl] at H
     have H':=Aside0.mk H
     clear H
     obtain ⟨hcz8_0,hfz8_0⟩:=b1 BK546
     have p547:0≤(x5_1:Int):=od
     have q547:x5_1 < (l0_0.length:Int):=od
     obtain ⟨ad547,e547,hx547_0⟩:=Kd.at_int HR0_0.out x5_1 p547 q547
     cases e547
     replace hx547_0:=xH HB hx547_0
     replace p547:=eq_true p547
     replace q547:=eq_true q547
     go_wp2_with (first|((with_reducible refine gate_callee (f:=56) rfl ?_);refine goesL_ (some 22) rfl rfl Try.func56 (by kernel_rfl) rfl #[.slice A1 l1.length c1,.int .i64 (rd l0_0 x5_1)] rfl (by (try simp only [List.map_toArray,List.map_cons,List.map_nil]);rfl) ?_;(with_reducible refine (spec_DevAt.calls k1 _ _ l1 (rd l0_0 x5_1) t548 t549 t550 true _ ?side1 ?side2 A6.out).mono ?_);(case side1=>exact rC HR1);(case side2=>exact HC1.out);rintro e w9 ⟨rfl,hb⟩;refine ⟨_,rfl,?_⟩;replace BK546:=bB BK546 hb;replace HB:=bs hb;(try clear hb))|((with_reducible refine gate_dst (N:=6) rfl ?_);refine box_event ?hg (N:=6) ?hd (cs:=#[.int .i64 0,.int .i64 0,.int .i64 0]) (t:=61) ?hr ?_;(case hd=>rfl);(case hg=>rfl);(case hr=>(go_simp;done));intro gb552 hg w10 hbox hb;have BK552:=aM (hbox);have GW552:=gS w hg;have GE552:=gS w hg;replace HB:=bs hb;have NB546_552:=nL hg BK546;have NB552_546:=nG hg BK546;replace BK546:=bB BK546 hb;clear hb hbox hg;have hnb11:=NB552_546.out;have hnc11:=NB546_552.out;obtain ⟨hcz12_0,hcz12_1,hcz12_2,hfz12_0,hfz12_1,hfz12_2⟩:=b3 BK552))
     go_roundg k1
     case measure=>have:=HK1.out;omega
     case rel=>exact ⟨(wrap64 (x5_1+1)),rd_,H',⟨by have:=HK1.out;omega⟩,⟨by refine blk_far ?_ NB546_552.out _;refine blk_far ?_ NB546_552.out _;refine blk_far ?_ NB546_552.out _;exact BK546.out⟩,⟨be⟩⟩
    ·replace c7:=Bool.eq_false_iff.mpr c7
     subst c7
     replace H:=(if_neg (show ¬ (false=true) by decide)).symm.trans H
     obtain rfl:=Option.some.inj H
     obtain ⟨hcz13_0,hfz13_0⟩:=b1 BK546
     have p547:0≤(x5_1:Int):=od
     have q547:x5_1 < (l0_0.length:Int):=od
     obtain ⟨ad547,e547,hx547_0⟩:=Kd.at_int HR0_0.out x5_1 p547 q547
     cases e547
     replace hx547_0:=xH HB hx547_0
     replace p547:=eq_true p547
     replace q547:=eq_true q547
     go_wp2_with (first|((with_reducible refine gate_callee (f:=56) rfl ?_);refine goesL_ (some 22) rfl rfl Try.func56 (by kernel_rfl) rfl #[.slice A1 l1.length c1,.int .i64 (rd l0_0 x5_1)] rfl (by (try simp only [List.map_toArray,List.map_cons,List.map_nil]);rfl) ?_;(with_reducible refine (spec_DevAt.calls k1 _ _ l1 (rd l0_0 x5_1) t548 t549 t550 false _ ?side1 ?side2 A6.out).mono ?_);(case side1=>exact rC HR1);(case side2=>exact HC1.out);rintro e w14 ⟨rfl,hb⟩;refine ⟨_,rfl,?_⟩;replace BK546:=bB BK546 hb;replace HB:=bs hb;(try clear hb))|((with_reducible refine gate_dst (N:=6) rfl ?_);refine box_event ?hg (N:=6) ?hd (cs:=#[.int .i64 0,.int .i64 0,.int .i64 0]) (t:=61) ?hr ?_;(case hd=>rfl);(case hg=>rfl);(case hr=>(go_simp;done));intro gb552 hg w15 hbox hb;have BK552:=aM (hbox);have GW552:=gS w hg;have GE552:=gS w hg;replace HB:=bs hb;have NB546_552:=nL hg BK546;have NB552_546:=nG hg BK546;clear BK546;clear hb hbox hg;have hnb16:=NB552_546.out;have hnc16:=NB546_552.out;obtain ⟨hcz17_0,hcz17_1,hcz17_2,hfz17_0,hfz17_1,hfz17_2⟩:=b3 BK552))
     go_ret
     exact ⟨rz,be⟩
   ·rw [if_neg c4] at H
    have c4b0:decide (x5_1 < (l0_0.length:Int))=false:=decide_eq_false c4
    clear c4
    obtain rfl:=Option.some.inj H
    obtain ⟨hcz18_0,hfz18_0⟩:=b1 BK546
    go_wp2
    go_ret
    exact ⟨rz,be⟩
end Go.Proofs.Ytpbjbfimnfghkaa.PFnRebalanced
