/- Trimmed by a program of this session (trim.py). Not trusted: Lean checks it. -/
import Derived.Test.YtpbjbfimnfghkaaTXRebalancePFnExactRebalancex0
import Derived.Test.YtpbjbfimnfghkaaTXRebalancePFnExactRebalancex7
namespace Go.Proofs.Ytpbjbfimnfghkaa.PFnExactRebalance
open Go.RowKit Go.Proofs.YtpbjbfimnfghkaaW.PrintWords Go.Proofs.YtpbjbfimnfghkaaW.PrintLast Go.Proofs.YtpbjbfimnfghkaaW.PrintMore Go.Proofs.Ytpbjbfimnfghkaa.St
attribute [local go_sem] max2_int min2_int max_two min_two max_three min_three max_four min_four
set_option linter.unusedVariables false
set_option linter.unusedSimpArgs false
mutual
def spec_l6Ok.j0:Nat→Bool→Int→List (S35)→Option (Bool)
 | 0,_,_,_=>none
 | k+1,x28,x247000,x247001=>if x28=true then (some false) else (spec_l6Ok.l0 k 0 x247000 x247001)
def spec_l6Ok.l0:Nat→Int→Int→List (S35)→Option (Bool)
 | 0,_,_,_=>none
 | k+1,x5,x247000,x247001=>if x5 < (x247001.length:Int) then (if 0≤x5 then ((spec_l5Part.f k ((rd_T35 x247001 x5).f0) x247000).bind fun t251=>(if t251=true then (spec_l6Ok.l0 k (wrap64 (x5+1)) x247000 x247001) else (some false))) else (none)) else (some true)
end
def spec_l6Ok.f (k:Nat) (a0_0:Int) (l0_1:List (S35)) (l1:List (S61)):Option (Bool):=(spec_DevsOk.f k l1).bind fun t247=>(if t247=true then ((spec_l1In.f a0_0 1 5).bind fun t248=>(if t248=true then (if a0_0 > (l1.length:Int) then (spec_l6Ok.j0 k true a0_0 l0_1) else ((spec_l1In.f (l0_1.length:Int) 1 64).bind fun t249=>(spec_l6Ok.j0 k (!t249) a0_0 l0_1))) else (spec_l6Ok.j0 k true a0_0 l0_1))) else (spec_l6Ok.j0 k true a0_0 l0_1))
def spec_l6Ok.T6:Bool × List (List Nat × List Nat):=(true,[([],[]),([0],[0]),([],[]),([1,2],[1,2]),([3],[3]),([],[]),([5],[5]),([4,6],[4,6]),([7],[7])])
def spec_l6Ok.B6:List Nat:=[0,1,0,7,15,0,32,127,255]
theorem spec_l6Ok.tab6:rtab .any (opsOf Try.f48 6)=spec_l6Ok.T6:=by kernel_rfl
theorem spec_l6Ok.bits6:waitsOk spec_l6Ok.T6.2 spec_l6Ok.B6=true:=by kernel_rfl
set_option maxHeartbeats 8000000 in
set_option maxRecDepth 100000 in
theorem spec_l6Ok.calls (k:Nat) (a0_0:Int) (A0_1:Option Addr) (c0_1:Nat) (l0_1:List (S35)) (A1:Option Addr) (c1:Nat) (l1:List (S61)) (r:Bool) (w:World) (hr0_1:Kd.C k35 w A0_1 l0_1.length l0_1) (hc0_1:l0_1.length≤c0_1) (hr1:Kd.C k61 w A1 l1.length l1) (hc1:l1.length≤c1) (h:spec_l6Ok.f k a0_0 l0_1 l1=some r) :
  Calls Try.prog 48 #[.agg #[.int .i64 a0_0,.slice A0_1 l0_1.length c0_1],.slice A1 l1.length c1] w fun e w'=>e = .returned (.bool r)∧Below w.heap.size w w':=by
 have hu26:=Try.underlying26
 have hu35:=Try.underlying35
 have HR0_1:=aM hr0_1
 have HC0_1:=aM hc0_1
 clear hr0_1 hc0_1
 have HR1:=aM hr1
 have HC1:=aM hc1
 clear hr1 hc1
 have HB:=aM (Below.refl w.heap.size w)
 have H:((spec_DevsOk.f k l1).bind fun t247=>(if t247=true then ((spec_l1In.f a0_0 1 5).bind fun t248=>(if t248=true then (if a0_0 > (l1.length:Int) then (spec_l6Ok.j0 k true a0_0 l0_1) else ((spec_l1In.f (l0_1.length:Int) 1 64).bind fun t249=>(spec_l6Ok.j0 k (!t249) a0_0 l0_1))) else (spec_l6Ok.j0 k true a0_0 l0_1))) else (spec_l6Ok.j0 k true a0_0 l0_1)))=some r:=h
 clear h
 have HC3:=aM H
 clear H
 go_enter Try.func48,Try.ntmps48
 go_upto_region 1 with ((with_reducible refine gate_dst (N:=2) rfl ?_);(try (refine gate_guard (by rfl) ?_;dsimp only));refine box_event ?hg (N:=2) ?hd (cs:=#[.int .i64 a0_0,.slice A0_1 l0_1.length c0_1]) (t:=26) ?hr ?_;(case hd=>rfl);(case hg=>rfl);(case hr=>first|(go_simp;done)|(go_simp;rfl));intro gb246 hg w4 hbox hb;have BK246:=aM (hbox);have GW246:=gS w hg;have GE246:=gS w hg;replace HB:=bs hb;clear hb hbox hg)
 (try simp only [Act.put,List.setIfInBounds_toArray,List.set_cons_zero,List.set_cons_succ])
 go_cut [28] (fun v28 wc=>∃ (kq:Nat) (x28_2:Bool),v28 = .bool x28_2∧Aside0 (spec_l6Ok.j0 kq x28_2 a0_0 l0_1=some r)∧Aside0 (kq≤k)∧Aside0 (wc.heap[gb246]?=some (.cells #[.int .i64 a0_0,(.slice A0_1 l0_1.length c0_1)] 26 (0,0)))∧Aside0 (Below w.heap.size w wc))
 case first=>
  have H:=HC3.out
  clear HC3
  replace H:=Option.bind_eq_some_iff.mp H
  obtain ⟨t247,A50,H⟩:=H
  try dsimp only at H
  have A5:=aM A50
  clear A50
  by_cases c6:t247=true
  ·subst c6
   rw [if_pos rfl] at H
   replace H:=Option.bind_eq_some_iff.mp H
   obtain ⟨t248,A70,H⟩:=H
   try dsimp only at H
   have A7:=aM A70
   clear A70
   by_cases c8:t248=true
   ·subst c8
    rw [if_pos rfl] at H
    by_cases c9:a0_0 > (l1.length:Int)
    ·rw [if_pos c9] at H
     have c9b0:decide ((l1.length:Int) < a0_0)=true:=decide_eq_true c9
     clear c9
     (skip)
     have H':=Aside0.mk H
     clear H
     go_wp2_with (first|((with_reducible refine gate_callee (f:=53) rfl ?_);refine goesL_ (some 7) rfl rfl Try.func53 (by kernel_rfl) rfl #[.slice A1 l1.length c1] rfl (by (try simp only [List.map_toArray,List.map_cons,List.map_nil]);first|done|rfl|(simp only [List.length_drop,List.length_take];rfl)) ?_;(with_reducible refine (spec_DevsOk.calls k _ _ l1 true _ ?side1 ?side2 A5.out).mono ?_);(case side1=>exact rC HR1);(case side2=>exact HC1.out);rintro e w10 ⟨rfl,hb⟩;refine ⟨_,rfl,?_⟩;replace BK246:=bB BK246 hb;replace HB:=bs hb;(try clear hb);have hcz11_0:w10.cell? ⟨gb246,0,none⟩=some (.int .i64 a0_0):=(blk_cell BK246.out 0).trans rfl;have hcz11_1:w10.cell? ⟨gb246,1,none⟩=some (.slice A0_1 l0_1.length c0_1):=(blk_cell BK246.out 1).trans rfl;have hfz11_0:=blk_frozen BK246.out 0;have hfz11_1:=blk_frozen BK246.out 1)|(go_at_call 54;(with_reducible refine (spec_l1In.calls a0_0 1 5 true _ A7.out).mono ?_);rintro e w' ⟨rfl,⟨nd,rfl⟩⟩))
     go_meet
     case rel=>exact ⟨_,(true),rd_,H',⟨by first|omega|exact Nat.le_refl _⟩,⟨bk BK246⟩,⟨be⟩⟩
    ·rw [if_neg c9] at H
     have c9b0:decide ((l1.length:Int) < a0_0)=false:=decide_eq_false c9
     clear c9
     (skip)
     replace H:=Option.bind_eq_some_iff.mp H
     obtain ⟨t249,A120,H⟩:=H
     try dsimp only at H
     have A12:=aM A120
     clear A120
     have H':=Aside0.mk H
     clear H
     go_wp2_with (first|((with_reducible refine gate_callee (f:=53) rfl ?_);refine goesL_ (some 7) rfl rfl Try.func53 (by kernel_rfl) rfl #[.slice A1 l1.length c1] rfl (by (try simp only [List.map_toArray,List.map_cons,List.map_nil]);first|done|rfl|(simp only [List.length_drop,List.length_take];rfl)) ?_;(with_reducible refine (spec_DevsOk.calls k _ _ l1 true _ ?side1 ?side2 A5.out).mono ?_);(case side1=>exact rC HR1);(case side2=>exact HC1.out);rintro e w13 ⟨rfl,hb⟩;refine ⟨_,rfl,?_⟩;replace BK246:=bB BK246 hb;replace HB:=bs hb;(try clear hb);have hcz14_0:w13.cell? ⟨gb246,0,none⟩=some (.int .i64 a0_0):=(blk_cell BK246.out 0).trans rfl;have hcz14_1:w13.cell? ⟨gb246,1,none⟩=some (.slice A0_1 l0_1.length c0_1):=(blk_cell BK246.out 1).trans rfl;have hfz14_0:=blk_frozen BK246.out 0;have hfz14_1:=blk_frozen BK246.out 1)|(go_at_call 54;(with_reducible refine (spec_l1In.calls a0_0 1 5 true _ A7.out).mono ?_);rintro e w' ⟨rfl,⟨nd,rfl⟩⟩)|(go_at_call 54;(with_reducible refine (spec_l1In.calls (l0_1.length:Int) 1 64 t249 _ A12.out).mono ?_);rintro e w' ⟨rfl,⟨nd,rfl⟩⟩))
     go_meet
     case rel=>exact ⟨_,(!t249),rd_,H',⟨by first|omega|exact Nat.le_refl _⟩,⟨bk BK246⟩,⟨be⟩⟩
   ·replace c8:=Bool.eq_false_iff.mpr c8
    subst c8
    replace H:=(if_neg (show ¬ (false=true) by decide)).symm.trans H
    have H':=Aside0.mk H
    clear H
    go_wp2_with (first|((with_reducible refine gate_callee (f:=53) rfl ?_);refine goesL_ (some 7) rfl rfl Try.func53 (by kernel_rfl) rfl #[.slice A1 l1.length c1] rfl (by (try simp only [List.map_toArray,List.map_cons,List.map_nil]);first|done|rfl|(simp only [List.length_drop,List.length_take];rfl)) ?_;(with_reducible refine (spec_DevsOk.calls k _ _ l1 true _ ?side1 ?side2 A5.out).mono ?_);(case side1=>exact rC HR1);(case side2=>exact HC1.out);rintro e w15 ⟨rfl,hb⟩;refine ⟨_,rfl,?_⟩;replace BK246:=bB BK246 hb;replace HB:=bs hb;(try clear hb);have hcz16_0:w15.cell? ⟨gb246,0,none⟩=some (.int .i64 a0_0):=(blk_cell BK246.out 0).trans rfl;have hcz16_1:w15.cell? ⟨gb246,1,none⟩=some (.slice A0_1 l0_1.length c0_1):=(blk_cell BK246.out 1).trans rfl;have hfz16_0:=blk_frozen BK246.out 0;have hfz16_1:=blk_frozen BK246.out 1)|(go_at_call 54;(with_reducible refine (spec_l1In.calls a0_0 1 5 false _ A7.out).mono ?_);rintro e w' ⟨rfl,⟨nd,rfl⟩⟩))
    go_meet
    case rel=>exact ⟨_,(true),rd_,H',⟨by first|omega|exact Nat.le_refl _⟩,⟨bk BK246⟩,⟨be⟩⟩
  ·replace c6:=Bool.eq_false_iff.mpr c6
   subst c6
   replace H:=(if_neg (show ¬ (false=true) by decide)).symm.trans H
   have H':=Aside0.mk H
   clear H
   go_wp2_with ((with_reducible refine gate_callee (f:=53) rfl ?_);refine goesL_ (some 7) rfl rfl Try.func53 (by kernel_rfl) rfl #[.slice A1 l1.length c1] rfl (by (try simp only [List.map_toArray,List.map_cons,List.map_nil]);first|done|rfl|(simp only [List.length_drop,List.length_take];rfl)) ?_;(with_reducible refine (spec_DevsOk.calls k _ _ l1 false _ ?side1 ?side2 A5.out).mono ?_);(case side1=>exact rC HR1);(case side2=>exact HC1.out);rintro e w17 ⟨rfl,hb⟩;refine ⟨_,rfl,?_⟩;replace BK246:=bB BK246 hb;replace HB:=bs hb;(try clear hb))
   go_meet
   case rel=>exact ⟨_,(true),rd_,H',⟨by first|omega|exact Nat.le_refl _⟩,⟨bk BK246⟩,⟨be⟩⟩
 case rest=>
  clear HC3
  obtain ⟨kq,x28_2,rfl,HA,HJ2,BK246,HB⟩:=hcut
  cases kq with
  | zero=>exact absurd HA.out (by simp [spec_l6Ok.j0])
  | succ kj2=>
   have H:=HA.out
   clear HA
   simp only [spec_l6Ok.j0] at H
   by_cases c18:x28_2=true
   ·subst c18
    rw [if_pos rfl] at H
    obtain rfl:=Option.some.inj H
    go_wp2
    go_ret
    exact ⟨rz,be⟩
   ·replace c18:=Bool.eq_false_iff.mpr c18
    subst c18
    replace H:=(if_neg (show ¬ (false=true) by decide)).symm.trans H
    have H':=Aside0.mk H
    clear H
    go_wp2
    go_loopg [5] kj2 (fun kq v5 w'=>∃ (x5_2:Int),v5 = .int .i64 x5_2∧Aside0 (spec_l6Ok.l0 kq x5_2 a0_0 l0_1=some r)∧Aside0 (kq≤kj2)∧Aside0 (w'.heap[gb246]?=some (.cells #[.int .i64 a0_0,(.slice A0_1 l0_1.length c0_1)] 26 (0,0)))∧Aside0 (Below w.heap.size w w'))
    case atStart=>exact ⟨(0),rd_,H',⟨Nat.le_refl _⟩,⟨bk BK246⟩,⟨be⟩⟩
    case round=>
     clear H'
     obtain ⟨x5_2,rfl,HA,HK2,BK246,HB⟩:=hrel
     cases gk with
     | zero=>exact absurd HA.out (by simp [spec_l6Ok.l0])
     | succ k2=>
      have H:=HA.out
      clear HA
      simp only [spec_l6Ok.l0] at H
      by_cases c19:x5_2 < (l0_1.length:Int)
      ·rw [if_pos c19] at H
       have c19b0:decide (x5_2 < (l0_1.length:Int))=true:=decide_eq_true c19
       clear c19
       by_cases c20:0≤x5_2
       ·rw [if_pos c20] at H
        have c20b0:decide (0≤x5_2)=true:=decide_eq_true c20
        clear c20
        replace H:=Option.bind_eq_some_iff.mp H
        obtain ⟨t251,A210,H⟩:=H
        try dsimp only at H
        have A21:=aM A210
        clear A210
        by_cases c22:t251=true
        ·subst c22
         rw [if_pos rfl] at H
         have H':=Aside0.mk H
         clear H
         have hcz23_0:wr.cell? ⟨gb246,0,none⟩=some (.int .i64 a0_0):=(blk_cell BK246.out 0).trans rfl
         have hcz23_1:wr.cell? ⟨gb246,1,none⟩=some (.slice A0_1 l0_1.length c0_1):=(blk_cell BK246.out 1).trans rfl
         have hfz23_0:=blk_frozen BK246.out 0
         have hfz23_1:=blk_frozen BK246.out 1
         try go_wp2
         replace BK246:=aM (blk_drew BK246.out);replace HB:=aM (below_drew1 HB.out)
         have p250:0≤(x5_2:Int):=of_decide_eq_true (by first|(with_reducible assumption)|assumption)
         have q250:x5_2 < (l0_1.length:Int):=of_decide_eq_true (by first|(with_reducible assumption)|assumption)
         obtain ⟨ad250,A250_0,c250_0,e250,hx250_0,hl250_0,hi250_0⟩:=at_T35 HR0_1.out x5_2 p250 q250
         have hw250_0:=hx250_0
         cases e250
         replace hx250_0:=(HB.out.cell (World.block_lt_of_cell? w _ hx250_0)).trans hx250_0
         have HR250_0:=aM hi250_0
         have HC250_0:=aM hl250_0
         clear hi250_0 hl250_0
         replace p250:=eq_true p250
         replace q250:=eq_true q250
         refine start_ (n:=9) (S:=fun w'=>w'.cell? ⟨gb246,0,none⟩=some (.int .i64 a0_0)∧w'.cell? ⟨gb246,1,none⟩=some (.slice (some ad250) l0_1.length c0_1)∧w'.cell? (ad250.add (x5_2).toNat)=some (.slice A250_0 ((rd_T35 l0_1 x5_2).f0).length c250_0)) (ds:=[]) (fl 9 0) (by kernel_rfl) rfl rfl ⟨(blk_cell BK246.out 0).trans rfl,(blk_cell BK246.out 1).trans rfl,((HB.out.cell (World.block_lt_of_cell? w _ hw250_0)).trans hw250_0)⟩ (fun hHeld=>?_);refine with_tabW spec_l6Ok.tab6 spec_l6Ok.bits6 (fun HT_ HW_=>?_)
         generalize wr.drew=w24 at BK246 HB HR250_0 hx250_0 hHeld ⊢
         refine pt 0 36 (fl 9 1) HT_ ?_
         refine pt 2 38 (fl 9 5) HT_ ?_
         refine pt 5 41 (fl 9 37) HT_ ?_
         refine tt 1 37 (fl 9 39) HT_ HW_ hHeld ?_
         refine pt 3 39 (fl 9 47) HT_ ?_
         refine tt 4 40 (fl 9 63) HT_ HW_ hHeld ?_
         refine tt 6 42 (fl 9 127) HT_ HW_ hHeld ?_
         refine ot 7 (some 43) (fl 9 255) HT_ (fun K hK=>?_)
         refine goes_ Try.func55 (by kernel_rfl) rfl #[.agg #[.slice A250_0 ((rd_T35 l0_1 x5_2).f0).length c250_0],.int .i64 a0_0] (by rfl) rfl rfl (by (try simp only [List.map_toArray,List.map_cons,List.map_nil]);first|done|rfl|(simp only [List.length_drop,List.length_take];rfl)) ?_
         with_reducible refine (spec_l5Part.calls k2 _ _ ((rd_T35 l0_1 x5_2).f0) a0_0 true _ ?side1 ?side2 A21.out).mono ?_
         (case side1=>exact rC HR250_0)
         (case side2=>exact HC250_0.out)
         rintro e w25 ⟨rfl,hb⟩
         refine ⟨_,rfl,?_⟩
         replace BK246:=bB BK246 hb;replace HB:=bs hb;(try clear hb);skip
         refine hK.out _ _ ⟨(blk_cell BK246.out 0).trans rfl,(blk_cell BK246.out 1).trans rfl,((HB.out.cell (World.block_lt_of_cell? w _ hw250_0)).trans hw250_0)⟩ (fun hHeld=>?_)
         clear hK K
         refine no 43 ?_
         refine pt 8 44 (fl 9 511) HT_ ?_
         refine done_ (done_of HT_.out (by kernel_rfl)) ?_
         try go_wp2
         go_roundg k2
         case measure=>have:=HJ2.out;have:=HK2.out;omega
         case rel=>exact ⟨(wrap64 (x5_2+1)),rd_,H',⟨by have:=HJ2.out;have:=HK2.out;omega⟩,⟨bk BK246⟩,⟨be⟩⟩
        ·replace c22:=Bool.eq_false_iff.mpr c22
         subst c22
         replace H:=(if_neg (show ¬ (false=true) by decide)).symm.trans H
         obtain rfl:=Option.some.inj H
         have hcz26_0:wr.cell? ⟨gb246,0,none⟩=some (.int .i64 a0_0):=(blk_cell BK246.out 0).trans rfl
         have hcz26_1:wr.cell? ⟨gb246,1,none⟩=some (.slice A0_1 l0_1.length c0_1):=(blk_cell BK246.out 1).trans rfl
         have hfz26_0:=blk_frozen BK246.out 0
         have hfz26_1:=blk_frozen BK246.out 1
         try go_wp2
         replace BK246:=aM (blk_drew BK246.out);replace HB:=aM (below_drew1 HB.out)
         have p250:0≤(x5_2:Int):=of_decide_eq_true (by first|(with_reducible assumption)|assumption)
         have q250:x5_2 < (l0_1.length:Int):=of_decide_eq_true (by first|(with_reducible assumption)|assumption)
         obtain ⟨ad250,A250_0,c250_0,e250,hx250_0,hl250_0,hi250_0⟩:=at_T35 HR0_1.out x5_2 p250 q250
         have hw250_0:=hx250_0
         cases e250
         replace hx250_0:=(HB.out.cell (World.block_lt_of_cell? w _ hx250_0)).trans hx250_0
         have HR250_0:=aM hi250_0
         have HC250_0:=aM hl250_0
         clear hi250_0 hl250_0
         replace p250:=eq_true p250
         replace q250:=eq_true q250
         refine start_ (n:=9) (S:=fun w'=>w'.cell? ⟨gb246,0,none⟩=some (.int .i64 a0_0)∧w'.cell? ⟨gb246,1,none⟩=some (.slice (some ad250) l0_1.length c0_1)∧w'.cell? (ad250.add (x5_2).toNat)=some (.slice A250_0 ((rd_T35 l0_1 x5_2).f0).length c250_0)) (ds:=[]) (fl 9 0) (by kernel_rfl) rfl rfl ⟨(blk_cell BK246.out 0).trans rfl,(blk_cell BK246.out 1).trans rfl,((HB.out.cell (World.block_lt_of_cell? w _ hw250_0)).trans hw250_0)⟩ (fun hHeld=>?_);refine with_tabW spec_l6Ok.tab6 spec_l6Ok.bits6 (fun HT_ HW_=>?_)
         generalize wr.drew=w27 at BK246 HB HR250_0 hx250_0 hHeld ⊢
         refine pt 0 36 (fl 9 1) HT_ ?_
         refine pt 2 38 (fl 9 5) HT_ ?_
         refine pt 5 41 (fl 9 37) HT_ ?_
         refine tt 1 37 (fl 9 39) HT_ HW_ hHeld ?_
         refine pt 3 39 (fl 9 47) HT_ ?_
         refine tt 4 40 (fl 9 63) HT_ HW_ hHeld ?_
         refine tt 6 42 (fl 9 127) HT_ HW_ hHeld ?_
         refine ot 7 (some 43) (fl 9 255) HT_ (fun K hK=>?_)
         refine goes_ Try.func55 (by kernel_rfl) rfl #[.agg #[.slice A250_0 ((rd_T35 l0_1 x5_2).f0).length c250_0],.int .i64 a0_0] (by rfl) rfl rfl (by (try simp only [List.map_toArray,List.map_cons,List.map_nil]);first|done|rfl|(simp only [List.length_drop,List.length_take];rfl)) ?_
         with_reducible refine (spec_l5Part.calls k2 _ _ ((rd_T35 l0_1 x5_2).f0) a0_0 false _ ?side1 ?side2 A21.out).mono ?_
         (case side1=>exact rC HR250_0)
         (case side2=>exact HC250_0.out)
         rintro e w28 ⟨rfl,hb⟩
         refine ⟨_,rfl,?_⟩
         replace BK246:=bB BK246 hb;replace HB:=bs hb;(try clear hb);skip
         refine hK.out _ _ ⟨(blk_cell BK246.out 0).trans rfl,(blk_cell BK246.out 1).trans rfl,((HB.out.cell (World.block_lt_of_cell? w _ hw250_0)).trans hw250_0)⟩ (fun hHeld=>?_)
         clear hK K
         refine no 43 ?_
         refine pt 8 44 (fl 9 511) HT_ ?_
         refine done_ (done_of HT_.out (by kernel_rfl)) ?_
         try go_wp2
         go_ret
         exact ⟨rz,be⟩
       ·rw [if_neg c20] at H
        exact absurd H (by simp)
      ·rw [if_neg c19] at H
       have c19b0:decide (x5_2 < (l0_1.length:Int))=false:=decide_eq_false c19
       clear c19
       obtain rfl:=Option.some.inj H
       have hcz29_0:wr.cell? ⟨gb246,0,none⟩=some (.int .i64 a0_0):=(blk_cell BK246.out 0).trans rfl
       have hcz29_1:wr.cell? ⟨gb246,1,none⟩=some (.slice A0_1 l0_1.length c0_1):=(blk_cell BK246.out 1).trans rfl
       have hfz29_0:=blk_frozen BK246.out 0
       have hfz29_1:=blk_frozen BK246.out 1
       go_wp2
       go_ret
       exact ⟨rz,be⟩
def spec_DevAt.l0:Nat→List (S61)→Int→Int→Option (Int × Int × Int × Bool)
 | 0,_,_,_=>none
 | k+1,x0,x1,x6=>if x6 < (x0.length:Int) then (if 0≤x6 then (if ((rd_T61 x0 x6).f0)=x1 then (some ((rd_T61 x0 x6).f0,(rd_T61 x0 x6).f1,(rd_T61 x0 x6).f2,true)) else (spec_DevAt.l0 k x0 x1 (wrap64 (x6+1)))) else (none)) else (some (0,0,0,false))
def spec_DevAt.f (k:Nat) (l0:List (S61)) (a1:Int):Option (Int × Int × Int × Bool):=spec_DevAt.l0 k l0 a1 0
set_option maxHeartbeats 8000000 in
set_option maxRecDepth 100000 in
theorem spec_DevAt.calls (k:Nat) (A0:Option Addr) (c0:Nat) (l0:List (S61)) (a1:Int) (r1:Int) (r2:Int) (r3:Int) (r4:Bool) (w:World) (hr0:Kd.C k61 w A0 l0.length l0) (hc0:l0.length≤c0) (h:spec_DevAt.f k l0 a1=some (r1,r2,r3,r4)) :
  Calls Try.prog 56 #[.slice A0 l0.length c0,.int .i64 a1] w fun e w'=>e = .returned (.tuple #[.agg #[.int .i64 r1,.int .i64 r2,.int .i64 r3],.bool r4])∧Below w.heap.size w w':=by
 have hu61:=Try.underlying61
 have HR0:=aM hr0
 have HC0:=aM hc0
 clear hr0 hc0
 have HB:=aM (Below.refl w.heap.size w)
 have H:(spec_DevAt.l0 k l0 a1 0)=some (r1,r2,r3,r4):=h
 clear h
 have H':=Aside0.mk H
 clear H
 go_enter Try.func56,Try.ntmps56
 go_wp2_with ((with_reducible refine gate_dst (N:=4) rfl ?_);refine box_event ?hg (N:=4) ?hd (cs:=#[.int .i64 0,.int .i64 0,.int .i64 0]) (t:=61) ?hr ?_;(case hd=>rfl);(case hg=>rfl);(case hr=>first|(go_simp;done)|(go_simp;rfl));intro gb252 hg w3 hbox hb;have BK252:=aM (hbox);have GW252:=gS w hg;have GE252:=gS w hg;replace HB:=bs hb;clear hb hbox hg)
 go_loopg [6] k (fun kq v6 w'=>∃ (x6_1:Int) (x253000_1:Int) (x253001_1:Int) (x253002_1:Int),v6 = .int .i64 x6_1∧Aside0 (spec_DevAt.l0 kq l0 a1 x6_1=some (r1,r2,r3,r4))∧Aside0 (kq≤k)∧Aside0 (w'.heap[gb252]?=some (.cells #[.int .i64 x253000_1,.int .i64 x253001_1,.int .i64 x253002_1] 61 (0,0)))∧Aside0 (Below w.heap.size w w'))
 case atStart=>exact ⟨(0),(0),(0),(0),rd_,H',⟨Nat.le_refl _⟩,⟨bk BK252⟩,⟨be⟩⟩
 case round=>
  clear H'
  obtain ⟨x6_1,x253000_1,x253001_1,x253002_1,rfl,HA,HK1,BK252,HB⟩:=hrel
  cases gk with
  | zero=>exact absurd HA.out (by simp [spec_DevAt.l0])
  | succ k1=>
   have H:=HA.out
   clear HA
   simp only [spec_DevAt.l0] at H
   by_cases c4:x6_1 < (l0.length:Int)
   ·rw [if_pos c4] at H
    have c4b0:decide (x6_1 < (l0.length:Int))=true:=decide_eq_true c4
    clear c4
    by_cases c5:0≤x6_1
    ·rw [if_pos c5] at H
     have c5b0:decide (0≤x6_1)=true:=decide_eq_true c5
     clear c5
     by_cases c6:((rd_T61 l0 x6_1).f0)=a1
     ·rw [if_pos c6] at H
      have c6b0:(((rd_T61 l0 x6_1).f0) == a1)=true:=beq_iff_eq.mpr c6
      have c6b1:(((rd_T61 l0 x6_1).f0) != a1)=false:=bne_eq_false_iff_eq.mpr c6
      clear c6
      simp only [Option.some.injEq,Prod.mk.injEq] at H
      obtain ⟨rfl,rfl,rfl,rfl⟩:=H
      have p253:0≤(x6_1:Int):=of_decide_eq_true (by first|(with_reducible assumption)|assumption)
      have q253:x6_1 < (l0.length:Int):=of_decide_eq_true (by first|(with_reducible assumption)|assumption)
      obtain ⟨ad253,e253,hx253_0,hx253_1,hx253_2⟩:=at_T61 HR0.out x6_1 p253 q253
      cases e253
      replace hx253_0:=(HB.out.cell (World.block_lt_of_cell? w _ hx253_0)).trans hx253_0
      replace hx253_1:=(HB.out.cell (World.block_lt_of_cell? w _ hx253_1)).trans hx253_1
      replace hx253_2:=(HB.out.cell (World.block_lt_of_cell? w _ hx253_2)).trans hx253_2
      replace p253:=eq_true p253
      replace q253:=eq_true q253
      have p254:0≤(x6_1:Int):=of_decide_eq_true (by first|(with_reducible assumption)|assumption)
      have q254:x6_1 < (l0.length:Int):=of_decide_eq_true (by first|(with_reducible assumption)|assumption)
      obtain ⟨ad254,e254,hx254_0,hx254_1,hx254_2⟩:=at_T61 HR0.out x6_1 p254 q254
      obtain rfl:ad253=ad254:=(by injection e254)
      replace hx254_0:=(HB.out.cell (World.block_lt_of_cell? w _ hx254_0)).trans hx254_0
      replace hx254_1:=(HB.out.cell (World.block_lt_of_cell? w _ hx254_1)).trans hx254_1
      replace hx254_2:=(HB.out.cell (World.block_lt_of_cell? w _ hx254_2)).trans hx254_2
      replace p254:=eq_true p254
      replace q254:=eq_true q254
      have hcz7_0:wr.cell? ⟨gb252,0,none⟩=some (.int .i64 x253000_1):=(blk_cell BK252.out 0).trans rfl
      have hcz7_1:wr.cell? ⟨gb252,1,none⟩=some (.int .i64 x253001_1):=(blk_cell BK252.out 1).trans rfl
      have hcz7_2:wr.cell? ⟨gb252,2,none⟩=some (.int .i64 x253002_1):=(blk_cell BK252.out 2).trans rfl
      have hfz7_0:=blk_frozen BK252.out 0
      have hfz7_1:=blk_frozen BK252.out 1
      have hfz7_2:=blk_frozen BK252.out 2
      go_wp2
      refine bodyPost_ret (results_ct rfl _ _ gb252 61 #[.int .i64 ((rd_T61 l0 x6_1).f0),.int .i64 ((rd_T61 l0 x6_1).f1),.int .i64 ((rd_T61 l0 x6_1).f2)] (0,0) _ rfl (by (with_reducible repeat (first|refine blk_drewN ?_ _|refine blk_drew ?_|refine blk_alloc ?_ _));refine blk_put (cs:=#[.int .i64 ((rd_T61 l0 x6_1).f0),.int .i64 ((rd_T61 l0 x6_1).f1),.int .i64 x253002_1]) ?_ 2 _ rfl;(with_reducible repeat (first|refine blk_drewN ?_ _|refine blk_drew ?_|refine blk_alloc ?_ _));refine blk_put (cs:=#[.int .i64 ((rd_T61 l0 x6_1).f0),.int .i64 x253001_1,.int .i64 x253002_1]) ?_ 1 _ rfl;(with_reducible repeat (first|refine blk_drewN ?_ _|refine blk_drew ?_|refine blk_alloc ?_ _));refine blk_put (cs:=#[.int .i64 x253000_1,.int .i64 x253001_1,.int .i64 x253002_1]) ?_ 0 _ rfl;(with_reducible repeat (first|refine blk_drewN ?_ _|refine blk_drew ?_|refine blk_alloc ?_ _));exact BK252.out) Try.underlying61 rfl (by kernel_rfl)) rfl ?_
      exact ⟨rz,be⟩
     ·rw [if_neg c6] at H
      have c6b0:(((rd_T61 l0 x6_1).f0) == a1)=false:=beq_eq_false_iff_ne.mpr c6
      have c6b1:(((rd_T61 l0 x6_1).f0) != a1)=true:=bne_iff_ne.mpr c6
      have H':=Aside0.mk H
      clear H
      have p253:0≤(x6_1:Int):=of_decide_eq_true (by first|(with_reducible assumption)|assumption)
      have q253:x6_1 < (l0.length:Int):=of_decide_eq_true (by first|(with_reducible assumption)|assumption)
      obtain ⟨ad253,e253,hx253_0,hx253_1,hx253_2⟩:=at_T61 HR0.out x6_1 p253 q253
      cases e253
      replace hx253_0:=(HB.out.cell (World.block_lt_of_cell? w _ hx253_0)).trans hx253_0
      replace hx253_1:=(HB.out.cell (World.block_lt_of_cell? w _ hx253_1)).trans hx253_1
      replace hx253_2:=(HB.out.cell (World.block_lt_of_cell? w _ hx253_2)).trans hx253_2
      replace p253:=eq_true p253
      replace q253:=eq_true q253
      go_wp2
      go_roundg k1
      case measure=>have:=HK1.out;omega
      case rel=>exact ⟨(wrap64 (x6_1+1)),(x253000_1),(x253001_1),(x253002_1),rd_,H',⟨by have:=HK1.out;omega⟩,⟨bk BK252⟩,⟨be⟩⟩
    ·rw [if_neg c5] at H
     exact absurd H (by simp)
   ·rw [if_neg c4] at H
    have c4b0:decide (x6_1 < (l0.length:Int))=false:=decide_eq_false c4
    clear c4
    simp only [Option.some.injEq,Prod.mk.injEq] at H
    obtain ⟨rfl,rfl,rfl,rfl⟩:=H
    have hcz8_0:wr.cell? ⟨gb252,0,none⟩=some (.int .i64 x253000_1):=(blk_cell BK252.out 0).trans rfl
    have hcz8_1:wr.cell? ⟨gb252,1,none⟩=some (.int .i64 x253001_1):=(blk_cell BK252.out 1).trans rfl
    have hcz8_2:wr.cell? ⟨gb252,2,none⟩=some (.int .i64 x253002_1):=(blk_cell BK252.out 2).trans rfl
    have hfz8_0:=blk_frozen BK252.out 0
    have hfz8_1:=blk_frozen BK252.out 1
    have hfz8_2:=blk_frozen BK252.out 2
    go_wp2
    refine bodyPost_ret (results_ct rfl _ _ gb252 61 #[.int .i64 0,.int .i64 0,.int .i64 0] (0,0) _ rfl (by (with_reducible repeat (first|refine blk_drewN ?_ _|refine blk_drew ?_|refine blk_alloc ?_ _));refine blk_put (cs:=#[.int .i64 0,.int .i64 0,.int .i64 x253002_1]) ?_ 2 _ rfl;(with_reducible repeat (first|refine blk_drewN ?_ _|refine blk_drew ?_|refine blk_alloc ?_ _));refine blk_put (cs:=#[.int .i64 0,.int .i64 x253001_1,.int .i64 x253002_1]) ?_ 1 _ rfl;(with_reducible repeat (first|refine blk_drewN ?_ _|refine blk_drew ?_|refine blk_alloc ?_ _));refine blk_put (cs:=#[.int .i64 x253000_1,.int .i64 x253001_1,.int .i64 x253002_1]) ?_ 0 _ rfl;(with_reducible repeat (first|refine blk_drewN ?_ _|refine blk_drew ?_|refine blk_alloc ?_ _));exact BK252.out) Try.underlying61 rfl (by kernel_rfl)) rfl ?_
    exact ⟨rz,be⟩
def spec_l6Lost.l0:Nat→List (S61)→Int→List Int→Option (Int)
 | 0,_,_,_=>none
 | k+1,x1,x5,x256000=>if x5 < (x256000.length:Int) then (if 0≤x5 then ((spec_DevAt.f k x1 (rd x256000 x5)).bind fun bt257=>(if bt257.2.2.2=true then (spec_l6Lost.l0 k x1 (wrap64 (x5+1)) x256000) else (some x5))) else (none)) else (some (-1))
def spec_l6Lost.f (k:Nat) (l0_0:List Int) (l1:List (S61)):Option (Int):=spec_l6Lost.l0 k l1 0 l0_0
set_option maxHeartbeats 8000000 in
set_option maxRecDepth 100000 in
theorem spec_l6Lost.calls (k:Nat) (A0_0:Option Addr) (c0_0:Nat) (l0_0:List Int) (A1:Option Addr) (c1:Nat) (l1:List (S61)) (r:Int) (w:World) (hr0_0:Kd.C (Kd.int .i64) w A0_0 l0_0.length l0_0) (hc0_0:l0_0.length≤c0_0) (hr1:Kd.C k61 w A1 l1.length l1) (hc1:l1.length≤c1) (h:spec_l6Lost.f k l0_0 l1=some r) :
  Calls Try.prog 49 #[.agg #[.slice A0_0 l0_0.length c0_0],.slice A1 l1.length c1] w fun e w'=>e = .returned (.int .i64 r)∧Below w.heap.size w w':=by
 have hu35:=Try.underlying35
 have hu61:=Try.underlying61
 have HR0_0:=aM hr0_0
 have HC0_0:=aM hc0_0
 clear hr0_0 hc0_0
 have HR1:=aM hr1
 have HC1:=aM hc1
 clear hr1 hc1
 have HB:=aM (Below.refl w.heap.size w)
 have H:(spec_l6Lost.l0 k l1 0 l0_0)=some r:=h
 clear h
 have H':=Aside0.mk H
 clear H
 go_enter Try.func49,Try.ntmps49
 go_wp2_with ((with_reducible refine gate_dst (N:=2) rfl ?_);refine box_event ?hg (N:=2) ?hd (cs:=#[.slice A0_0 l0_0.length c0_0]) (t:=35) ?hr ?_;(case hd=>rfl);(case hg=>rfl);(case hr=>first|(go_simp;done)|(go_simp;rfl));intro gb255 hg w3 hbox hb;have BK255:=aM (hbox);have GW255:=gS w hg;have GE255:=gS w hg;replace HB:=bs hb;clear hb hbox hg)
 go_loopg [5] k (fun kq v5 w'=>∃ (x5_1:Int),v5 = .int .i64 x5_1∧Aside0 (spec_l6Lost.l0 kq l1 x5_1 l0_0=some r)∧Aside0 (kq≤k)∧Aside0 (w'.heap[gb255]?=some (.cells #[(.slice A0_0 l0_0.length c0_0)] 35 (0,0)))∧Aside0 (Below w.heap.size w w'))
 case atStart=>exact ⟨(0),rd_,H',⟨Nat.le_refl _⟩,⟨bk BK255⟩,⟨be⟩⟩
 case round=>
  clear H'
  obtain ⟨x5_1,rfl,HA,HK1,BK255,HB⟩:=hrel
  cases gk with
  | zero=>exact absurd HA.out (by simp [spec_l6Lost.l0])
  | succ k1=>
   have H:=HA.out
   clear HA
   simp only [spec_l6Lost.l0] at H
   by_cases c4:x5_1 < (l0_0.length:Int)
   ·rw [if_pos c4] at H
    have c4b0:decide (x5_1 < (l0_0.length:Int))=true:=decide_eq_true c4
    clear c4
    by_cases c5:0≤x5_1
    ·rw [if_pos c5] at H
     have c5b0:decide (0≤x5_1)=true:=decide_eq_true c5
     clear c5
     replace H:=Option.bind_eq_some_iff.mp H
     obtain ⟨⟨t257,t258,t259,t260⟩,A60,H⟩:=H
     try dsimp only at H
     have A6:=aM A60
     clear A60
     by_cases c7:t260=true
     ·subst c7
      rw [if_pos rfl] at H
      have H':=Aside0.mk H
      clear H
      have hcz8_0:wr.cell? ⟨gb255,0,none⟩=some (.slice A0_0 l0_0.length c0_0):=(blk_cell BK255.out 0).trans rfl
      have hfz8_0:=blk_frozen BK255.out 0
      have p256:0≤(x5_1:Int):=of_decide_eq_true (by first|(with_reducible assumption)|assumption)
      have q256:x5_1 < (l0_0.length:Int):=of_decide_eq_true (by first|(with_reducible assumption)|assumption)
      obtain ⟨ad256,e256,hx256_0⟩:=Kd.at_int HR0_0.out x5_1 p256 q256
      cases e256
      replace hx256_0:=(HB.out.cell (World.block_lt_of_cell? w _ hx256_0)).trans hx256_0
      replace p256:=eq_true p256
      replace q256:=eq_true q256
      go_wp2_with (first|((with_reducible refine gate_callee (f:=56) rfl ?_);refine goesL_ (some 22) rfl rfl Try.func56 (by kernel_rfl) rfl #[.slice A1 l1.length c1,.int .i64 (rd l0_0 x5_1)] rfl (by (try simp only [List.map_toArray,List.map_cons,List.map_nil]);first|done|rfl|(simp only [List.length_drop,List.length_take];rfl)) ?_;(with_reducible refine (spec_DevAt.calls k1 _ _ l1 (rd l0_0 x5_1) t257 t258 t259 true _ ?side1 ?side2 A6.out).mono ?_);(case side1=>exact rC HR1);(case side2=>exact HC1.out);rintro e w9 ⟨rfl,hb⟩;refine ⟨_,rfl,?_⟩;replace BK255:=bB BK255 hb;replace HB:=bs hb;(try clear hb))|((with_reducible refine gate_dst (N:=6) rfl ?_);refine box_event ?hg (N:=6) ?hd (cs:=#[.int .i64 0,.int .i64 0,.int .i64 0]) (t:=61) ?hr ?_;(case hd=>rfl);(case hg=>rfl);(case hr=>first|(go_simp;done)|(go_simp;rfl));intro gb261 hg w10 hbox hb;have BK261:=aM (hbox);have GW261:=gS w hg;have GE261:=gS w hg;replace HB:=bs hb;have NB255_261:=nL hg BK255;have NB261_255:=nG hg BK255;replace BK255:=bB BK255 hb;clear hb hbox hg;have hnb11:=NB261_255.out;have hnc11:=NB255_261.out;have hcz12_0:w10.cell? ⟨gb261,0,none⟩=some (.int .i64 0):=(blk_cell BK261.out 0).trans rfl;have hcz12_1:w10.cell? ⟨gb261,1,none⟩=some (.int .i64 0):=(blk_cell BK261.out 1).trans rfl;have hcz12_2:w10.cell? ⟨gb261,2,none⟩=some (.int .i64 0):=(blk_cell BK261.out 2).trans rfl;have hfz12_0:=blk_frozen BK261.out 0;have hfz12_1:=blk_frozen BK261.out 1;have hfz12_2:=blk_frozen BK261.out 2))
      go_roundg k1
      case measure=>have:=HK1.out;omega
      case rel=>exact ⟨(wrap64 (x5_1+1)),rd_,H',⟨by have:=HK1.out;omega⟩,⟨by (with_reducible repeat (first|refine blk_drewN ?_ _|refine blk_drew ?_|refine blk_alloc ?_ _));refine blk_far ?_ NB255_261.out _;(with_reducible repeat (first|refine blk_drewN ?_ _|refine blk_drew ?_|refine blk_alloc ?_ _));refine blk_far ?_ NB255_261.out _;(with_reducible repeat (first|refine blk_drewN ?_ _|refine blk_drew ?_|refine blk_alloc ?_ _));refine blk_far ?_ NB255_261.out _;(with_reducible repeat (first|refine blk_drewN ?_ _|refine blk_drew ?_|refine blk_alloc ?_ _));exact BK255.out⟩,⟨be⟩⟩
     ·replace c7:=Bool.eq_false_iff.mpr c7
      subst c7
      replace H:=(if_neg (show ¬ (false=true) by decide)).symm.trans H
      obtain rfl:=Option.some.inj H
      have hcz13_0:wr.cell? ⟨gb255,0,none⟩=some (.slice A0_0 l0_0.length c0_0):=(blk_cell BK255.out 0).trans rfl
      have hfz13_0:=blk_frozen BK255.out 0
      have p256:0≤(x5_1:Int):=of_decide_eq_true (by first|(with_reducible assumption)|assumption)
      have q256:x5_1 < (l0_0.length:Int):=of_decide_eq_true (by first|(with_reducible assumption)|assumption)
      obtain ⟨ad256,e256,hx256_0⟩:=Kd.at_int HR0_0.out x5_1 p256 q256
      cases e256
      replace hx256_0:=(HB.out.cell (World.block_lt_of_cell? w _ hx256_0)).trans hx256_0
      replace p256:=eq_true p256
      replace q256:=eq_true q256
      go_wp2_with (first|((with_reducible refine gate_callee (f:=56) rfl ?_);refine goesL_ (some 22) rfl rfl Try.func56 (by kernel_rfl) rfl #[.slice A1 l1.length c1,.int .i64 (rd l0_0 x5_1)] rfl (by (try simp only [List.map_toArray,List.map_cons,List.map_nil]);first|done|rfl|(simp only [List.length_drop,List.length_take];rfl)) ?_;(with_reducible refine (spec_DevAt.calls k1 _ _ l1 (rd l0_0 x5_1) t257 t258 t259 false _ ?side1 ?side2 A6.out).mono ?_);(case side1=>exact rC HR1);(case side2=>exact HC1.out);rintro e w14 ⟨rfl,hb⟩;refine ⟨_,rfl,?_⟩;replace BK255:=bB BK255 hb;replace HB:=bs hb;(try clear hb))|((with_reducible refine gate_dst (N:=6) rfl ?_);refine box_event ?hg (N:=6) ?hd (cs:=#[.int .i64 0,.int .i64 0,.int .i64 0]) (t:=61) ?hr ?_;(case hd=>rfl);(case hg=>rfl);(case hr=>first|(go_simp;done)|(go_simp;rfl));intro gb261 hg w15 hbox hb;have BK261:=aM (hbox);have GW261:=gS w hg;have GE261:=gS w hg;replace HB:=bs hb;have NB255_261:=nL hg BK255;have NB261_255:=nG hg BK255;clear BK255;clear hb hbox hg;have hnb16:=NB261_255.out;have hnc16:=NB255_261.out;have hcz17_0:w15.cell? ⟨gb261,0,none⟩=some (.int .i64 0):=(blk_cell BK261.out 0).trans rfl;have hcz17_1:w15.cell? ⟨gb261,1,none⟩=some (.int .i64 0):=(blk_cell BK261.out 1).trans rfl;have hcz17_2:w15.cell? ⟨gb261,2,none⟩=some (.int .i64 0):=(blk_cell BK261.out 2).trans rfl;have hfz17_0:=blk_frozen BK261.out 0;have hfz17_1:=blk_frozen BK261.out 1;have hfz17_2:=blk_frozen BK261.out 2))
      go_ret
      exact ⟨rz,be⟩
    ·rw [if_neg c5] at H
     exact absurd H (by simp)
   ·rw [if_neg c4] at H
    have c4b0:decide (x5_1 < (l0_0.length:Int))=false:=decide_eq_false c4
    clear c4
    obtain rfl:=Option.some.inj H
    have hcz18_0:wr.cell? ⟨gb255,0,none⟩=some (.slice A0_0 l0_0.length c0_0):=(blk_cell BK255.out 0).trans rfl
    have hfz18_0:=blk_frozen BK255.out 0
    go_wp2
    go_ret
    exact ⟨rz,be⟩
def spec_l5Zones.l0:Nat→List Int→List (S61)→List Int→Int→Option (List Int)
 | 0,_,_,_,_=>none
 | k+1,x0,x1,x5,x6=>if x6 < (x0.length:Int) then (if 0≤x6 then ((spec_DevAt.f k x1 (rd x0 x6)).bind fun bt266=>(if bt266.2.2.2=true then ((spec_l4Has.f k x5 bt266.2.1).bind fun t271=>(if t271=true then (spec_l5Zones.l0 k x0 x1 x5 (wrap64 (x6+1))) else (if x5.length < 17592186044416 then (spec_l5Zones.l0 k x0 x1 (x5 ++ [bt266.2.1]) (wrap64 (x6+1))) else (none)))) else (spec_l5Zones.l0 k x0 x1 x5 (wrap64 (x6+1))))) else (none)) else (some x5)
def spec_l5Zones.f (k:Nat) (l0:List Int) (l1:List (S61)):Option (List Int):=spec_l5Zones.l0 k l0 l1 (([]:List Int)) 0
set_option maxHeartbeats 8000000 in
set_option maxRecDepth 100000 in
theorem spec_l5Zones.calls (k:Nat) (A0:Option Addr) (c0:Nat) (l0:List Int) (A1:Option Addr) (c1:Nat) (l1:List (S61)) (r:List Int) (w:World) (hr0:Kd.C (Kd.int .i64) w A0 l0.length l0) (hc0:l0.length≤c0) (hr1:Kd.C k61 w A1 l1.length l1) (hc1:l1.length≤c1) (h:spec_l5Zones.f k l0 l1=some r) :
  Calls Try.prog 75 #[.slice A0 l0.length c0,.slice A1 l1.length c1] w fun e w'=>∃ v0_:Value,e = .returned (v0_)∧Kd.R (Kd.int .i64) 3 w' w.heap.size (fun _=>True) v0_ r∧Below w.heap.size w w':=by
 have hu61:=Try.underlying61
 have HR0:=aM hr0
 have HC0:=aM hc0
 clear hr0 hc0
 have HR1:=aM hr1
 have HC1:=aM hc1
 clear hr1 hc1
 have HB:=aM (Below.refl w.heap.size w)
 have H:(spec_l5Zones.l0 k l0 l1 (([]:List Int)) 0)=some r:=h
 clear h
 obtain ⟨y262,hy262⟩ : ∃ y_:List Int,y_=(([]:List Int)):=⟨_,rfl⟩
 replace H:(spec_l5Zones.l0 k l0 l1 y262 0)=some r:=by first|(rw [hy262];with_reducible exact H)|(have H2_:=(Option.bind_some _ _).symm.trans H;rw [hy262];with_reducible exact H2_)|(have H2_:=(Option.bind_some _ _).symm.trans H;with_reducible exact H2_)|with_reducible exact H|(rw [hy262];exact H)|exact H
 have Ny262:=aM hy262
 clear hy262
 have H':=Aside0.mk H
 clear H
 go_enter Try.func75,Try.ntmps75
 go_wp2_with ((with_reducible refine gate_dst (N:=9) rfl ?_);refine Kd.R_lit (Kd.int .i64) _ 3 ?hg (N:=9) ?hd (xs:=([]:List Int)) (inner:=[]) (ok:=fun _=>True) (okp:=fun _=>True) ?hr ?hp (fun _ hk=>hk) trivial (Below.refl _ _) (Nat.le_refl _) (by simp) ?_;(case hd=>rfl);(case hg=>rfl);(case hr=>first|(go_simp;done)|(go_simp;rfl));(case hp=>exact (Reps.none _ _));intro v263 w3 ho4 hb hg_ hnew_;clear hg_ hnew_;(rw [← Ny262.out] at ho4);have HO264:=aM (Kd.R_lower ho4 (below_size be));replace HB:=bs hb;clear hb ho4)
 go_loopg [5,6] k (fun kq v5 v6 w'=>∃ (x5_1:List Int) (x6_1:Int),v6 = .int .i64 x6_1∧Aside0 (spec_l5Zones.l0 kq l0 l1 x5_1 x6_1=some r)∧Aside0 (kq≤k)∧Aside0 (Kd.R (Kd.int .i64) 3 w' w.heap.size (fun _=>True) v5 x5_1)∧Aside0 (Below w.heap.size w w'))
 case atStart=>exact ⟨(y262),(0),rd_,H',⟨Nat.le_refl _⟩,⟨rR HO264⟩,⟨be⟩⟩
 case round=>
  clear H'
  obtain ⟨x5_1,x6_1,rfl,HA,HK1,HO_5,HB⟩:=hrel
  cases gk with
  | zero=>exact absurd HA.out (by simp [spec_l5Zones.l0])
  | succ k1=>
   have H:=HA.out
   clear HA
   simp only [spec_l5Zones.l0] at H
   by_cases c5:x6_1 < (l0.length:Int)
   ·rw [if_pos c5] at H
    have c5b0:decide (x6_1 < (l0.length:Int))=true:=decide_eq_true c5
    clear c5
    by_cases c6:0≤x6_1
    ·rw [if_pos c6] at H
     have c6b0:decide (0≤x6_1)=true:=decide_eq_true c6
     clear c6
     replace H:=Option.bind_eq_some_iff.mp H
     obtain ⟨⟨t266,t267,t268,t269⟩,A70,H⟩:=H
     try dsimp only at H
     have A7:=aM A70
     clear A70
     by_cases c8:t269=true
     ·subst c8
      rw [if_pos rfl] at H
      replace H:=Option.bind_eq_some_iff.mp H
      obtain ⟨t271,A90,H⟩:=H
      try dsimp only at H
      have A9:=aM A90
      clear A90
      by_cases c10:t271=true
      ·subst c10
       rw [if_pos rfl] at H
       have H':=Aside0.mk H
       clear H
       have p265:0≤(x6_1:Int):=of_decide_eq_true (by first|(with_reducible assumption)|assumption)
       have q265:x6_1 < (l0.length:Int):=of_decide_eq_true (by first|(with_reducible assumption)|assumption)
       obtain ⟨ad265,e265,hx265_0⟩:=Kd.at_int HR0.out x6_1 p265 q265
       cases e265
       replace hx265_0:=(HB.out.cell (World.block_lt_of_cell? w _ hx265_0)).trans hx265_0
       replace p265:=eq_true p265
       replace q265:=eq_true q265
       go_wp2_with (first|((with_reducible refine gate_callee (f:=56) rfl ?_);refine goesL_ (some 22) rfl rfl Try.func56 (by kernel_rfl) rfl #[.slice A1 l1.length c1,.int .i64 (rd l0 x6_1)] rfl (by (try simp only [List.map_toArray,List.map_cons,List.map_nil]);first|done|rfl|(simp only [List.length_drop,List.length_take];rfl)) ?_;(with_reducible refine (spec_DevAt.calls k1 _ _ l1 (rd l0 x6_1) t266 t267 t268 true _ ?side1 ?side2 A7.out).mono ?_);(case side1=>exact rC HR1);(case side2=>exact HC1.out);rintro e w11 ⟨rfl,hb⟩;refine ⟨_,rfl,?_⟩;replace HO_5:=rB HO_5 hb;replace HB:=bs hb;(try clear hb))|((with_reducible refine gate_dst (N:=7) rfl ?_);refine box_event ?hg (N:=7) ?hd (cs:=#[.int .i64 0,.int .i64 0,.int .i64 0]) (t:=61) ?hr ?_;(case hd=>rfl);(case hg=>rfl);(case hr=>first|(go_simp;done)|(go_simp;rfl));intro gb270 hg w12 hbox hb;replace HO_5:=rB HO_5 hb;have BK270:=aM (hbox);have GW270:=gS w hg;have GE270:=gS w hg;replace HB:=bs hb;clear hb hbox hg;have hcz13_0:w12.cell? ⟨gb270,0,none⟩=some (.int .i64 0):=(blk_cell BK270.out 0).trans rfl;have hcz13_1:w12.cell? ⟨gb270,1,none⟩=some (.int .i64 0):=(blk_cell BK270.out 1).trans rfl;have hcz13_2:w12.cell? ⟨gb270,2,none⟩=some (.int .i64 0):=(blk_cell BK270.out 2).trans rfl;have hfz13_0:=blk_frozen BK270.out 0;have hfz13_1:=blk_frozen BK270.out 1;have hfz13_2:=blk_frozen BK270.out 2;obtain ⟨Ao14,co14,eo14⟩:=Kd.R_slice HO_5.out;subst eo14)|(go_at_call 68;(with_reducible refine (spec_l4Has.calls k1 _ _ x5_1 t267 true _ ?side1 ?side2 A9.out).mono ?_);(case side1=>refine (Kd.R_reads' (e:=3) (base:=w.heap.size) (ok:=fun k_=>True) (n:=x5_1.length) (c:=co14) ?_).2.2;exact (by (with_reducible repeat (first|apply Kd.R_alloc|apply Kd.R_drewN|apply Kd.R_drew));exact (Kd.R_mono (Kd.R_far (p:=⟨gb270,2,none⟩) (Kd.R_far (p:=⟨gb270,1,none⟩) (Kd.R_far (p:=⟨gb270,0,none⟩) (Kd.R_types HO_5.out BK270.out (by decide)) (fun _ hk=>hk.2) (.int .i64 t266)) (fun _ hk=>hk.2) (.int .i64 t267)) (fun _ hk=>hk.2) (.int .i64 t268)) (fun _ h_=>h_.1))));(case side2=>exact (Kd.R_reads' HO_5.out).2.1);rintro e w' ⟨rfl,⟨nd,rfl⟩⟩))
       go_roundg k1
       case measure=>have:=HK1.out;omega
       case rel=>exact ⟨(x5_1),(wrap64 (x6_1+1)),rd_,H',⟨by have:=HK1.out;omega⟩,⟨by (with_reducible repeat (apply Kd.R_drewN));exact Kd.R_mono (Kd.R_far (p:=⟨gb270,2,none⟩) (Kd.R_far (p:=⟨gb270,1,none⟩) (Kd.R_far (p:=⟨gb270,0,none⟩) (Kd.R_types HO_5.out BK270.out (by decide)) (fun _ hk=>hk.2) (.int .i64 t266)) (fun _ hk=>hk.2) (.int .i64 t267)) (fun _ hk=>hk.2) (.int .i64 t268)) (fun _ hk=>trivial)⟩,⟨be⟩⟩
      ·replace c10:=Bool.eq_false_iff.mpr c10
       subst c10
       replace H:=(if_neg (show ¬ (false=true) by decide)).symm.trans H
       by_cases c15:x5_1.length < 17592186044416
       ·rw [if_pos c15] at H
        have LMc15:=aM c15
        clear c15
        obtain ⟨y272,hy272⟩ : ∃ y_:List Int,y_=(x5_1 ++ [t267]):=⟨_,rfl⟩
        replace H:(spec_l5Zones.l0 k1 l0 l1 y272 (wrap64 (x6_1+1)))=some r:=by first|(rw [hy272];with_reducible exact H)|(have H2_:=(Option.bind_some _ _).symm.trans H;rw [hy272];with_reducible exact H2_)|(have H2_:=(Option.bind_some _ _).symm.trans H;with_reducible exact H2_)|with_reducible exact H|(rw [hy272];exact H)|exact H
        have Ny272:=aM hy272
        clear hy272
        have H':=Aside0.mk H
        clear H
        have p265:0≤(x6_1:Int):=of_decide_eq_true (by first|(with_reducible assumption)|assumption)
        have q265:x6_1 < (l0.length:Int):=of_decide_eq_true (by first|(with_reducible assumption)|assumption)
        obtain ⟨ad265,e265,hx265_0⟩:=Kd.at_int HR0.out x6_1 p265 q265
        cases e265
        replace hx265_0:=(HB.out.cell (World.block_lt_of_cell? w _ hx265_0)).trans hx265_0
        replace p265:=eq_true p265
        replace q265:=eq_true q265
        go_wp2_with (first|((with_reducible refine gate_callee (f:=56) rfl ?_);refine goesL_ (some 22) rfl rfl Try.func56 (by kernel_rfl) rfl #[.slice A1 l1.length c1,.int .i64 (rd l0 x6_1)] rfl (by (try simp only [List.map_toArray,List.map_cons,List.map_nil]);first|done|rfl|(simp only [List.length_drop,List.length_take];rfl)) ?_;(with_reducible refine (spec_DevAt.calls k1 _ _ l1 (rd l0 x6_1) t266 t267 t268 true _ ?side1 ?side2 A7.out).mono ?_);(case side1=>exact rC HR1);(case side2=>exact HC1.out);rintro e w16 ⟨rfl,hb⟩;refine ⟨_,rfl,?_⟩;replace HO_5:=rB HO_5 hb;replace HB:=bs hb;(try clear hb))|((with_reducible refine gate_dst (N:=7) rfl ?_);refine box_event ?hg (N:=7) ?hd (cs:=#[.int .i64 0,.int .i64 0,.int .i64 0]) (t:=61) ?hr ?_;(case hd=>rfl);(case hg=>rfl);(case hr=>first|(go_simp;done)|(go_simp;rfl));intro gb270 hg w17 hbox hb;replace HO_5:=rB HO_5 hb;have BK270:=aM (hbox);have GW270:=gS w hg;have GE270:=gS w hg;replace HB:=bs hb;clear hb hbox hg;have hcz18_0:w17.cell? ⟨gb270,0,none⟩=some (.int .i64 0):=(blk_cell BK270.out 0).trans rfl;have hcz18_1:w17.cell? ⟨gb270,1,none⟩=some (.int .i64 0):=(blk_cell BK270.out 1).trans rfl;have hcz18_2:w17.cell? ⟨gb270,2,none⟩=some (.int .i64 0):=(blk_cell BK270.out 2).trans rfl;have hfz18_0:=blk_frozen BK270.out 0;have hfz18_1:=blk_frozen BK270.out 1;have hfz18_2:=blk_frozen BK270.out 2;obtain ⟨Ao19,co19,eo19⟩:=Kd.R_slice HO_5.out;subst eo19)|(go_at_call 68;(with_reducible refine (spec_l4Has.calls k1 _ _ x5_1 t267 false _ ?side1 ?side2 A9.out).mono ?_);(case side1=>refine (Kd.R_reads' (e:=3) (base:=w.heap.size) (ok:=fun k_=>True) (n:=x5_1.length) (c:=co19) ?_).2.2;exact (by (with_reducible repeat (first|apply Kd.R_alloc|apply Kd.R_drewN|apply Kd.R_drew));exact (Kd.R_mono (Kd.R_far (p:=⟨gb270,2,none⟩) (Kd.R_far (p:=⟨gb270,1,none⟩) (Kd.R_far (p:=⟨gb270,0,none⟩) (Kd.R_types HO_5.out BK270.out (by decide)) (fun _ hk=>hk.2) (.int .i64 t266)) (fun _ hk=>hk.2) (.int .i64 t267)) (fun _ hk=>hk.2) (.int .i64 t268)) (fun _ h_=>h_.1))));(case side2=>exact (Kd.R_reads' HO_5.out).2.1);rintro e w' ⟨rfl,⟨nd,rfl⟩⟩)|((with_reducible refine gate_builtin (b:=.append) (xs:=#[.tmp 33,.tmp 36]) rfl ?_);at_builtin;refine Kd.R_append (Kd.int .i64) (w0:=w) w.heap.size rfl (.tmp 33) (.tmp 36) 33 3 (.int .i64 0) 8 rfl Try.underlying33 info3 rfl (by decide) (by omega) (.slice Ao19 x5_1.length co19) x5_1 t267 [.int .i64 t267] (fun _=>True) (fun _=>False) rfl (by first|(go_simp;done)|(go_simp;rfl)) ?aP (fun _ hk=>hk.elim) ?aF ?aO ?aB ?aS ?aL ?_;(case aP=>exact rfl);(case aB=>exact be);(case aF=>exact (fun _ _=>trivial));(case aO=>exact (by (with_reducible repeat (apply Kd.R_drewN));exact Kd.R_mono (Kd.R_far (p:=⟨gb270,2,none⟩) (Kd.R_far (p:=⟨gb270,1,none⟩) (Kd.R_far (p:=⟨gb270,0,none⟩) (Kd.R_types HO_5.out BK270.out (by decide)) (fun _ hk=>hk.2) (.int .i64 t266)) (fun _ hk=>hk.2) (.int .i64 t267)) (fun _ hk=>hk.2) (.int .i64 t268)) (fun _ hk=>trivial)));(case aS=>exact (below_size be));(case aL=>have:=LMc15.out;omega);intro v273 w20 ho hb hg hat;rw [← Ny272.out] at ho;replace HB:=aM (hb);have HO274:=aM (ho);clear BK270 HO_5;clear ho hb hg hat))
        go_roundg k1
        case measure=>have:=HK1.out;omega
        case rel=>exact ⟨(y272),(wrap64 (x6_1+1)),rd_,H',⟨by have:=HK1.out;omega⟩,⟨rR HO274⟩,⟨be⟩⟩
       ·rw [if_neg c15] at H
        exact absurd H (by simp)
     ·replace c8:=Bool.eq_false_iff.mpr c8
      subst c8
      replace H:=(if_neg (show ¬ (false=true) by decide)).symm.trans H
      have H':=Aside0.mk H
      clear H
      have p265:0≤(x6_1:Int):=of_decide_eq_true (by first|(with_reducible assumption)|assumption)
      have q265:x6_1 < (l0.length:Int):=of_decide_eq_true (by first|(with_reducible assumption)|assumption)
      obtain ⟨ad265,e265,hx265_0⟩:=Kd.at_int HR0.out x6_1 p265 q265
      cases e265
      replace hx265_0:=(HB.out.cell (World.block_lt_of_cell? w _ hx265_0)).trans hx265_0
      replace p265:=eq_true p265
      replace q265:=eq_true q265
      go_wp2_with (first|((with_reducible refine gate_callee (f:=56) rfl ?_);refine goesL_ (some 22) rfl rfl Try.func56 (by kernel_rfl) rfl #[.slice A1 l1.length c1,.int .i64 (rd l0 x6_1)] rfl (by (try simp only [List.map_toArray,List.map_cons,List.map_nil]);first|done|rfl|(simp only [List.length_drop,List.length_take];rfl)) ?_;(with_reducible refine (spec_DevAt.calls k1 _ _ l1 (rd l0 x6_1) t266 t267 t268 false _ ?side1 ?side2 A7.out).mono ?_);(case side1=>exact rC HR1);(case side2=>exact HC1.out);rintro e w21 ⟨rfl,hb⟩;refine ⟨_,rfl,?_⟩;replace HO_5:=rB HO_5 hb;replace HB:=bs hb;(try clear hb))|((with_reducible refine gate_dst (N:=7) rfl ?_);refine box_event ?hg (N:=7) ?hd (cs:=#[.int .i64 0,.int .i64 0,.int .i64 0]) (t:=61) ?hr ?_;(case hd=>rfl);(case hg=>rfl);(case hr=>first|(go_simp;done)|(go_simp;rfl));intro gb270 hg w22 hbox hb;replace HO_5:=rB HO_5 hb;have BK270:=aM (hbox);have GW270:=gS w hg;have GE270:=gS w hg;replace HB:=bs hb;clear hb hbox hg;have hcz23_0:w22.cell? ⟨gb270,0,none⟩=some (.int .i64 0):=(blk_cell BK270.out 0).trans rfl;have hcz23_1:w22.cell? ⟨gb270,1,none⟩=some (.int .i64 0):=(blk_cell BK270.out 1).trans rfl;have hcz23_2:w22.cell? ⟨gb270,2,none⟩=some (.int .i64 0):=(blk_cell BK270.out 2).trans rfl;have hfz23_0:=blk_frozen BK270.out 0;have hfz23_1:=blk_frozen BK270.out 1;have hfz23_2:=blk_frozen BK270.out 2))
      go_roundg k1
      case measure=>have:=HK1.out;omega
      case rel=>exact ⟨(x5_1),(wrap64 (x6_1+1)),rd_,H',⟨by have:=HK1.out;omega⟩,⟨by (with_reducible repeat (first|apply Kd.R_alloc|apply Kd.R_drewN|apply Kd.R_drew));exact Kd.R_mono (Kd.R_far (p:=⟨gb270,2,none⟩) (Kd.R_far (p:=⟨gb270,1,none⟩) (Kd.R_far (p:=⟨gb270,0,none⟩) (Kd.R_types HO_5.out BK270.out (by decide)) (fun _ hk=>hk.2) (.int .i64 t266)) (fun _ hk=>hk.2) (.int .i64 t267)) (fun _ hk=>hk.2) (.int .i64 t268)) (fun _ hk=>trivial)⟩,⟨be⟩⟩
    ·rw [if_neg c6] at H
     exact absurd H (by simp)
   ·rw [if_neg c5] at H
    have c5b0:decide (x6_1 < (l0.length:Int))=false:=decide_eq_false c5
    clear c5
    obtain rfl:=Option.some.inj H
    go_wp2
    go_ret
    exact ⟨_,rz,rR HO_5,be⟩
end Go.Proofs.Ytpbjbfimnfghkaa.PFnExactRebalance
