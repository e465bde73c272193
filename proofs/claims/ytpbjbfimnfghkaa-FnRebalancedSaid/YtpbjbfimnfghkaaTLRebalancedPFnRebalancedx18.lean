/- Trimmed by a program of this session (trim.py). Not trusted: Lean checks it. -/
import Derived.Test.YtpbjbfimnfghkaaTLRebalancedPFnRebalancedx0
import Derived.Test.YtpbjbfimnfghkaaTLRebalancedPFnRebalancedx1
import Derived.Test.YtpbjbfimnfghkaaTLRebalancedPFnRebalancedx2
import Derived.Test.YtpbjbfimnfghkaaTLRebalancedPFnRebalancedx14
namespace Go.Proofs.Ytpbjbfimnfghkaa.PFnRebalanced
open Go.RowKit Go.Proofs.YtpbjbfimnfghkaaW.PrintWords Go.Proofs.YtpbjbfimnfghkaaW.PrintLast Go.Proofs.YtpbjbfimnfghkaaW.PrintMore Go.Proofs.Ytpbjbfimnfghkaa.St
attribute [local go_sem] max2_int min2_int max_two min_two max_three min_three max_four min_four
set_option linter.unusedVariables false
set_option linter.unusedSimpArgs false
mutual
def spec_RingOk.j0:Nat→List (S61)→Bool→Int→List (S35)→Option (Bool)
 | 0,_,_,_,_=>none
 | k+1,x1,x24,x618000,x618001=>if x24=true then (some false) else (spec_RingOk.l0 k x1 0 x618000 x618001)
def spec_RingOk.l0:Nat→List (S61)→Int→Int→List (S35)→Option (Bool)
 | 0,_,_,_,_=>none
 | k+1,x1,x5,x618000,x618001=>if x5 < (x618001.length:Int) then (if 0≤x5 then ((spec_l5Part.f k ((rd_T35 x618001 x5).f0) x618000).bind fun t622=>(if t622=true then (spec_RingOk.l1 k x1 x5 0 x618000 x618001) else (some false))) else (none)) else (some true)
def spec_RingOk.l1:Nat→List (S61)→Int→Int→Int→List (S35)→Option (Bool)
 | 0,_,_,_,_,_=>none
 | k+1,x1,x5,x6,x618000,x618001=>if 0≤x5 then (if x5 < (x618001.length:Int) then (if x6 < (((rd_T35 x618001 x5).f0).length:Int) then (if 0≤x6 then ((spec_DevAt.f k x1 (rd ((rd_T35 x618001 x5).f0) x6)).bind fun bt626=>(if bt626.2.2.2=true then (spec_RingOk.l1 k x1 x5 (wrap64 (x6+1)) x618000 x618001) else (some false))) else (none)) else (spec_RingOk.l0 k x1 (wrap64 (x5+1)) x618000 x618001)) else (none)) else (none)
end
def spec_RingOk.f (k:Nat) (a0_0:Int) (l0_1:List (S35)) (l1:List (S61)):Option (Bool):=(spec_DevsOk.f k l1).bind fun t618=>(if t618=true then ((spec_l1In.f a0_0 1 5).bind fun t619=>(if t619=true then ((spec_l1In.f (l0_1.length:Int) 1 64).bind fun t620=>(spec_RingOk.j0 k l1 (!t620) a0_0 l0_1)) else (spec_RingOk.j0 k l1 true a0_0 l0_1))) else (spec_RingOk.j0 k l1 true a0_0 l0_1))
def spec_RingOk.T6:Bool × List (List Nat × List Nat):=(true,[([],[]),([0],[0]),([],[]),([1,2],[1,2]),([3],[3]),([],[]),([5],[5]),([4,6],[4,6]),([7],[7])])
def spec_RingOk.B6:List Nat:=[0,1,0,7,15,0,32,127,255]
theorem spec_RingOk.tab6:rtab .any (opsOf Try.f14 6)=spec_RingOk.T6:=by kernel_rfl
theorem spec_RingOk.bits6:waitsOk spec_RingOk.T6.2 spec_RingOk.B6=true:=by kernel_rfl
set_option maxHeartbeats 8000000 in
set_option maxRecDepth 100000 in
theorem spec_RingOk.calls (k:Nat) (a0_0:Int) (A0_1:Option Addr) (c0_1:Nat) (l0_1:List (S35)) (A1:Option Addr) (c1:Nat) (l1:List (S61)) (r:Bool) (w:World) (hr0_1:Kd.C k35 w A0_1 l0_1.length l0_1) (hc0_1:l0_1.length≤c0_1) (hr1:Kd.C k61 w A1 l1.length l1) (hc1:l1.length≤c1) (h:spec_RingOk.f k a0_0 l0_1 l1=some r) :
  Calls Try.prog 14 #[.agg #[.int .i64 a0_0,.slice A0_1 l0_1.length c0_1],.slice A1 l1.length c1] w fun e w'=>e = .returned (.bool r)∧Below w.heap.size w w':=by
 have hu26:=Try.underlying26
 have hu35:=Try.underlying35
 have hu61:=Try.underlying61
 have HR0_1:=aM hr0_1
 have HC0_1:=aM hc0_1
 clear hr0_1 hc0_1
 have HR1:=aM hr1
 have HC1:=aM hc1
 clear hr1 hc1
 have HB:=aM (Below.refl w.heap.size w)
 have H:((spec_DevsOk.f k l1).bind fun t618=>(if t618=true then ((spec_l1In.f a0_0 1 5).bind fun t619=>(if t619=true then ((spec_l1In.f (l0_1.length:Int) 1 64).bind fun t620=>(spec_RingOk.j0 k l1 (!t620) a0_0 l0_1)) else (spec_RingOk.j0 k l1 true a0_0 l0_1))) else (spec_RingOk.j0 k l1 true a0_0 l0_1)))=some r:=h
 clear h
 have HC3:=aM H
 clear H
 go_enter Try.func14,Try.ntmps14
 go_upto_region 1 with ((with_reducible refine gate_dst (N:=2) rfl ?_);(try (refine gate_guard (by rfl) ?_;dsimp only));refine box_event ?hg (N:=2) ?hd (cs:=#[.int .i64 a0_0,.slice A0_1 l0_1.length c0_1]) (t:=26) ?hr ?_;(case hd=>rfl);(case hg=>rfl);(case hr=>(go_simp;done));intro gb617 hg w4 hbox hb;have BK617:=aM (hbox);have GW617:=gS w hg;replace HB:=bs hb;clear hb hbox hg)
 skip
 go_cut [24] (fun v24 wc=>∃ (kq:Nat) (x24_2:Bool),v24 = .bool x24_2∧Aside0 (spec_RingOk.j0 kq l1 x24_2 a0_0 l0_1=some r)∧Aside0 (kq≤k)∧Aside0 (wc.heap[gb617]?=some (.cells #[.int .i64 a0_0,(.slice A0_1 l0_1.length c0_1)] 26 (0,0)))∧Aside0 (Below w.heap.size w wc))
 case first=>
  have H:=HC3.out
  clear HC3
  replace H:=Option.bind_eq_some_iff.mp H
  obtain ⟨t618,A50,H⟩:=H
  try dsimp only at H
  have A5:=aM A50
  clear A50
  by_cases c6:t618=true
  ·subst c6
   rw [if_pos rfl] at H
   replace H:=Option.bind_eq_some_iff.mp H
   obtain ⟨t619,A70,H⟩:=H
   try dsimp only at H
   have A7:=aM A70
   clear A70
   by_cases c8:t619=true
   ·subst c8
    rw [if_pos rfl] at H
    replace H:=Option.bind_eq_some_iff.mp H
    obtain ⟨t620,A90,H⟩:=H
    try dsimp only at H
    have A9:=aM A90
    clear A90
    have H':=Aside0.mk H
    clear H
    go_wp2_with (first|((with_reducible refine gate_callee (f:=53) rfl ?_);refine goesL_ (some 10) rfl rfl Try.func53 (by kernel_rfl) rfl #[.slice A1 l1.length c1] rfl (by (try simp only [List.map_toArray,List.map_cons,List.map_nil]);rfl) ?_;(with_reducible refine (spec_DevsOk.calls k _ _ l1 true _ ?side1 ?side2 A5.out).mono ?_);(case side1=>exact rC HR1);(case side2=>exact HC1.out);rintro e w10 ⟨rfl,hb⟩;refine ⟨_,rfl,?_⟩;replace BK617:=bB BK617 hb;replace HB:=bs hb;(try clear hb);obtain ⟨hcz11_0,hcz11_1,hfz11_0,hfz11_1⟩:=b2 BK617)|(go_at_call 54;(with_reducible refine (spec_l1In.calls a0_0 1 5 true _ A7.out).mono ?_);rintro e w' ⟨rfl,⟨nd,rfl⟩⟩)|(go_at_call 54;(with_reducible refine (spec_l1In.calls (l0_1.length:Int) 1 64 t620 _ A9.out).mono ?_);rintro e w' ⟨rfl,⟨nd,rfl⟩⟩))
    go_meet
    case rel=>exact ⟨_,(!t620),rd_,H',⟨by omega⟩,⟨bk BK617⟩,⟨be⟩⟩
   ·replace c8:=Bool.eq_false_iff.mpr c8
    subst c8
    replace H:=(if_neg (show ¬ (false=true) by decide)).symm.trans H
    have H':=Aside0.mk H
    clear H
    go_wp2_with (first|((with_reducible refine gate_callee (f:=53) rfl ?_);refine goesL_ (some 10) rfl rfl Try.func53 (by kernel_rfl) rfl #[.slice A1 l1.length c1] rfl (by (try simp only [List.map_toArray,List.map_cons,List.map_nil]);rfl) ?_;(with_reducible refine (spec_DevsOk.calls k _ _ l1 true _ ?side1 ?side2 A5.out).mono ?_);(case side1=>exact rC HR1);(case side2=>exact HC1.out);rintro e w12 ⟨rfl,hb⟩;refine ⟨_,rfl,?_⟩;replace BK617:=bB BK617 hb;replace HB:=bs hb;(try clear hb);obtain ⟨hcz13_0,hcz13_1,hfz13_0,hfz13_1⟩:=b2 BK617)|(go_at_call 54;(with_reducible refine (spec_l1In.calls a0_0 1 5 false _ A7.out).mono ?_);rintro e w' ⟨rfl,⟨nd,rfl⟩⟩))
    go_meet
    case rel=>exact ⟨_,(true),rd_,H',⟨by omega⟩,⟨bk BK617⟩,⟨be⟩⟩
  ·replace c6:=Bool.eq_false_iff.mpr c6
   subst c6
   replace H:=(if_neg (show ¬ (false=true) by decide)).symm.trans H
   have H':=Aside0.mk H
   clear H
   go_wp2_with ((with_reducible refine gate_callee (f:=53) rfl ?_);refine goesL_ (some 10) rfl rfl Try.func53 (by kernel_rfl) rfl #[.slice A1 l1.length c1] rfl (by (try simp only [List.map_toArray,List.map_cons,List.map_nil]);rfl) ?_;(with_reducible refine (spec_DevsOk.calls k _ _ l1 false _ ?side1 ?side2 A5.out).mono ?_);(case side1=>exact rC HR1);(case side2=>exact HC1.out);rintro e w14 ⟨rfl,hb⟩;refine ⟨_,rfl,?_⟩;replace BK617:=bB BK617 hb;replace HB:=bs hb;(try clear hb))
   go_meet
   case rel=>exact ⟨_,(true),rd_,H',⟨by omega⟩,⟨bk BK617⟩,⟨be⟩⟩
 case rest=>
  clear HC3
  obtain ⟨kq,x24_2,rfl,HA,HJ2,BK617,HB⟩:=hcut
  cases kq with
  | zero=>exact absurd HA.out (by simp [spec_RingOk.j0])
  | succ kj2=>
   have H:=HA.out
   clear HA
   simp only [spec_RingOk.j0] at H
   by_cases c15:x24_2=true
   ·subst c15
    rw [if_pos rfl] at H
    obtain rfl:=Option.some.inj H
    go_wp2
    go_ret
    exact ⟨rz,be⟩
   ·replace c15:=Bool.eq_false_iff.mpr c15
    subst c15
    replace H:=(if_neg (show ¬ (false=true) by decide)).symm.trans H
    have H':=Aside0.mk H
    clear H
    go_wp2
    go_loopg [5] kj2 (fun kq v5 w'=>∃ (x5_2:Int),v5 = .int .i64 x5_2∧Aside0 (spec_RingOk.l0 kq l1 x5_2 a0_0 l0_1=some r)∧Aside0 (kq≤kj2)∧Aside0 (w'.heap[gb617]?=some (.cells #[.int .i64 a0_0,(.slice A0_1 l0_1.length c0_1)] 26 (0,0)))∧Aside0 (Below w.heap.size w w'))
    case atStart=>exact ⟨(0),rd_,H',⟨Nat.le_refl _⟩,⟨bk BK617⟩,⟨be⟩⟩
    case round=>
     clear H'
     obtain ⟨x5_2,rfl,HA,HK2,BK617,HB⟩:=hrel
     cases gk with
     | zero=>exact absurd HA.out (by simp [spec_RingOk.l0])
     | succ k2=>
      have H:=HA.out
      clear HA
      simp only [spec_RingOk.l0] at H
      by_cases c16:x5_2 < (l0_1.length:Int)
      ·rw [if_pos c16] at H
       have c16b0:decide (x5_2 < (l0_1.length:Int))=true:=decide_eq_true c16
       clear c16
       obtain ⟨c17,H⟩:=ifs H
       have c17b0:decide (0≤x5_2)=true:=decide_eq_true c17
       clear c17
       replace H:=Option.bind_eq_some_iff.mp H
       obtain ⟨t622,A180,H⟩:=H
       try dsimp only at H
       have A18:=aM A180
       clear A180
       by_cases c19:t622=true
       ·subst c19
        rw [if_pos rfl] at H
        have H':=Aside0.mk H
        clear H
        obtain ⟨hcz20_0,hcz20_1,hfz20_0,hfz20_1⟩:=b2 BK617
        try go_wp2
        replace BK617:=aM (blk_drew BK617.out);replace HB:=aM (below_drew1 HB.out)
        have p621:0≤(x5_2:Int):=od
        have q621:x5_2 < (l0_1.length:Int):=od
        obtain ⟨ad621,A621_0,c621_0,e621,hx621_0,hl621_0,hi621_0⟩:=at_T35 HR0_1.out x5_2 p621 q621
        have hw621_0:=hx621_0
        cases e621
        replace hx621_0:=xH HB hx621_0
        have HR621_0:=aM hi621_0
        have HC621_0:=aM hl621_0
        clear hi621_0 hl621_0
        replace p621:=eq_true p621
        replace q621:=eq_true q621
        refine start_ (n:=9) (S:=fun w'=>w'.cell? ⟨gb617,0,none⟩=some (.int .i64 a0_0)∧w'.cell? ⟨gb617,1,none⟩=some (.slice (some ad621) l0_1.length c0_1)∧w'.cell? (ad621.add (x5_2).toNat)=some (.slice A621_0 ((rd_T35 l0_1 x5_2).f0).length c621_0)) (ds:=[]) (fl 9 0) (by kernel_rfl) rfl rfl ⟨bq BK617 0,bq BK617 1,(xH HB hw621_0)⟩ (fun hHeld=>?_);refine with_tabW spec_RingOk.tab6 spec_RingOk.bits6 (fun HT_ HW_=>?_)
        generalize wr.drew=w21 at BK617 HB HR621_0 hx621_0 hHeld ⊢
        refine pt 0 32 (fl 9 1) HT_ ?_
        refine pt 2 34 (fl 9 5) HT_ ?_
        refine pt 5 37 (fl 9 37) HT_ ?_
        refine tt 1 33 (fl 9 39) HT_ HW_ hHeld ?_
        refine pt 3 35 (fl 9 47) HT_ ?_
        refine tt 4 36 (fl 9 63) HT_ HW_ hHeld ?_
        refine tt 6 38 (fl 9 127) HT_ HW_ hHeld ?_
        refine ot 7 (some 39) (fl 9 255) HT_ (fun K hK=>?_)
        refine goes_ Try.func55 (by kernel_rfl) rfl #[.agg #[.slice A621_0 ((rd_T35 l0_1 x5_2).f0).length c621_0],.int .i64 a0_0] (by rfl) rfl rfl (by (try simp only [List.map_toArray,List.map_cons,List.map_nil]);rfl) ?_
        with_reducible refine (spec_l5Part.calls k2 _ _ ((rd_T35 l0_1 x5_2).f0) a0_0 true _ ?side1 ?side2 A18.out).mono ?_
        (case side1=>exact rC HR621_0)
        (case side2=>exact HC621_0.out)
        rintro e w22 ⟨rfl,hb⟩
        refine ⟨_,rfl,?_⟩
        replace BK617:=bB BK617 hb;replace HB:=bs hb;(try clear hb);skip
        refine hK.out _ _ ⟨bq BK617 0,bq BK617 1,(xH HB hw621_0)⟩ (fun hHeld=>?_)
        clear hK K
        refine no 39 ?_
        refine pt 8 40 (fl 9 511) HT_ ?_
        refine done_ (done_of HT_.out (by kernel_rfl)) ?_
        try go_wp2
        go_loopg [6] k2 (fun kq v6 w'=>∃ (x6_3:Int),v6 = .int .i64 x6_3∧Aside0 (spec_RingOk.l1 kq l1 x5_2 x6_3 a0_0 l0_1=some r)∧Aside0 (kq≤k2)∧Aside0 (w'.heap[gb617]?=some (.cells #[.int .i64 a0_0,(.slice (some ad621) l0_1.length c0_1)] 26 (0,0)))∧Aside0 (Below w.heap.size w w'))
        case atStart=>exact ⟨(0),rd_,H',⟨Nat.le_refl _⟩,⟨bk BK617⟩,⟨be⟩⟩
        case round=>
         clear H'
         try clear c16b0
         try clear c17b0
         try clear hcz20_0
         try clear hcz20_1
         try clear hfz20_0
         try clear hfz20_1
         try clear hx621_0
         try clear p621
         try clear q621
         obtain ⟨x6_3,rfl,HA,HK3,BK617,HB⟩:=hrel
         cases gk with
         | zero=>exact absurd HA.out (by simp [spec_RingOk.l1])
         | succ k3=>
          have H:=HA.out
          clear HA
          simp only [spec_RingOk.l1] at H
          obtain ⟨c23,H⟩:=ifs H
          have c23b0:decide (0≤x5_2)=true:=decide_eq_true c23
          clear c23
          obtain ⟨c24,H⟩:=ifs H
          have c24b0:decide (x5_2 < (l0_1.length:Int))=true:=decide_eq_true c24
          clear c24
          by_cases c25:x6_3 < (((rd_T35 l0_1 x5_2).f0).length:Int)
          ·rw [if_pos c25] at H
           have c25b0:decide (x6_3 < (((rd_T35 l0_1 x5_2).f0).length:Int))=true:=decide_eq_true c25
           clear c25
           obtain ⟨c26,H⟩:=ifs H
           have c26b0:decide (0≤x6_3)=true:=decide_eq_true c26
           clear c26
           replace H:=Option.bind_eq_some_iff.mp H
           obtain ⟨⟨t626,t627,t628,t629⟩,A270,H⟩:=H
           try dsimp only at H
           have A27:=aM A270
           clear A270
           by_cases c28:t629=true
           ·subst c28
            rw [if_pos rfl] at H
            have H':=Aside0.mk H
            clear H
            obtain ⟨hcz29_0,hcz29_1,hfz29_0,hfz29_1⟩:=b2 BK617
            have p623:0≤(x5_2:Int):=od
            have q623:x5_2 < (l0_1.length:Int):=od
            obtain ⟨ad623,A623_0,c623_0,e623,hx623_0,hl623_0,hi623_0⟩:=at_T35 HR0_1.out x5_2 p623 q623
            obtain rfl:ad621=ad623:=(by injection e623)
            replace hx623_0:=xH HB hx623_0
            have HR623_0:=aM hi623_0
            have HC623_0:=aM hl623_0
            clear hi623_0 hl623_0
            replace p623:=eq_true p623
            replace q623:=eq_true q623
            have p624:0≤(x5_2:Int):=od
            have q624:x5_2 < (l0_1.length:Int):=od
            obtain ⟨ad624,A624_0,c624_0,e624,hx624_0,hl624_0,hi624_0⟩:=at_T35 HR0_1.out x5_2 p624 q624
            obtain rfl:ad621=ad624:=(by injection e624)
            replace hx624_0:=xH HB hx624_0
            have HR624_0:=aM hi624_0
            have HC624_0:=aM hl624_0
            clear hi624_0 hl624_0
            replace p624:=eq_true p624
            replace q624:=eq_true q624
            have ea_:=Option.some.inj (hx623_0.symm.trans hx624_0)
            injection ea_ with ea_ en_ ec_
            subst ea_
            subst ec_
            clear en_
            have p625:0≤(x6_3:Int):=od
            have q625:x6_3 < (((rd_T35 l0_1 x5_2).f0).length:Int):=od
            obtain ⟨ad625,e625,hx625_0⟩:=Kd.at_int HR624_0.out x6_3 p625 q625
            cases e625
            replace hx625_0:=xH HB hx625_0
            replace p625:=eq_true p625
            replace q625:=eq_true q625
            go_wp2_with (first|((with_reducible refine gate_callee (f:=56) rfl ?_);refine goesL_ (some 63) rfl rfl Try.func56 (by kernel_rfl) rfl #[.slice A1 l1.length c1,.int .i64 (rd ((rd_T35 l0_1 x5_2).f0) x6_3)] rfl (by (try simp only [List.map_toArray,List.map_cons,List.map_nil]);rfl) ?_;(with_reducible refine (spec_DevAt.calls k3 _ _ l1 (rd ((rd_T35 l0_1 x5_2).f0) x6_3) t626 t627 t628 true _ ?side1 ?side2 A27.out).mono ?_);(case side1=>exact rC HR1);(case side2=>exact HC1.out);rintro e w30 ⟨rfl,hb⟩;refine ⟨_,rfl,?_⟩;replace BK617:=bB BK617 hb;replace HB:=bs hb;(try clear hb))|((with_reducible refine gate_dst (N:=7) rfl ?_);(try (refine gate_guard (by rfl) ?_;dsimp only));refine box_event ?hg (N:=7) ?hd (cs:=#[.int .i64 0,.int .i64 0,.int .i64 0]) (t:=61) ?hr ?_;(case hd=>rfl);(case hg=>rfl);(case hr=>(go_simp;done));intro gb630 hg w31 hbox hb;have BK630:=aM (hbox);have GW630:=gS w hg;have GE630:=gS w hg;replace HB:=bs hb;have NB617_630:=nL hg BK617;have NB630_617:=nG hg BK617;replace BK617:=bB BK617 hb;clear hb hbox hg;have hnb32:=NB630_617.out;have hnc32:=NB617_630.out;obtain ⟨hcz33_0,hcz33_1,hcz33_2,hfz33_0,hfz33_1,hfz33_2⟩:=b3 BK630))
            go_roundg k3
            case measure=>have:=HJ2.out;have:=HK2.out;have:=HK3.out;omega
            case rel=>exact ⟨(wrap64 (x6_3+1)),rd_,H',⟨by have:=HJ2.out;have:=HK2.out;have:=HK3.out;omega⟩,⟨by refine blk_far ?_ NB617_630.out _;refine blk_far ?_ NB617_630.out _;refine blk_far ?_ NB617_630.out _;exact BK617.out⟩,⟨be⟩⟩
           ·replace c28:=Bool.eq_false_iff.mpr c28
            subst c28
            replace H:=(if_neg (show ¬ (false=true) by decide)).symm.trans H
            obtain rfl:=Option.some.inj H
            obtain ⟨hcz34_0,hcz34_1,hfz34_0,hfz34_1⟩:=b2 BK617
            have p623:0≤(x5_2:Int):=od
            have q623:x5_2 < (l0_1.length:Int):=od
            obtain ⟨ad623,A623_0,c623_0,e623,hx623_0,hl623_0,hi623_0⟩:=at_T35 HR0_1.out x5_2 p623 q623
            obtain rfl:ad621=ad623:=(by injection e623)
            replace hx623_0:=xH HB hx623_0
            have HR623_0:=aM hi623_0
            have HC623_0:=aM hl623_0
            clear hi623_0 hl623_0
            replace p623:=eq_true p623
            replace q623:=eq_true q623
            have p624:0≤(x5_2:Int):=od
            have q624:x5_2 < (l0_1.length:Int):=od
            obtain ⟨ad624,A624_0,c624_0,e624,hx624_0,hl624_0,hi624_0⟩:=at_T35 HR0_1.out x5_2 p624 q624
            obtain rfl:ad621=ad624:=(by injection e624)
            replace hx624_0:=xH HB hx624_0
            have HR624_0:=aM hi624_0
            have HC624_0:=aM hl624_0
            clear hi624_0 hl624_0
            replace p624:=eq_true p624
            replace q624:=eq_true q624
            have ea_:=Option.some.inj (hx623_0.symm.trans hx624_0)
            injection ea_ with ea_ en_ ec_
            subst ea_
            subst ec_
            clear en_
            have p625:0≤(x6_3:Int):=od
            have q625:x6_3 < (((rd_T35 l0_1 x5_2).f0).length:Int):=od
            obtain ⟨ad625,e625,hx625_0⟩:=Kd.at_int HR624_0.out x6_3 p625 q625
            cases e625
            replace hx625_0:=xH HB hx625_0
            replace p625:=eq_true p625
            replace q625:=eq_true q625
            go_wp2_with (first|((with_reducible refine gate_callee (f:=56) rfl ?_);refine goesL_ (some 63) rfl rfl Try.func56 (by kernel_rfl) rfl #[.slice A1 l1.length c1,.int .i64 (rd ((rd_T35 l0_1 x5_2).f0) x6_3)] rfl (by (try simp only [List.map_toArray,List.map_cons,List.map_nil]);rfl) ?_;(with_reducible refine (spec_DevAt.calls k3 _ _ l1 (rd ((rd_T35 l0_1 x5_2).f0) x6_3) t626 t627 t628 false _ ?side1 ?side2 A27.out).mono ?_);(case side1=>exact rC HR1);(case side2=>exact HC1.out);rintro e w35 ⟨rfl,hb⟩;refine ⟨_,rfl,?_⟩;replace BK617:=bB BK617 hb;replace HB:=bs hb;(try clear hb))|((with_reducible refine gate_dst (N:=7) rfl ?_);(try (refine gate_guard (by rfl) ?_;dsimp only));refine box_event ?hg (N:=7) ?hd (cs:=#[.int .i64 0,.int .i64 0,.int .i64 0]) (t:=61) ?hr ?_;(case hd=>rfl);(case hg=>rfl);(case hr=>(go_simp;done));intro gb630 hg w36 hbox hb;have BK630:=aM (hbox);have GW630:=gS w hg;have GE630:=gS w hg;replace HB:=bs hb;have NB617_630:=nL hg BK617;have NB630_617:=nG hg BK617;clear BK617;clear hb hbox hg;have hnb37:=NB630_617.out;have hnc37:=NB617_630.out;obtain ⟨hcz38_0,hcz38_1,hcz38_2,hfz38_0,hfz38_1,hfz38_2⟩:=b3 BK630))
            go_ret
            exact ⟨rz,be⟩
          ·rw [if_neg c25] at H
           have c25b0:decide (x6_3 < (((rd_T35 l0_1 x5_2).f0).length:Int))=false:=decide_eq_false c25
           clear c25
           have H':=Aside0.mk H
           clear H
           obtain ⟨hcz39_0,hcz39_1,hfz39_0,hfz39_1⟩:=b2 BK617
           have p623:0≤(x5_2:Int):=od
           have q623:x5_2 < (l0_1.length:Int):=od
           obtain ⟨ad623,A623_0,c623_0,e623,hx623_0,hl623_0,hi623_0⟩:=at_T35 HR0_1.out x5_2 p623 q623
           obtain rfl:ad621=ad623:=(by injection e623)
           replace hx623_0:=xH HB hx623_0
           have HR623_0:=aM hi623_0
           have HC623_0:=aM hl623_0
           clear hi623_0 hl623_0
           replace p623:=eq_true p623
           replace q623:=eq_true q623
           go_wp2
           go_roundg k3
           case measure=>have:=HJ2.out;have:=HK2.out;have:=HK3.out;omega
           case rel=>exact ⟨(wrap64 (x5_2+1)),rd_,H',⟨by have:=HJ2.out;have:=HK2.out;have:=HK3.out;omega⟩,⟨bk BK617⟩,⟨be⟩⟩
       ·replace c19:=Bool.eq_false_iff.mpr c19
        subst c19
        replace H:=(if_neg (show ¬ (false=true) by decide)).symm.trans H
        obtain rfl:=Option.some.inj H
        obtain ⟨hcz40_0,hcz40_1,hfz40_0,hfz40_1⟩:=b2 BK617
        try go_wp2
        replace BK617:=aM (blk_drew BK617.out);replace HB:=aM (below_drew1 HB.out)
        have p621:0≤(x5_2:Int):=od
        have q621:x5_2 < (l0_1.length:Int):=od
        obtain ⟨ad621,A621_0,c621_0,e621,hx621_0,hl621_0,hi621_0⟩:=at_T35 HR0_1.out x5_2 p621 q621
        have hw621_0:=hx621_0
        cases e621
        replace hx621_0:=xH HB hx621_0
        have HR621_0:=aM hi621_0
        have HC621_0:=aM hl621_0
        clear hi621_0 hl621_0
        replace p621:=eq_true p621
        replace q621:=eq_true q621
        refine start_ (n:=9) (S:=fun w'=>w'.cell? ⟨gb617,0,none⟩=some (.int .i64 a0_0)∧w'.cell? ⟨gb617,1,none⟩=some (.slice (some ad621) l0_1.length c0_1)∧w'.cell? (ad621.add (x5_2).toNat)=some (.slice A621_0 ((rd_T35 l0_1 x5_2).f0).length c621_0)) (ds:=[]) (fl 9 0) (by kernel_rfl) rfl rfl ⟨bq BK617 0,bq BK617 1,(xH HB hw621_0)⟩ (fun hHeld=>?_);refine with_tabW spec_RingOk.tab6 spec_RingOk.bits6 (fun HT_ HW_=>?_)
        generalize wr.drew=w41 at BK617 HB HR621_0 hx621_0 hHeld ⊢
        refine pt 0 32 (fl 9 1) HT_ ?_
        refine pt 2 34 (fl 9 5) HT_ ?_
        refine pt 5 37 (fl 9 37) HT_ ?_
        refine tt 1 33 (fl 9 39) HT_ HW_ hHeld ?_
        refine pt 3 35 (fl 9 47) HT_ ?_
        refine tt 4 36 (fl 9 63) HT_ HW_ hHeld ?_
        refine tt 6 38 (fl 9 127) HT_ HW_ hHeld ?_
        refine ot 7 (some 39) (fl 9 255) HT_ (fun K hK=>?_)
        refine goes_ Try.func55 (by kernel_rfl) rfl #[.agg #[.slice A621_0 ((rd_T35 l0_1 x5_2).f0).length c621_0],.int .i64 a0_0] (by rfl) rfl rfl (by (try simp only [List.map_toArray,List.map_cons,List.map_nil]);rfl) ?_
        with_reducible refine (spec_l5Part.calls k2 _ _ ((rd_T35 l0_1 x5_2).f0) a0_0 false _ ?side1 ?side2 A18.out).mono ?_
        (case side1=>exact rC HR621_0)
        (case side2=>exact HC621_0.out)
        rintro e w42 ⟨rfl,hb⟩
        refine ⟨_,rfl,?_⟩
        replace BK617:=bB BK617 hb;replace HB:=bs hb;(try clear hb);skip
        refine hK.out _ _ ⟨bq BK617 0,bq BK617 1,(xH HB hw621_0)⟩ (fun hHeld=>?_)
        clear hK K
        refine no 39 ?_
        refine pt 8 40 (fl 9 511) HT_ ?_
        refine done_ (done_of HT_.out (by kernel_rfl)) ?_
        try go_wp2
        go_ret
        exact ⟨rz,be⟩
      ·rw [if_neg c16] at H
       have c16b0:decide (x5_2 < (l0_1.length:Int))=false:=decide_eq_false c16
       clear c16
       obtain rfl:=Option.some.inj H
       obtain ⟨hcz43_0,hcz43_1,hfz43_0,hfz43_1⟩:=b2 BK617
       go_wp2
       go_ret
       exact ⟨rz,be⟩
end Go.Proofs.Ytpbjbfimnfghkaa.PFnRebalanced
