/- Trimmed by a program of this session (trim.py). Not trusted: Lean checks it. -/
import Derived.Test.YtpbjbfimnfghkaaTLRebalancedPFnRebalancedx0
import Derived.Test.YtpbjbfimnfghkaaTLRebalancedPFnRebalancedx8
import Derived.Test.YtpbjbfimnfghkaaTLRebalancedPFnRebalancedx9
namespace Go.Proofs.Ytpbjbfimnfghkaa.PFnRebalanced
open Go.RowKit Go.Proofs.YtpbjbfimnfghkaaW.PrintWords Go.Proofs.YtpbjbfimnfghkaaW.PrintLast Go.Proofs.YtpbjbfimnfghkaaW.PrintMore Go.Proofs.Ytpbjbfimnfghkaa.St
attribute [local go_sem] max2_int min2_int max_two min_two max_three min_three max_four min_four
set_option linter.unusedVariables false
set_option linter.unusedSimpArgs false
mutual
def impl_RingOk.j0:Nat→List (S61)→Bool→Int→List (S35)→Option (Bool)
 | 0,_,_,_,_=>none
 | k+1,x1,x26,x632000,x632001=>if x26=true then (some false) else (impl_RingOk.l0 k x1 x632001 (x632001.length:Int) 0 x632000 x632001)
def impl_RingOk.l0:Nat→List (S61)→List (S35)→Int→Int→Int→List (S35)→Option (Bool)
 | 0,_,_,_,_,_,_=>none
 | k+1,x1,x28,x29,x30,x632000,x632001=>if x30 < x29 then (if 0≤x30 then (if x30 < (x28.length:Int) then (if (((rd_T35 x28 x30).f0).length:Int)=x632000 then ((impl_apart.f k ((rd_T35 x28 x30).f0)).bind fun t637=>(impl_RingOk.j2 k x1 x28 x29 x30 (!t637) x632000 x632001 ((rd_T35 x28 x30).f0))) else (impl_RingOk.j2 k x1 x28 x29 x30 true x632000 x632001 ((rd_T35 x28 x30).f0))) else (none)) else (none)) else (some true)
def impl_RingOk.j2:Nat→List (S61)→List (S35)→Int→Int→Bool→Int→List (S35)→List Int→Option (Bool)
 | 0,_,_,_,_,_,_,_,_=>none
 | k+1,x1,x28,x29,x30,x45,x632000,x632001,x637000=>if x45=true then (some false) else (impl_RingOk.l1 k x1 x28 x29 x30 x637000 (x637000.length:Int) 0 x632000 x632001)
def impl_RingOk.l1:Nat→List (S61)→List (S35)→Int→Int→List Int→Int→Int→Int→List (S35)→Option (Bool)
 | 0,_,_,_,_,_,_,_,_,_=>none
 | k+1,x1,x28,x29,x30,x47,x48,x49,x632000,x632001=>if x49 < x48 then (if 0≤x49 then (if x49 < (x47.length:Int) then ((impl_DevAt.f k x1 (rd x47 x49)).bind fun bt639=>(if bt639.2.2.2=true then (impl_RingOk.l1 k x1 x28 x29 x30 x47 x48 (wrap64 (x49+1)) x632000 x632001) else (some false))) else (none)) else (none)) else (impl_RingOk.l0 k x1 x28 x29 (wrap64 (x30+1)) x632000 x632001)
end
def impl_RingOk.f (k:Nat) (a0_0:Int) (l0_1:List (S35)) (l1:List (S61)):Option (Bool):=(impl_DevsOk.f k l1).bind fun t632=>(if t632=true then ((impl_in.f a0_0 1 5).bind fun t633=>(if t633=true then ((impl_in.f (l0_1.length:Int) 1 64).bind fun t634=>(impl_RingOk.j0 k l1 (!t634) a0_0 l0_1)) else (impl_RingOk.j0 k l1 true a0_0 l0_1))) else (impl_RingOk.j0 k l1 true a0_0 l0_1))
set_option maxHeartbeats 8000000 in
set_option maxRecDepth 100000 in
theorem impl_RingOk.calls (k:Nat) (a0_0:Int) (A0_1:Option Addr) (c0_1:Nat) (l0_1:List (S35)) (A1:Option Addr) (c1:Nat) (l1:List (S61)) (r:Bool) (w:World) (hr0_1:Kd.C k35 w A0_1 l0_1.length l0_1) (hc0_1:l0_1.length≤c0_1) (hr1:Kd.C k61 w A1 l1.length l1) (hc1:l1.length≤c1) (h:impl_RingOk.f k a0_0 l0_1 l1=some r) :
  Calls Try.prog 15 #[.agg #[.int .i64 a0_0,.slice A0_1 l0_1.length c0_1],.slice A1 l1.length c1] w fun e w'=>e = .returned (.bool r)∧Below w.heap.size w w':=by
 have hu26:=Try.underlying26
 have hu35:=Try.underlying35
 have hu61:=Try.underlying61
 have HR0_1:=aM hr0_1
 have HC0_1:=aM hc0_1
 clear hr0_1 hc0_1
 have HR1:=aM hr1
 have HC1:=aM hc1
 clear hr1 hc1
 have HB:=aM (Below.refl w.heap.size w)
 have H:((impl_DevsOk.f k l1).bind fun t632=>(if t632=true then ((impl_in.f a0_0 1 5).bind fun t633=>(if t633=true then ((impl_in.f (l0_1.length:Int) 1 64).bind fun t634=>(impl_RingOk.j0 k l1 (!t634) a0_0 l0_1)) else (impl_RingOk.j0 k l1 true a0_0 l0_1))) else (impl_RingOk.j0 k l1 true a0_0 l0_1)))=some r:=h
 clear h
 have HC3:=aM H
 clear H
 go_enter Try.func15,Try.ntmps15
 go_upto_region 1 with ((with_reducible refine gate_dst (N:=2) rfl ?_);(try (refine gate_guard (by rfl) ?_;dsimp only));refine box_event ?hg (N:=2) ?hd (cs:=#[.int .i64 a0_0,.slice A0_1 l0_1.length c0_1]) (t:=26) ?hr ?_;(case hd=>rfl);(case hg=>rfl);(case hr=>(go_simp;done));intro gb631 hg w4 hbox hb;have BK631:=aM (hbox);have GW631:=gS w hg;replace HB:=bs hb;clear hb hbox hg)
 skip
 go_cut [26] (fun v26 wc=>∃ (kq:Nat) (x26_2:Bool),v26 = .bool x26_2∧Aside0 (impl_RingOk.j0 kq l1 x26_2 a0_0 l0_1=some r)∧Aside0 (kq≤k)∧Aside0 (wc.heap[gb631]?=some (.cells #[.int .i64 a0_0,(.slice A0_1 l0_1.length c0_1)] 26 (0,0)))∧Aside0 (Below w.heap.size w wc))
 case first=>
  have H:=HC3.out
  clear HC3
  replace H:=Option.bind_eq_some_iff.mp H
  obtain ⟨t632,A50,H⟩:=H
  try dsimp only at H
  have A5:=aM A50
  clear A50
  by_cases c6:t632=true
  ·subst c6
   rw [if_pos rfl] at H
   replace H:=Option.bind_eq_some_iff.mp H
   obtain ⟨t633,A70,H⟩:=H
   try dsimp only at H
   have A7:=aM A70
   clear A70
   by_cases c8:t633=true
   ·subst c8
    rw [if_pos rfl] at H
    replace H:=Option.bind_eq_some_iff.mp H
    obtain ⟨t634,A90,H⟩:=H
    try dsimp only at H
    have A9:=aM A90
    clear A90
    have H':=Aside0.mk H
    clear H
    go_wp2_with (first|((with_reducible refine gate_callee (f:=57) rfl ?_);refine goesL_ (some 12) rfl rfl Try.func57 (by kernel_rfl) rfl #[.slice A1 l1.length c1] rfl (by (try simp only [List.map_toArray,List.map_cons,List.map_nil]);rfl) ?_;(with_reducible refine (impl_DevsOk.calls k _ _ l1 true _ ?side1 ?side2 A5.out).mono ?_);(case side1=>exact rC HR1);(case side2=>exact HC1.out);rintro e w10 ⟨rfl,hb⟩;refine ⟨_,rfl,?_⟩;replace BK631:=bB BK631 hb;replace HB:=bs hb;(try clear hb);obtain ⟨hcz11_0,hcz11_1,hfz11_0,hfz11_1⟩:=b2 BK631)|(go_at_call 58;(with_reducible refine (impl_in.calls a0_0 1 5 true _ A7.out).mono ?_);rintro e w' ⟨rfl,⟨nd,rfl⟩⟩)|(go_at_call 58;(with_reducible refine (impl_in.calls (l0_1.length:Int) 1 64 t634 _ A9.out).mono ?_);rintro e w' ⟨rfl,⟨nd,rfl⟩⟩))
    go_meet
    case rel=>exact ⟨_,(!t634),rd_,H',⟨by omega⟩,⟨bk BK631⟩,⟨be⟩⟩
   ·replace c8:=Bool.eq_false_iff.mpr c8
    subst c8
    replace H:=(if_neg (show ¬ (false=true) by decide)).symm.trans H
    have H':=Aside0.mk H
    clear H
    go_wp2_with (first|((with_reducible refine gate_callee (f:=57) rfl ?_);refine goesL_ (some 12) rfl rfl Try.func57 (by kernel_rfl) rfl #[.slice A1 l1.length c1] rfl (by (try simp only [List.map_toArray,List.map_cons,List.map_nil]);rfl) ?_;(with_reducible refine (impl_DevsOk.calls k _ _ l1 true _ ?side1 ?side2 A5.out).mono ?_);(case side1=>exact rC HR1);(case side2=>exact HC1.out);rintro e w12 ⟨rfl,hb⟩;refine ⟨_,rfl,?_⟩;replace BK631:=bB BK631 hb;replace HB:=bs hb;(try clear hb);obtain ⟨hcz13_0,hcz13_1,hfz13_0,hfz13_1⟩:=b2 BK631)|(go_at_call 58;(with_reducible refine (impl_in.calls a0_0 1 5 false _ A7.out).mono ?_);rintro e w' ⟨rfl,⟨nd,rfl⟩⟩))
    go_meet
    case rel=>exact ⟨_,(true),rd_,H',⟨by omega⟩,⟨bk BK631⟩,⟨be⟩⟩
  ·replace c6:=Bool.eq_false_iff.mpr c6
   subst c6
   replace H:=(if_neg (show ¬ (false=true) by decide)).symm.trans H
   have H':=Aside0.mk H
   clear H
   go_wp2_with ((with_reducible refine gate_callee (f:=57) rfl ?_);refine goesL_ (some 12) rfl rfl Try.func57 (by kernel_rfl) rfl #[.slice A1 l1.length c1] rfl (by (try simp only [List.map_toArray,List.map_cons,List.map_nil]);rfl) ?_;(with_reducible refine (impl_DevsOk.calls k _ _ l1 false _ ?side1 ?side2 A5.out).mono ?_);(case side1=>exact rC HR1);(case side2=>exact HC1.out);rintro e w14 ⟨rfl,hb⟩;refine ⟨_,rfl,?_⟩;replace BK631:=bB BK631 hb;replace HB:=bs hb;(try clear hb))
   go_meet
   case rel=>exact ⟨_,(true),rd_,H',⟨by omega⟩,⟨bk BK631⟩,⟨be⟩⟩
 case rest=>
  clear HC3
  obtain ⟨kq,x26_2,rfl,HA,HJ2,BK631,HB⟩:=hcut
  cases kq with
  | zero=>exact absurd HA.out (by simp [impl_RingOk.j0])
  | succ kj2=>
   have H:=HA.out
   clear HA
   simp only [impl_RingOk.j0] at H
   by_cases c15:x26_2=true
   ·subst c15
    rw [if_pos rfl] at H
    obtain rfl:=Option.some.inj H
    go_wp2
    go_ret
    exact ⟨rz,be⟩
   ·replace c15:=Bool.eq_false_iff.mpr c15
    subst c15
    replace H:=(if_neg (show ¬ (false=true) by decide)).symm.trans H
    have H':=Aside0.mk H
    clear H
    obtain ⟨hcz16_0,hcz16_1,hfz16_0,hfz16_1⟩:=b2 BK631
    go_wp2
    go_loopg [30] kj2 (fun kq v30 w'=>∃ (x30_2:Int),v30 = .int .i64 x30_2∧Aside0 (impl_RingOk.l0 kq l1 l0_1 (l0_1.length:Int) x30_2 a0_0 l0_1=some r)∧Aside0 (kq≤kj2)∧Aside0 (w'.heap[gb631]?=some (.cells #[.int .i64 a0_0,(.slice A0_1 l0_1.length c0_1)] 26 (0,0)))∧Aside0 (Below w.heap.size w w'))
    case atStart=>exact ⟨(0),rd_,H',⟨Nat.le_refl _⟩,⟨bk BK631⟩,⟨be⟩⟩
    case round=>
     clear H'
     try clear hcz16_0
     try clear hcz16_1
     try clear hfz16_0
     try clear hfz16_1
     obtain ⟨x30_2,rfl,HA,HK2,BK631,HB⟩:=hrel
     cases gk with
     | zero=>exact absurd HA.out (by simp [impl_RingOk.l0])
     | succ k2=>
      have H:=HA.out
      clear HA
      simp only [impl_RingOk.l0] at H
      by_cases c17:x30_2 < (l0_1.length:Int)
      ·rw [if_pos c17] at H
       have c17b0:decide (x30_2 < (l0_1.length:Int))=true:=decide_eq_true c17
       clear c17
       obtain ⟨c18,H⟩:=ifs H
       have c18b0:decide (0≤x30_2)=true:=decide_eq_true c18
       clear c18
       obtain ⟨c19,H⟩:=ifs H
       have c19b0:decide (x30_2 < (l0_1.length:Int))=true:=decide_eq_true c19
       clear c19
       have HC20:=aM H
       clear H
       have p635:0≤(x30_2:Int):=od
       have q635:x30_2 < (l0_1.length:Int):=od
       obtain ⟨ad635,A635_0,c635_0,e635,hx635_0,hl635_0,hi635_0⟩:=at_T35 HR0_1.out x30_2 p635 q635
       cases e635
       replace hx635_0:=xH HB hx635_0
       have HR635_0:=aM hi635_0
       have HC635_0:=aM hl635_0
       clear hi635_0 hl635_0
       replace p635:=eq_true p635
       replace q635:=eq_true q635
       go_upto_region 6 with ((with_reducible refine gate_dst (N:=6) rfl ?_);(try (refine gate_guard (by rfl) ?_;dsimp only));refine box_event ?hg (N:=6) ?hd (cs:=#[.slice none 0 0]) (t:=35) ?hr ?_;(case hd=>rfl);(case hg=>rfl);(case hr=>(go_simp;done));intro gb636 hg w21 hbox hb;have BK636:=aM (hbox);have GW636:=gS w hg;replace HB:=bs hb;have NB631_636:=nL hg BK631;have NB636_631:=nG hg BK631;replace BK631:=bB BK631 hb;clear hb hbox hg;have hnb22:=NB636_631.out;have hnc22:=NB631_636.out;obtain ⟨hcz23_0,hfz23_0⟩:=b1 BK636)
       skip
       go_cut [45] (fun v45 wc=>∃ (kq:Nat) (x45_19:Bool),v45 = .bool x45_19∧Aside0 (impl_RingOk.j2 kq l1 l0_1 (l0_1.length:Int) x30_2 x45_19 a0_0 l0_1 ((rd_T35 l0_1 x30_2).f0)=some r)∧Aside0 (kq≤k2)∧Aside0 (wc.heap[gb631]?=some (.cells #[.int .i64 a0_0,(.slice (some ad635) l0_1.length c0_1)] 26 (0,0)))∧Aside0 (wc.heap[gb636]?=some (.cells #[(.slice A635_0 ((rd_T35 l0_1 x30_2).f0).length c635_0)] 35 (0,0)))∧Aside0 (Below w.heap.size w wc))
       case first=>
        have H:=HC20.out
        clear HC20
        by_cases c24:(((rd_T35 l0_1 x30_2).f0).length:Int)=a0_0
        ·rw [if_pos c24] at H
         have c24b0:((((rd_T35 l0_1 x30_2).f0).length:Int) == a0_0)=true:=beq_iff_eq.mpr c24
         have c24b1:((((rd_T35 l0_1 x30_2).f0).length:Int) != a0_0)=false:=bne_eq_false_iff_eq.mpr c24
         clear c24
         (skip)
         replace H:=Option.bind_eq_some_iff.mp H
         obtain ⟨t637,A250,H⟩:=H
         try dsimp only at H
         have A25:=aM A250
         clear A250
         have H':=Aside0.mk H
         clear H
         have hnb26:=NB636_631.out
         have hnc26:=NB631_636.out
         obtain ⟨hcz27_0,hfz27_0⟩:=b1 BK636
         obtain ⟨hcz28_0,hcz28_1,hfz28_0,hfz28_1⟩:=b2 BK631
         go_wp2_with (go_at_call 59;(with_reducible refine (impl_apart.calls k2 _ _ ((rd_T35 l0_1 x30_2).f0) t637 _ ?side1 ?side2 A25.out).mono ?_);(case side1=>exact Kd.C_below HR635_0.out be);(case side2=>exact HC635_0.out);rintro e w' ⟨rfl,⟨nd,rfl⟩⟩)
         go_meet
         case rel=>exact ⟨_,(!t637),rd_,H',⟨by have:=HJ2.out;have:=HK2.out;omega⟩,⟨by (with_reducible repeat (refine blk_drewN ?_ _));refine blk_far ?_ NB631_636.out _;exact BK631.out⟩,⟨by (with_reducible repeat (refine blk_drewN ?_ _));refine blk_put (cs:=#[.slice none 0 0]) ?_ 0 _ rfl;exact BK636.out⟩,⟨be⟩⟩
        ·rw [if_neg c24] at H
         have c24b0:((((rd_T35 l0_1 x30_2).f0).length:Int) == a0_0)=false:=beq_eq_false_iff_ne.mpr c24
         have c24b1:((((rd_T35 l0_1 x30_2).f0).length:Int) != a0_0)=true:=bne_iff_ne.mpr c24
         (skip)
         have H':=Aside0.mk H
         clear H
         have hnb29:=NB636_631.out
         have hnc29:=NB631_636.out
         obtain ⟨hcz30_0,hfz30_0⟩:=b1 BK636
         obtain ⟨hcz31_0,hcz31_1,hfz31_0,hfz31_1⟩:=b2 BK631
         go_wp2
         go_meet
         case rel=>exact ⟨_,(true),rd_,H',⟨by have:=HJ2.out;have:=HK2.out;omega⟩,⟨by refine blk_far ?_ NB631_636.out _;exact BK631.out⟩,⟨by refine blk_put (cs:=#[.slice none 0 0]) ?_ 0 _ rfl;exact BK636.out⟩,⟨be⟩⟩
       case rest=>
        clear HC20
        try clear c17b0
        try clear c18b0
        try clear c19b0
        try clear hcz23_0
        try clear hfz23_0
        try clear hx635_0
        try clear p635
        try clear q635
        obtain ⟨kq,x45_19,rfl,HA,HJ19,BK631,BK636,HB⟩:=hcut
        cases kq with
        | zero=>exact absurd HA.out (by simp [impl_RingOk.j2])
        | succ kj19=>
         have H:=HA.out
         clear HA
         simp only [impl_RingOk.j2] at H
         by_cases c32:x45_19=true
         ·subst c32
          rw [if_pos rfl] at H
          obtain rfl:=Option.some.inj H
          go_wp2
          go_ret
          exact ⟨rz,be⟩
         ·replace c32:=Bool.eq_false_iff.mpr c32
          subst c32
          replace H:=(if_neg (show ¬ (false=true) by decide)).symm.trans H
          have H':=Aside0.mk H
          clear H
          have hnb33:=NB636_631.out
          have hnc33:=NB631_636.out
          obtain ⟨hcz34_0,hfz34_0⟩:=b1 BK636
          go_wp2
          go_loopg [49] kj19 (fun kq v49 w'=>∃ (x49_4:Int),v49 = .int .i64 x49_4∧Aside0 (impl_RingOk.l1 kq l1 l0_1 (l0_1.length:Int) x30_2 ((rd_T35 l0_1 x30_2).f0) (((rd_T35 l0_1 x30_2).f0).length:Int) x49_4 a0_0 l0_1=some r)∧Aside0 (kq≤kj19)∧Aside0 (w'.heap[gb631]?=some (.cells #[.int .i64 a0_0,(.slice (some ad635) l0_1.length c0_1)] 26 (0,0)))∧Aside0 (w'.heap[gb636]?=some (.cells #[(.slice A635_0 ((rd_T35 l0_1 x30_2).f0).length c635_0)] 35 (0,0)))∧Aside0 (Below w.heap.size w w'))
          case atStart=>exact ⟨(0),rd_,H',⟨Nat.le_refl _⟩,⟨bk BK631⟩,⟨bk BK636⟩,⟨be⟩⟩
          case round=>
           clear H'
           try clear hcz34_0
           try clear hfz34_0
           obtain ⟨x49_4,rfl,HA,HK4,BK631,BK636,HB⟩:=hrel
           cases gk with
           | zero=>exact absurd HA.out (by simp [impl_RingOk.l1])
           | succ k4=>
            have H:=HA.out
            clear HA
            simp only [impl_RingOk.l1] at H
            by_cases c35:x49_4 < (((rd_T35 l0_1 x30_2).f0).length:Int)
            ·rw [if_pos c35] at H
             have c35b0:decide (x49_4 < (((rd_T35 l0_1 x30_2).f0).length:Int))=true:=decide_eq_true c35
             clear c35
             obtain ⟨c36,H⟩:=ifs H
             have c36b0:decide (0≤x49_4)=true:=decide_eq_true c36
             clear c36
             obtain ⟨c37,H⟩:=ifs H
             have c37b0:decide (x49_4 < (((rd_T35 l0_1 x30_2).f0).length:Int))=true:=decide_eq_true c37
             clear c37
             replace H:=Option.bind_eq_some_iff.mp H
             obtain ⟨⟨t639,t640,t641,t642⟩,A380,H⟩:=H
             try dsimp only at H
             have A38:=aM A380
             clear A380
             by_cases c39:t642=true
             ·subst c39
              rw [if_pos rfl] at H
              have H':=Aside0.mk H
              clear H
              have p638:0≤(x49_4:Int):=od
              have q638:x49_4 < (((rd_T35 l0_1 x30_2).f0).length:Int):=od
              obtain ⟨ad638,e638,hx638_0⟩:=Kd.at_int HR635_0.out x49_4 p638 q638
              cases e638
              replace hx638_0:=xH HB hx638_0
              replace p638:=eq_true p638
              replace q638:=eq_true q638
              go_wp2_with (first|((with_reducible refine gate_callee (f:=60) rfl ?_);refine goesL_ (some 56) rfl rfl Try.func60 (by kernel_rfl) rfl #[.slice A1 l1.length c1,.int .i64 (rd ((rd_T35 l0_1 x30_2).f0) x49_4)] rfl (by (try simp only [List.map_toArray,List.map_cons,List.map_nil]);rfl) ?_;(with_reducible refine (impl_DevAt.calls k4 _ _ l1 (rd ((rd_T35 l0_1 x30_2).f0) x49_4) t639 t640 t641 true _ ?side1 ?side2 A38.out).mono ?_);(case side1=>exact rC HR1);(case side2=>exact HC1.out);rintro e w40 ⟨rfl,hb⟩;refine ⟨_,rfl,?_⟩;replace BK631:=bB BK631 hb;replace BK636:=bB BK636 hb;replace HB:=bs hb;(try clear hb))|((with_reducible refine gate_dst (N:=9) rfl ?_);(try (refine gate_guard (by rfl) ?_;dsimp only));refine box_event ?hg (N:=9) ?hd (cs:=#[.int .i64 0,.int .i64 0,.int .i64 0]) (t:=61) ?hr ?_;(case hd=>rfl);(case hg=>rfl);(case hr=>(go_simp;done));intro gb643 hg w41 hbox hb;have BK643:=aM (hbox);have GW643:=gS w hg;have GE643:=gS w hg;replace HB:=bs hb;have NB631_643:=nL hg BK631;have NB643_631:=nG hg BK631;replace BK631:=bB BK631 hb;have NB636_643:=nL hg BK636;have NB643_636:=nG hg BK636;replace BK636:=bB BK636 hb;clear hb hbox hg;have hnb42:=NB643_631.out;have hnc42:=NB631_643.out;have hnb43:=NB643_636.out;have hnc43:=NB636_643.out;obtain ⟨hcz44_0,hcz44_1,hcz44_2,hfz44_0,hfz44_1,hfz44_2⟩:=b3 BK643))
              go_roundg k4
              case measure=>have:=HJ2.out;have:=HK2.out;have:=HJ19.out;have:=HK4.out;omega
              case rel=>exact ⟨(wrap64 (x49_4+1)),rd_,H',⟨by have:=HJ2.out;have:=HK2.out;have:=HJ19.out;have:=HK4.out;omega⟩,⟨by refine blk_far ?_ NB631_643.out _;refine blk_far ?_ NB631_643.out _;refine blk_far ?_ NB631_643.out _;exact BK631.out⟩,⟨by refine blk_far ?_ NB636_643.out _;refine blk_far ?_ NB636_643.out _;refine blk_far ?_ NB636_643.out _;exact BK636.out⟩,⟨be⟩⟩
             ·replace c39:=Bool.eq_false_iff.mpr c39
              subst c39
              replace H:=(if_neg (show ¬ (false=true) by decide)).symm.trans H
              obtain rfl:=Option.some.inj H
              have p638:0≤(x49_4:Int):=od
              have q638:x49_4 < (((rd_T35 l0_1 x30_2).f0).length:Int):=od
              obtain ⟨ad638,e638,hx638_0⟩:=Kd.at_int HR635_0.out x49_4 p638 q638
              cases e638
              replace hx638_0:=xH HB hx638_0
              replace p638:=eq_true p638
              replace q638:=eq_true q638
              go_wp2_with (first|((with_reducible refine gate_callee (f:=60) rfl ?_);refine goesL_ (some 56) rfl rfl Try.func60 (by kernel_rfl) rfl #[.slice A1 l1.length c1,.int .i64 (rd ((rd_T35 l0_1 x30_2).f0) x49_4)] rfl (by (try simp only [List.map_toArray,List.map_cons,List.map_nil]);rfl) ?_;(with_reducible refine (impl_DevAt.calls k4 _ _ l1 (rd ((rd_T35 l0_1 x30_2).f0) x49_4) t639 t640 t641 false _ ?side1 ?side2 A38.out).mono ?_);(case side1=>exact rC HR1);(case side2=>exact HC1.out);rintro e w45 ⟨rfl,hb⟩;refine ⟨_,rfl,?_⟩;replace BK631:=bB BK631 hb;replace BK636:=bB BK636 hb;replace HB:=bs hb;(try clear hb))|((with_reducible refine gate_dst (N:=9) rfl ?_);(try (refine gate_guard (by rfl) ?_;dsimp only));refine box_event ?hg (N:=9) ?hd (cs:=#[.int .i64 0,.int .i64 0,.int .i64 0]) (t:=61) ?hr ?_;(case hd=>rfl);(case hg=>rfl);(case hr=>(go_simp;done));intro gb643 hg w46 hbox hb;have BK643:=aM (hbox);have GW643:=gS w hg;have GE643:=gS w hg;replace HB:=bs hb;have NB631_643:=nL hg BK631;have NB643_631:=nG hg BK631;have NB636_643:=nL hg BK636;have NB643_636:=nG hg BK636;clear BK631 BK636;clear hb hbox hg;have hnb47:=NB643_631.out;have hnc47:=NB631_643.out;have hnb48:=NB643_636.out;have hnc48:=NB636_643.out;obtain ⟨hcz49_0,hcz49_1,hcz49_2,hfz49_0,hfz49_1,hfz49_2⟩:=b3 BK643))
              go_ret
              exact ⟨rz,be⟩
            ·rw [if_neg c35] at H
             have c35b0:decide (x49_4 < (((rd_T35 l0_1 x30_2).f0).length:Int))=false:=decide_eq_false c35
             clear c35
             have H':=Aside0.mk H
             clear H
             go_wp2
             go_roundg k4
             case measure=>have:=HJ2.out;have:=HK2.out;have:=HJ19.out;have:=HK4.out;omega
             case rel=>exact ⟨(wrap64 (x30_2+1)),rd_,H',⟨by have:=HJ2.out;have:=HK2.out;have:=HJ19.out;have:=HK4.out;omega⟩,⟨bk BK631⟩,⟨be⟩⟩
      ·rw [if_neg c17] at H
       have c17b0:decide (x30_2 < (l0_1.length:Int))=false:=decide_eq_false c17
       clear c17
       obtain rfl:=Option.some.inj H
       go_wp2
       go_ret
       exact ⟨rz,be⟩
end Go.Proofs.Ytpbjbfimnfghkaa.PFnRebalanced
