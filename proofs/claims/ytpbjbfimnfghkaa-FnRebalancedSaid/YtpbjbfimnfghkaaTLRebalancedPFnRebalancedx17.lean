/- Trimmed by a program of this session (trim.py). Not trusted: Lean checks it. -/
import Derived.Test.YtpbjbfimnfghkaaTLRebalancedPFnRebalancedx0
import Derived.Test.YtpbjbfimnfghkaaTLRebalancedPFnRebalancedx9
namespace Go.Proofs.Ytpbjbfimnfghkaa.PFnRebalanced
open Go.RowKit Go.Proofs.YtpbjbfimnfghkaaW.PrintWords Go.Proofs.YtpbjbfimnfghkaaW.PrintLast Go.Proofs.YtpbjbfimnfghkaaW.PrintMore Go.Proofs.Ytpbjbfimnfghkaa.St
attribute [local go_sem] max2_int min2_int max_two min_two max_three min_three max_four min_four
set_option linter.unusedVariables false
set_option linter.unusedSimpArgs false
mutual
def impl_Moved.l0:Nat→Int→Int→Int→List (S35)→Int→List (S35)→Option (Int)
 | 0,_,_,_,_,_,_=>none
 | k+1,x5,x6,x611000,x611001,x612000,x612001=>if x6 < (x611001.length:Int) then (impl_Moved.j1 k x5 x6 (decide (x6 < (x612001.length:Int))) x611000 x611001 x612000 x612001) else (impl_Moved.j1 k x5 x6 false x611000 x611001 x612000 x612001)
def impl_Moved.j1:Nat→Int→Int→Bool→Int→List (S35)→Int→List (S35)→Option (Int)
 | 0,_,_,_,_,_,_,_=>none
 | k+1,x5,x6,x20,x611000,x611001,x612000,x612001=>if x20=true then (if 0≤x6 then (if x6 < (x611001.length:Int) then (impl_Moved.l1 k x5 x6 ((rd_T35 x611001 x6).f0) (((rd_T35 x611001 x6).f0).length:Int) 0 x611000 x611001 x612000 x612001) else (none)) else (none)) else (some x5)
def impl_Moved.l1:Nat→Int→Int→List Int→Int→Int→Int→List (S35)→Int→List (S35)→Option (Int)
 | 0,_,_,_,_,_,_,_,_,_=>none
 | k+1,x5,x6,x28,x29,x30,x611000,x611001,x612000,x612001=>if x30 < x29 then (if 0≤x30 then (if x30 < (x28.length:Int) then (if 0≤x6 then (if x6 < (x612001.length:Int) then ((impl_hasInt.f k ((rd_T35 x612001 x6).f0) (rd x28 x30)).bind fun t615=>(if t615=true then (impl_Moved.l1 k x5 x6 x28 x29 (wrap64 (x30+1)) x611000 x611001 x612000 x612001) else (impl_Moved.l1 k (wrap64 (x5+1)) x6 x28 x29 (wrap64 (x30+1)) x611000 x611001 x612000 x612001))) else (none)) else (none)) else (none)) else (none)) else (impl_Moved.l0 k x5 (wrap64 (x6+1)) x611000 x611001 x612000 x612001)
end
def impl_Moved.f (k:Nat) (a0_0:Int) (l0_1:List (S35)) (a1_0:Int) (l1_1:List (S35)):Option (Int):=impl_Moved.l0 k 0 0 a0_0 l0_1 a1_0 l1_1
set_option maxHeartbeats 8000000 in
set_option maxRecDepth 100000 in
theorem impl_Moved.calls (k:Nat) (a0_0:Int) (A0_1:Option Addr) (c0_1:Nat) (l0_1:List (S35)) (a1_0:Int) (A1_1:Option Addr) (c1_1:Nat) (l1_1:List (S35)) (r:Int) (w:World) (hr0_1:Kd.C k35 w A0_1 l0_1.length l0_1) (hc0_1:l0_1.length≤c0_1) (hr1_1:Kd.C k35 w A1_1 l1_1.length l1_1) (hc1_1:l1_1.length≤c1_1) (h:impl_Moved.f k a0_0 l0_1 a1_0 l1_1=some r) :
  Calls Try.prog 12 #[.agg #[.int .i64 a0_0,.slice A0_1 l0_1.length c0_1],.agg #[.int .i64 a1_0,.slice A1_1 l1_1.length c1_1]] w fun e w'=>e = .returned (.int .i64 r)∧Below w.heap.size w w':=by
 have hu26:=Try.underlying26
 have HR0_1:=aM hr0_1
 have HC0_1:=aM hc0_1
 clear hr0_1 hc0_1
 have HR1_1:=aM hr1_1
 have HC1_1:=aM hc1_1
 clear hr1_1 hc1_1
 have HB:=aM (Below.refl w.heap.size w)
 have H:(impl_Moved.l0 k 0 0 a0_0 l0_1 a1_0 l1_1)=some r:=h
 clear h
 have H':=Aside0.mk H
 clear H
 go_enter Try.func12,Try.ntmps12
 go_wp2_with (first|((with_reducible refine gate_dst (N:=2) rfl ?_);(try (refine gate_guard (by rfl) ?_;dsimp only));refine box_event ?hg (N:=2) ?hd (cs:=#[.int .i64 a0_0,.slice A0_1 l0_1.length c0_1]) (t:=26) ?hr ?_;(case hd=>rfl);(case hg=>rfl);(case hr=>(go_simp;done));intro gb610 hg w3 hbox hb;have BK610:=aM (hbox);have GW610:=gS w hg;replace HB:=bs hb;clear hb hbox hg)|((with_reducible refine gate_dst (N:=3) rfl ?_);(try (refine gate_guard (by rfl) ?_;dsimp only));refine box_event ?hg (N:=3) ?hd (cs:=#[.int .i64 a1_0,.slice A1_1 l1_1.length c1_1]) (t:=26) ?hr ?_;(case hd=>rfl);(case hg=>rfl);(case hr=>(go_simp;done));intro gb611 hg w4 hbox hb;have BK611:=aM (hbox);have GW611:=gS w hg;replace HB:=bs hb;have NB610_611:=nL hg BK610;have NB611_610:=nG hg BK610;replace BK610:=bB BK610 hb;clear hb hbox hg))
 go_loopg [5,6] k (fun kq v5 v6 w'=>∃ (x5_1:Int) (x6_1:Int),v5 = .int .i64 x5_1∧v6 = .int .i64 x6_1∧Aside0 (impl_Moved.l0 kq x5_1 x6_1 a0_0 l0_1 a1_0 l1_1=some r)∧Aside0 (kq≤k)∧Aside0 (w'.heap[gb610]?=some (.cells #[.int .i64 a0_0,(.slice A0_1 l0_1.length c0_1)] 26 (0,0)))∧Aside0 (w'.heap[gb611]?=some (.cells #[.int .i64 a1_0,(.slice A1_1 l1_1.length c1_1)] 26 (0,0)))∧Aside0 (Below w.heap.size w w'))
 case atStart=>exact ⟨(0),(0),rd_,rd_,H',⟨Nat.le_refl _⟩,⟨bk BK610⟩,⟨bk BK611⟩,⟨be⟩⟩
 case round=>
  clear H'
  obtain ⟨x5_1,x6_1,rfl,rfl,HA,HK1,BK610,BK611,HB⟩:=hrel
  cases gk with
  | zero=>exact absurd HA.out (by simp [impl_Moved.l0])
  | succ k1=>
   have H:=HA.out
   clear HA
   simp only [impl_Moved.l0] at H
   have HC5:=aM H
   clear H
   go_upto_region 3 with (fail)
   go_cut [20] (fun v20 wc=>∃ (kq:Nat) (x20_4:Bool),v20 = .bool x20_4∧Aside0 (impl_Moved.j1 kq x5_1 x6_1 x20_4 a0_0 l0_1 a1_0 l1_1=some r)∧Aside0 (kq≤k1)∧Aside0 (wc.heap[gb610]?=some (.cells #[.int .i64 a0_0,(.slice A0_1 l0_1.length c0_1)] 26 (0,0)))∧Aside0 (wc.heap[gb611]?=some (.cells #[.int .i64 a1_0,(.slice A1_1 l1_1.length c1_1)] 26 (0,0)))∧Aside0 (Below w.heap.size w wc))
   case first=>
    have H:=HC5.out
    clear HC5
    by_cases c6:x6_1 < (l0_1.length:Int)
    ·rw [if_pos c6] at H
     have c6b0:decide (x6_1 < (l0_1.length:Int))=true:=decide_eq_true c6
     clear c6
     (skip)
     have H':=Aside0.mk H
     clear H
     have hnb7:=NB610_611.out
     have hnc7:=NB611_610.out
     obtain ⟨hcz8_0,hcz8_1,hfz8_0,hfz8_1⟩:=b2 BK610
     obtain ⟨hcz9_0,hcz9_1,hfz9_0,hfz9_1⟩:=b2 BK611
     go_wp2
     go_meet
     case rel=>exact ⟨_,(decide (x6_1 < (l1_1.length:Int))),rd_,H',⟨by have:=HK1.out;omega⟩,⟨bk BK610⟩,⟨bk BK611⟩,⟨be⟩⟩
    ·rw [if_neg c6] at H
     have c6b0:decide (x6_1 < (l0_1.length:Int))=false:=decide_eq_false c6
     clear c6
     (skip)
     have H':=Aside0.mk H
     clear H
     have hnb10:=NB610_611.out
     have hnc10:=NB611_610.out
     obtain ⟨hcz11_0,hcz11_1,hfz11_0,hfz11_1⟩:=b2 BK610
     go_wp2
     go_meet
     case rel=>exact ⟨_,(false),rd_,H',⟨by have:=HK1.out;omega⟩,⟨bk BK610⟩,⟨bk BK611⟩,⟨be⟩⟩
   case rest=>
    clear HC5
    obtain ⟨kq,x20_4,rfl,HA,HJ4,BK610,BK611,HB⟩:=hcut
    cases kq with
    | zero=>exact absurd HA.out (by simp [impl_Moved.j1])
    | succ kj4=>
     have H:=HA.out
     clear HA
     simp only [impl_Moved.j1] at H
     by_cases c12:x20_4=true
     ·subst c12
      rw [if_pos rfl] at H
      obtain ⟨c13,H⟩:=ifs H
      have c13b0:decide (0≤x6_1)=true:=decide_eq_true c13
      clear c13
      obtain ⟨c14,H⟩:=ifs H
      have c14b0:decide (x6_1 < (l0_1.length:Int))=true:=decide_eq_true c14
      clear c14
      have H':=Aside0.mk H
      clear H
      have hnb15:=NB610_611.out
      have hnc15:=NB611_610.out
      obtain ⟨hcz16_0,hcz16_1,hfz16_0,hfz16_1⟩:=b2 BK610
      have p612:0≤(x6_1:Int):=od
      have q612:x6_1 < (l0_1.length:Int):=od
      obtain ⟨ad612,A612_0,c612_0,e612,hx612_0,hl612_0,hi612_0⟩:=at_T35 HR0_1.out x6_1 p612 q612
      cases e612
      replace hx612_0:=xH HB hx612_0
      have HR612_0:=aM hi612_0
      have HC612_0:=aM hl612_0
      clear hi612_0 hl612_0
      replace p612:=eq_true p612
      replace q612:=eq_true q612
      go_wp2
      go_loopg [5,30] kj4 (fun kq v5 v30 w'=>∃ (x5_3:Int) (x30_3:Int),v5 = .int .i64 x5_3∧v30 = .int .i64 x30_3∧Aside0 (impl_Moved.l1 kq x5_3 x6_1 ((rd_T35 l0_1 x6_1).f0) (((rd_T35 l0_1 x6_1).f0).length:Int) x30_3 a0_0 l0_1 a1_0 l1_1=some r)∧Aside0 (kq≤kj4)∧Aside0 (w'.heap[gb610]?=some (.cells #[.int .i64 a0_0,(.slice (some ad612) l0_1.length c0_1)] 26 (0,0)))∧Aside0 (w'.heap[gb611]?=some (.cells #[.int .i64 a1_0,(.slice A1_1 l1_1.length c1_1)] 26 (0,0)))∧Aside0 (Below w.heap.size w w'))
      case atStart=>exact ⟨(x5_1),(0),rd_,rd_,H',⟨Nat.le_refl _⟩,⟨bk BK610⟩,⟨bk BK611⟩,⟨be⟩⟩
      case round=>
       clear H'
       try clear c13b0
       try clear c14b0
       try clear hcz16_0
       try clear hcz16_1
       try clear hfz16_0
       try clear hfz16_1
       try clear hx612_0
       try clear p612
       try clear q612
       obtain ⟨x5_3,x30_3,rfl,rfl,HA,HK3,BK610,BK611,HB⟩:=hrel
       cases gk with
       | zero=>exact absurd HA.out (by simp [impl_Moved.l1])
       | succ k3=>
        have H:=HA.out
        clear HA
        simp only [impl_Moved.l1] at H
        by_cases c17:x30_3 < (((rd_T35 l0_1 x6_1).f0).length:Int)
        ·rw [if_pos c17] at H
         have c17b0:decide (x30_3 < (((rd_T35 l0_1 x6_1).f0).length:Int))=true:=decide_eq_true c17
         clear c17
         obtain ⟨c18,H⟩:=ifs H
         have c18b0:decide (0≤x30_3)=true:=decide_eq_true c18
         clear c18
         obtain ⟨c19,H⟩:=ifs H
         have c19b0:decide (x30_3 < (((rd_T35 l0_1 x6_1).f0).length:Int))=true:=decide_eq_true c19
         clear c19
         obtain ⟨c20,H⟩:=ifs H
         have c20b0:decide (0≤x6_1)=true:=decide_eq_true c20
         clear c20
         obtain ⟨c21,H⟩:=ifs H
         have c21b0:decide (x6_1 < (l1_1.length:Int))=true:=decide_eq_true c21
         clear c21
         replace H:=Option.bind_eq_some_iff.mp H
         obtain ⟨t615,A220,H⟩:=H
         try dsimp only at H
         have A22:=aM A220
         clear A220
         by_cases c23:t615=true
         ·subst c23
          rw [if_pos rfl] at H
          have H':=Aside0.mk H
          clear H
          have p613:0≤(x30_3:Int):=od
          have q613:x30_3 < (((rd_T35 l0_1 x6_1).f0).length:Int):=od
          obtain ⟨ad613,e613,hx613_0⟩:=Kd.at_int HR612_0.out x30_3 p613 q613
          cases e613
          replace hx613_0:=xH HB hx613_0
          replace p613:=eq_true p613
          replace q613:=eq_true q613
          have hnb24:=NB611_610.out
          have hnc24:=NB610_611.out
          obtain ⟨hcz25_0,hcz25_1,hfz25_0,hfz25_1⟩:=b2 BK611
          have p614:0≤(x6_1:Int):=od
          have q614:x6_1 < (l1_1.length:Int):=od
          obtain ⟨ad614,A614_0,c614_0,e614,hx614_0,hl614_0,hi614_0⟩:=at_T35 HR1_1.out x6_1 p614 q614
          cases e614
          replace hx614_0:=xH HB hx614_0
          have HR614_0:=aM hi614_0
          have HC614_0:=aM hl614_0
          clear hi614_0 hl614_0
          replace p614:=eq_true p614
          replace q614:=eq_true q614
          go_wp2_with ((with_reducible refine gate_callee (f:=52) rfl ?_);refine goesL_ (some 41) rfl rfl Try.func52 (by kernel_rfl) rfl #[.slice A614_0 ((rd_T35 l1_1 x6_1).f0).length c614_0,.int .i64 (rd ((rd_T35 l0_1 x6_1).f0) x30_3)] rfl (by (try simp only [List.map_toArray,List.map_cons,List.map_nil]);rfl) ?_;(with_reducible refine (impl_hasInt.calls k3 _ _ ((rd_T35 l1_1 x6_1).f0) (rd ((rd_T35 l0_1 x6_1).f0) x30_3) true _ ?side1 ?side2 A22.out).mono ?_);(case side1=>exact rC HR614_0);(case side2=>exact HC614_0.out);rintro e w' ⟨rfl,⟨nd,rfl⟩⟩;refine ⟨_,rfl,?_⟩)
          go_roundg k3
          case measure=>have:=HK1.out;have:=HJ4.out;have:=HK3.out;omega
          case rel=>exact ⟨(x5_3),(wrap64 (x30_3+1)),rd_,rd_,H',⟨by have:=HK1.out;have:=HJ4.out;have:=HK3.out;omega⟩,⟨bk BK610⟩,⟨bk BK611⟩,⟨be⟩⟩
         ·replace c23:=Bool.eq_false_iff.mpr c23
          subst c23
          replace H:=(if_neg (show ¬ (false=true) by decide)).symm.trans H
          have H':=Aside0.mk H
          clear H
          have p613:0≤(x30_3:Int):=od
          have q613:x30_3 < (((rd_T35 l0_1 x6_1).f0).length:Int):=od
          obtain ⟨ad613,e613,hx613_0⟩:=Kd.at_int HR612_0.out x30_3 p613 q613
          cases e613
          replace hx613_0:=xH HB hx613_0
          replace p613:=eq_true p613
          replace q613:=eq_true q613
          have hnb26:=NB611_610.out
          have hnc26:=NB610_611.out
          obtain ⟨hcz27_0,hcz27_1,hfz27_0,hfz27_1⟩:=b2 BK611
          have p614:0≤(x6_1:Int):=od
          have q614:x6_1 < (l1_1.length:Int):=od
          obtain ⟨ad614,A614_0,c614_0,e614,hx614_0,hl614_0,hi614_0⟩:=at_T35 HR1_1.out x6_1 p614 q614
          cases e614
          replace hx614_0:=xH HB hx614_0
          have HR614_0:=aM hi614_0
          have HC614_0:=aM hl614_0
          clear hi614_0 hl614_0
          replace p614:=eq_true p614
          replace q614:=eq_true q614
          go_wp2_with ((with_reducible refine gate_callee (f:=52) rfl ?_);refine goesL_ (some 41) rfl rfl Try.func52 (by kernel_rfl) rfl #[.slice A614_0 ((rd_T35 l1_1 x6_1).f0).length c614_0,.int .i64 (rd ((rd_T35 l0_1 x6_1).f0) x30_3)] rfl (by (try simp only [List.map_toArray,List.map_cons,List.map_nil]);rfl) ?_;(with_reducible refine (impl_hasInt.calls k3 _ _ ((rd_T35 l1_1 x6_1).f0) (rd ((rd_T35 l0_1 x6_1).f0) x30_3) false _ ?side1 ?side2 A22.out).mono ?_);(case side1=>exact rC HR614_0);(case side2=>exact HC614_0.out);rintro e w' ⟨rfl,⟨nd,rfl⟩⟩;refine ⟨_,rfl,?_⟩)
          go_roundg k3
          case measure=>have:=HK1.out;have:=HJ4.out;have:=HK3.out;omega
          case rel=>exact ⟨(wrap64 (x5_3+1)),(wrap64 (x30_3+1)),rd_,rd_,H',⟨by have:=HK1.out;have:=HJ4.out;have:=HK3.out;omega⟩,⟨bk BK610⟩,⟨bk BK611⟩,⟨be⟩⟩
        ·rw [if_neg c17] at H
         have c17b0:decide (x30_3 < (((rd_T35 l0_1 x6_1).f0).length:Int))=false:=decide_eq_false c17
         clear c17
         have H':=Aside0.mk H
         clear H
         go_wp2
         go_roundg k3
         case measure=>have:=HK1.out;have:=HJ4.out;have:=HK3.out;omega
         case rel=>exact ⟨(x5_3),(wrap64 (x6_1+1)),rd_,rd_,H',⟨by have:=HK1.out;have:=HJ4.out;have:=HK3.out;omega⟩,⟨bk BK610⟩,⟨bk BK611⟩,⟨be⟩⟩
     ·replace c12:=Bool.eq_false_iff.mpr c12
      subst c12
      replace H:=(if_neg (show ¬ (false=true) by decide)).symm.trans H
      obtain rfl:=Option.some.inj H
      go_wp2
      go_ret
      exact ⟨rz,be⟩
def laws_has.l0:Nat→List Int→Int→Int→Option (Bool)
 | 0,_,_,_=>none
 | k+1,x0,x1,x5=>if x5 < (x0.length:Int) then (if 0≤x5 then (if (rd x0 x5)=x1 then (some true) else (laws_has.l0 k x0 x1 (wrap64 (x5+1)))) else (none)) else (some false)
def laws_has.f (k:Nat) (l0:List Int) (a1:Int):Option (Bool):=laws_has.l0 k l0 a1 0
set_option maxHeartbeats 8000000 in
set_option maxRecDepth 100000 in
theorem laws_has.calls (k:Nat) (A0:Option Addr) (c0:Nat) (l0:List Int) (a1:Int) (r:Bool) (w:World) (hr0:Kd.C (Kd.int .i64) w A0 l0.length l0) (hc0:l0.length≤c0) (h:laws_has.f k l0 a1=some r) :
  Calls Try.prog 13 #[.slice A0 l0.length c0,.int .i64 a1] w fun e w'=>e = .returned (.bool r)∧Drawn0 w w':=by
 have HR0:=aM hr0
 have HC0:=aM hc0
 clear hr0 hc0
 have H:(laws_has.l0 k l0 a1 0)=some r:=h
 clear h
 have H':=Aside0.mk H
 clear H
 go_enter Try.func13,Try.ntmps13
 go_wp2
 go_loopg [5] k (fun kq v5 w'=>∃ (x5_1:Int),v5 = .int .i64 x5_1∧Aside0 (laws_has.l0 kq l0 a1 x5_1=some r)∧Aside0 (kq≤k)∧Drawn0 w w')
 case atStart=>exact ⟨(0),rd_,H',⟨Nat.le_refl _⟩,by repeat (exact Drawn0.refl _)⟩
 case round=>
  clear H'
  obtain ⟨x5_1,rfl,HA,HK1,⟨m1,rfl⟩⟩:=hrel
  cases gk with
  | zero=>exact absurd HA.out (by simp [laws_has.l0])
  | succ k1=>
   have H:=HA.out
   clear HA
   simp only [laws_has.l0] at H
   by_cases c3:x5_1 < (l0.length:Int)
   ·rw [if_pos c3] at H
    have c3b0:decide (x5_1 < (l0.length:Int))=true:=decide_eq_true c3
    clear c3
    obtain ⟨c4,H⟩:=ifs H
    have c4b0:decide (0≤x5_1)=true:=decide_eq_true c4
    clear c4
    by_cases c5:(rd l0 x5_1)=a1
    ·rw [if_pos c5] at H
     have c5b0:((rd l0 x5_1) == a1)=true:=beq_iff_eq.mpr c5
     have c5b1:((rd l0 x5_1) != a1)=false:=bne_eq_false_iff_eq.mpr c5
     clear c5
     obtain rfl:=Option.some.inj H
     have p616:0≤(x5_1:Int):=od
     have q616:x5_1 < (l0.length:Int):=od
     obtain ⟨ad616,e616,hx616_0⟩:=Kd.at_int HR0.out x5_1 p616 q616
     cases e616
     replace p616:=eq_true p616
     replace q616:=eq_true q616
     go_wp2
     go_ret
     exact ⟨by rfl,by repeat (first|exact Drawn0.refl _|apply Drawn0.step)⟩
    ·rw [if_neg c5] at H
     have c5b0:((rd l0 x5_1) == a1)=false:=beq_eq_false_iff_ne.mpr c5
     have c5b1:((rd l0 x5_1) != a1)=true:=bne_iff_ne.mpr c5
     have H':=Aside0.mk H
     clear H
     have p616:0≤(x5_1:Int):=od
     have q616:x5_1 < (l0.length:Int):=od
     obtain ⟨ad616,e616,hx616_0⟩:=Kd.at_int HR0.out x5_1 p616 q616
     cases e616
     replace p616:=eq_true p616
     replace q616:=eq_true q616
     go_wp2
     go_roundg k1
     case measure=>have:=HK1.out;omega
     case rel=>exact ⟨(wrap64 (x5_1+1)),rd_,H',⟨by have:=HK1.out;omega⟩,by repeat (first|exact Drawn0.refl _|apply Drawn0.step)⟩
   ·rw [if_neg c3] at H
    have c3b0:decide (x5_1 < (l0.length:Int))=false:=decide_eq_false c3
    clear c3
    obtain rfl:=Option.some.inj H
    go_wp2
    go_ret
    exact ⟨by rfl,by repeat (first|exact Drawn0.refl _|apply Drawn0.step)⟩
end Go.Proofs.Ytpbjbfimnfghkaa.PFnRebalanced
