/- Trimmed by a program of this session (trim.py). Not trusted: Lean checks it. -/
import Derived.Test.YtpbjbfimnfghkaaTXRebalancePFnExactRebalancex0
namespace Go.Proofs.Ytpbjbfimnfghkaa.PFnExactRebalance
open Go.RowKit Go.Proofs.YtpbjbfimnfghkaaW.PrintWords Go.Proofs.YtpbjbfimnfghkaaW.PrintLast Go.Proofs.YtpbjbfimnfghkaaW.PrintMore Go.Proofs.Ytpbjbfimnfghkaa.St
attribute [local go_sem] max2_int min2_int max_two min_two max_three min_three max_four min_four
set_option linter.unusedVariables false
set_option linter.unusedSimpArgs false
def laws_eqIntS.l0:Nat→List Int→List Int→Int→Option (Bool)
 | 0,_,_,_=>none
 | k+1,x0,x1,x5=>if x5 < (x0.length:Int) then (if 0≤x5 then (if x5 < (x1.length:Int) then (if (rd x0 x5)=(rd x1 x5) then (laws_eqIntS.l0 k x0 x1 (wrap64 (x5+1))) else (some false)) else (none)) else (none)) else (some true)
def laws_eqIntS.f (k:Nat) (l0:List Int) (l1:List Int):Option (Bool):=if (l0.length:Int)=(l1.length:Int) then (laws_eqIntS.l0 k l0 l1 0) else (some false)
set_option maxHeartbeats 8000000 in
set_option maxRecDepth 100000 in
theorem laws_eqIntS.calls (k:Nat) (A0:Option Addr) (c0:Nat) (l0:List Int) (A1:Option Addr) (c1:Nat) (l1:List Int) (r:Bool) (w:World) (hr0:Kd.C (Kd.int .i64) w A0 l0.length l0) (hc0:l0.length≤c0) (hr1:Kd.C (Kd.int .i64) w A1 l1.length l1) (hc1:l1.length≤c1) (h:laws_eqIntS.f k l0 l1=some r) :
  Calls Try.prog 27 #[.slice A0 l0.length c0,.slice A1 l1.length c1] w fun e w'=>e = .returned (.bool r)∧Drawn0 w w':=by
 have HR0:=aM hr0
 have HC0:=aM hc0
 clear hr0 hc0
 have HR1:=aM hr1
 have HC1:=aM hc1
 clear hr1 hc1
 have H:(if (l0.length:Int)=(l1.length:Int) then (laws_eqIntS.l0 k l0 l1 0) else (some false))=some r:=h
 clear h
 by_cases c3:(l0.length:Int)=(l1.length:Int)
 ·rw [if_pos c3] at H
  have c3b0:((l0.length:Int) == (l1.length:Int))=true:=beq_iff_eq.mpr c3
  have c3b1:((l0.length:Int) != (l1.length:Int))=false:=bne_eq_false_iff_eq.mpr c3
  have c3b2:(l0.length == l1.length)=true:=by first|simpa using c3|(simp at c3 ⊢;omega)
  clear c3
  have H':=Aside0.mk H
  clear H
  go_enter Try.func27,Try.ntmps27
  go_wp2
  repeat (go_quiet (fail);try go_wp2)
  go_loopg [5] k (fun kq v5 w'=>∃ (x5_1:Int),v5 = .int .i64 x5_1∧Aside0 (laws_eqIntS.l0 kq l0 l1 x5_1=some r)∧Aside0 (kq≤k)∧Drawn0 w w')
  case atStart=>exact ⟨(0),rd_,H',⟨Nat.le_refl _⟩,by repeat (exact Drawn0.refl _)⟩
  case round=>
   clear H'
   try clear c3b0
   try clear c3b1
   try clear c3b2
   obtain ⟨x5_1,rfl,HA,HK1,⟨m1,rfl⟩⟩:=hrel
   cases gk with
   | zero=>exact absurd HA.out (by simp [laws_eqIntS.l0])
   | succ k1=>
    have H:=HA.out
    clear HA
    simp only [laws_eqIntS.l0] at H
    by_cases c4:x5_1 < (l0.length:Int)
    ·rw [if_pos c4] at H
     have c4b0:decide (x5_1 < (l0.length:Int))=true:=decide_eq_true c4
     clear c4
     by_cases c5:0≤x5_1
     ·rw [if_pos c5] at H
      have c5b0:decide (0≤x5_1)=true:=decide_eq_true c5
      clear c5
      by_cases c6:x5_1 < (l1.length:Int)
      ·rw [if_pos c6] at H
       have c6b0:decide (x5_1 < (l1.length:Int))=true:=decide_eq_true c6
       clear c6
       by_cases c7:(rd l0 x5_1)=(rd l1 x5_1)
       ·rw [if_pos c7] at H
        have c7b0:((rd l0 x5_1) == (rd l1 x5_1))=true:=beq_iff_eq.mpr c7
        have c7b1:((rd l0 x5_1) != (rd l1 x5_1))=false:=bne_eq_false_iff_eq.mpr c7
        clear c7
        have H':=Aside0.mk H
        clear H
        have p393:0≤(x5_1:Int):=of_decide_eq_true (by first|(with_reducible assumption)|assumption)
        have q393:x5_1 < (l0.length:Int):=of_decide_eq_true (by first|(with_reducible assumption)|assumption)
        obtain ⟨ad393,e393,hx393_0⟩:=Kd.at_int HR0.out x5_1 p393 q393
        cases e393
        replace p393:=eq_true p393
        replace q393:=eq_true q393
        have p394:0≤(x5_1:Int):=of_decide_eq_true (by first|(with_reducible assumption)|assumption)
        have q394:x5_1 < (l1.length:Int):=of_decide_eq_true (by first|(with_reducible assumption)|assumption)
        obtain ⟨ad394,e394,hx394_0⟩:=Kd.at_int HR1.out x5_1 p394 q394
        cases e394
        replace p394:=eq_true p394
        replace q394:=eq_true q394
        go_wp2
        repeat (go_quiet (fail);try go_wp2)
        go_roundg k1
        case measure=>have:=HK1.out;omega
        case rel=>exact ⟨(wrap64 (x5_1+1)),rd_,H',⟨by have:=HK1.out;omega⟩,by repeat (first|exact Drawn0.refl _|apply Drawn0.step)⟩
       ·rw [if_neg c7] at H
        have c7b0:((rd l0 x5_1) == (rd l1 x5_1))=false:=beq_eq_false_iff_ne.mpr c7
        have c7b1:((rd l0 x5_1) != (rd l1 x5_1))=true:=bne_iff_ne.mpr c7
        obtain rfl:=Option.some.inj H
        have p393:0≤(x5_1:Int):=of_decide_eq_true (by first|(with_reducible assumption)|assumption)
        have q393:x5_1 < (l0.length:Int):=of_decide_eq_true (by first|(with_reducible assumption)|assumption)
        obtain ⟨ad393,e393,hx393_0⟩:=Kd.at_int HR0.out x5_1 p393 q393
        cases e393
        replace p393:=eq_true p393
        replace q393:=eq_true q393
        have p394:0≤(x5_1:Int):=of_decide_eq_true (by first|(with_reducible assumption)|assumption)
        have q394:x5_1 < (l1.length:Int):=of_decide_eq_true (by first|(with_reducible assumption)|assumption)
        obtain ⟨ad394,e394,hx394_0⟩:=Kd.at_int HR1.out x5_1 p394 q394
        cases e394
        replace p394:=eq_true p394
        replace q394:=eq_true q394
        go_wp2
        repeat (go_quiet (fail);try go_wp2)
        go_ret
        exact ⟨by first|rfl|(simp;done)|(simp [*];done),by repeat (first|exact Drawn0.refl _|apply Drawn0.step)⟩
      ·rw [if_neg c6] at H
       exact absurd H (by simp)
     ·rw [if_neg c5] at H
      exact absurd H (by simp)
    ·rw [if_neg c4] at H
     have c4b0:decide (x5_1 < (l0.length:Int))=false:=decide_eq_false c4
     clear c4
     obtain rfl:=Option.some.inj H
     go_wp2
     repeat (go_quiet (fail);try go_wp2)
     go_ret
     exact ⟨by first|rfl|(simp;done)|(simp [*];done),by repeat (first|exact Drawn0.refl _|apply Drawn0.step)⟩
 ·rw [if_neg c3] at H
  have c3b0:((l0.length:Int) == (l1.length:Int))=false:=beq_eq_false_iff_ne.mpr c3
  have c3b1:((l0.length:Int) != (l1.length:Int))=true:=bne_iff_ne.mpr c3
  have c3b2:(l0.length == l1.length)=false:=by first|simpa using c3|(simp at c3 ⊢;omega)
  obtain rfl:=Option.some.inj H
  go_enter Try.func27,Try.ntmps27
  go_wp2
  repeat (go_quiet (fail);try go_wp2)
  go_ret
  exact ⟨by first|rfl|(simp;done)|(simp [*];done),by repeat (exact Drawn0.refl _)⟩
def laws_eqPart.f (k:Nat) (l0_0:List Int) (l1_0:List Int):Option (Bool):=(laws_eqIntS.f k l0_0 l1_0).bind fun t397=>(if t397=true then (some true) else (some false))
set_option maxHeartbeats 8000000 in
set_option maxRecDepth 100000 in
theorem laws_eqPart.calls (k:Nat) (A0_0:Option Addr) (c0_0:Nat) (l0_0:List Int) (A1_0:Option Addr) (c1_0:Nat) (l1_0:List Int) (r:Bool) (w:World) (hr0_0:Kd.C (Kd.int .i64) w A0_0 l0_0.length l0_0) (hc0_0:l0_0.length≤c0_0) (hr1_0:Kd.C (Kd.int .i64) w A1_0 l1_0.length l1_0) (hc1_0:l1_0.length≤c1_0) (h:laws_eqPart.f k l0_0 l1_0=some r) :
  Calls Try.prog 79 #[.agg #[.slice A0_0 l0_0.length c0_0],.agg #[.slice A1_0 l1_0.length c1_0]] w fun e w'=>e = .returned (.bool r)∧Below w.heap.size w w':=by
 have hu35:=Try.underlying35
 have HR0_0:=aM hr0_0
 have HC0_0:=aM hc0_0
 clear hr0_0 hc0_0
 have HR1_0:=aM hr1_0
 have HC1_0:=aM hc1_0
 clear hr1_0 hc1_0
 have HB:=aM (Below.refl w.heap.size w)
 have H:((laws_eqIntS.f k l0_0 l1_0).bind fun t397=>(if t397=true then (some true) else (some false)))=some r:=h
 clear h
 replace H:=Option.bind_eq_some_iff.mp H
 obtain ⟨t397,A30,H⟩:=H
 try dsimp only at H
 have A3:=aM A30
 clear A30
 by_cases c4:t397=true
 ·subst c4
  rw [if_pos rfl] at H
  obtain rfl:=Option.some.inj H
  go_enter Try.func79,Try.ntmps79
  go_wp2_with (first|((with_reducible refine gate_dst (N:=2) rfl ?_);refine box_event ?hg (N:=2) ?hd (cs:=#[.slice A0_0 l0_0.length c0_0]) (t:=35) ?hr ?_;(case hd=>rfl);(case hg=>rfl);(case hr=>first|(go_simp;done)|(go_simp;rfl));intro gb395 hg w5 hbox hb;have BK395:=aM (hbox);have GW395:=gS w hg;have GE395:=gS w hg;replace HB:=bs hb;clear hb hbox hg)|((with_reducible refine gate_dst (N:=3) rfl ?_);refine box_event ?hg (N:=3) ?hd (cs:=#[.slice A1_0 l1_0.length c1_0]) (t:=35) ?hr ?_;(case hd=>rfl);(case hg=>rfl);(case hr=>first|(go_simp;done)|(go_simp;rfl));intro gb396 hg w6 hbox hb;have BK396:=aM (hbox);have GW396:=gS w hg;have GE396:=gS w hg;replace HB:=bs hb;have NB395_396:=nL hg BK395;have NB396_395:=nG hg BK395;replace BK395:=bB BK395 hb;clear hb hbox hg;have hnb7:=NB395_396.out;have hnc7:=NB396_395.out;have hcz8_0:w6.cell? ⟨gb395,0,none⟩=some (.slice A0_0 l0_0.length c0_0):=(blk_cell BK395.out 0).trans rfl;have hfz8_0:=blk_frozen BK395.out 0;have hcz9_0:w6.cell? ⟨gb396,0,none⟩=some (.slice A1_0 l1_0.length c1_0):=(blk_cell BK396.out 0).trans rfl;have hfz9_0:=blk_frozen BK396.out 0)|((with_reducible refine gate_callee (f:=27) rfl ?_);refine goesL_ (some 9) rfl rfl Try.func27 (by kernel_rfl) rfl #[.slice A0_0 l0_0.length c0_0,.slice A1_0 l1_0.length c1_0] rfl (by (try simp only [List.map_toArray,List.map_cons,List.map_nil]);first|done|rfl|(simp only [List.length_drop,List.length_take];rfl)) ?_;(with_reducible refine (laws_eqIntS.calls k _ _ l0_0 _ _ l1_0 true _ ?side1 ?side2 ?side3 ?side4 A3.out).mono ?_);(case side1=>exact rC HR0_0);(case side2=>exact HC0_0.out);(case side3=>exact rC HR1_0);(case side4=>exact HC1_0.out);rintro e w' ⟨rfl,⟨nd,rfl⟩⟩;refine ⟨_,rfl,?_⟩))
  go_ret
  exact ⟨rz,be⟩
 ·replace c4:=Bool.eq_false_iff.mpr c4
  subst c4
  replace H:=(if_neg (show ¬ (false=true) by decide)).symm.trans H
  obtain rfl:=Option.some.inj H
  go_enter Try.func79,Try.ntmps79
  go_wp2_with (first|((with_reducible refine gate_dst (N:=2) rfl ?_);refine box_event ?hg (N:=2) ?hd (cs:=#[.slice A0_0 l0_0.length c0_0]) (t:=35) ?hr ?_;(case hd=>rfl);(case hg=>rfl);(case hr=>first|(go_simp;done)|(go_simp;rfl));intro gb395 hg w10 hbox hb;have BK395:=aM (hbox);have GW395:=gS w hg;have GE395:=gS w hg;replace HB:=bs hb;clear hb hbox hg)|((with_reducible refine gate_dst (N:=3) rfl ?_);refine box_event ?hg (N:=3) ?hd (cs:=#[.slice A1_0 l1_0.length c1_0]) (t:=35) ?hr ?_;(case hd=>rfl);(case hg=>rfl);(case hr=>first|(go_simp;done)|(go_simp;rfl));intro gb396 hg w11 hbox hb;have BK396:=aM (hbox);have GW396:=gS w hg;have GE396:=gS w hg;replace HB:=bs hb;have NB395_396:=nL hg BK395;have NB396_395:=nG hg BK395;replace BK395:=bB BK395 hb;clear hb hbox hg;have hnb12:=NB395_396.out;have hnc12:=NB396_395.out;have hcz13_0:w11.cell? ⟨gb395,0,none⟩=some (.slice A0_0 l0_0.length c0_0):=(blk_cell BK395.out 0).trans rfl;have hfz13_0:=blk_frozen BK395.out 0;have hcz14_0:w11.cell? ⟨gb396,0,none⟩=some (.slice A1_0 l1_0.length c1_0):=(blk_cell BK396.out 0).trans rfl;have hfz14_0:=blk_frozen BK396.out 0)|((with_reducible refine gate_callee (f:=27) rfl ?_);refine goesL_ (some 9) rfl rfl Try.func27 (by kernel_rfl) rfl #[.slice A0_0 l0_0.length c0_0,.slice A1_0 l1_0.length c1_0] rfl (by (try simp only [List.map_toArray,List.map_cons,List.map_nil]);first|done|rfl|(simp only [List.length_drop,List.length_take];rfl)) ?_;(with_reducible refine (laws_eqIntS.calls k _ _ l0_0 _ _ l1_0 false _ ?side1 ?side2 ?side3 ?side4 A3.out).mono ?_);(case side1=>exact rC HR0_0);(case side2=>exact HC0_0.out);(case side3=>exact rC HR1_0);(case side4=>exact HC1_0.out);rintro e w' ⟨rfl,⟨nd,rfl⟩⟩;refine ⟨_,rfl,?_⟩))
  go_ret
  exact ⟨rz,be⟩
def laws_eqPartS.l0:Nat→List (S35)→List (S35)→Int→Option (Bool)
 | 0,_,_,_=>none
 | k+1,x0,x1,x5=>if x5 < (x0.length:Int) then (if 0≤x5 then (if x5 < (x1.length:Int) then ((laws_eqPart.f k ((rd_T35 x0 x5).f0) ((rd_T35 x1 x5).f0)).bind fun t400=>(if t400=true then (laws_eqPartS.l0 k x0 x1 (wrap64 (x5+1))) else (some false))) else (none)) else (none)) else (some true)
def laws_eqPartS.f (k:Nat) (l0:List (S35)) (l1:List (S35)):Option (Bool):=if (l0.length:Int)=(l1.length:Int) then (laws_eqPartS.l0 k l0 l1 0) else (some false)
def laws_eqPartS.T6:Bool × List (List Nat × List Nat):=(true,[([],[]),([],[]),([0,1],[0,1]),([2],[2]),([],[]),([],[]),([4,5],[4,5]),([6],[6]),([3,7],[3,7]),([8],[8])])
def laws_eqPartS.B6:List Nat:=[0,0,3,7,0,0,48,112,255,511]
theorem laws_eqPartS.tab6:rtab .any (opsOf Try.f64 6)=laws_eqPartS.T6:=by kernel_rfl
theorem laws_eqPartS.bits6:waitsOk laws_eqPartS.T6.2 laws_eqPartS.B6=true:=by kernel_rfl
set_option maxHeartbeats 8000000 in
set_option maxRecDepth 100000 in
theorem laws_eqPartS.calls (k:Nat) (A0:Option Addr) (c0:Nat) (l0:List (S35)) (A1:Option Addr) (c1:Nat) (l1:List (S35)) (r:Bool) (w:World) (hr0:Kd.C k35 w A0 l0.length l0) (hc0:l0.length≤c0) (hr1:Kd.C k35 w A1 l1.length l1) (hc1:l1.length≤c1) (h:laws_eqPartS.f k l0 l1=some r) :
  Calls Try.prog 64 #[.slice A0 l0.length c0,.slice A1 l1.length c1] w fun e w'=>e = .returned (.bool r)∧Below w.heap.size w w':=by
 have hu35:=Try.underlying35
 have HR0:=aM hr0
 have HC0:=aM hc0
 clear hr0 hc0
 have HR1:=aM hr1
 have HC1:=aM hc1
 clear hr1 hc1
 have HB:=aM (Below.refl w.heap.size w)
 have H:(if (l0.length:Int)=(l1.length:Int) then (laws_eqPartS.l0 k l0 l1 0) else (some false))=some r:=h
 clear h
 by_cases c3:(l0.length:Int)=(l1.length:Int)
 ·rw [if_pos c3] at H
  have c3b0:((l0.length:Int) == (l1.length:Int))=true:=beq_iff_eq.mpr c3
  have c3b1:((l0.length:Int) != (l1.length:Int))=false:=bne_eq_false_iff_eq.mpr c3
  have c3b2:(l0.length == l1.length)=true:=by first|simpa using c3|(simp at c3 ⊢;omega)
  clear c3
  have H':=Aside0.mk H
  clear H
  go_enter Try.func64,Try.ntmps64
  go_wp2
  go_loopg [5] k (fun kq v5 w'=>∃ (x5_1:Int),v5 = .int .i64 x5_1∧Aside0 (laws_eqPartS.l0 kq l0 l1 x5_1=some r)∧Aside0 (kq≤k)∧Aside0 (Below w.heap.size w w'))
  case atStart=>exact ⟨(0),rd_,H',⟨Nat.le_refl _⟩,⟨be⟩⟩
  case round=>
   clear H'
   try clear c3b0
   try clear c3b1
   try clear c3b2
   obtain ⟨x5_1,rfl,HA,HK1,HB⟩:=hrel
   cases gk with
   | zero=>exact absurd HA.out (by simp [laws_eqPartS.l0])
   | succ k1=>
    have H:=HA.out
    clear HA
    simp only [laws_eqPartS.l0] at H
    by_cases c4:x5_1 < (l0.length:Int)
    ·rw [if_pos c4] at H
     have c4b0:decide (x5_1 < (l0.length:Int))=true:=decide_eq_true c4
     clear c4
     by_cases c5:0≤x5_1
     ·rw [if_pos c5] at H
      have c5b0:decide (0≤x5_1)=true:=decide_eq_true c5
      clear c5
      by_cases c6:x5_1 < (l1.length:Int)
      ·rw [if_pos c6] at H
       have c6b0:decide (x5_1 < (l1.length:Int))=true:=decide_eq_true c6
       clear c6
       replace H:=Option.bind_eq_some_iff.mp H
       obtain ⟨t400,A70,H⟩:=H
       try dsimp only at H
       have A7:=aM A70
       clear A70
       by_cases c8:t400=true
       ·subst c8
        rw [if_pos rfl] at H
        have H':=Aside0.mk H
        clear H
        try go_wp2
        replace HB:=aM (below_drew1 HB.out)
        have p398:0≤(x5_1:Int):=of_decide_eq_true (by first|(with_reducible assumption)|assumption)
        have q398:x5_1 < (l0.length:Int):=of_decide_eq_true (by first|(with_reducible assumption)|assumption)
        obtain ⟨ad398,A398_0,c398_0,e398,hx398_0,hl398_0,hi398_0⟩:=at_T35 HR0.out x5_1 p398 q398
        have hw398_0:=hx398_0
        cases e398
        replace hx398_0:=(HB.out.cell (World.block_lt_of_cell? w _ hx398_0)).trans hx398_0
        have HR398_0:=aM hi398_0
        have HC398_0:=aM hl398_0
        clear hi398_0 hl398_0
        replace p398:=eq_true p398
        replace q398:=eq_true q398
        have p399:0≤(x5_1:Int):=of_decide_eq_true (by first|(with_reducible assumption)|assumption)
        have q399:x5_1 < (l1.length:Int):=of_decide_eq_true (by first|(with_reducible assumption)|assumption)
        obtain ⟨ad399,A399_0,c399_0,e399,hx399_0,hl399_0,hi399_0⟩:=at_T35 HR1.out x5_1 p399 q399
        have hw399_0:=hx399_0
        cases e399
        replace hx399_0:=(HB.out.cell (World.block_lt_of_cell? w _ hx399_0)).trans hx399_0
        have HR399_0:=aM hi399_0
        have HC399_0:=aM hl399_0
        clear hi399_0 hl399_0
        replace p399:=eq_true p399
        replace q399:=eq_true q399
        refine start_ (n:=10) (S:=fun w'=>w'.cell? (ad398.add (x5_1).toNat)=some (.slice A398_0 ((rd_T35 l0 x5_1).f0).length c398_0)∧w'.cell? (ad399.add (x5_1).toNat)=some (.slice A399_0 ((rd_T35 l1 x5_1).f0).length c399_0)) (ds:=[]) (fl 10 0) (by kernel_rfl) rfl rfl ⟨((HB.out.cell (World.block_lt_of_cell? w _ hw398_0)).trans hw398_0),((HB.out.cell (World.block_lt_of_cell? w _ hw399_0)).trans hw399_0)⟩ (fun hHeld=>?_);refine with_tabW laws_eqPartS.tab6 laws_eqPartS.bits6 (fun HT_ HW_=>?_)
        generalize wr.drew=w9 at HB HR398_0 HR399_0 hx398_0 hx399_0 hHeld ⊢
        refine pt 0 17 (fl 10 1) HT_ ?_
        refine pt 1 18 (fl 10 3) HT_ ?_
        refine pt 2 19 (fl 10 7) HT_ ?_
        refine pt 4 21 (fl 10 23) HT_ ?_
        refine pt 5 22 (fl 10 55) HT_ ?_
        refine pt 6 23 (fl 10 119) HT_ ?_
        refine tt 3 20 (fl 10 127) HT_ HW_ hHeld ?_
        refine tt 7 24 (fl 10 255) HT_ HW_ hHeld ?_
        refine ot 8 (some 25) (fl 10 511) HT_ (fun K hK=>?_)
        refine goes_ Try.func79 (by kernel_rfl) rfl #[.agg #[.slice A398_0 ((rd_T35 l0 x5_1).f0).length c398_0],.agg #[.slice A399_0 ((rd_T35 l1 x5_1).f0).length c399_0]] (by rfl) rfl rfl (by (try simp only [List.map_toArray,List.map_cons,List.map_nil]);first|done|rfl|(simp only [List.length_drop,List.length_take];rfl)) ?_
        with_reducible refine (laws_eqPart.calls k1 _ _ ((rd_T35 l0 x5_1).f0) _ _ ((rd_T35 l1 x5_1).f0) true _ ?side1 ?side2 ?side3 ?side4 A7.out).mono ?_
        (case side1=>exact rC HR398_0)
        (case side2=>exact HC398_0.out)
        (case side3=>exact rC HR399_0)
        (case side4=>exact HC399_0.out)
        rintro e w10 ⟨rfl,hb⟩
        refine ⟨_,rfl,?_⟩
        replace HB:=bs hb;(try clear hb);skip
        refine hK.out _ _ ⟨((HB.out.cell (World.block_lt_of_cell? w _ hw398_0)).trans hw398_0),((HB.out.cell (World.block_lt_of_cell? w _ hw399_0)).trans hw399_0)⟩ (fun hHeld=>?_)
        clear hK K
        refine no 25 ?_
        refine pt 9 26 (fl 10 1023) HT_ ?_
        refine done_ (done_of HT_.out (by kernel_rfl)) ?_
        try go_wp2
        go_roundg k1
        case measure=>have:=HK1.out;omega
        case rel=>exact ⟨(wrap64 (x5_1+1)),rd_,H',⟨by have:=HK1.out;omega⟩,⟨be⟩⟩
       ·replace c8:=Bool.eq_false_iff.mpr c8
        subst c8
        replace H:=(if_neg (show ¬ (false=true) by decide)).symm.trans H
        obtain rfl:=Option.some.inj H
        try go_wp2
        replace HB:=aM (below_drew1 HB.out)
        have p398:0≤(x5_1:Int):=of_decide_eq_true (by first|(with_reducible assumption)|assumption)
        have q398:x5_1 < (l0.length:Int):=of_decide_eq_true (by first|(with_reducible assumption)|assumption)
        obtain ⟨ad398,A398_0,c398_0,e398,hx398_0,hl398_0,hi398_0⟩:=at_T35 HR0.out x5_1 p398 q398
        have hw398_0:=hx398_0
        cases e398
        replace hx398_0:=(HB.out.cell (World.block_lt_of_cell? w _ hx398_0)).trans hx398_0
        have HR398_0:=aM hi398_0
        have HC398_0:=aM hl398_0
        clear hi398_0 hl398_0
        replace p398:=eq_true p398
        replace q398:=eq_true q398
        have p399:0≤(x5_1:Int):=of_decide_eq_true (by first|(with_reducible assumption)|assumption)
        have q399:x5_1 < (l1.length:Int):=of_decide_eq_true (by first|(with_reducible assumption)|assumption)
        obtain ⟨ad399,A399_0,c399_0,e399,hx399_0,hl399_0,hi399_0⟩:=at_T35 HR1.out x5_1 p399 q399
        have hw399_0:=hx399_0
        cases e399
        replace hx399_0:=(HB.out.cell (World.block_lt_of_cell? w _ hx399_0)).trans hx399_0
        have HR399_0:=aM hi399_0
        have HC399_0:=aM hl399_0
        clear hi399_0 hl399_0
        replace p399:=eq_true p399
        replace q399:=eq_true q399
        refine start_ (n:=10) (S:=fun w'=>w'.cell? (ad398.add (x5_1).toNat)=some (.slice A398_0 ((rd_T35 l0 x5_1).f0).length c398_0)∧w'.cell? (ad399.add (x5_1).toNat)=some (.slice A399_0 ((rd_T35 l1 x5_1).f0).length c399_0)) (ds:=[]) (fl 10 0) (by kernel_rfl) rfl rfl ⟨((HB.out.cell (World.block_lt_of_cell? w _ hw398_0)).trans hw398_0),((HB.out.cell (World.block_lt_of_cell? w _ hw399_0)).trans hw399_0)⟩ (fun hHeld=>?_);refine with_tabW laws_eqPartS.tab6 laws_eqPartS.bits6 (fun HT_ HW_=>?_)
        generalize wr.drew=w11 at HB HR398_0 HR399_0 hx398_0 hx399_0 hHeld ⊢
        refine pt 0 17 (fl 10 1) HT_ ?_
        refine pt 1 18 (fl 10 3) HT_ ?_
        refine pt 2 19 (fl 10 7) HT_ ?_
        refine pt 4 21 (fl 10 23) HT_ ?_
        refine pt 5 22 (fl 10 55) HT_ ?_
        refine pt 6 23 (fl 10 119) HT_ ?_
        refine tt 3 20 (fl 10 127) HT_ HW_ hHeld ?_
        refine tt 7 24 (fl 10 255) HT_ HW_ hHeld ?_
        refine ot 8 (some 25) (fl 10 511) HT_ (fun K hK=>?_)
        refine goes_ Try.func79 (by kernel_rfl) rfl #[.agg #[.slice A398_0 ((rd_T35 l0 x5_1).f0).length c398_0],.agg #[.slice A399_0 ((rd_T35 l1 x5_1).f0).length c399_0]] (by rfl) rfl rfl (by (try simp only [List.map_toArray,List.map_cons,List.map_nil]);first|done|rfl|(simp only [List.length_drop,List.length_take];rfl)) ?_
        with_reducible refine (laws_eqPart.calls k1 _ _ ((rd_T35 l0 x5_1).f0) _ _ ((rd_T35 l1 x5_1).f0) false _ ?side1 ?side2 ?side3 ?side4 A7.out).mono ?_
        (case side1=>exact rC HR398_0)
        (case side2=>exact HC398_0.out)
        (case side3=>exact rC HR399_0)
        (case side4=>exact HC399_0.out)
        rintro e w12 ⟨rfl,hb⟩
        refine ⟨_,rfl,?_⟩
        replace HB:=bs hb;(try clear hb);skip
        refine hK.out _ _ ⟨((HB.out.cell (World.block_lt_of_cell? w _ hw398_0)).trans hw398_0),((HB.out.cell (World.block_lt_of_cell? w _ hw399_0)).trans hw399_0)⟩ (fun hHeld=>?_)
        clear hK K
        refine no 25 ?_
        refine pt 9 26 (fl 10 1023) HT_ ?_
        refine done_ (done_of HT_.out (by kernel_rfl)) ?_
        try go_wp2
        go_ret
        exact ⟨rz,be⟩
      ·rw [if_neg c6] at H
       exact absurd H (by simp)
     ·rw [if_neg c5] at H
      exact absurd H (by simp)
    ·rw [if_neg c4] at H
     have c4b0:decide (x5_1 < (l0.length:Int))=false:=decide_eq_false c4
     clear c4
     obtain rfl:=Option.some.inj H
     go_wp2
     go_ret
     exact ⟨rz,be⟩
 ·rw [if_neg c3] at H
  have c3b0:((l0.length:Int) == (l1.length:Int))=false:=beq_eq_false_iff_ne.mpr c3
  have c3b1:((l0.length:Int) != (l1.length:Int))=true:=bne_iff_ne.mpr c3
  have c3b2:(l0.length == l1.length)=false:=by first|simpa using c3|(simp at c3 ⊢;omega)
  obtain rfl:=Option.some.inj H
  go_enter Try.func64,Try.ntmps64
  go_wp2
  go_ret
  exact ⟨rz,be⟩
def laws_eqRing.f (k:Nat) (a0_0:Int) (l0_1:List (S35)) (a1_0:Int) (l1_1:List (S35)):Option (Bool):=if a0_0=a1_0 then ((laws_eqPartS.f k l0_1 l1_1).bind fun t403=>(if t403=true then (some true) else (some false))) else (some false)
set_option maxHeartbeats 8000000 in
set_option maxRecDepth 100000 in
theorem laws_eqRing.calls (k:Nat) (a0_0:Int) (A0_1:Option Addr) (c0_1:Nat) (l0_1:List (S35)) (a1_0:Int) (A1_1:Option Addr) (c1_1:Nat) (l1_1:List (S35)) (r:Bool) (w:World) (hr0_1:Kd.C k35 w A0_1 l0_1.length l0_1) (hc0_1:l0_1.length≤c0_1) (hr1_1:Kd.C k35 w A1_1 l1_1.length l1_1) (hc1_1:l1_1.length≤c1_1) (h:laws_eqRing.f k a0_0 l0_1 a1_0 l1_1=some r) :
  Calls Try.prog 20 #[.agg #[.int .i64 a0_0,.slice A0_1 l0_1.length c0_1],.agg #[.int .i64 a1_0,.slice A1_1 l1_1.length c1_1]] w fun e w'=>e = .returned (.bool r)∧Below w.heap.size w w':=by
 have hu26:=Try.underlying26
 have HR0_1:=aM hr0_1
 have HC0_1:=aM hc0_1
 clear hr0_1 hc0_1
 have HR1_1:=aM hr1_1
 have HC1_1:=aM hc1_1
 clear hr1_1 hc1_1
 have HB:=aM (Below.refl w.heap.size w)
 have H:(if a0_0=a1_0 then ((laws_eqPartS.f k l0_1 l1_1).bind fun t403=>(if t403=true then (some true) else (some false))) else (some false))=some r:=h
 clear h
 by_cases c3:a0_0=a1_0
 ·rw [if_pos c3] at H
  have c3b0:(a0_0 == a1_0)=true:=beq_iff_eq.mpr c3
  have c3b1:(a0_0 != a1_0)=false:=bne_eq_false_iff_eq.mpr c3
  clear c3
  replace H:=Option.bind_eq_some_iff.mp H
  obtain ⟨t403,A40,H⟩:=H
  try dsimp only at H
  have A4:=aM A40
  clear A40
  by_cases c5:t403=true
  ·subst c5
   rw [if_pos rfl] at H
   obtain rfl:=Option.some.inj H
   go_enter Try.func20,Try.ntmps20
   go_wp2_with (first|((with_reducible refine gate_dst (N:=2) rfl ?_);refine box_event ?hg (N:=2) ?hd (cs:=#[.int .i64 a0_0,.slice A0_1 l0_1.length c0_1]) (t:=26) ?hr ?_;(case hd=>rfl);(case hg=>rfl);(case hr=>first|(go_simp;done)|(go_simp;rfl));intro gb401 hg w6 hbox hb;have BK401:=aM (hbox);have GW401:=gS w hg;have GE401:=gS w hg;replace HB:=bs hb;clear hb hbox hg)|((with_reducible refine gate_dst (N:=3) rfl ?_);refine box_event ?hg (N:=3) ?hd (cs:=#[.int .i64 a1_0,.slice A1_1 l1_1.length c1_1]) (t:=26) ?hr ?_;(case hd=>rfl);(case hg=>rfl);(case hr=>first|(go_simp;done)|(go_simp;rfl));intro gb402 hg w7 hbox hb;have BK402:=aM (hbox);have GW402:=gS w hg;have GE402:=gS w hg;replace HB:=bs hb;have NB401_402:=nL hg BK401;have NB402_401:=nG hg BK401;replace BK401:=bB BK401 hb;clear hb hbox hg;have hnb8:=NB401_402.out;have hnc8:=NB402_401.out;have hcz9_0:w7.cell? ⟨gb401,0,none⟩=some (.int .i64 a0_0):=(blk_cell BK401.out 0).trans rfl;have hcz9_1:w7.cell? ⟨gb401,1,none⟩=some (.slice A0_1 l0_1.length c0_1):=(blk_cell BK401.out 1).trans rfl;have hfz9_0:=blk_frozen BK401.out 0;have hfz9_1:=blk_frozen BK401.out 1;have hcz10_0:w7.cell? ⟨gb402,0,none⟩=some (.int .i64 a1_0):=(blk_cell BK402.out 0).trans rfl;have hcz10_1:w7.cell? ⟨gb402,1,none⟩=some (.slice A1_1 l1_1.length c1_1):=(blk_cell BK402.out 1).trans rfl;have hfz10_0:=blk_frozen BK402.out 0;have hfz10_1:=blk_frozen BK402.out 1)|((with_reducible refine gate_callee (f:=64) rfl ?_);refine goesL_ (some 14) rfl rfl Try.func64 (by kernel_rfl) rfl #[.slice A0_1 l0_1.length c0_1,.slice A1_1 l1_1.length c1_1] rfl (by (try simp only [List.map_toArray,List.map_cons,List.map_nil]);first|done|rfl|(simp only [List.length_drop,List.length_take];rfl)) ?_;(with_reducible refine (laws_eqPartS.calls k _ _ l0_1 _ _ l1_1 true _ ?side1 ?side2 ?side3 ?side4 A4.out).mono ?_);(case side1=>exact rC HR0_1);(case side2=>exact HC0_1.out);(case side3=>exact rC HR1_1);(case side4=>exact HC1_1.out);rintro e w11 ⟨rfl,hb⟩;refine ⟨_,rfl,?_⟩;replace HB:=bs hb;clear BK401 BK402;(try clear hb)))
   go_ret
   exact ⟨rz,be⟩
  ·replace c5:=Bool.eq_false_iff.mpr c5
   subst c5
   replace H:=(if_neg (show ¬ (false=true) by decide)).symm.trans H
   obtain rfl:=Option.some.inj H
   go_enter Try.func20,Try.ntmps20
   go_wp2_with (first|((with_reducible refine gate_dst (N:=2) rfl ?_);refine box_event ?hg (N:=2) ?hd (cs:=#[.int .i64 a0_0,.slice A0_1 l0_1.length c0_1]) (t:=26) ?hr ?_;(case hd=>rfl);(case hg=>rfl);(case hr=>first|(go_simp;done)|(go_simp;rfl));intro gb401 hg w12 hbox hb;have BK401:=aM (hbox);have GW401:=gS w hg;have GE401:=gS w hg;replace HB:=bs hb;clear hb hbox hg)|((with_reducible refine gate_dst (N:=3) rfl ?_);refine box_event ?hg (N:=3) ?hd (cs:=#[.int .i64 a1_0,.slice A1_1 l1_1.length c1_1]) (t:=26) ?hr ?_;(case hd=>rfl);(case hg=>rfl);(case hr=>first|(go_simp;done)|(go_simp;rfl));intro gb402 hg w13 hbox hb;have BK402:=aM (hbox);have GW402:=gS w hg;have GE402:=gS w hg;replace HB:=bs hb;have NB401_402:=nL hg BK401;have NB402_401:=nG hg BK401;replace BK401:=bB BK401 hb;clear hb hbox hg;have hnb14:=NB401_402.out;have hnc14:=NB402_401.out;have hcz15_0:w13.cell? ⟨gb401,0,none⟩=some (.int .i64 a0_0):=(blk_cell BK401.out 0).trans rfl;have hcz15_1:w13.cell? ⟨gb401,1,none⟩=some (.slice A0_1 l0_1.length c0_1):=(blk_cell BK401.out 1).trans rfl;have hfz15_0:=blk_frozen BK401.out 0;have hfz15_1:=blk_frozen BK401.out 1;have hcz16_0:w13.cell? ⟨gb402,0,none⟩=some (.int .i64 a1_0):=(blk_cell BK402.out 0).trans rfl;have hcz16_1:w13.cell? ⟨gb402,1,none⟩=some (.slice A1_1 l1_1.length c1_1):=(blk_cell BK402.out 1).trans rfl;have hfz16_0:=blk_frozen BK402.out 0;have hfz16_1:=blk_frozen BK402.out 1)|((with_reducible refine gate_callee (f:=64) rfl ?_);refine goesL_ (some 14) rfl rfl Try.func64 (by kernel_rfl) rfl #[.slice A0_1 l0_1.length c0_1,.slice A1_1 l1_1.length c1_1] rfl (by (try simp only [List.map_toArray,List.map_cons,List.map_nil]);first|done|rfl|(simp only [List.length_drop,List.length_take];rfl)) ?_;(with_reducible refine (laws_eqPartS.calls k _ _ l0_1 _ _ l1_1 false _ ?side1 ?side2 ?side3 ?side4 A4.out).mono ?_);(case side1=>exact rC HR0_1);(case side2=>exact HC0_1.out);(case side3=>exact rC HR1_1);(case side4=>exact HC1_1.out);rintro e w17 ⟨rfl,hb⟩;refine ⟨_,rfl,?_⟩;replace HB:=bs hb;clear BK401 BK402;(try clear hb)))
   go_ret
   exact ⟨rz,be⟩
 ·rw [if_neg c3] at H
  have c3b0:(a0_0 == a1_0)=false:=beq_eq_false_iff_ne.mpr c3
  have c3b1:(a0_0 != a1_0)=true:=bne_iff_ne.mpr c3
  obtain rfl:=Option.some.inj H
  go_enter Try.func20,Try.ntmps20
  go_wp2_with (first|((with_reducible refine gate_dst (N:=2) rfl ?_);refine box_event ?hg (N:=2) ?hd (cs:=#[.int .i64 a0_0,.slice A0_1 l0_1.length c0_1]) (t:=26) ?hr ?_;(case hd=>rfl);(case hg=>rfl);(case hr=>first|(go_simp;done)|(go_simp;rfl));intro gb401 hg w18 hbox hb;have BK401:=aM (hbox);have GW401:=gS w hg;have GE401:=gS w hg;replace HB:=bs hb;clear hb hbox hg)|((with_reducible refine gate_dst (N:=3) rfl ?_);refine box_event ?hg (N:=3) ?hd (cs:=#[.int .i64 a1_0,.slice A1_1 l1_1.length c1_1]) (t:=26) ?hr ?_;(case hd=>rfl);(case hg=>rfl);(case hr=>first|(go_simp;done)|(go_simp;rfl));intro gb402 hg w19 hbox hb;have BK402:=aM (hbox);have GW402:=gS w hg;have GE402:=gS w hg;replace HB:=bs hb;have NB401_402:=nL hg BK401;have NB402_401:=nG hg BK401;replace BK401:=bB BK401 hb;clear hb hbox hg;have hnb20:=NB401_402.out;have hnc20:=NB402_401.out;have hcz21_0:w19.cell? ⟨gb401,0,none⟩=some (.int .i64 a0_0):=(blk_cell BK401.out 0).trans rfl;have hcz21_1:w19.cell? ⟨gb401,1,none⟩=some (.slice A0_1 l0_1.length c0_1):=(blk_cell BK401.out 1).trans rfl;have hfz21_0:=blk_frozen BK401.out 0;have hfz21_1:=blk_frozen BK401.out 1;have hcz22_0:w19.cell? ⟨gb402,0,none⟩=some (.int .i64 a1_0):=(blk_cell BK402.out 0).trans rfl;have hcz22_1:w19.cell? ⟨gb402,1,none⟩=some (.slice A1_1 l1_1.length c1_1):=(blk_cell BK402.out 1).trans rfl;have hfz22_0:=blk_frozen BK402.out 0;have hfz22_1:=blk_frozen BK402.out 1))
  go_ret
  exact ⟨rz,be⟩
def laws_eqDev.f (a0_0:Int) (a0_1:Int) (a0_2:Int) (a1_0:Int) (a1_1:Int) (a1_2:Int):Option (Bool):=if a0_0=a1_0 then (if a0_1=a1_1 then (if a0_2=a1_2 then (some true) else (some false)) else (some false)) else (some false)
set_option maxHeartbeats 8000000 in
set_option maxRecDepth 100000 in
theorem laws_eqDev.calls (a0_0:Int) (a0_1:Int) (a0_2:Int) (a1_0:Int) (a1_1:Int) (a1_2:Int) (r:Bool) (w:World) (h:laws_eqDev.f a0_0 a0_1 a0_2 a1_0 a1_1 a1_2=some r) :
  Calls Try.prog 65 #[.agg #[.int .i64 a0_0,.int .i64 a0_1,.int .i64 a0_2],.agg #[.int .i64 a1_0,.int .i64 a1_1,.int .i64 a1_2]] w fun e w'=>e = .returned (.bool r)∧Below w.heap.size w w':=by
 have hu61:=Try.underlying61
 have HB:=aM (Below.refl w.heap.size w)
 have H:(if a0_0=a1_0 then (if a0_1=a1_1 then (if a0_2=a1_2 then (some true) else (some false)) else (some false)) else (some false))=some r:=h
 clear h
 by_cases c3:a0_0=a1_0
 ·rw [if_pos c3] at H
  have c3b0:(a0_0 == a1_0)=true:=beq_iff_eq.mpr c3
  have c3b1:(a0_0 != a1_0)=false:=bne_eq_false_iff_eq.mpr c3
  clear c3
  by_cases c4:a0_1=a1_1
  ·rw [if_pos c4] at H
   have c4b0:(a0_1 == a1_1)=true:=beq_iff_eq.mpr c4
   have c4b1:(a0_1 != a1_1)=false:=bne_eq_false_iff_eq.mpr c4
   clear c4
   by_cases c5:a0_2=a1_2
   ·rw [if_pos c5] at H
    have c5b0:(a0_2 == a1_2)=true:=beq_iff_eq.mpr c5
    have c5b1:(a0_2 != a1_2)=false:=bne_eq_false_iff_eq.mpr c5
    clear c5
    obtain rfl:=Option.some.inj H
    go_enter Try.func65,Try.ntmps65
    go_wp2_with (first|((with_reducible refine gate_dst (N:=2) rfl ?_);refine box_event ?hg (N:=2) ?hd (cs:=#[.int .i64 a0_0,.int .i64 a0_1,.int .i64 a0_2]) (t:=61) ?hr ?_;(case hd=>rfl);(case hg=>rfl);(case hr=>first|(go_simp;done)|(go_simp;rfl));intro gb404 hg w6 hbox hb;have BK404:=aM (hbox);have GW404:=gS w hg;have GE404:=gS w hg;replace HB:=bs hb;clear hb hbox hg)|((with_reducible refine gate_dst (N:=3) rfl ?_);refine box_event ?hg (N:=3) ?hd (cs:=#[.int .i64 a1_0,.int .i64 a1_1,.int .i64 a1_2]) (t:=61) ?hr ?_;(case hd=>rfl);(case hg=>rfl);(case hr=>first|(go_simp;done)|(go_simp;rfl));intro gb405 hg w7 hbox hb;have BK405:=aM (hbox);have GW405:=gS w hg;have GE405:=gS w hg;replace HB:=bs hb;have NB404_405:=nL hg BK404;have NB405_404:=nG hg BK404;replace BK404:=bB BK404 hb;clear hb hbox hg;have hnb8:=NB404_405.out;have hnc8:=NB405_404.out;have hcz9_0:w7.cell? ⟨gb404,0,none⟩=some (.int .i64 a0_0):=(blk_cell BK404.out 0).trans rfl;have hcz9_1:w7.cell? ⟨gb404,1,none⟩=some (.int .i64 a0_1):=(blk_cell BK404.out 1).trans rfl;have hcz9_2:w7.cell? ⟨gb404,2,none⟩=some (.int .i64 a0_2):=(blk_cell BK404.out 2).trans rfl;have hfz9_0:=blk_frozen BK404.out 0;have hfz9_1:=blk_frozen BK404.out 1;have hfz9_2:=blk_frozen BK404.out 2;have hcz10_0:w7.cell? ⟨gb405,0,none⟩=some (.int .i64 a1_0):=(blk_cell BK405.out 0).trans rfl;have hcz10_1:w7.cell? ⟨gb405,1,none⟩=some (.int .i64 a1_1):=(blk_cell BK405.out 1).trans rfl;have hcz10_2:w7.cell? ⟨gb405,2,none⟩=some (.int .i64 a1_2):=(blk_cell BK405.out 2).trans rfl;have hfz10_0:=blk_frozen BK405.out 0;have hfz10_1:=blk_frozen BK405.out 1;have hfz10_2:=blk_frozen BK405.out 2))
    go_ret
    exact ⟨rz,be⟩
   ·rw [if_neg c5] at H
    have c5b0:(a0_2 == a1_2)=false:=beq_eq_false_iff_ne.mpr c5
    have c5b1:(a0_2 != a1_2)=true:=bne_iff_ne.mpr c5
    obtain rfl:=Option.some.inj H
    go_enter Try.func65,Try.ntmps65
    go_wp2_with (first|((with_reducible refine gate_dst (N:=2) rfl ?_);refine box_event ?hg (N:=2) ?hd (cs:=#[.int .i64 a0_0,.int .i64 a0_1,.int .i64 a0_2]) (t:=61) ?hr ?_;(case hd=>rfl);(case hg=>rfl);(case hr=>first|(go_simp;done)|(go_simp;rfl));intro gb404 hg w11 hbox hb;have BK404:=aM (hbox);have GW404:=gS w hg;have GE404:=gS w hg;replace HB:=bs hb;clear hb hbox hg)|((with_reducible refine gate_dst (N:=3) rfl ?_);refine box_event ?hg (N:=3) ?hd (cs:=#[.int .i64 a1_0,.int .i64 a1_1,.int .i64 a1_2]) (t:=61) ?hr ?_;(case hd=>rfl);(case hg=>rfl);(case hr=>first|(go_simp;done)|(go_simp;rfl));intro gb405 hg w12 hbox hb;have BK405:=aM (hbox);have GW405:=gS w hg;have GE405:=gS w hg;replace HB:=bs hb;have NB404_405:=nL hg BK404;have NB405_404:=nG hg BK404;replace BK404:=bB BK404 hb;clear hb hbox hg;have hnb13:=NB404_405.out;have hnc13:=NB405_404.out;have hcz14_0:w12.cell? ⟨gb404,0,none⟩=some (.int .i64 a0_0):=(blk_cell BK404.out 0).trans rfl;have hcz14_1:w12.cell? ⟨gb404,1,none⟩=some (.int .i64 a0_1):=(blk_cell BK404.out 1).trans rfl;have hcz14_2:w12.cell? ⟨gb404,2,none⟩=some (.int .i64 a0_2):=(blk_cell BK404.out 2).trans rfl;have hfz14_0:=blk_frozen BK404.out 0;have hfz14_1:=blk_frozen BK404.out 1;have hfz14_2:=blk_frozen BK404.out 2;have hcz15_0:w12.cell? ⟨gb405,0,none⟩=some (.int .i64 a1_0):=(blk_cell BK405.out 0).trans rfl;have hcz15_1:w12.cell? ⟨gb405,1,none⟩=some (.int .i64 a1_1):=(blk_cell BK405.out 1).trans rfl;have hcz15_2:w12.cell? ⟨gb405,2,none⟩=some (.int .i64 a1_2):=(blk_cell BK405.out 2).trans rfl;have hfz15_0:=blk_frozen BK405.out 0;have hfz15_1:=blk_frozen BK405.out 1;have hfz15_2:=blk_frozen BK405.out 2))
    go_ret
    exact ⟨rz,be⟩
  ·rw [if_neg c4] at H
   have c4b0:(a0_1 == a1_1)=false:=beq_eq_false_iff_ne.mpr c4
   have c4b1:(a0_1 != a1_1)=true:=bne_iff_ne.mpr c4
   obtain rfl:=Option.some.inj H
   go_enter Try.func65,Try.ntmps65
   go_wp2_with (first|((with_reducible refine gate_dst (N:=2) rfl ?_);refine box_event ?hg (N:=2) ?hd (cs:=#[.int .i64 a0_0,.int .i64 a0_1,.int .i64 a0_2]) (t:=61) ?hr ?_;(case hd=>rfl);(case hg=>rfl);(case hr=>first|(go_simp;done)|(go_simp;rfl));intro gb404 hg w16 hbox hb;have BK404:=aM (hbox);have GW404:=gS w hg;have GE404:=gS w hg;replace HB:=bs hb;clear hb hbox hg)|((with_reducible refine gate_dst (N:=3) rfl ?_);refine box_event ?hg (N:=3) ?hd (cs:=#[.int .i64 a1_0,.int .i64 a1_1,.int .i64 a1_2]) (t:=61) ?hr ?_;(case hd=>rfl);(case hg=>rfl);(case hr=>first|(go_simp;done)|(go_simp;rfl));intro gb405 hg w17 hbox hb;have BK405:=aM (hbox);have GW405:=gS w hg;have GE405:=gS w hg;replace HB:=bs hb;have NB404_405:=nL hg BK404;have NB405_404:=nG hg BK404;replace BK404:=bB BK404 hb;clear hb hbox hg;have hnb18:=NB404_405.out;have hnc18:=NB405_404.out;have hcz19_0:w17.cell? ⟨gb404,0,none⟩=some (.int .i64 a0_0):=(blk_cell BK404.out 0).trans rfl;have hcz19_1:w17.cell? ⟨gb404,1,none⟩=some (.int .i64 a0_1):=(blk_cell BK404.out 1).trans rfl;have hcz19_2:w17.cell? ⟨gb404,2,none⟩=some (.int .i64 a0_2):=(blk_cell BK404.out 2).trans rfl;have hfz19_0:=blk_frozen BK404.out 0;have hfz19_1:=blk_frozen BK404.out 1;have hfz19_2:=blk_frozen BK404.out 2;have hcz20_0:w17.cell? ⟨gb405,0,none⟩=some (.int .i64 a1_0):=(blk_cell BK405.out 0).trans rfl;have hcz20_1:w17.cell? ⟨gb405,1,none⟩=some (.int .i64 a1_1):=(blk_cell BK405.out 1).trans rfl;have hcz20_2:w17.cell? ⟨gb405,2,none⟩=some (.int .i64 a1_2):=(blk_cell BK405.out 2).trans rfl;have hfz20_0:=blk_frozen BK405.out 0;have hfz20_1:=blk_frozen BK405.out 1;have hfz20_2:=blk_frozen BK405.out 2))
   go_ret
   exact ⟨rz,be⟩
 ·rw [if_neg c3] at H
  have c3b0:(a0_0 == a1_0)=false:=beq_eq_false_iff_ne.mpr c3
  have c3b1:(a0_0 != a1_0)=true:=bne_iff_ne.mpr c3
  obtain rfl:=Option.some.inj H
  go_enter Try.func65,Try.ntmps65
  go_wp2_with (first|((with_reducible refine gate_dst (N:=2) rfl ?_);refine box_event ?hg (N:=2) ?hd (cs:=#[.int .i64 a0_0,.int .i64 a0_1,.int .i64 a0_2]) (t:=61) ?hr ?_;(case hd=>rfl);(case hg=>rfl);(case hr=>first|(go_simp;done)|(go_simp;rfl));intro gb404 hg w21 hbox hb;have BK404:=aM (hbox);have GW404:=gS w hg;have GE404:=gS w hg;replace HB:=bs hb;clear hb hbox hg)|((with_reducible refine gate_dst (N:=3) rfl ?_);refine box_event ?hg (N:=3) ?hd (cs:=#[.int .i64 a1_0,.int .i64 a1_1,.int .i64 a1_2]) (t:=61) ?hr ?_;(case hd=>rfl);(case hg=>rfl);(case hr=>first|(go_simp;done)|(go_simp;rfl));intro gb405 hg w22 hbox hb;have BK405:=aM (hbox);have GW405:=gS w hg;have GE405:=gS w hg;replace HB:=bs hb;have NB404_405:=nL hg BK404;have NB405_404:=nG hg BK404;replace BK404:=bB BK404 hb;clear hb hbox hg;have hnb23:=NB404_405.out;have hnc23:=NB405_404.out;have hcz24_0:w22.cell? ⟨gb404,0,none⟩=some (.int .i64 a0_0):=(blk_cell BK404.out 0).trans rfl;have hcz24_1:w22.cell? ⟨gb404,1,none⟩=some (.int .i64 a0_1):=(blk_cell BK404.out 1).trans rfl;have hcz24_2:w22.cell? ⟨gb404,2,none⟩=some (.int .i64 a0_2):=(blk_cell BK404.out 2).trans rfl;have hfz24_0:=blk_frozen BK404.out 0;have hfz24_1:=blk_frozen BK404.out 1;have hfz24_2:=blk_frozen BK404.out 2;have hcz25_0:w22.cell? ⟨gb405,0,none⟩=some (.int .i64 a1_0):=(blk_cell BK405.out 0).trans rfl;have hcz25_1:w22.cell? ⟨gb405,1,none⟩=some (.int .i64 a1_1):=(blk_cell BK405.out 1).trans rfl;have hcz25_2:w22.cell? ⟨gb405,2,none⟩=some (.int .i64 a1_2):=(blk_cell BK405.out 2).trans rfl;have hfz25_0:=blk_frozen BK405.out 0;have hfz25_1:=blk_frozen BK405.out 1;have hfz25_2:=blk_frozen BK405.out 2))
  go_ret
  exact ⟨rz,be⟩
def laws_eqDevS.l0:Nat→List (S61)→List (S61)→Int→Option (Bool)
 | 0,_,_,_=>none
 | k+1,x0,x1,x5=>if x5 < (x0.length:Int) then (if 0≤x5 then (if x5 < (x1.length:Int) then ((laws_eqDev.f ((rd_T61 x0 x5).f0) ((rd_T61 x0 x5).f1) ((rd_T61 x0 x5).f2) ((rd_T61 x1 x5).f0) ((rd_T61 x1 x5).f1) ((rd_T61 x1 x5).f2)).bind fun t408=>(if t408=true then (laws_eqDevS.l0 k x0 x1 (wrap64 (x5+1))) else (some false))) else (none)) else (none)) else (some true)
def laws_eqDevS.f (k:Nat) (l0:List (S61)) (l1:List (S61)):Option (Bool):=if (l0.length:Int)=(l1.length:Int) then (laws_eqDevS.l0 k l0 l1 0) else (some false)
def laws_eqDevS.T6:Bool × List (List Nat × List Nat):=(true,[([],[]),([],[]),([0,1],[0,1]),([2],[2]),([],[]),([],[]),([4,5],[4,5]),([6],[6]),([3,7],[3,7]),([8],[8])])
def laws_eqDevS.B6:List Nat:=[0,0,3,7,0,0,48,112,255,511]
theorem laws_eqDevS.tab6:rtab .any (opsOf Try.f21 6)=laws_eqDevS.T6:=by kernel_rfl
theorem laws_eqDevS.bits6:waitsOk laws_eqDevS.T6.2 laws_eqDevS.B6=true:=by kernel_rfl
set_option maxHeartbeats 8000000 in
set_option maxRecDepth 100000 in
theorem laws_eqDevS.calls (k:Nat) (A0:Option Addr) (c0:Nat) (l0:List (S61)) (A1:Option Addr) (c1:Nat) (l1:List (S61)) (r:Bool) (w:World) (hr0:Kd.C k61 w A0 l0.length l0) (hc0:l0.length≤c0) (hr1:Kd.C k61 w A1 l1.length l1) (hc1:l1.length≤c1) (h:laws_eqDevS.f k l0 l1=some r) :
  Calls Try.prog 21 #[.slice A0 l0.length c0,.slice A1 l1.length c1] w fun e w'=>e = .returned (.bool r)∧Below w.heap.size w w':=by
 have hu61:=Try.underlying61
 have HR0:=aM hr0
 have HC0:=aM hc0
 clear hr0 hc0
 have HR1:=aM hr1
 have HC1:=aM hc1
 clear hr1 hc1
 have HB:=aM (Below.refl w.heap.size w)
 have H:(if (l0.length:Int)=(l1.length:Int) then (laws_eqDevS.l0 k l0 l1 0) else (some false))=some r:=h
 clear h
 by_cases c3:(l0.length:Int)=(l1.length:Int)
 ·rw [if_pos c3] at H
  have c3b0:((l0.length:Int) == (l1.length:Int))=true:=beq_iff_eq.mpr c3
  have c3b1:((l0.length:Int) != (l1.length:Int))=false:=bne_eq_false_iff_eq.mpr c3
  have c3b2:(l0.length == l1.length)=true:=by first|simpa using c3|(simp at c3 ⊢;omega)
  clear c3
  have H':=Aside0.mk H
  clear H
  go_enter Try.func21,Try.ntmps21
  go_wp2
  go_loopg [5] k (fun kq v5 w'=>∃ (x5_1:Int),v5 = .int .i64 x5_1∧Aside0 (laws_eqDevS.l0 kq l0 l1 x5_1=some r)∧Aside0 (kq≤k)∧Aside0 (Below w.heap.size w w'))
  case atStart=>exact ⟨(0),rd_,H',⟨Nat.le_refl _⟩,⟨be⟩⟩
  case round=>
   clear H'
   try clear c3b0
   try clear c3b1
   try clear c3b2
   obtain ⟨x5_1,rfl,HA,HK1,HB⟩:=hrel
   cases gk with
   | zero=>exact absurd HA.out (by simp [laws_eqDevS.l0])
   | succ k1=>
    have H:=HA.out
    clear HA
    simp only [laws_eqDevS.l0] at H
    by_cases c4:x5_1 < (l0.length:Int)
    ·rw [if_pos c4] at H
     have c4b0:decide (x5_1 < (l0.length:Int))=true:=decide_eq_true c4
     clear c4
     by_cases c5:0≤x5_1
     ·rw [if_pos c5] at H
      have c5b0:decide (0≤x5_1)=true:=decide_eq_true c5
      clear c5
      by_cases c6:x5_1 < (l1.length:Int)
      ·rw [if_pos c6] at H
       have c6b0:decide (x5_1 < (l1.length:Int))=true:=decide_eq_true c6
       clear c6
       replace H:=Option.bind_eq_some_iff.mp H
       obtain ⟨t408,A70,H⟩:=H
       try dsimp only at H
       have A7:=aM A70
       clear A70
       by_cases c8:t408=true
       ·subst c8
        rw [if_pos rfl] at H
        have H':=Aside0.mk H
        clear H
        try go_wp2
        replace HB:=aM (below_drew1 HB.out)
        have p406:0≤(x5_1:Int):=of_decide_eq_true (by first|(with_reducible assumption)|assumption)
        have q406:x5_1 < (l0.length:Int):=of_decide_eq_true (by first|(with_reducible assumption)|assumption)
        obtain ⟨ad406,e406,hx406_0,hx406_1,hx406_2⟩:=at_T61 HR0.out x5_1 p406 q406
        have hw406_2:=hx406_2;have hw406_1:=hx406_1;have hw406_0:=hx406_0
        cases e406
        replace hx406_0:=(HB.out.cell (World.block_lt_of_cell? w _ hx406_0)).trans hx406_0
        replace hx406_1:=(HB.out.cell (World.block_lt_of_cell? w _ hx406_1)).trans hx406_1
        replace hx406_2:=(HB.out.cell (World.block_lt_of_cell? w _ hx406_2)).trans hx406_2
        replace p406:=eq_true p406
        replace q406:=eq_true q406
        have p407:0≤(x5_1:Int):=of_decide_eq_true (by first|(with_reducible assumption)|assumption)
        have q407:x5_1 < (l1.length:Int):=of_decide_eq_true (by first|(with_reducible assumption)|assumption)
        obtain ⟨ad407,e407,hx407_0,hx407_1,hx407_2⟩:=at_T61 HR1.out x5_1 p407 q407
        have hw407_2:=hx407_2;have hw407_1:=hx407_1;have hw407_0:=hx407_0
        cases e407
        replace hx407_0:=(HB.out.cell (World.block_lt_of_cell? w _ hx407_0)).trans hx407_0
        replace hx407_1:=(HB.out.cell (World.block_lt_of_cell? w _ hx407_1)).trans hx407_1
        replace hx407_2:=(HB.out.cell (World.block_lt_of_cell? w _ hx407_2)).trans hx407_2
        replace p407:=eq_true p407
        replace q407:=eq_true q407
        refine start_ (n:=10) (S:=fun w'=>w'.cell? (ad406.add ((x5_1).toNat * 3))=some (.int .i64 ((rd_T61 l0 x5_1).f0))∧w'.cell? ⟨(ad406.add ((x5_1).toNat * 3)).block,(ad406.add ((x5_1).toNat * 3)).off+1,none⟩=some (.int .i64 ((rd_T61 l0 x5_1).f1))∧w'.cell? ⟨(ad406.add ((x5_1).toNat * 3)).block,(ad406.add ((x5_1).toNat * 3)).off+2,none⟩=some (.int .i64 ((rd_T61 l0 x5_1).f2))∧w'.cell? (ad407.add ((x5_1).toNat * 3))=some (.int .i64 ((rd_T61 l1 x5_1).f0))∧w'.cell? ⟨(ad407.add ((x5_1).toNat * 3)).block,(ad407.add ((x5_1).toNat * 3)).off+1,none⟩=some (.int .i64 ((rd_T61 l1 x5_1).f1))∧w'.cell? ⟨(ad407.add ((x5_1).toNat * 3)).block,(ad407.add ((x5_1).toNat * 3)).off+2,none⟩=some (.int .i64 ((rd_T61 l1 x5_1).f2))) (ds:=[]) (fl 10 0) (by kernel_rfl) rfl rfl ⟨((HB.out.cell (World.block_lt_of_cell? w _ hw406_0)).trans hw406_0),((HB.out.cell (World.block_lt_of_cell? w _ hw406_1)).trans hw406_1),((HB.out.cell (World.block_lt_of_cell? w _ hw406_2)).trans hw406_2),((HB.out.cell (World.block_lt_of_cell? w _ hw407_0)).trans hw407_0),((HB.out.cell (World.block_lt_of_cell? w _ hw407_1)).trans hw407_1),((HB.out.cell (World.block_lt_of_cell? w _ hw407_2)).trans hw407_2)⟩ (fun hHeld=>?_);refine with_tabW laws_eqDevS.tab6 laws_eqDevS.bits6 (fun HT_ HW_=>?_)
        generalize wr.drew=w9 at HB hx406_0 hx406_1 hx406_2 hx407_0 hx407_1 hx407_2 hHeld ⊢
        refine pt 0 17 (fl 10 1) HT_ ?_
        refine pt 1 18 (fl 10 3) HT_ ?_
        refine pt 2 19 (fl 10 7) HT_ ?_
        refine pt 4 21 (fl 10 23) HT_ ?_
        refine pt 5 22 (fl 10 55) HT_ ?_
        refine pt 6 23 (fl 10 119) HT_ ?_
        refine tt 3 20 (fl 10 127) HT_ HW_ hHeld ?_
        refine tt 7 24 (fl 10 255) HT_ HW_ hHeld ?_
        refine ot 8 (some 25) (fl 10 511) HT_ (fun K hK=>?_)
        refine goes_ Try.func65 (by kernel_rfl) rfl #[.agg #[.int .i64 ((rd_T61 l0 x5_1).f0),.int .i64 ((rd_T61 l0 x5_1).f1),.int .i64 ((rd_T61 l0 x5_1).f2)],.agg #[.int .i64 ((rd_T61 l1 x5_1).f0),.int .i64 ((rd_T61 l1 x5_1).f1),.int .i64 ((rd_T61 l1 x5_1).f2)]] (by rfl) rfl rfl (by (try simp only [List.map_toArray,List.map_cons,List.map_nil]);first|done|rfl|(simp only [List.length_drop,List.length_take];rfl)) ?_
        with_reducible refine (laws_eqDev.calls ((rd_T61 l0 x5_1).f0) ((rd_T61 l0 x5_1).f1) ((rd_T61 l0 x5_1).f2) ((rd_T61 l1 x5_1).f0) ((rd_T61 l1 x5_1).f1) ((rd_T61 l1 x5_1).f2) true _ A7.out).mono ?_
        rintro e w10 ⟨rfl,hb⟩
        refine ⟨_,rfl,?_⟩
        replace HB:=bs hb;(try clear hb);skip
        refine hK.out _ _ ⟨((HB.out.cell (World.block_lt_of_cell? w _ hw406_0)).trans hw406_0),((HB.out.cell (World.block_lt_of_cell? w _ hw406_1)).trans hw406_1),((HB.out.cell (World.block_lt_of_cell? w _ hw406_2)).trans hw406_2),((HB.out.cell (World.block_lt_of_cell? w _ hw407_0)).trans hw407_0),((HB.out.cell (World.block_lt_of_cell? w _ hw407_1)).trans hw407_1),((HB.out.cell (World.block_lt_of_cell? w _ hw407_2)).trans hw407_2)⟩ (fun hHeld=>?_)
        clear hK K
        refine no 25 ?_
        refine pt 9 26 (fl 10 1023) HT_ ?_
        refine done_ (done_of HT_.out (by kernel_rfl)) ?_
        try go_wp2
        go_roundg k1
        case measure=>have:=HK1.out;omega
        case rel=>exact ⟨(wrap64 (x5_1+1)),rd_,H',⟨by have:=HK1.out;omega⟩,⟨be⟩⟩
       ·replace c8:=Bool.eq_false_iff.mpr c8
        subst c8
        replace H:=(if_neg (show ¬ (false=true) by decide)).symm.trans H
        obtain rfl:=Option.some.inj H
        try go_wp2
        replace HB:=aM (below_drew1 HB.out)
        have p406:0≤(x5_1:Int):=of_decide_eq_true (by first|(with_reducible assumption)|assumption)
        have q406:x5_1 < (l0.length:Int):=of_decide_eq_true (by first|(with_reducible assumption)|assumption)
        obtain ⟨ad406,e406,hx406_0,hx406_1,hx406_2⟩:=at_T61 HR0.out x5_1 p406 q406
        have hw406_2:=hx406_2;have hw406_1:=hx406_1;have hw406_0:=hx406_0
        cases e406
        replace hx406_0:=(HB.out.cell (World.block_lt_of_cell? w _ hx406_0)).trans hx406_0
        replace hx406_1:=(HB.out.cell (World.block_lt_of_cell? w _ hx406_1)).trans hx406_1
        replace hx406_2:=(HB.out.cell (World.block_lt_of_cell? w _ hx406_2)).trans hx406_2
        replace p406:=eq_true p406
        replace q406:=eq_true q406
        have p407:0≤(x5_1:Int):=of_decide_eq_true (by first|(with_reducible assumption)|assumption)
        have q407:x5_1 < (l1.length:Int):=of_decide_eq_true (by first|(with_reducible assumption)|assumption)
        obtain ⟨ad407,e407,hx407_0,hx407_1,hx407_2⟩:=at_T61 HR1.out x5_1 p407 q407
        have hw407_2:=hx407_2;have hw407_1:=hx407_1;have hw407_0:=hx407_0
        cases e407
        replace hx407_0:=(HB.out.cell (World.block_lt_of_cell? w _ hx407_0)).trans hx407_0
        replace hx407_1:=(HB.out.cell (World.block_lt_of_cell? w _ hx407_1)).trans hx407_1
        replace hx407_2:=(HB.out.cell (World.block_lt_of_cell? w _ hx407_2)).trans hx407_2
        replace p407:=eq_true p407
        replace q407:=eq_true q407
        refine start_ (n:=10) (S:=fun w'=>w'.cell? (ad406.add ((x5_1).toNat * 3))=some (.int .i64 ((rd_T61 l0 x5_1).f0))∧w'.cell? ⟨(ad406.add ((x5_1).toNat * 3)).block,(ad406.add ((x5_1).toNat * 3)).off+1,none⟩=some (.int .i64 ((rd_T61 l0 x5_1).f1))∧w'.cell? ⟨(ad406.add ((x5_1).toNat * 3)).block,(ad406.add ((x5_1).toNat * 3)).off+2,none⟩=some (.int .i64 ((rd_T61 l0 x5_1).f2))∧w'.cell? (ad407.add ((x5_1).toNat * 3))=some (.int .i64 ((rd_T61 l1 x5_1).f0))∧w'.cell? ⟨(ad407.add ((x5_1).toNat * 3)).block,(ad407.add ((x5_1).toNat * 3)).off+1,none⟩=some (.int .i64 ((rd_T61 l1 x5_1).f1))∧w'.cell? ⟨(ad407.add ((x5_1).toNat * 3)).block,(ad407.add ((x5_1).toNat * 3)).off+2,none⟩=some (.int .i64 ((rd_T61 l1 x5_1).f2))) (ds:=[]) (fl 10 0) (by kernel_rfl) rfl rfl ⟨((HB.out.cell (World.block_lt_of_cell? w _ hw406_0)).trans hw406_0),((HB.out.cell (World.block_lt_of_cell? w _ hw406_1)).trans hw406_1),((HB.out.cell (World.block_lt_of_cell? w _ hw406_2)).trans hw406_2),((HB.out.cell (World.block_lt_of_cell? w _ hw407_0)).trans hw407_0),((HB.out.cell (World.block_lt_of_cell? w _ hw407_1)).trans hw407_1),((HB.out.cell (World.block_lt_of_cell? w _ hw407_2)).trans hw407_2)⟩ (fun hHeld=>?_);refine with_tabW laws_eqDevS.tab6 laws_eqDevS.bits6 (fun HT_ HW_=>?_)
        generalize wr.drew=w11 at HB hx406_0 hx406_1 hx406_2 hx407_0 hx407_1 hx407_2 hHeld ⊢
        refine pt 0 17 (fl 10 1) HT_ ?_
        refine pt 1 18 (fl 10 3) HT_ ?_
        refine pt 2 19 (fl 10 7) HT_ ?_
        refine pt 4 21 (fl 10 23) HT_ ?_
        refine pt 5 22 (fl 10 55) HT_ ?_
        refine pt 6 23 (fl 10 119) HT_ ?_
        refine tt 3 20 (fl 10 127) HT_ HW_ hHeld ?_
        refine tt 7 24 (fl 10 255) HT_ HW_ hHeld ?_
        refine ot 8 (some 25) (fl 10 511) HT_ (fun K hK=>?_)
        refine goes_ Try.func65 (by kernel_rfl) rfl #[.agg #[.int .i64 ((rd_T61 l0 x5_1).f0),.int .i64 ((rd_T61 l0 x5_1).f1),.int .i64 ((rd_T61 l0 x5_1).f2)],.agg #[.int .i64 ((rd_T61 l1 x5_1).f0),.int .i64 ((rd_T61 l1 x5_1).f1),.int .i64 ((rd_T61 l1 x5_1).f2)]] (by rfl) rfl rfl (by (try simp only [List.map_toArray,List.map_cons,List.map_nil]);first|done|rfl|(simp only [List.length_drop,List.length_take];rfl)) ?_
        with_reducible refine (laws_eqDev.calls ((rd_T61 l0 x5_1).f0) ((rd_T61 l0 x5_1).f1) ((rd_T61 l0 x5_1).f2) ((rd_T61 l1 x5_1).f0) ((rd_T61 l1 x5_1).f1) ((rd_T61 l1 x5_1).f2) false _ A7.out).mono ?_
        rintro e w12 ⟨rfl,hb⟩
        refine ⟨_,rfl,?_⟩
        replace HB:=bs hb;(try clear hb);skip
        refine hK.out _ _ ⟨((HB.out.cell (World.block_lt_of_cell? w _ hw406_0)).trans hw406_0),((HB.out.cell (World.block_lt_of_cell? w _ hw406_1)).trans hw406_1),((HB.out.cell (World.block_lt_of_cell? w _ hw406_2)).trans hw406_2),((HB.out.cell (World.block_lt_of_cell? w _ hw407_0)).trans hw407_0),((HB.out.cell (World.block_lt_of_cell? w _ hw407_1)).trans hw407_1),((HB.out.cell (World.block_lt_of_cell? w _ hw407_2)).trans hw407_2)⟩ (fun hHeld=>?_)
        clear hK K
        refine no 25 ?_
        refine pt 9 26 (fl 10 1023) HT_ ?_
        refine done_ (done_of HT_.out (by kernel_rfl)) ?_
        try go_wp2
        go_ret
        exact ⟨rz,be⟩
      ·rw [if_neg c6] at H
       exact absurd H (by simp)
     ·rw [if_neg c5] at H
      exact absurd H (by simp)
    ·rw [if_neg c4] at H
     have c4b0:decide (x5_1 < (l0.length:Int))=false:=decide_eq_false c4
     clear c4
     obtain rfl:=Option.some.inj H
     go_wp2
     go_ret
     exact ⟨rz,be⟩
 ·rw [if_neg c3] at H
  have c3b0:((l0.length:Int) == (l1.length:Int))=false:=beq_eq_false_iff_ne.mpr c3
  have c3b1:((l0.length:Int) != (l1.length:Int))=true:=bne_iff_ne.mpr c3
  have c3b2:(l0.length == l1.length)=false:=by first|simpa using c3|(simp at c3 ⊢;omega)
  obtain rfl:=Option.some.inj H
  go_enter Try.func21,Try.ntmps21
  go_wp2
  go_ret
  exact ⟨rz,be⟩
def laws_markIntS.l0:Nat→List Int→Int→Int→Option (Int × List Int)
 | 0,_,_,_=>none
 | k+1,x0,x1,x5=>if x5 < (x0.length:Int) then (if 0≤x5 then (laws_markIntS.l0 k (x0.set (x5:Int).toNat x1) (wrap64 (x1+1)) (wrap64 (x5+1))) else (none)) else (some (x1,x0))
def laws_markIntS.f (k:Nat) (l0:List Int) (a1:Int):Option (Int × List Int):=laws_markIntS.l0 k l0 a1 0
set_option maxHeartbeats 8000000 in
set_option maxRecDepth 100000 in
theorem laws_markIntS.calls (k:Nat) (P0_:Nat→Prop) (u9000_:Value) (l0:List Int) (a1:Int) (r1:Int) (r2:List Int) (w0 w:World) (hB:Below w0.heap.size w0 w) (ho0:Kd.R (Kd.int .i64) 3 w w0.heap.size P0_ u9000_ l0) (h:laws_markIntS.f k l0 a1=some (r1,r2)) :
  Calls Try.prog 28 #[u9000_,.int .i64 a1] w fun e w'=>e = .returned (.int .i64 r1)∧Kd.R (Kd.int .i64) 3 w' w0.heap.size (fun k_=>(P0_ k_ ∨ w.heap.size≤k_)) u9000_ r2∧Below w0.heap.size w0 w' ∧ Kept w w' (fun k_=>P0_ k_):=by
 have HO0:=aM (show Kd.R (Kd.int .i64) 3 w w0.heap.size (fun k_=>(P0_ k_ ∨ w.heap.size≤k_)) u9000_ l0 from Kd.R_mono ho0 (fun k_ hk=>(.inl hk)))
 have HK:=aM (Kept.refl w (fun k_=>P0_ k_))
 have HW0:=aM hB.size
 have HB:=aM hB
 clear hB
 have H:(laws_markIntS.l0 k l0 a1 0)=some (r1,r2):=h
 clear h
 have H':=Aside0.mk H
 clear H
 go_enter Try.func28,Try.ntmps28
 go_wp2
 go_loopg [1,5] k (fun kq v1 v5 w'=>∃ (x0_1:List Int) (x1_1:Int) (x5_1:Int),v1 = .int .i64 x1_1∧v5 = .int .i64 x5_1∧Aside0 (laws_markIntS.l0 kq x0_1 x1_1 x5_1=some (r1,r2))∧Aside0 (kq≤k)∧Aside0 (Kd.R (Kd.int .i64) 3 w' w0.heap.size (fun k_=>(P0_ k_ ∨ w.heap.size≤k_)) u9000_ x0_1)∧Aside0 (Kept w w' (fun k_=>P0_ k_))∧Aside0 (Below w0.heap.size w0 w'))
 case atStart=>exact ⟨(l0),(a1),(0),rd_,rd_,H',⟨Nat.le_refl _⟩,⟨rR HO0⟩,⟨by repeat ((with_reducible first|exact HK.out|apply Kept.alloc|apply Kept.drewN|apply Kept.drew))⟩,⟨be⟩⟩
 case round=>
  clear H'
  obtain ⟨x0_1,x1_1,x5_1,rfl,rfl,HA,HK1,HO_0,HK,HB⟩:=hrel
  cases gk with
  | zero=>exact absurd HA.out (by simp [laws_markIntS.l0])
  | succ k1=>
   have H:=HA.out
   clear HA
   simp only [laws_markIntS.l0] at H
   by_cases c3:x5_1 < (x0_1.length:Int)
   ·rw [if_pos c3] at H
    have c3b0:decide (x5_1 < (x0_1.length:Int))=true:=decide_eq_true c3
    clear c3
    by_cases c4:0≤x5_1
    ·rw [if_pos c4] at H
     have c4b0:decide (0≤x5_1)=true:=decide_eq_true c4
     clear c4
     obtain ⟨y409,hy409⟩ : ∃ y_:List Int,y_=(x0_1.set (x5_1:Int).toNat x1_1):=⟨_,rfl⟩
     replace H:(laws_markIntS.l0 k1 y409 (wrap64 (x1_1+1)) (wrap64 (x5_1+1)))=some (r1,r2):=by first|(rw [hy409];with_reducible exact H)|(have H2_:=(Option.bind_some _ _).symm.trans H;rw [hy409];with_reducible exact H2_)|(have H2_:=(Option.bind_some _ _).symm.trans H;with_reducible exact H2_)|with_reducible exact H|(rw [hy409];exact H)|exact H
     have Ny409:=aM hy409
     clear hy409
     have H':=Aside0.mk H
     clear H
     obtain ⟨Ao6,co6,eo6⟩:=Kd.R_slice HO_0.out
     subst eo6
     have p5:0≤(x5_1:Int):=of_decide_eq_true (by first|(with_reducible assumption)|assumption)
     have q5:(x5_1:Int) < ((x0_1.length:Int):Int):=of_decide_eq_true (by first|(with_reducible assumption)|assumption)
     obtain ⟨go5,co5,eo5,gb5,gl5,cl5,HG5⟩:=Kd.R_form HO_0.out (by omega)
     (cases eo5)
     have GB5:=aM gb5
     have GG5:=aM HG5
     clear gb5 gl5 HG5
     have HMgo5:=aM (show (P0_ go5 ∨ w.heap.size≤go5) from (HO_0.out.1 _ rfl))
     obtain ⟨hx5_0,hf5_0⟩:=Kd.R_celln 0 HO_0.out (x5_1:Int) p5 q5
     replace p5:=eq_true p5
     replace q5:=eq_true q5
     have HP7:=Kd.R_putg HO_0.out (x5_1:Int) x1_1
     go_wp2_with ((with_reducible refine gate_store (t:=3) (p:=15) rfl ?_);refine store_event (t:=3) (p:=15) (v:=?vo_w8) (w1:=(wr.setCell ⟨go5,(x5_1:Int).toNat,none⟩ (.int .i64 x1_1))) ?hg ?ho ?hn ?hr ?_;(case ho=>rfl);(case hg=>rfl);(case hn=>rfl);(case hr=>first|(go_simp;done)|(go_simp;rfl));intro w8 hw;have hg:wr.grownBy w8 (some go5):=(by rw [hw];exact HP7.2);have hp_:Kd.R (Kd.int .i64) 3 w8 w0.heap.size (fun k_=>(P0_ k_ ∨ w.heap.size≤k_)) (.slice (some ⟨go5,0,none⟩) x0_1.length co6) y409:=(by rw [hw,Ny409.out];exact HP7.1);clear HP7;replace HB:=aM ((by rw [hw];exact below_set (HB.out) GB5.out:Below w0.heap.size w0 w8));replace HK:=aM (Kept.of_grown (S:=(fun k_=>P0_ k_)) hg (by repeat ((with_reducible first|exact HK.out|apply Kept.alloc|apply Kept.drewN|apply Kept.drew))) (fun k_ e_=>(HO_0.out.1 k_ e_)));replace HO_0:=aM (hp_);clear hg hw hp_)
     go_roundg k1
     case measure=>have:=HK1.out;omega
     case rel=>exact ⟨(y409),(wrap64 (x1_1+1)),(wrap64 (x5_1+1)),rd_,rd_,H',⟨by have:=HK1.out;omega⟩,⟨rR HO_0⟩,⟨by repeat ((with_reducible first|exact HK.out|apply Kept.alloc|apply Kept.drewN|apply Kept.drew))⟩,⟨be⟩⟩
    ·rw [if_neg c4] at H
     exact absurd H (by simp)
   ·rw [if_neg c3] at H
    have c3b0:decide (x5_1 < (x0_1.length:Int))=false:=decide_eq_false c3
    clear c3
    simp only [Option.some.injEq,Prod.mk.injEq] at H
    obtain ⟨rfl,rfl⟩:=H
    obtain ⟨Ao9,co9,eo9⟩:=Kd.R_slice HO_0.out
    subst eo9
    go_wp2
    go_ret
    exact ⟨rz,rR HO_0,be,by repeat ((with_reducible first|exact HK.out|apply Kept.alloc|apply Kept.drewN|apply Kept.drew))⟩
end Go.Proofs.Ytpbjbfimnfghkaa.PFnExactRebalance
