/- Trimmed by a program of this session (trim.py). Not trusted: Lean checks it. -/
import Derived.Test.YtpbjbfimnfghkaaTXRebalancePFnExactRebalancex0
namespace Go.Proofs.Ytpbjbfimnfghkaa.PFnExactRebalance
open Go.RowKit Go.Proofs.YtpbjbfimnfghkaaW.PrintWords Go.Proofs.YtpbjbfimnfghkaaW.PrintLast Go.Proofs.YtpbjbfimnfghkaaW.PrintMore Go.Proofs.Ytpbjbfimnfghkaa.St
attribute [local go_sem] max2_int min2_int max_two min_two max_three min_three max_four min_four
set_option linter.unusedVariables false
set_option linter.unusedSimpArgs false
def laws_szIntS.f (l0:List Int) (a1:Int):Option (Int):=if (wrap64 (a1 - (l0.length:Int))) < 0 then (some (-1)) else (some (wrap64 (a1 - (l0.length:Int))))
set_option maxHeartbeats 8000000 in
set_option maxRecDepth 100000 in
theorem laws_szIntS.calls (A0:Option Addr) (c0:Nat) (l0:List Int) (a1:Int) (r:Int) (w:World) (hr0:Kd.C (Kd.int .i64) w A0 l0.length l0) (hc0:l0.length≤c0) (h:laws_szIntS.f l0 a1=some r) :
  Calls Try.prog 82 #[.slice A0 l0.length c0,.int .i64 a1] w fun e w'=>e = .returned (.int .i64 r)∧Drawn0 w w':=by
 have HR0:=aM hr0
 have HC0:=aM hc0
 clear hr0 hc0
 have H:(if (wrap64 (a1 - (l0.length:Int))) < 0 then (some (-1)) else (some (wrap64 (a1 - (l0.length:Int)))))=some r:=h
 clear h
 by_cases c3:(wrap64 (a1 - (l0.length:Int))) < 0
 ·rw [if_pos c3] at H
  have c3b0:decide ((wrap64 (a1 - (l0.length:Int))) < 0)=true:=decide_eq_true c3
  clear c3
  obtain rfl:=Option.some.inj H
  go_enter Try.func82,Try.ntmps82
  go_wp2
  go_ret
  exact ⟨by first|rfl|(simp;done)|(simp [*];done),by repeat (exact Drawn0.refl _)⟩
 ·rw [if_neg c3] at H
  have c3b0:decide ((wrap64 (a1 - (l0.length:Int))) < 0)=false:=decide_eq_false c3
  clear c3
  obtain rfl:=Option.some.inj H
  go_enter Try.func82,Try.ntmps82
  go_wp2
  go_ret
  exact ⟨by first|rfl|(simp;done)|(simp [*];done),by repeat (exact Drawn0.refl _)⟩
def laws_szPart.f (l0_0:List Int) (a1:Int):Option (Int):=(laws_szIntS.f l0_0 a1).bind fun t352=>(if t352 < 0 then (some (-1)) else (some t352))
set_option maxHeartbeats 8000000 in
set_option maxRecDepth 100000 in
theorem laws_szPart.calls (A0_0:Option Addr) (c0_0:Nat) (l0_0:List Int) (a1:Int) (r:Int) (w:World) (hr0_0:Kd.C (Kd.int .i64) w A0_0 l0_0.length l0_0) (hc0_0:l0_0.length≤c0_0) (h:laws_szPart.f l0_0 a1=some r) :
  Calls Try.prog 77 #[.agg #[.slice A0_0 l0_0.length c0_0],.int .i64 a1] w fun e w'=>e = .returned (.int .i64 r)∧Below w.heap.size w w':=by
 have hu96:=Try.underlying96
 have HR0_0:=aM hr0_0
 have HC0_0:=aM hc0_0
 clear hr0_0 hc0_0
 have HB:=aM (Below.refl w.heap.size w)
 have H:((laws_szIntS.f l0_0 a1).bind fun t352=>(if t352 < 0 then (some (-1)) else (some t352)))=some r:=h
 clear h
 replace H:=Option.bind_eq_some_iff.mp H
 obtain ⟨t352,A30,H⟩:=H
 try dsimp only at H
 have A3:=aM A30
 clear A30
 by_cases c4:t352 < 0
 ·rw [if_pos c4] at H
  have c4b0:decide (t352 < 0)=true:=decide_eq_true c4
  clear c4
  obtain rfl:=Option.some.inj H
  go_enter Try.func77,Try.ntmps77
  go_wp2_with (first|((with_reducible refine gate_dst (N:=2) rfl ?_);refine box_event ?hg (N:=2) ?hd (cs:=#[.slice A0_0 l0_0.length c0_0]) (t:=96) ?hr ?_;(case hd=>rfl);(case hg=>rfl);(case hr=>first|(go_simp;done)|(go_simp;rfl));intro gb351 hg w5 hbox hb;have BK351:=aM (hbox);have GW351:=gS w hg;have GE351:=gS w hg;replace HB:=bs hb;clear hb hbox hg;have hcz6_0:w5.cell? ⟨gb351,0,none⟩=some (.slice A0_0 l0_0.length c0_0):=(blk_cell BK351.out 0).trans rfl;have hfz6_0:=blk_frozen BK351.out 0)|((with_reducible refine gate_callee (f:=82) rfl ?_);refine goesL_ (some 8) rfl rfl Try.func82 (by kernel_rfl) rfl #[.slice A0_0 l0_0.length c0_0,.int .i64 a1] rfl (by (try simp only [List.map_toArray,List.map_cons,List.map_nil]);first|done|rfl|(simp only [List.length_drop,List.length_take];rfl)) ?_;(with_reducible refine (laws_szIntS.calls _ _ l0_0 a1 t352 _ ?side1 ?side2 A3.out).mono ?_);(case side1=>exact rC HR0_0);(case side2=>exact HC0_0.out);rintro e w' ⟨rfl,⟨nd,rfl⟩⟩;refine ⟨_,rfl,?_⟩))
  go_ret
  exact ⟨rz,be⟩
 ·rw [if_neg c4] at H
  have c4b0:decide (t352 < 0)=false:=decide_eq_false c4
  clear c4
  obtain rfl:=Option.some.inj H
  go_enter Try.func77,Try.ntmps77
  go_wp2_with (first|((with_reducible refine gate_dst (N:=2) rfl ?_);refine box_event ?hg (N:=2) ?hd (cs:=#[.slice A0_0 l0_0.length c0_0]) (t:=96) ?hr ?_;(case hd=>rfl);(case hg=>rfl);(case hr=>first|(go_simp;done)|(go_simp;rfl));intro gb351 hg w7 hbox hb;have BK351:=aM (hbox);have GW351:=gS w hg;have GE351:=gS w hg;replace HB:=bs hb;clear hb hbox hg;have hcz8_0:w7.cell? ⟨gb351,0,none⟩=some (.slice A0_0 l0_0.length c0_0):=(blk_cell BK351.out 0).trans rfl;have hfz8_0:=blk_frozen BK351.out 0)|((with_reducible refine gate_callee (f:=82) rfl ?_);refine goesL_ (some 8) rfl rfl Try.func82 (by kernel_rfl) rfl #[.slice A0_0 l0_0.length c0_0,.int .i64 a1] rfl (by (try simp only [List.map_toArray,List.map_cons,List.map_nil]);first|done|rfl|(simp only [List.length_drop,List.length_take];rfl)) ?_;(with_reducible refine (laws_szIntS.calls _ _ l0_0 a1 t352 _ ?side1 ?side2 A3.out).mono ?_);(case side1=>exact rC HR0_0);(case side2=>exact HC0_0.out);rintro e w' ⟨rfl,⟨nd,rfl⟩⟩;refine ⟨_,rfl,?_⟩))
  go_ret
  exact ⟨rz,be⟩
def laws_szPartS.l0:Nat→List (S96)→Int→Int→Option (Int)
 | 0,_,_,_=>none
 | k+1,x0,x1,x5=>if x5 < (x0.length:Int) then (if 0≤x5 then ((laws_szPart.f ((rd_T96 x0 x5).f0) x1).bind fun t354=>(if t354 < 0 then (some (-1)) else (laws_szPartS.l0 k x0 t354 (wrap64 (x5+1))))) else (none)) else (some x1)
def laws_szPartS.f (k:Nat) (l0:List (S96)) (a1:Int):Option (Int):=if (wrap64 (a1 - (l0.length:Int))) < 0 then (some (-1)) else (laws_szPartS.l0 k l0 (wrap64 (a1 - (l0.length:Int))) 0)
set_option maxHeartbeats 8000000 in
set_option maxRecDepth 100000 in
theorem laws_szPartS.calls (k:Nat) (A0:Option Addr) (c0:Nat) (l0:List (S96)) (a1:Int) (r:Int) (w:World) (hr0:Kd.C k96 w A0 l0.length l0) (hc0:l0.length≤c0) (h:laws_szPartS.f k l0 a1=some r) :
  Calls Try.prog 61 #[.slice A0 l0.length c0,.int .i64 a1] w fun e w'=>e = .returned (.int .i64 r)∧Below w.heap.size w w':=by
 have hu96:=Try.underlying96
 have HR0:=aM hr0
 have HC0:=aM hc0
 clear hr0 hc0
 have HB:=aM (Below.refl w.heap.size w)
 have H:(if (wrap64 (a1 - (l0.length:Int))) < 0 then (some (-1)) else (laws_szPartS.l0 k l0 (wrap64 (a1 - (l0.length:Int))) 0))=some r:=h
 clear h
 by_cases c3:(wrap64 (a1 - (l0.length:Int))) < 0
 ·rw [if_pos c3] at H
  have c3b0:decide ((wrap64 (a1 - (l0.length:Int))) < 0)=true:=decide_eq_true c3
  clear c3
  obtain rfl:=Option.some.inj H
  go_enter Try.func61,Try.ntmps61
  go_wp2
  go_ret
  exact ⟨rz,be⟩
 ·rw [if_neg c3] at H
  have c3b0:decide ((wrap64 (a1 - (l0.length:Int))) < 0)=false:=decide_eq_false c3
  clear c3
  have H':=Aside0.mk H
  clear H
  go_enter Try.func61,Try.ntmps61
  go_wp2
  go_loopg [1,5] k (fun kq v1 v5 w'=>∃ (x1_1:Int) (x5_1:Int),v1 = .int .i64 x1_1∧v5 = .int .i64 x5_1∧Aside0 (laws_szPartS.l0 kq l0 x1_1 x5_1=some r)∧Aside0 (kq≤k)∧Aside0 (Below w.heap.size w w'))
  case atStart=>exact ⟨(wrap64 (a1 - (l0.length:Int))),(0),rd_,rd_,H',⟨Nat.le_refl _⟩,⟨be⟩⟩
  case round=>
   clear H'
   try clear c3b0
   obtain ⟨x1_1,x5_1,rfl,rfl,HA,HK1,HB⟩:=hrel
   cases gk with
   | zero=>exact absurd HA.out (by simp [laws_szPartS.l0])
   | succ k1=>
    have H:=HA.out
    clear HA
    simp only [laws_szPartS.l0] at H
    by_cases c4:x5_1 < (l0.length:Int)
    ·rw [if_pos c4] at H
     have c4b0:decide (x5_1 < (l0.length:Int))=true:=decide_eq_true c4
     clear c4
     by_cases c5:0≤x5_1
     ·rw [if_pos c5] at H
      have c5b0:decide (0≤x5_1)=true:=decide_eq_true c5
      clear c5
      replace H:=Option.bind_eq_some_iff.mp H
      obtain ⟨t354,A60,H⟩:=H
      try dsimp only at H
      have A6:=aM A60
      clear A60
      by_cases c7:t354 < 0
      ·rw [if_pos c7] at H
       have c7b0:decide (t354 < 0)=true:=decide_eq_true c7
       clear c7
       obtain rfl:=Option.some.inj H
       have p353:0≤(x5_1:Int):=of_decide_eq_true (by first|(with_reducible assumption)|assumption)
       have q353:x5_1 < (l0.length:Int):=of_decide_eq_true (by first|(with_reducible assumption)|assumption)
       obtain ⟨ad353,A353_0,c353_0,e353,hx353_0,hl353_0,hi353_0⟩:=at_T96 HR0.out x5_1 p353 q353
       cases e353
       replace hx353_0:=(HB.out.cell (World.block_lt_of_cell? w _ hx353_0)).trans hx353_0
       have HR353_0:=aM hi353_0
       have HC353_0:=aM hl353_0
       clear hi353_0 hl353_0
       replace p353:=eq_true p353
       replace q353:=eq_true q353
       go_wp2_with ((with_reducible refine gate_callee (f:=77) rfl ?_);refine goesL_ (some 23) rfl rfl Try.func77 (by kernel_rfl) rfl #[.agg #[.slice A353_0 ((rd_T96 l0 x5_1).f0).length c353_0],.int .i64 x1_1] rfl (by (try simp only [List.map_toArray,List.map_cons,List.map_nil]);first|done|rfl|(simp only [List.length_drop,List.length_take];rfl)) ?_;(with_reducible refine (laws_szPart.calls _ _ ((rd_T96 l0 x5_1).f0) x1_1 t354 _ ?side1 ?side2 A6.out).mono ?_);(case side1=>exact rC HR353_0);(case side2=>exact HC353_0.out);rintro e w8 ⟨rfl,hb⟩;refine ⟨_,rfl,?_⟩;replace HB:=bs hb;(try clear hb))
       go_ret
       exact ⟨rz,be⟩
      ·rw [if_neg c7] at H
       have c7b0:decide (t354 < 0)=false:=decide_eq_false c7
       clear c7
       have H':=Aside0.mk H
       clear H
       have p353:0≤(x5_1:Int):=of_decide_eq_true (by first|(with_reducible assumption)|assumption)
       have q353:x5_1 < (l0.length:Int):=of_decide_eq_true (by first|(with_reducible assumption)|assumption)
       obtain ⟨ad353,A353_0,c353_0,e353,hx353_0,hl353_0,hi353_0⟩:=at_T96 HR0.out x5_1 p353 q353
       cases e353
       replace hx353_0:=(HB.out.cell (World.block_lt_of_cell? w _ hx353_0)).trans hx353_0
       have HR353_0:=aM hi353_0
       have HC353_0:=aM hl353_0
       clear hi353_0 hl353_0
       replace p353:=eq_true p353
       replace q353:=eq_true q353
       go_wp2_with ((with_reducible refine gate_callee (f:=77) rfl ?_);refine goesL_ (some 23) rfl rfl Try.func77 (by kernel_rfl) rfl #[.agg #[.slice A353_0 ((rd_T96 l0 x5_1).f0).length c353_0],.int .i64 x1_1] rfl (by (try simp only [List.map_toArray,List.map_cons,List.map_nil]);first|done|rfl|(simp only [List.length_drop,List.length_take];rfl)) ?_;(with_reducible refine (laws_szPart.calls _ _ ((rd_T96 l0 x5_1).f0) x1_1 t354 _ ?side1 ?side2 A6.out).mono ?_);(case side1=>exact rC HR353_0);(case side2=>exact HC353_0.out);rintro e w9 ⟨rfl,hb⟩;refine ⟨_,rfl,?_⟩;replace HB:=bs hb;(try clear hb))
       go_roundg k1
       case measure=>have:=HK1.out;omega
       case rel=>exact ⟨(t354),(wrap64 (x5_1+1)),rd_,rd_,H',⟨by have:=HK1.out;omega⟩,⟨be⟩⟩
     ·rw [if_neg c5] at H
      exact absurd H (by simp)
    ·rw [if_neg c4] at H
     have c4b0:decide (x5_1 < (l0.length:Int))=false:=decide_eq_false c4
     clear c4
     obtain rfl:=Option.some.inj H
     go_wp2
     go_ret
     exact ⟨rz,be⟩
def laws_szRing.f (k:Nat) (a0_0:Int) (l0_1:List (S96)) (a1:Int):Option (Int):=(laws_szPartS.f k l0_1 a1).bind fun t356=>(if t356 < 0 then (some (-1)) else (some t356))
set_option maxHeartbeats 8000000 in
set_option maxRecDepth 100000 in
theorem laws_szRing.calls (k:Nat) (a0_0:Int) (A0_1:Option Addr) (c0_1:Nat) (l0_1:List (S96)) (a1:Int) (r:Int) (w:World) (hr0_1:Kd.C k96 w A0_1 l0_1.length l0_1) (hc0_1:l0_1.length≤c0_1) (h:laws_szRing.f k a0_0 l0_1 a1=some r) :
  Calls Try.prog 16 #[.agg #[.int .i64 a0_0,.slice A0_1 l0_1.length c0_1],.int .i64 a1] w fun e w'=>e = .returned (.int .i64 r)∧Below w.heap.size w w':=by
 have hu40:=Try.underlying40
 have HR0_1:=aM hr0_1
 have HC0_1:=aM hc0_1
 clear hr0_1 hc0_1
 have HB:=aM (Below.refl w.heap.size w)
 have H:((laws_szPartS.f k l0_1 a1).bind fun t356=>(if t356 < 0 then (some (-1)) else (some t356)))=some r:=h
 clear h
 replace H:=Option.bind_eq_some_iff.mp H
 obtain ⟨t356,A30,H⟩:=H
 try dsimp only at H
 have A3:=aM A30
 clear A30
 by_cases c4:t356 < 0
 ·rw [if_pos c4] at H
  have c4b0:decide (t356 < 0)=true:=decide_eq_true c4
  clear c4
  obtain rfl:=Option.some.inj H
  go_enter Try.func16,Try.ntmps16
  go_wp2_with (first|((with_reducible refine gate_dst (N:=2) rfl ?_);refine box_event ?hg (N:=2) ?hd (cs:=#[.int .i64 a0_0,.slice A0_1 l0_1.length c0_1]) (t:=40) ?hr ?_;(case hd=>rfl);(case hg=>rfl);(case hr=>first|(go_simp;done)|(go_simp;rfl));intro gb355 hg w5 hbox hb;have BK355:=aM (hbox);have GW355:=gS w hg;have GE355:=gS w hg;replace HB:=bs hb;clear hb hbox hg;have hcz6_0:w5.cell? ⟨gb355,0,none⟩=some (.int .i64 a0_0):=(blk_cell BK355.out 0).trans rfl;have hcz6_1:w5.cell? ⟨gb355,1,none⟩=some (.slice A0_1 l0_1.length c0_1):=(blk_cell BK355.out 1).trans rfl;have hfz6_0:=blk_frozen BK355.out 0;have hfz6_1:=blk_frozen BK355.out 1)|((with_reducible refine gate_callee (f:=61) rfl ?_);refine goesL_ (some 8) rfl rfl Try.func61 (by kernel_rfl) rfl #[.slice A0_1 l0_1.length c0_1,.int .i64 a1] rfl (by (try simp only [List.map_toArray,List.map_cons,List.map_nil]);first|done|rfl|(simp only [List.length_drop,List.length_take];rfl)) ?_;(with_reducible refine (laws_szPartS.calls k _ _ l0_1 a1 t356 _ ?side1 ?side2 A3.out).mono ?_);(case side1=>exact rC HR0_1);(case side2=>exact HC0_1.out);rintro e w7 ⟨rfl,hb⟩;refine ⟨_,rfl,?_⟩;replace HB:=bs hb;clear BK355;(try clear hb)))
  go_ret
  exact ⟨rz,be⟩
 ·rw [if_neg c4] at H
  have c4b0:decide (t356 < 0)=false:=decide_eq_false c4
  clear c4
  obtain rfl:=Option.some.inj H
  go_enter Try.func16,Try.ntmps16
  go_wp2_with (first|((with_reducible refine gate_dst (N:=2) rfl ?_);refine box_event ?hg (N:=2) ?hd (cs:=#[.int .i64 a0_0,.slice A0_1 l0_1.length c0_1]) (t:=40) ?hr ?_;(case hd=>rfl);(case hg=>rfl);(case hr=>first|(go_simp;done)|(go_simp;rfl));intro gb355 hg w8 hbox hb;have BK355:=aM (hbox);have GW355:=gS w hg;have GE355:=gS w hg;replace HB:=bs hb;clear hb hbox hg;have hcz9_0:w8.cell? ⟨gb355,0,none⟩=some (.int .i64 a0_0):=(blk_cell BK355.out 0).trans rfl;have hcz9_1:w8.cell? ⟨gb355,1,none⟩=some (.slice A0_1 l0_1.length c0_1):=(blk_cell BK355.out 1).trans rfl;have hfz9_0:=blk_frozen BK355.out 0;have hfz9_1:=blk_frozen BK355.out 1)|((with_reducible refine gate_callee (f:=61) rfl ?_);refine goesL_ (some 8) rfl rfl Try.func61 (by kernel_rfl) rfl #[.slice A0_1 l0_1.length c0_1,.int .i64 a1] rfl (by (try simp only [List.map_toArray,List.map_cons,List.map_nil]);first|done|rfl|(simp only [List.length_drop,List.length_take];rfl)) ?_;(with_reducible refine (laws_szPartS.calls k _ _ l0_1 a1 t356 _ ?side1 ?side2 A3.out).mono ?_);(case side1=>exact rC HR0_1);(case side2=>exact HC0_1.out);rintro e w10 ⟨rfl,hb⟩;refine ⟨_,rfl,?_⟩;replace HB:=bs hb;clear BK355;(try clear hb)))
  go_ret
  exact ⟨rz,be⟩
def laws_szDevS.f (l0:List (S83)) (a1:Int):Option (Int):=if (wrap64 (a1 - (l0.length:Int))) < 0 then (some (-1)) else (some (wrap64 (a1 - (l0.length:Int))))
set_option maxHeartbeats 8000000 in
set_option maxRecDepth 100000 in
theorem laws_szDevS.calls (A0:Option Addr) (c0:Nat) (l0:List (S83)) (a1:Int) (r:Int) (w:World) (hr0:Kd.C k83 w A0 l0.length l0) (hc0:l0.length≤c0) (h:laws_szDevS.f l0 a1=some r) :
  Calls Try.prog 17 #[.slice A0 l0.length c0,.int .i64 a1] w fun e w'=>e = .returned (.int .i64 r)∧Drawn0 w w':=by
 have HR0:=aM hr0
 have HC0:=aM hc0
 clear hr0 hc0
 have H:(if (wrap64 (a1 - (l0.length:Int))) < 0 then (some (-1)) else (some (wrap64 (a1 - (l0.length:Int)))))=some r:=h
 clear h
 by_cases c3:(wrap64 (a1 - (l0.length:Int))) < 0
 ·rw [if_pos c3] at H
  have c3b0:decide ((wrap64 (a1 - (l0.length:Int))) < 0)=true:=decide_eq_true c3
  clear c3
  obtain rfl:=Option.some.inj H
  go_enter Try.func17,Try.ntmps17
  go_wp2
  go_ret
  exact ⟨by first|rfl|(simp;done)|(simp [*];done),by repeat (exact Drawn0.refl _)⟩
 ·rw [if_neg c3] at H
  have c3b0:decide ((wrap64 (a1 - (l0.length:Int))) < 0)=false:=decide_eq_false c3
  clear c3
  obtain rfl:=Option.some.inj H
  go_enter Try.func17,Try.ntmps17
  go_wp2
  go_ret
  exact ⟨by first|rfl|(simp;done)|(simp [*];done),by repeat (exact Drawn0.refl _)⟩
def laws_toIntS.l0:Nat→List Int→List Int→Int→Option (List Int)
 | 0,_,_,_=>none
 | k+1,x0,x3,x4=>if x4 < (x0.length:Int) then (if 0≤x4 then (if x4 < (x3.length:Int) then (laws_toIntS.l0 k x0 (x3.set (x4:Int).toNat (rd x0 x4)) (wrap64 (x4+1))) else (none)) else (none)) else (some x3)
def laws_toIntS.f (k:Nat) (l0:List Int):Option (List Int):=if 0≤(l0.length:Int) then (if ((l0.length:Int):Int).toNat≤35184372088832 then (laws_toIntS.l0 k l0 (List.replicate ((l0.length:Int):Int).toNat 0) 0) else (none)) else (none)
set_option maxHeartbeats 8000000 in
set_option maxRecDepth 100000 in
theorem laws_toIntS.calls (k:Nat) (A0:Option Addr) (c0:Nat) (l0:List Int) (r:List Int) (w:World) (hr0:Kd.C (Kd.int .i64) w A0 l0.length l0) (hc0:l0.length≤c0) (h:laws_toIntS.f k l0=some r) :
  Calls Try.prog 83 #[.slice A0 l0.length c0] w fun e w'=>∃ v0_:Value,e = .returned (v0_)∧Kd.R (Kd.int .i64) 3 w' w.heap.size (fun _=>True) v0_ r∧Below w.heap.size w w':=by
 have HR0:=aM hr0
 have HC0:=aM hc0
 clear hr0 hc0
 have HB:=aM (Below.refl w.heap.size w)
 have H:(if 0≤(l0.length:Int) then (if ((l0.length:Int):Int).toNat≤35184372088832 then (laws_toIntS.l0 k l0 (List.replicate ((l0.length:Int):Int).toNat 0) 0) else (none)) else (none))=some r:=h
 clear h
 by_cases c2:0≤(l0.length:Int)
 ·rw [if_pos c2] at H
  have c2b0:=eq_true c2
  have c2b1:decide (0≤(l0.length:Int))=true:=decide_eq_true c2
  clear c2
  by_cases c3:((l0.length:Int):Int).toNat≤35184372088832
  ·rw [if_pos c3] at H
   have c3b0:=eq_true c3
   have c3b1:decide (((l0.length:Int):Int).toNat≤35184372088832)=true:=decide_eq_true c3
   clear c3
   obtain ⟨y357,hy357⟩ : ∃ y_:List Int,y_=(List.replicate ((l0.length:Int):Int).toNat 0):=⟨_,rfl⟩
   replace H:(laws_toIntS.l0 k l0 y357 0)=some r:=by first|(rw [hy357];with_reducible exact H)|(have H2_:=(Option.bind_some _ _).symm.trans H;rw [hy357];with_reducible exact H2_)|(have H2_:=(Option.bind_some _ _).symm.trans H;with_reducible exact H2_)|with_reducible exact H|(rw [hy357];exact H)|exact H
   have Ny357:=aM hy357
   clear hy357
   have H':=Aside0.mk H
   clear H
   go_enter Try.func83,Try.ntmps83
   go_wp2_with ((with_reducible refine gate_dst (N:=7) rfl ?_);refine Kd.R_make (Kd.int .i64) _ 3 rfl (N:=7) rfl 33 _ _ rfl (l0.length:Int) rfl rfl Try.underlying33 (.int .i64 0) 8 info3 rfl (by decide) (by omega) 0 (ok:=fun _=>True) (okp:=fun _=>True) rfl (fun _ hk=>hk) trivial (of_decide_eq_true (by first|(with_reducible assumption)|assumption)) (Nat.le_trans (Nat.mul_le_mul_right _ (of_decide_eq_true (by first|(with_reducible assumption)|assumption):(l0.length:Int).toNat≤35184372088832)) (by omega)) (Below.refl _ _) (Nat.le_refl _) ?_;intro v358 w4 ho5 hb hg_ hnew_;clear hg_ hnew_;(rw [← Ny357.out] at ho5);have HO359:=aM (Kd.R_lower ho5 (below_size be));replace HB:=bs hb;clear hb ho5)
   go_loopg [4] k (fun kq v4 w'=>∃ (x3_1:List Int) (x4_1:Int),v4 = .int .i64 x4_1∧Aside0 (laws_toIntS.l0 kq l0 x3_1 x4_1=some r)∧Aside0 (kq≤k)∧Aside0 (Kd.R (Kd.int .i64) 3 w' w.heap.size (fun _=>True) v358 x3_1)∧Aside0 (Below w.heap.size w w'))
   case atStart=>exact ⟨(y357),(0),rd_,H',⟨Nat.le_refl _⟩,⟨rR HO359⟩,⟨be⟩⟩
   case round=>
    clear H'
    try clear c2b0
    try clear c2b1
    try clear c3b0
    try clear c3b1
    obtain ⟨x3_1,x4_1,rfl,HA,HK1,HO_3,HB⟩:=hrel
    cases gk with
    | zero=>exact absurd HA.out (by simp [laws_toIntS.l0])
    | succ k1=>
     have H:=HA.out
     clear HA
     simp only [laws_toIntS.l0] at H
     by_cases c6:x4_1 < (l0.length:Int)
     ·rw [if_pos c6] at H
      have c6b0:decide (x4_1 < (l0.length:Int))=true:=decide_eq_true c6
      clear c6
      by_cases c7:0≤x4_1
      ·rw [if_pos c7] at H
       have c7b0:decide (0≤x4_1)=true:=decide_eq_true c7
       clear c7
       by_cases c8:x4_1 < (x3_1.length:Int)
       ·rw [if_pos c8] at H
        have c8b0:decide (x4_1 < (x3_1.length:Int))=true:=decide_eq_true c8
        clear c8
        obtain ⟨y361,hy361⟩ : ∃ y_:List Int,y_=(x3_1.set (x4_1:Int).toNat (rd l0 x4_1)):=⟨_,rfl⟩
        replace H:(laws_toIntS.l0 k1 l0 y361 (wrap64 (x4_1+1)))=some r:=by first|(rw [hy361];with_reducible exact H)|(have H2_:=(Option.bind_some _ _).symm.trans H;rw [hy361];with_reducible exact H2_)|(have H2_:=(Option.bind_some _ _).symm.trans H;with_reducible exact H2_)|with_reducible exact H|(rw [hy361];exact H)|exact H
        have Ny361:=aM hy361
        clear hy361
        have H':=Aside0.mk H
        clear H
        have p360:0≤(x4_1:Int):=of_decide_eq_true (by first|(with_reducible assumption)|assumption)
        have q360:x4_1 < (l0.length:Int):=of_decide_eq_true (by first|(with_reducible assumption)|assumption)
        obtain ⟨ad360,e360,hx360_0⟩:=Kd.at_int HR0.out x4_1 p360 q360
        cases e360
        replace hx360_0:=(HB.out.cell (World.block_lt_of_cell? w _ hx360_0)).trans hx360_0
        replace p360:=eq_true p360
        replace q360:=eq_true q360
        have p9:0≤(x4_1:Int):=of_decide_eq_true (by first|(with_reducible assumption)|assumption)
        have q9:(x4_1:Int) < ((x3_1.length:Int):Int):=of_decide_eq_true (by first|(with_reducible assumption)|assumption)
        obtain ⟨go9,co9,eo9,gb9,gl9,cl9,HG9⟩:=Kd.R_form HO_3.out (by omega)
        (cases eo9)
        have GB9:=aM gb9
        have GG9:=aM HG9
        clear gb9 gl9 HG9
        obtain ⟨hx9_0,hf9_0⟩:=Kd.R_celln 0 HO_3.out (x4_1:Int) p9 q9
        replace p9:=eq_true p9
        replace q9:=eq_true q9
        have HP10:=Kd.R_putg HO_3.out (x4_1:Int) (rd l0 x4_1)
        go_wp2_with ((with_reducible refine gate_store (t:=3) (p:=20) rfl ?_);refine store_event (t:=3) (p:=20) (v:=?vo_w11) (w1:=(wr.setCell ⟨go9,(x4_1:Int).toNat,none⟩ (.int .i64 (rd l0 x4_1)))) ?hg ?ho ?hn ?hr ?_;(case ho=>rfl);(case hg=>rfl);(case hn=>rfl);(case hr=>first|(go_simp;done)|(go_simp;rfl));intro w11 hw;have hg:wr.grownBy w11 (some go9):=(by rw [hw];exact HP10.2);have hp_:Kd.R (Kd.int .i64) 3 w11 w.heap.size (fun _=>True) (.slice (some ⟨go9,0,none⟩) x3_1.length co9) y361:=(by rw [hw,Ny361.out];exact HP10.1);clear HP10;replace HO_3:=aM (hp_);replace HB:=aM ((by rw [hw];exact below_set (HB.out) GB9.out:Below w.heap.size w w11));clear hg hw hp_)
        go_roundg k1
        case measure=>have:=HK1.out;omega
        case rel=>exact ⟨(y361),(wrap64 (x4_1+1)),rd_,H',⟨by have:=HK1.out;omega⟩,⟨rR HO_3⟩,⟨be⟩⟩
       ·rw [if_neg c8] at H
        exact absurd H (by simp)
      ·rw [if_neg c7] at H
       exact absurd H (by simp)
     ·rw [if_neg c6] at H
      have c6b0:decide (x4_1 < (l0.length:Int))=false:=decide_eq_false c6
      clear c6
      obtain rfl:=Option.some.inj H
      go_wp2
      go_ret
      exact ⟨_,rz,rR HO_3,be⟩
  ·rw [if_neg c3] at H
   exact absurd H (by simp)
 ·rw [if_neg c2] at H
  exact absurd H (by simp)
def laws_toPart.f (k:Nat) (l0_0:List Int):Option (List Int):=(laws_toIntS.f k l0_0).bind fun t365=>(some t365)
set_option maxHeartbeats 8000000 in
set_option maxRecDepth 100000 in
theorem laws_toPart.calls (k:Nat) (A0_0:Option Addr) (c0_0:Nat) (l0_0:List Int) (r:List Int) (w:World) (hr0_0:Kd.C (Kd.int .i64) w A0_0 l0_0.length l0_0) (hc0_0:l0_0.length≤c0_0) (h:laws_toPart.f k l0_0=some r) :
  Calls Try.prog 78 #[.agg #[.slice A0_0 l0_0.length c0_0]] w fun e w'=>∃ v0_:Value,e = .returned (.agg #[v0_])∧Kd.R (Kd.int .i64) 3 w' w.heap.size (fun _=>True) v0_ r∧Below w.heap.size w w':=by
 have hu96:=Try.underlying96
 have hu35:=Try.underlying35
 have HR0_0:=aM hr0_0
 have HC0_0:=aM hc0_0
 clear hr0_0 hc0_0
 have HB:=aM (Below.refl w.heap.size w)
 have H:((laws_toIntS.f k l0_0).bind fun t365=>(some t365))=some r:=h
 clear h
 replace H:=Option.bind_eq_some_iff.mp H
 obtain ⟨t365,A20,H⟩:=H
 try dsimp only at H
 have A2:=aM A20
 clear A20
 obtain rfl:=Option.some.inj H
 go_enter Try.func78,Try.ntmps78
 go_wp2_with (first|((with_reducible refine gate_dst (N:=1) rfl ?_);refine box_event ?hg (N:=1) ?hd (cs:=#[.slice A0_0 l0_0.length c0_0]) (t:=96) ?hr ?_;(case hd=>rfl);(case hg=>rfl);(case hr=>first|(go_simp;done)|(go_simp;rfl));intro gb362 hg w3 hbox hb;have BK362:=aM (hbox);have GW362:=gS w hg;have GE362:=gS w hg;replace HB:=bs hb;clear hb hbox hg)|((with_reducible refine gate_dst (N:=2) rfl ?_);refine box_event ?hg (N:=2) ?hd (cs:=#[.slice none 0 0]) (t:=35) ?hr ?_;(case hd=>rfl);(case hg=>rfl);(case hr=>first|(go_simp;done)|(go_simp;rfl));intro gb363 hg w4 hbox hb;have BK363:=aM (hbox);have GW363:=gS w hg;have GE363:=gS w hg;replace HB:=bs hb;have NB362_363:=nL hg BK362;have NB363_362:=nG hg BK362;replace BK362:=bB BK362 hb;clear hb hbox hg)|((with_reducible refine gate_dst (N:=3) rfl ?_);refine box_event ?hg (N:=3) ?hd (cs:=#[.slice none 0 0]) (t:=35) ?hr ?_;(case hd=>rfl);(case hg=>rfl);(case hr=>first|(go_simp;done)|(go_simp;rfl));intro gb364 hg w5 hbox hb;have BK364:=aM (hbox);have GW364:=gS w hg;have GE364:=gS w hg;replace HB:=bs hb;have NB362_364:=nL hg BK362;have NB364_362:=nG hg BK362;replace BK362:=bB BK362 hb;have NB363_364:=nL hg BK363;have NB364_363:=nG hg BK363;replace BK363:=bB BK363 hb;clear hb hbox hg;have hnb6:=NB362_363.out;have hnc6:=NB363_362.out;have hnb7:=NB362_364.out;have hnc7:=NB364_362.out;have hcz8_0:w5.cell? ⟨gb362,0,none⟩=some (.slice A0_0 l0_0.length c0_0):=(blk_cell BK362.out 0).trans rfl;have hfz8_0:=blk_frozen BK362.out 0)|((with_reducible refine gate_callee (f:=83) rfl ?_);refine goesL_ (some 6) rfl rfl Try.func83 (by kernel_rfl) rfl #[.slice A0_0 l0_0.length c0_0] rfl (by (try simp only [List.map_toArray,List.map_cons,List.map_nil]);first|done|rfl|(simp only [List.length_drop,List.length_take];rfl)) ?_;(with_reducible refine (laws_toIntS.calls k _ _ l0_0 t365 _ ?side1 ?side2 A2.out).mono ?_);(case side1=>exact rC HR0_0);(case side2=>exact HC0_0.out);rintro e w9 ⟨v366,rfl,ho0,hb⟩;refine ⟨_,rfl,?_⟩;have HO367:=aM (Kd.R_lower ho0 (below_size be));replace BK363:=bB BK363 hb;replace BK364:=bB BK364 hb;replace HB:=bs hb;clear BK362;(try clear hb);(try clear ho0);obtain ⟨Ao10,co10,eo10⟩:=Kd.R_slice HO367.out;subst eo10;have hnb11:=NB364_363.out;have hnc11:=NB363_364.out;have hcz12_0:w9.cell? ⟨gb364,0,none⟩=some (.slice none 0 0):=(blk_cell BK364.out 0).trans rfl;have hfz12_0:=blk_frozen BK364.out 0;have hcz13_0:w9.cell? ⟨gb363,0,none⟩=some (.slice none 0 0):=(blk_cell BK363.out 0).trans rfl;have hfz13_0:=blk_frozen BK363.out 0))
 refine bodyPost_ret (results_cell_row rfl _ _ gb363 35 #[.slice Ao10 t365.length co10] (0,0) _ rfl (by (with_reducible repeat (first|refine blk_drewN ?_ _|refine blk_drew ?_|refine blk_alloc ?_ _));refine blk_put (cs:=#[.slice none 0 0]) ?_ 0 _ rfl;(with_reducible repeat (first|refine blk_drewN ?_ _|refine blk_drew ?_|refine blk_alloc ?_ _));refine blk_far ?_ NB363_364.out _;(with_reducible repeat (first|refine blk_drewN ?_ _|refine blk_drew ?_|refine blk_alloc ?_ _));exact BK363.out) Try.underlying35 rfl (by kernel_rfl)) rfl ?_
 exact ⟨_,rz,by (with_reducible repeat (first|apply Kd.R_alloc|apply Kd.R_drewN|apply Kd.R_drew));exact Kd.R_mono (Kd.R_far (p:=⟨gb363,0,none⟩) (Kd.R_far (p:=⟨gb364,0,none⟩) (Kd.R_types (Kd.R_types HO367.out BK364.out (by decide)) BK363.out (by decide)) (fun _ hk=>hk.1.2) (.slice Ao10 t365.length co10)) (fun _ hk=>hk.2) (.slice Ao10 t365.length co10)) (fun _ hk=>trivial),be⟩
def laws_toPartS.l0:Nat→List (S96)→List (S35)→Int→Option ((List (S35)))
 | 0,_,_,_=>none
 | k+1,x0,x3,x4=>if x4 < (x0.length:Int) then (if 0≤x4 then ((laws_toPart.f k ((rd_T96 x0 x4).f0)).bind fun t372=>(if x4 < (x3.length:Int) then (laws_toPartS.l0 k x0 (x3.set (x4:Int).toNat (⟨t372⟩:S35)) (wrap64 (x4+1))) else (none))) else (none)) else (some x3)
def laws_toPartS.f (k:Nat) (l0:List (S96)):Option ((List (S35))):=if 0≤(l0.length:Int) then (if ((l0.length:Int):Int).toNat≤11728124029610 then (laws_toPartS.l0 k l0 (List.replicate ((l0.length:Int):Int).toNat z35) 0) else (none)) else (none)
set_option maxHeartbeats 8000000 in
set_option maxRecDepth 100000 in
theorem laws_toPartS.calls (k:Nat) (A0:Option Addr) (c0:Nat) (l0:List (S96)) (r:List (S35)) (w:World) (hr0:Kd.C k96 w A0 l0.length l0) (hc0:l0.length≤c0) (h:laws_toPartS.f k l0=some r) :
  Calls Try.prog 62 #[.slice A0 l0.length c0] w fun e w'=>∃ v0_:Value,e = .returned (v0_)∧Kd.S k35 35 w' w.heap.size (fun _=>True) v0_ r∧Below w.heap.size w w':=by
 have hu96:=Try.underlying96
 have hu35:=Try.underlying35
 have HR0:=aM hr0
 have HC0:=aM hc0
 clear hr0 hc0
 have HB:=aM (Below.refl w.heap.size w)
 have H:(if 0≤(l0.length:Int) then (if ((l0.length:Int):Int).toNat≤11728124029610 then (laws_toPartS.l0 k l0 (List.replicate ((l0.length:Int):Int).toNat z35) 0) else (none)) else (none))=some r:=h
 clear h
 by_cases c2:0≤(l0.length:Int)
 ·rw [if_pos c2] at H
  have c2b0:=eq_true c2
  have c2b1:decide (0≤(l0.length:Int))=true:=decide_eq_true c2
  clear c2
  by_cases c3:((l0.length:Int):Int).toNat≤11728124029610
  ·rw [if_pos c3] at H
   have c3b0:=eq_true c3
   have c3b1:decide (((l0.length:Int):Int).toNat≤11728124029610)=true:=decide_eq_true c3
   clear c3
   obtain ⟨y368,hy368⟩ : ∃ y_:List (S35),y_=(List.replicate ((l0.length:Int):Int).toNat z35):=⟨_,rfl⟩
   replace H:(laws_toPartS.l0 k l0 y368 0)=some r:=by first|(rw [hy368];with_reducible exact H)|(have H2_:=(Option.bind_some _ _).symm.trans H;rw [hy368];with_reducible exact H2_)|(have H2_:=(Option.bind_some _ _).symm.trans H;with_reducible exact H2_)|with_reducible exact H|(rw [hy368];exact H)|exact H
   have Ny368:=aM hy368
   clear hy368
   have H':=Aside0.mk H
   clear H
   go_enter Try.func62,Try.ntmps62
   go_wp2_with ((with_reducible refine gate_dst (N:=7) rfl ?_);refine Kd.S_make k35 _ 35 rfl (N:=7) rfl 24 _ _ rfl (l0.length:Int) rfl rfl Try.underlying24 (.agg #[(.slice none 0 0)]) 24 info35 rfl (by decide) (by omega) z35 (ok:=fun _=>True) (okp:=fun _=>True) (k35_mkM _ _ _ z35 (Kd.R_nil _ _ _ _ _)) (fun _ hk=>hk) trivial (of_decide_eq_true (by first|(with_reducible assumption)|assumption)) (Nat.le_trans (Nat.mul_le_mul_right _ (of_decide_eq_true (by first|(with_reducible assumption)|assumption):(l0.length:Int).toNat≤11728124029610)) (by omega)) (Below.refl _ _) (Nat.le_refl _) ?_;intro v369 w4 ho5 hb hg_ hnew_;clear hg_ hnew_;(rw [← Ny368.out] at ho5);have HO370:=aM (Kd.S_lower ho5 (below_size be));replace HB:=bs hb;clear hb ho5)
   go_loopg [4] k (fun kq v4 w'=>∃ (x3_1:List (S35)) (x4_1:Int),v4 = .int .i64 x4_1∧Aside0 (laws_toPartS.l0 kq l0 x3_1 x4_1=some r)∧Aside0 (kq≤k)∧Aside0 (Kd.S k35 35 w' w.heap.size (fun _=>True) v369 x3_1)∧Aside0 (Below w.heap.size w w'))
   case atStart=>exact ⟨(y368),(0),rd_,H',⟨Nat.le_refl _⟩,⟨rS HO370⟩,⟨be⟩⟩
   case round=>
    clear H'
    try clear c2b0
    try clear c2b1
    try clear c3b0
    try clear c3b1
    obtain ⟨x3_1,x4_1,rfl,HA,HK1,HO_3,HB⟩:=hrel
    cases gk with
    | zero=>exact absurd HA.out (by simp [laws_toPartS.l0])
    | succ k1=>
     have H:=HA.out
     clear HA
     simp only [laws_toPartS.l0] at H
     by_cases c6:x4_1 < (l0.length:Int)
     ·rw [if_pos c6] at H
      have c6b0:decide (x4_1 < (l0.length:Int))=true:=decide_eq_true c6
      clear c6
      by_cases c7:0≤x4_1
      ·rw [if_pos c7] at H
       have c7b0:decide (0≤x4_1)=true:=decide_eq_true c7
       clear c7
       replace H:=Option.bind_eq_some_iff.mp H
       obtain ⟨t372,A80,H⟩:=H
       try dsimp only at H
       have A8:=aM A80
       clear A80
       by_cases c9:x4_1 < (x3_1.length:Int)
       ·rw [if_pos c9] at H
        have c9b0:decide (x4_1 < (x3_1.length:Int))=true:=decide_eq_true c9
        clear c9
        obtain ⟨y375,hy375⟩ : ∃ y_:List (S35),y_=(x3_1.set (x4_1:Int).toNat (⟨t372⟩:S35)):=⟨_,rfl⟩
        replace H:(laws_toPartS.l0 k1 l0 y375 (wrap64 (x4_1+1)))=some r:=by first|(rw [hy375];with_reducible exact H)|(have H2_:=(Option.bind_some _ _).symm.trans H;rw [hy375];with_reducible exact H2_)|(have H2_:=(Option.bind_some _ _).symm.trans H;with_reducible exact H2_)|with_reducible exact H|(rw [hy375];exact H)|exact H
        have Ny375:=aM hy375
        clear hy375
        have H':=Aside0.mk H
        clear H
        have p371:0≤(x4_1:Int):=of_decide_eq_true (by first|(with_reducible assumption)|assumption)
        have q371:x4_1 < (l0.length:Int):=of_decide_eq_true (by first|(with_reducible assumption)|assumption)
        obtain ⟨ad371,A371_0,c371_0,e371,hx371_0,hl371_0,hi371_0⟩:=at_T96 HR0.out x4_1 p371 q371
        cases e371
        replace hx371_0:=(HB.out.cell (World.block_lt_of_cell? w _ hx371_0)).trans hx371_0
        have HR371_0:=aM hi371_0
        have HC371_0:=aM hl371_0
        clear hi371_0 hl371_0
        replace p371:=eq_true p371
        replace q371:=eq_true q371
        go_wp2_with (first|((with_reducible refine gate_callee (f:=78) rfl ?_);refine goesL_ (some 20) rfl rfl Try.func78 (by kernel_rfl) rfl #[.agg #[.slice A371_0 ((rd_T96 l0 x4_1).f0).length c371_0]] rfl (by (try simp only [List.map_toArray,List.map_cons,List.map_nil]);first|done|rfl|(simp only [List.length_drop,List.length_take];rfl)) ?_;(with_reducible refine (laws_toPart.calls k1 _ _ ((rd_T96 l0 x4_1).f0) t372 _ ?side1 ?side2 A8.out).mono ?_);(case side1=>exact rC HR371_0);(case side2=>exact HC371_0.out);rintro e w11 ⟨v373,rfl,ho0,hb⟩;refine ⟨_,rfl,?_⟩;have sv_:=fun (w_:World) (a_:Addr) (m_:Mode)=>Aid.store_row (P:=Try.prog) (Kd.R_slice ho0) w_ a_ m_;replace HO_3:=aM (Kd.S_elder' (rS HO_3) (Kd.R_base ho0) hb);have HO374:=aM (Kd.R_lower ho0 (below_size be));replace HB:=bs hb;(try clear hb);(try clear ho0);have p10:0≤(x4_1:Int):=of_decide_eq_true (by first|(with_reducible assumption)|assumption);have q10:(x4_1:Int) < ((x3_1.length:Int):Int):=of_decide_eq_true (by first|(with_reducible assumption)|assumption);obtain ⟨go10,co10,eo10,gb10,gl10,cl10,HG10⟩:=Kd.S_form HO_3.out (by omega);(cases eo10);have GB10:=aM gb10;have GG10:=aM HG10;clear gb10 gl10 HG10;obtain ⟨_,ce10,hcl10,hM10,hcc10,hfr10,_,_⟩:=Kd.S_elem HO_3.out z35 (x4_1:Int) p10 q10;obtain ⟨ve10_0,rfl,ge10_0⟩:=k35_openM hM10;have hx10_0:=hcc10 0 _ rfl;have hf10_0:=hfr10 0;(try simp only [show (k35).sz=1 from rfl,Nat.mul_one,Nat.add_zero] at hx10_0);(try simp only [show (k35).sz=1 from rfl,Nat.mul_one,Nat.add_zero] at hf10_0);clear hcl10 hcc10 hfr10 hM10;replace p10:=eq_true p10;replace q10:=eq_true q10;replace HO_3:=aM (Kd.S_mono (ok':=(fun k_=>some k_ ≠ (v373:Value).ownBlock)) HO_3.out (fun k_ hk=>hk.2));have HX12:=aM (show Kd.S k35 35 w11 w.heap.size (fun k_=>((fun _=>True)) k_ ∧ ¬ ((fun k_=>some k_=(v373:Value).ownBlock)) k_) (.slice (some ⟨go10,0,none⟩) x3_1.length co10) x3_1 from (by (with_reducible repeat (first|apply Kd.S_alloc|apply Kd.S_drewN|apply Kd.S_drew));exact Kd.S_mono HO_3.out (fun k_ hk=>⟨trivial,fun e_=>hk e_⟩)));obtain ⟨oki12,ce12,hcl12,hM12,hcc12,hfr12,hoki12,hH12⟩:=Kd.S_elem HX12.out z35 (x4_1:Int) (of_decide_eq_true (by first|(with_reducible assumption)|assumption)) (by have h_:(x4_1:Int) < ((x3_1.length:Int):Int):=of_decide_eq_true (by first|(with_reducible assumption)|assumption);first|exact h_|(have e_:=(Kd.S_reads' HO_3.out).1;omega)|simpa using h_);obtain ⟨ve12_0,rfl,ge12_0⟩:=k35_openM hM12;have HP12:=Kd.S_seg hH12 (of_decide_eq_true (by first|(with_reducible assumption)|assumption)) (by have h_:(x4_1:Int) < ((x3_1.length:Int):Int):=of_decide_eq_true (by first|(with_reducible assumption)|assumption);first|exact h_|(have e_:=(Kd.S_reads' HO_3.out).1;omega)|simpa using h_) (seg:=[v373]) (j:=0) (show 1≤1 from by decide) (x':=(⟨t372⟩:S35)) (k35_mkM _ _ _ (⟨t372⟩:S35) (Kd.R_mono (Kd.R_tight rfl (Kd.R_mono (ok':=fun k_=>((fun _=>True)) k_∧k_ ≠ go10) (Kd.R_apart' (HO374.out) (Kd.S_typed HO_3.out) (by decide)) (fun k_ hk=>⟨trivial,fun e_=>(hk.2) (by rw [e_];rfl)⟩))) (fun _ h_=>Or.inr (h_)))) (fun _ hk=>hk) (fun k_ hk_=>((Kd.R_mono (ok':=fun k_=>((fun _=>True)) k_∧k_ ≠ go10) (Kd.R_apart' (HO374.out) (Kd.S_typed HO_3.out) (by decide)) (fun k_ hk=>⟨trivial,fun e_=>(hk.2) (by rw [e_];rfl)⟩))).1 k_ hk_.symm);have hx12_0:=hcc12 0 _ rfl;(try simp only [show (k35).sz=1 from rfl,Nat.mul_one,Nat.add_zero] at hx12_0);have hf12_0:=hfr12 0;(try simp only [show (k35).sz=1 from rfl,Nat.mul_one,Nat.add_zero] at hf12_0);clear hcl12 hcc12 hfr12 hM12 hoki12 hH12;(try simp only [show (k35).sz=1 from rfl,Nat.mul_one,Nat.add_zero] at HP12))|((with_reducible refine gate_store (t:=35) (p:=21) rfl ?_);refine store_event (t:=35) (p:=21) (v:=?vo_w13) (w1:=(w11.setCell ⟨go10,(x4_1:Int).toNat,none⟩ (v373))) ?hg ?ho ?hn ?hr ?_;(case ho=>rfl);(case hg=>rfl);(case hn=>rfl);(case hr=>first|(go_simp;done)|(go_simp;rfl));intro w13 hw;have hg:w11.grownBy w13 (some go10):=(by rw [hw];exact HP12.2);have hp_:Kd.S k35 35 w13 w.heap.size (fun _=>True) (.slice (some ⟨go10,0,none⟩) x3_1.length co10) y375:=(by rw [hw,Ny375.out];exact HP12.1);clear HP12;replace HO_3:=aM (hp_);replace HB:=aM ((by rw [hw];exact below_set (HB.out) GB10.out:Below w.heap.size w w13));clear HO374;clear hg hw hp_))
        go_roundg k1
        case measure=>have:=HK1.out;omega
        case rel=>exact ⟨(y375),(wrap64 (x4_1+1)),rd_,H',⟨by have:=HK1.out;omega⟩,⟨rS HO_3⟩,⟨be⟩⟩
       ·rw [if_neg c9] at H
        exact absurd H (by simp)
      ·rw [if_neg c7] at H
       exact absurd H (by simp)
     ·rw [if_neg c6] at H
      have c6b0:decide (x4_1 < (l0.length:Int))=false:=decide_eq_false c6
      clear c6
      obtain rfl:=Option.some.inj H
      go_wp2
      go_ret
      exact ⟨_,rz,rS HO_3,be⟩
  ·rw [if_neg c3] at H
   exact absurd H (by simp)
 ·rw [if_neg c2] at H
  exact absurd H (by simp)
def laws_toRing.f (k:Nat) (a0_0:Int) (l0_1:List (S96)):Option (Int × (List (S35))):=(laws_toPartS.f k l0_1).bind fun t379=>(some (a0_0,t379))
set_option maxHeartbeats 8000000 in
set_option maxRecDepth 100000 in
theorem laws_toRing.calls (k:Nat) (a0_0:Int) (A0_1:Option Addr) (c0_1:Nat) (l0_1:List (S96)) (r1:Int) (r2:List (S35)) (w:World) (hr0_1:Kd.C k96 w A0_1 l0_1.length l0_1) (hc0_1:l0_1.length≤c0_1) (h:laws_toRing.f k a0_0 l0_1=some (r1,r2)) :
  Calls Try.prog 18 #[.agg #[.int .i64 a0_0,.slice A0_1 l0_1.length c0_1]] w fun e w'=>∃ v1_:Value,e = .returned (.agg #[.int .i64 r1,v1_])∧Kd.S k35 35 w' w.heap.size (fun _=>True) v1_ r2∧Below w.heap.size w w':=by
 have hu40:=Try.underlying40
 have hu26:=Try.underlying26
 have HR0_1:=aM hr0_1
 have HC0_1:=aM hc0_1
 clear hr0_1 hc0_1
 have HB:=aM (Below.refl w.heap.size w)
 have H:((laws_toPartS.f k l0_1).bind fun t379=>(some (a0_0,t379)))=some (r1,r2):=h
 clear h
 replace H:=Option.bind_eq_some_iff.mp H
 obtain ⟨t379,A20,H⟩:=H
 try dsimp only at H
 have A2:=aM A20
 clear A20
 simp only [Option.some.injEq,Prod.mk.injEq] at H
 obtain ⟨rfl,rfl⟩:=H
 go_enter Try.func18,Try.ntmps18
 go_wp2_with (first|((with_reducible refine gate_dst (N:=1) rfl ?_);refine box_event ?hg (N:=1) ?hd (cs:=#[.int .i64 a0_0,.slice A0_1 l0_1.length c0_1]) (t:=40) ?hr ?_;(case hd=>rfl);(case hg=>rfl);(case hr=>first|(go_simp;done)|(go_simp;rfl));intro gb376 hg w3 hbox hb;have BK376:=aM (hbox);have GW376:=gS w hg;have GE376:=gS w hg;replace HB:=bs hb;clear hb hbox hg)|((with_reducible refine gate_dst (N:=2) rfl ?_);refine box_event ?hg (N:=2) ?hd (cs:=#[.int .i64 0,.slice none 0 0]) (t:=26) ?hr ?_;(case hd=>rfl);(case hg=>rfl);(case hr=>first|(go_simp;done)|(go_simp;rfl));intro gb377 hg w4 hbox hb;have BK377:=aM (hbox);have GW377:=gS w hg;have GE377:=gS w hg;replace HB:=bs hb;have NB376_377:=nL hg BK376;have NB377_376:=nG hg BK376;replace BK376:=bB BK376 hb;clear hb hbox hg)|((with_reducible refine gate_dst (N:=3) rfl ?_);refine box_event ?hg (N:=3) ?hd (cs:=#[.int .i64 0,.slice none 0 0]) (t:=26) ?hr ?_;(case hd=>rfl);(case hg=>rfl);(case hr=>first|(go_simp;done)|(go_simp;rfl));intro gb378 hg w5 hbox hb;have BK378:=aM (hbox);have GW378:=gS w hg;have GE378:=gS w hg;replace HB:=bs hb;have NB376_378:=nL hg BK376;have NB378_376:=nG hg BK376;replace BK376:=bB BK376 hb;have NB377_378:=nL hg BK377;have NB378_377:=nG hg BK377;replace BK377:=bB BK377 hb;clear hb hbox hg;have hnb6:=NB376_377.out;have hnc6:=NB377_376.out;have hnb7:=NB376_378.out;have hnc7:=NB378_376.out;have hcz8_0:w5.cell? ⟨gb376,0,none⟩=some (.int .i64 a0_0):=(blk_cell BK376.out 0).trans rfl;have hcz8_1:w5.cell? ⟨gb376,1,none⟩=some (.slice A0_1 l0_1.length c0_1):=(blk_cell BK376.out 1).trans rfl;have hfz8_0:=blk_frozen BK376.out 0;have hfz8_1:=blk_frozen BK376.out 1;have hnb9:=NB378_377.out;have hnc9:=NB377_378.out;have hcz10_0:w5.cell? ⟨gb378,0,none⟩=some (.int .i64 0):=(blk_cell BK378.out 0).trans rfl;have hcz10_1:w5.cell? ⟨gb378,1,none⟩=some (.slice none 0 0):=(blk_cell BK378.out 1).trans rfl;have hfz10_0:=blk_frozen BK378.out 0;have hfz10_1:=blk_frozen BK378.out 1)|((with_reducible refine gate_callee (f:=62) rfl ?_);refine goesL_ (some 9) rfl rfl Try.func62 (by kernel_rfl) rfl #[.slice A0_1 l0_1.length c0_1] rfl (by (try simp only [List.map_toArray,List.map_cons,List.map_nil]);first|done|rfl|(simp only [List.length_drop,List.length_take];rfl)) ?_;(with_reducible refine (laws_toPartS.calls k _ _ l0_1 t379 _ ?side1 ?side2 A2.out).mono ?_);(case side1=>exact Kd.C_below HR0_1.out be);(case side2=>exact HC0_1.out);rintro e w11 ⟨v380,rfl,ho0,hb⟩;refine ⟨_,rfl,?_⟩;have HO381:=aM (Kd.S_lower ho0 (below_size be));replace BK377:=aM (blk_below (g:=gb377) (o:=.cells #[.int .i64 0,.slice none 0 0] 26 (0,0)) (by (with_reducible repeat (first|refine blk_drewN ?_ _|refine blk_drew ?_|refine blk_alloc ?_ _));refine blk_far ?_ NB377_378.out _;(with_reducible repeat (first|refine blk_drewN ?_ _|refine blk_drew ?_|refine blk_alloc ?_ _));exact BK377.out) hb);replace BK378:=aM (blk_below (g:=gb378) (o:=.cells #[.int .i64 a0_0,.slice none 0 0] 26 (0,0)) (by (with_reducible repeat (first|refine blk_drewN ?_ _|refine blk_drew ?_|refine blk_alloc ?_ _));refine blk_put (cs:=#[.int .i64 0,.slice none 0 0]) ?_ 0 _ rfl;(with_reducible repeat (first|refine blk_drewN ?_ _|refine blk_drew ?_|refine blk_alloc ?_ _));exact BK378.out) hb);replace HB:=bs hb;clear BK376;(try clear hb);(try clear ho0);obtain ⟨Ao12,co12,eo12⟩:=Kd.S_slice HO381.out;subst eo12;have hcz13_0:w11.cell? ⟨gb378,0,none⟩=some (.int .i64 a0_0):=(blk_cell BK378.out 0).trans rfl;have hcz13_1:w11.cell? ⟨gb378,1,none⟩=some (.slice none 0 0):=(blk_cell BK378.out 1).trans rfl;have hfz13_0:=blk_frozen BK378.out 0;have hfz13_1:=blk_frozen BK378.out 1;have hcz14_0:w11.cell? ⟨gb377,0,none⟩=some (.int .i64 0):=(blk_cell BK377.out 0).trans rfl;have hcz14_1:w11.cell? ⟨gb377,1,none⟩=some (.slice none 0 0):=(blk_cell BK377.out 1).trans rfl;have hfz14_0:=blk_frozen BK377.out 0;have hfz14_1:=blk_frozen BK377.out 1))
 refine bodyPost_ret (results_cell_row rfl _ _ gb377 26 #[.int .i64 a0_0,.slice Ao12 t379.length co12] (0,0) _ rfl (by (with_reducible repeat (first|refine blk_drewN ?_ _|refine blk_drew ?_|refine blk_alloc ?_ _));refine blk_put (cs:=#[.int .i64 a0_0,.slice none 0 0]) ?_ 1 _ rfl;(with_reducible repeat (first|refine blk_drewN ?_ _|refine blk_drew ?_|refine blk_alloc ?_ _));refine blk_put (cs:=#[.int .i64 0,.slice none 0 0]) ?_ 0 _ rfl;(with_reducible repeat (first|refine blk_drewN ?_ _|refine blk_drew ?_|refine blk_alloc ?_ _));refine blk_far ?_ NB377_378.out _;(with_reducible repeat (first|refine blk_drewN ?_ _|refine blk_drew ?_|refine blk_alloc ?_ _));exact BK377.out) Try.underlying26 rfl (by kernel_rfl)) rfl ?_
 exact ⟨_,rz,by (with_reducible repeat (first|apply Kd.S_alloc|apply Kd.S_drewN|apply Kd.S_drew));exact Kd.S_mono (Kd.S_far (p:=⟨gb377,1,none⟩) (Kd.S_far (p:=⟨gb377,0,none⟩) (Kd.S_far (p:=⟨gb378,1,none⟩) (Kd.S_types (Kd.S_types HO381.out BK378.out (by decide)) BK377.out (by decide)) (fun _ hk=>hk.1.2) (.slice Ao12 t379.length co12)) (fun _ hk=>hk.2) (.int .i64 a0_0)) (fun _ hk=>hk.2) (.slice Ao12 t379.length co12)) (fun _ hk=>trivial),be⟩
def laws_toDev.f (a0_0:Int) (a0_1:Int) (a0_2:Int):Option (Int × Int × Int):=some (a0_0,a0_1,a0_2)
set_option maxHeartbeats 8000000 in
set_option maxRecDepth 100000 in
theorem laws_toDev.calls (a0_0:Int) (a0_1:Int) (a0_2:Int) (r1:Int) (r2:Int) (r3:Int) (w:World) (h:laws_toDev.f a0_0 a0_1 a0_2=some (r1,r2,r3)) :
  Calls Try.prog 63 #[.agg #[.int .i64 a0_0,.int .i64 a0_1,.int .i64 a0_2]] w fun e w'=>e = .returned (.agg #[.int .i64 r1,.int .i64 r2,.int .i64 r3])∧Below w.heap.size w w':=by
 have hu83:=Try.underlying83
 have hu61:=Try.underlying61
 have HB:=aM (Below.refl w.heap.size w)
 have H:(some (a0_0,a0_1,a0_2))=some (r1,r2,r3):=h
 clear h
 simp only [Option.some.injEq,Prod.mk.injEq] at H
 obtain ⟨rfl,rfl,rfl⟩:=H
 go_enter Try.func63,Try.ntmps63
 go_wp2_with (first|((with_reducible refine gate_dst (N:=1) rfl ?_);refine box_event ?hg (N:=1) ?hd (cs:=#[.int .i64 a0_0,.int .i64 a0_1,.int .i64 a0_2]) (t:=83) ?hr ?_;(case hd=>rfl);(case hg=>rfl);(case hr=>first|(go_simp;done)|(go_simp;rfl));intro gb382 hg w2 hbox hb;have BK382:=aM (hbox);have GW382:=gS w hg;have GE382:=gS w hg;replace HB:=bs hb;clear hb hbox hg)|((with_reducible refine gate_dst (N:=2) rfl ?_);refine box_event ?hg (N:=2) ?hd (cs:=#[.int .i64 0,.int .i64 0,.int .i64 0]) (t:=61) ?hr ?_;(case hd=>rfl);(case hg=>rfl);(case hr=>first|(go_simp;done)|(go_simp;rfl));intro gb383 hg w3 hbox hb;have BK383:=aM (hbox);have GW383:=gS w hg;have GE383:=gS w hg;replace HB:=bs hb;have NB382_383:=nL hg BK382;have NB383_382:=nG hg BK382;replace BK382:=bB BK382 hb;clear hb hbox hg)|((with_reducible refine gate_dst (N:=3) rfl ?_);refine box_event ?hg (N:=3) ?hd (cs:=#[.int .i64 0,.int .i64 0,.int .i64 0]) (t:=61) ?hr ?_;(case hd=>rfl);(case hg=>rfl);(case hr=>first|(go_simp;done)|(go_simp;rfl));intro gb384 hg w4 hbox hb;have BK384:=aM (hbox);have GW384:=gS w hg;have GE384:=gS w hg;replace HB:=bs hb;have NB382_384:=nL hg BK382;have NB384_382:=nG hg BK382;replace BK382:=bB BK382 hb;have NB383_384:=nL hg BK383;have NB384_383:=nG hg BK383;replace BK383:=bB BK383 hb;clear hb hbox hg;have hnb5:=NB382_383.out;have hnc5:=NB383_382.out;have hnb6:=NB382_384.out;have hnc6:=NB384_382.out;have hcz7_0:w4.cell? ⟨gb382,0,none⟩=some (.int .i64 a0_0):=(blk_cell BK382.out 0).trans rfl;have hcz7_1:w4.cell? ⟨gb382,1,none⟩=some (.int .i64 a0_1):=(blk_cell BK382.out 1).trans rfl;have hcz7_2:w4.cell? ⟨gb382,2,none⟩=some (.int .i64 a0_2):=(blk_cell BK382.out 2).trans rfl;have hfz7_0:=blk_frozen BK382.out 0;have hfz7_1:=blk_frozen BK382.out 1;have hfz7_2:=blk_frozen BK382.out 2;have hnb8:=NB384_383.out;have hnc8:=NB383_384.out;have hcz9_0:w4.cell? ⟨gb384,0,none⟩=some (.int .i64 0):=(blk_cell BK384.out 0).trans rfl;have hcz9_1:w4.cell? ⟨gb384,1,none⟩=some (.int .i64 0):=(blk_cell BK384.out 1).trans rfl;have hcz9_2:w4.cell? ⟨gb384,2,none⟩=some (.int .i64 0):=(blk_cell BK384.out 2).trans rfl;have hfz9_0:=blk_frozen BK384.out 0;have hfz9_1:=blk_frozen BK384.out 1;have hfz9_2:=blk_frozen BK384.out 2;have hcz10_0:w4.cell? ⟨gb383,0,none⟩=some (.int .i64 0):=(blk_cell BK383.out 0).trans rfl;have hcz10_1:w4.cell? ⟨gb383,1,none⟩=some (.int .i64 0):=(blk_cell BK383.out 1).trans rfl;have hcz10_2:w4.cell? ⟨gb383,2,none⟩=some (.int .i64 0):=(blk_cell BK383.out 2).trans rfl;have hfz10_0:=blk_frozen BK383.out 0;have hfz10_1:=blk_frozen BK383.out 1;have hfz10_2:=blk_frozen BK383.out 2))
 refine bodyPost_ret (results_cell_row rfl _ _ gb383 61 #[.int .i64 a0_0,.int .i64 a0_1,.int .i64 a0_2] (0,0) _ rfl (by (with_reducible repeat (first|refine blk_drewN ?_ _|refine blk_drew ?_|refine blk_alloc ?_ _));refine blk_put (cs:=#[.int .i64 a0_0,.int .i64 a0_1,.int .i64 0]) ?_ 2 _ rfl;(with_reducible repeat (first|refine blk_drewN ?_ _|refine blk_drew ?_|refine blk_alloc ?_ _));refine blk_put (cs:=#[.int .i64 a0_0,.int .i64 0,.int .i64 0]) ?_ 1 _ rfl;(with_reducible repeat (first|refine blk_drewN ?_ _|refine blk_drew ?_|refine blk_alloc ?_ _));refine blk_put (cs:=#[.int .i64 0,.int .i64 0,.int .i64 0]) ?_ 0 _ rfl;(with_reducible repeat (first|refine blk_drewN ?_ _|refine blk_drew ?_|refine blk_alloc ?_ _));refine blk_far ?_ NB383_384.out _;(with_reducible repeat (first|refine blk_drewN ?_ _|refine blk_drew ?_|refine blk_alloc ?_ _));refine blk_far ?_ NB383_384.out _;(with_reducible repeat (first|refine blk_drewN ?_ _|refine blk_drew ?_|refine blk_alloc ?_ _));refine blk_far ?_ NB383_384.out _;(with_reducible repeat (first|refine blk_drewN ?_ _|refine blk_drew ?_|refine blk_alloc ?_ _));exact BK383.out) Try.underlying61 rfl (by kernel_rfl)) rfl ?_
 exact ⟨rz,be⟩
def laws_toDevS.l0:Nat→List (S83)→List (S61)→Int→Option ((List (S61)))
 | 0,_,_,_=>none
 | k+1,x0,x3,x4=>if x4 < (x0.length:Int) then (if 0≤x4 then ((laws_toDev.f ((rd_T83 x0 x4).f0) ((rd_T83 x0 x4).f1) ((rd_T83 x0 x4).f2)).bind fun bt389=>(if x4 < (x3.length:Int) then (laws_toDevS.l0 k x0 (x3.set (x4:Int).toNat (⟨bt389.1,bt389.2.1,bt389.2.2⟩:S61)) (wrap64 (x4+1))) else (none))) else (none)) else (some x3)
def laws_toDevS.f (k:Nat) (l0:List (S83)):Option ((List (S61))):=if 0≤(l0.length:Int) then (if ((l0.length:Int):Int).toNat≤11728124029610 then (laws_toDevS.l0 k l0 (List.replicate ((l0.length:Int):Int).toNat z61) 0) else (none)) else (none)
set_option maxHeartbeats 8000000 in
set_option maxRecDepth 100000 in
theorem laws_toDevS.calls (k:Nat) (A0:Option Addr) (c0:Nat) (l0:List (S83)) (r:List (S61)) (w:World) (hr0:Kd.C k83 w A0 l0.length l0) (hc0:l0.length≤c0) (h:laws_toDevS.f k l0=some r) :
  Calls Try.prog 19 #[.slice A0 l0.length c0] w fun e w'=>∃ v0_:Value,e = .returned (v0_)∧Kd.R k61 61 w' w.heap.size (fun _=>True) v0_ r∧Below w.heap.size w w':=by
 have hu83:=Try.underlying83
 have hu61:=Try.underlying61
 have HR0:=aM hr0
 have HC0:=aM hc0
 clear hr0 hc0
 have HB:=aM (Below.refl w.heap.size w)
 have H:(if 0≤(l0.length:Int) then (if ((l0.length:Int):Int).toNat≤11728124029610 then (laws_toDevS.l0 k l0 (List.replicate ((l0.length:Int):Int).toNat z61) 0) else (none)) else (none))=some r:=h
 clear h
 by_cases c2:0≤(l0.length:Int)
 ·rw [if_pos c2] at H
  have c2b0:=eq_true c2
  have c2b1:decide (0≤(l0.length:Int))=true:=decide_eq_true c2
  clear c2
  by_cases c3:((l0.length:Int):Int).toNat≤11728124029610
  ·rw [if_pos c3] at H
   have c3b0:=eq_true c3
   have c3b1:decide (((l0.length:Int):Int).toNat≤11728124029610)=true:=decide_eq_true c3
   clear c3
   obtain ⟨y385,hy385⟩ : ∃ y_:List (S61),y_=(List.replicate ((l0.length:Int):Int).toNat z61):=⟨_,rfl⟩
   replace H:(laws_toDevS.l0 k l0 y385 0)=some r:=by first|(rw [hy385];with_reducible exact H)|(have H2_:=(Option.bind_some _ _).symm.trans H;rw [hy385];with_reducible exact H2_)|(have H2_:=(Option.bind_some _ _).symm.trans H;with_reducible exact H2_)|with_reducible exact H|(rw [hy385];exact H)|exact H
   have Ny385:=aM hy385
   clear hy385
   have H':=Aside0.mk H
   clear H
   go_enter Try.func19,Try.ntmps19
   go_wp2_with ((with_reducible refine gate_dst (N:=7) rfl ?_);refine Kd.R_make k61 _ 61 rfl (N:=7) rfl 27 _ _ rfl (l0.length:Int) rfl rfl Try.underlying27 (.agg #[(.int .i64 0),(.int .i64 0),(.int .i64 0)]) 24 info61 rfl (by decide) (by omega) z61 (ok:=fun _=>True) (okp:=fun _=>True) (k61_mkM _ _ _ z61 ) (fun _ hk=>hk) trivial (of_decide_eq_true (by first|(with_reducible assumption)|assumption)) (Nat.le_trans (Nat.mul_le_mul_right _ (of_decide_eq_true (by first|(with_reducible assumption)|assumption):(l0.length:Int).toNat≤11728124029610)) (by omega)) (Below.refl _ _) (Nat.le_refl _) ?_;intro v386 w4 ho5 hb hg_ hnew_;clear hg_ hnew_;(rw [← Ny385.out] at ho5);have HO387:=aM (Kd.R_lower ho5 (below_size be));replace HB:=bs hb;clear hb ho5)
   go_loopg [4] k (fun kq v4 w'=>∃ (x3_1:List (S61)) (x4_1:Int),v4 = .int .i64 x4_1∧Aside0 (laws_toDevS.l0 kq l0 x3_1 x4_1=some r)∧Aside0 (kq≤k)∧Aside0 (Kd.R k61 61 w' w.heap.size (fun _=>True) v386 x3_1)∧Aside0 (Below w.heap.size w w'))
   case atStart=>exact ⟨(y385),(0),rd_,H',⟨Nat.le_refl _⟩,⟨rR HO387⟩,⟨be⟩⟩
   case round=>
    clear H'
    try clear c2b0
    try clear c2b1
    try clear c3b0
    try clear c3b1
    obtain ⟨x3_1,x4_1,rfl,HA,HK1,HO_3,HB⟩:=hrel
    cases gk with
    | zero=>exact absurd HA.out (by simp [laws_toDevS.l0])
    | succ k1=>
     have H:=HA.out
     clear HA
     simp only [laws_toDevS.l0] at H
     by_cases c6:x4_1 < (l0.length:Int)
     ·rw [if_pos c6] at H
      have c6b0:decide (x4_1 < (l0.length:Int))=true:=decide_eq_true c6
      clear c6
      by_cases c7:0≤x4_1
      ·rw [if_pos c7] at H
       have c7b0:decide (0≤x4_1)=true:=decide_eq_true c7
       clear c7
       replace H:=Option.bind_eq_some_iff.mp H
       obtain ⟨⟨t389,t390,t391⟩,A80,H⟩:=H
       try dsimp only at H
       have A8:=aM A80
       clear A80
       by_cases c9:x4_1 < (x3_1.length:Int)
       ·rw [if_pos c9] at H
        have c9b0:decide (x4_1 < (x3_1.length:Int))=true:=decide_eq_true c9
        clear c9
        obtain ⟨y392,hy392⟩ : ∃ y_:List (S61),y_=(x3_1.set (x4_1:Int).toNat (⟨t389,t390,t391⟩:S61)):=⟨_,rfl⟩
        replace H:(laws_toDevS.l0 k1 l0 y392 (wrap64 (x4_1+1)))=some r:=by first|(rw [hy392];with_reducible exact H)|(have H2_:=(Option.bind_some _ _).symm.trans H;rw [hy392];with_reducible exact H2_)|(have H2_:=(Option.bind_some _ _).symm.trans H;with_reducible exact H2_)|with_reducible exact H|(rw [hy392];exact H)|exact H
        have Ny392:=aM hy392
        clear hy392
        have H':=Aside0.mk H
        clear H
        have p388:0≤(x4_1:Int):=of_decide_eq_true (by first|(with_reducible assumption)|assumption)
        have q388:x4_1 < (l0.length:Int):=of_decide_eq_true (by first|(with_reducible assumption)|assumption)
        obtain ⟨ad388,e388,hx388_0,hx388_1,hx388_2⟩:=at_T83 HR0.out x4_1 p388 q388
        cases e388
        replace hx388_0:=(HB.out.cell (World.block_lt_of_cell? w _ hx388_0)).trans hx388_0
        replace hx388_1:=(HB.out.cell (World.block_lt_of_cell? w _ hx388_1)).trans hx388_1
        replace hx388_2:=(HB.out.cell (World.block_lt_of_cell? w _ hx388_2)).trans hx388_2
        replace p388:=eq_true p388
        replace q388:=eq_true q388
        go_wp2_with (first|((with_reducible refine gate_callee (f:=63) rfl ?_);refine goesL_ (some 20) rfl rfl Try.func63 (by kernel_rfl) rfl #[.agg #[.int .i64 ((rd_T83 l0 x4_1).f0),.int .i64 ((rd_T83 l0 x4_1).f1),.int .i64 ((rd_T83 l0 x4_1).f2)]] rfl (by (try simp only [List.map_toArray,List.map_cons,List.map_nil]);first|done|rfl|(simp only [List.length_drop,List.length_take];rfl)) ?_;(with_reducible refine (laws_toDev.calls ((rd_T83 l0 x4_1).f0) ((rd_T83 l0 x4_1).f1) ((rd_T83 l0 x4_1).f2) t389 t390 t391 _ A8.out).mono ?_);rintro e w11 ⟨rfl,hb⟩;refine ⟨_,rfl,?_⟩;replace HO_3:=rB HO_3 hb;replace HB:=bs hb;(try clear hb);have p10:0≤(x4_1:Int):=of_decide_eq_true (by first|(with_reducible assumption)|assumption);have q10:(x4_1:Int) < ((x3_1.length:Int):Int):=of_decide_eq_true (by first|(with_reducible assumption)|assumption);obtain ⟨go10,co10,eo10,gb10,gl10,cl10,HG10⟩:=Kd.R_form HO_3.out (by omega);(cases eo10);have GB10:=aM gb10;have GG10:=aM HG10;clear gb10 gl10 HG10;obtain ⟨ce10,hcl10,hM10,hcc10,hfr10⟩:=Kd.R_elem HO_3.out z61 (x4_1:Int) p10 q10;obtain rfl:=k61_openM hM10;have hx10_0:w11.cell? ⟨go10,(x4_1:Int).toNat * 3,none⟩=some (.int .i64 ((rd_T61 x3_1 x4_1).f0)):=hcc10 0 _ rfl;have hx10_1:w11.cell? ⟨go10,(x4_1:Int).toNat * 3+1,none⟩=some (.int .i64 ((rd_T61 x3_1 x4_1).f1)):=hcc10 1 _ rfl;have hx10_2:w11.cell? ⟨go10,(x4_1:Int).toNat * 3+2,none⟩=some (.int .i64 ((rd_T61 x3_1 x4_1).f2)):=hcc10 2 _ rfl;have hf10_0:w11.frozen? ⟨go10,(x4_1:Int).toNat * 3,none⟩=false:=hfr10 0;have hf10_1:w11.frozen? ⟨go10,(x4_1:Int).toNat * 3+1,none⟩=false:=hfr10 1;have hf10_2:w11.frozen? ⟨go10,(x4_1:Int).toNat * 3+2,none⟩=false:=hfr10 2;clear hcl10 hcc10 hfr10 hM10;replace p10:=eq_true p10;replace q10:=eq_true q10;have HX12:=aM (show Kd.R k61 61 w11 w.heap.size (fun _=>True) (.slice (some ⟨go10,0,none⟩) x3_1.length co10) x3_1 from (rR HO_3));obtain ⟨ce12,hcl12,hM12,hcc12,hfr12⟩:=Kd.R_elem HX12.out z61 (x4_1:Int) (of_decide_eq_true (by first|(with_reducible assumption)|assumption)) (by have h_:(x4_1:Int) < ((x3_1.length:Int):Int):=of_decide_eq_true (by first|(with_reducible assumption)|assumption);first|exact h_|(have e_:=(Kd.R_reads' HO_3.out).1;omega)|simpa using h_);obtain rfl:=k61_openM hM12;have HP12:=Kd.R_seg HX12.out (x4_1:Int) (of_decide_eq_true (by first|(with_reducible assumption)|assumption)) (by have h_:(x4_1:Int) < ((x3_1.length:Int):Int):=of_decide_eq_true (by first|(with_reducible assumption)|assumption);first|exact h_|(have e_:=(Kd.R_reads' HO_3.out).1;omega)|simpa using h_) (seg:=[.int .i64 t389,.int .i64 t390,.int .i64 t391]) (j:=0) hcl12 hcc12 (show 3≤3 from by decide) (x':=(⟨t389,t390,t391⟩:S61)) (k61_mkM _ _ _ (⟨t389,t390,t391⟩:S61) ) (fun _ hk=>hk);have hx12_0:=hcc12 0 _ rfl;(try simp only [show (k61).sz=3 from rfl,Nat.mul_one,Nat.add_zero] at hx12_0);have hf12_0:=hfr12 0;(try simp only [show (k61).sz=3 from rfl,Nat.mul_one,Nat.add_zero] at hf12_0);have hx12_1:=hcc12 1 _ rfl;(try simp only [show (k61).sz=3 from rfl,Nat.mul_one,Nat.add_zero] at hx12_1);have hf12_1:=hfr12 1;(try simp only [show (k61).sz=3 from rfl,Nat.mul_one,Nat.add_zero] at hf12_1);have hx12_2:=hcc12 2 _ rfl;(try simp only [show (k61).sz=3 from rfl,Nat.mul_one,Nat.add_zero] at hx12_2);have hf12_2:=hfr12 2;(try simp only [show (k61).sz=3 from rfl,Nat.mul_one,Nat.add_zero] at hf12_2);clear hcl12 hcc12 hfr12 hM12)|((with_reducible refine gate_store (t:=61) (p:=21) rfl ?_);refine store_event (t:=61) (p:=21) (v:=?vo_w13) (w1:=(((w11.setCell ⟨go10,(x4_1:Int).toNat * 3,none⟩ (.int .i64 t389)).setCell ⟨go10,(x4_1:Int).toNat * 3+1,none⟩ (.int .i64 t390)).setCell ⟨go10,(x4_1:Int).toNat * 3+2,none⟩ (.int .i64 t391))) ?hg ?ho ?hn ?hr ?_;(case ho=>rfl);(case hg=>rfl);(case hn=>rfl);(case hr=>first|(go_simp;done)|(go_simp;rfl));intro w13 hw;have hg:w11.grownBy w13 (some go10):=(by rw [hw];exact HP12.2);have hp_:Kd.R k61 61 w13 w.heap.size (fun _=>True) (.slice (some ⟨go10,0,none⟩) x3_1.length co10) y392:=(by rw [hw,Ny392.out];exact HP12.1);clear HP12;replace HO_3:=aM (hp_);replace HB:=aM ((by rw [hw];exact below_set (below_set (below_set (HB.out) GB10.out) GB10.out) GB10.out:Below w.heap.size w w13));clear hg hw hp_))
        go_roundg k1
        case measure=>have:=HK1.out;omega
        case rel=>exact ⟨(y392),(wrap64 (x4_1+1)),rd_,H',⟨by have:=HK1.out;omega⟩,⟨rR HO_3⟩,⟨be⟩⟩
       ·rw [if_neg c9] at H
        exact absurd H (by simp)
      ·rw [if_neg c7] at H
       exact absurd H (by simp)
     ·rw [if_neg c6] at H
      have c6b0:decide (x4_1 < (l0.length:Int))=false:=decide_eq_false c6
      clear c6
      obtain rfl:=Option.some.inj H
      go_wp2
      go_ret
      exact ⟨_,rz,rR HO_3,be⟩
  ·rw [if_neg c3] at H
   exact absurd H (by simp)
 ·rw [if_neg c2] at H
  exact absurd H (by simp)
end Go.Proofs.Ytpbjbfimnfghkaa.PFnExactRebalance
