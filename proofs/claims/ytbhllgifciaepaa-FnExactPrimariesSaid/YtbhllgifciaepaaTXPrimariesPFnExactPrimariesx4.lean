/- Trimmed by a program of this session (trim.py). Not trusted: Lean checks it. -/
import Derived.Test.YtbhllgifciaepaaTXPrimariesPFnExactPrimariesx0
import Derived.Test.YtbhllgifciaepaaTXPrimariesPFnExactPrimariesx1
import Derived.Test.YtbhllgifciaepaaTXPrimariesPFnExactPrimariesx2
import Derived.Test.YtbhllgifciaepaaTXPrimariesPFnExactPrimariesx3
namespace Go.Proofs.Ytbhllgifciaepaa.PFnExactPrimaries
open Go.RowKit Go.Proofs.YtbhllgifciaepaaW.PrintWords Go.Proofs.YtbhllgifciaepaaW.PrintLast Go.Proofs.YtbhllgifciaepaaW.PrintMore
attribute [local go_sem] max2_int min2_int max_two min_two max_three min_three max_four min_four
set_option linter.unusedVariables false
set_option linter.unusedSimpArgs false
def laws_markRing.f (k:Nat) (a0_0:Int) (l0_1:List (S29)) (a1:Int):Option (Int × List (S29)):=laws_markPartS.f k l0_1 a1
set_option maxHeartbeats 4000000 in
set_option maxRecDepth 100000 in
theorem laws_markRing.calls (k:Nat) (a0_0:Int) (P0_1_:Nat→Prop) (u9000_:Value) (l0_1:List (S29)) (a1:Int) (r1:Int) (r2:List (S29)) (w0 w:World) (hB:Below w0.heap.size w0 w) (ho0_1:Kd.S k29 29 w w0.heap.size P0_1_ u9000_ l0_1) (h:laws_markRing.f k a0_0 l0_1 a1=some (r1,r2)) :
  Calls Try.prog 31 #[.agg #[.int .i64 a0_0,u9000_],.int .i64 a1] w fun e w'=>e = .returned (.int .i64 r1)∧Kd.S k29 29 w' w0.heap.size P0_1_ u9000_ r2∧Below w0.heap.size w0 w' ∧ Kept w w' P0_1_:=by
 have hu:=Try.underlying43
 have hu':=Try.underlying29
 have HO:=Aside0.mk ho0_1
 have HB:=Aside0.mk hB
 clear hB ho0_1
 have H':=Aside0.mk (show laws_markPartS.f k l0_1 a1=some (r1,r2) from h)
 clear h
 obtain ⟨A,c,e0⟩:=Kd.S_slice HO.out
 subst e0
 go_enter Try.func31,Try.ntmps31
 go_wp2_with (go_at_call 84;refine (laws_markPartS.calls k P0_1_ (.slice A l0_1.length c) l0_1 a1 r1 r2 w0 _ (below_alloc HB.out _) (Kd.S_alloc HO.out _) H'.out).mono ?_;rintro e w1 ⟨rfl,hy,hb,hkp⟩)
 go_ret
 refine ⟨rfl,hy,hb,?_⟩
 exact Kept.then_ (S:=P0_1_) ((Kept.refl w P0_1_).alloc _) hkp (fun k_ hk=>.inl hk)
def laws_heldIntS.l0:Nat→List Int→Int→Int→Option (Int)
 | 0,_,_,_=>none
 | k+1,x0,x1,x5=>if x5 < (x0.length:Int) then (if 0≤x5 then (if (rd x0 x5)=x1 then (laws_heldIntS.l0 k x0 (wrap64 (x1+1)) (wrap64 (x5+1))) else (some (-1))) else (none)) else (some x1)
def laws_heldIntS.f (k:Nat) (l0:List Int) (a1:Int):Option (Int):=laws_heldIntS.l0 k l0 a1 0
set_option maxHeartbeats 8000000 in
set_option maxRecDepth 100000 in
theorem laws_heldIntS.calls (k:Nat) (A0:Option Addr) (c0:Nat) (l0:List Int) (a1:Int) (r:Int) (w:World) (hr0:Kd.C (Kd.int .i64) w A0 l0.length l0) (hc0:l0.length≤c0) (h:laws_heldIntS.f k l0 a1=some r) :
  Calls Try.prog 33 #[.slice A0 l0.length c0,.int .i64 a1] w fun e w'=>e = .returned (.int .i64 r)∧Drawn0 w w':=by
 have HR0:=Aside0.mk hr0
 have HC0:=Aside0.mk hc0
 clear hr0 hc0
 have H:(laws_heldIntS.l0 k l0 a1 0)=some r:=h
 clear h
 have H':=Aside0.mk H
 clear H
 go_enter Try.func33,Try.ntmps33
 go_wp2
 go_loopg [1,5] k (fun kq v1 v5 w'=>∃ (x1_1:Int) (x5_1:Int),v1 = .int .i64 x1_1∧v5 = .int .i64 x5_1∧Aside0 (laws_heldIntS.l0 kq l0 x1_1 x5_1=some r)∧Aside0 (kq≤k)∧Drawn0 w w')
 case atStart=>exact ⟨(a1),(0),(by first|rfl|(simp;done)|(simp [*];done)),(by first|rfl|(simp;done)|(simp [*];done)),H',⟨Nat.le_refl _⟩,by repeat (first|exact Drawn0.refl _|apply Drawn0.step)⟩
 case round=>
  clear H'
  try clear p2
  obtain ⟨x1_1,x5_1,rfl,rfl,HA,HK1,⟨m1,rfl⟩⟩:=hrel
  cases gk with
  | zero=>exact absurd HA.out (by simp [laws_heldIntS.l0])
  | succ k1=>
   have H:=HA.out
   clear HA
   simp only [laws_heldIntS.l0] at H
   by_cases c3:x5_1 < (l0.length:Int)
   ·rw [if_pos c3] at H
    have c3b0:decide (x5_1 < (l0.length:Int))=true:=decide_eq_true c3
    clear c3
    by_cases c4:0≤x5_1
    ·rw [if_pos c4] at H
     have c4b0:decide (0≤x5_1)=true:=decide_eq_true c4
     clear c4
     by_cases c5:(rd l0 x5_1)=x1_1
     ·rw [if_pos c5] at H
      have c5b0:((rd l0 x5_1) == x1_1)=true:=beq_iff_eq.mpr c5
      have c5b1:((rd l0 x5_1) != x1_1)=false:=bne_eq_false_iff_eq.mpr c5
      clear c5
      have H':=Aside0.mk H
      clear H
      have p167:0≤(x5_1:Int):=of_decide_eq_true (by first|(with_reducible assumption)|assumption)
      have q167:x5_1 < (l0.length:Int):=of_decide_eq_true (by first|(with_reducible assumption)|assumption)
      obtain ⟨ad167,e167,hx167_0⟩:=Kd.at_int HR0.out x5_1 p167 q167
      cases e167
      replace p167:=eq_true p167
      replace q167:=eq_true q167
      go_wp2
      go_roundg k1
      case measure=>have:=HK1.out;omega
      case rel=>exact ⟨(wrap64 (x1_1+1)),(wrap64 (x5_1+1)),(by first|rfl|(simp;done)|(simp [*];done)),(by first|rfl|(simp;done)|(simp [*];done)),H',⟨by have:=HK1.out;omega⟩,by repeat (first|exact Drawn0.refl _|apply Drawn0.step)⟩
     ·rw [if_neg c5] at H
      have c5b0:((rd l0 x5_1) == x1_1)=false:=beq_eq_false_iff_ne.mpr c5
      have c5b1:((rd l0 x5_1) != x1_1)=true:=bne_iff_ne.mpr c5
      obtain rfl:=Option.some.inj H
      have p167:0≤(x5_1:Int):=of_decide_eq_true (by first|(with_reducible assumption)|assumption)
      have q167:x5_1 < (l0.length:Int):=of_decide_eq_true (by first|(with_reducible assumption)|assumption)
      obtain ⟨ad167,e167,hx167_0⟩:=Kd.at_int HR0.out x5_1 p167 q167
      cases e167
      replace p167:=eq_true p167
      replace q167:=eq_true q167
      go_wp2
      go_ret
      exact ⟨by first|rfl|(simp;done)|(simp [*];done),by repeat (first|exact Drawn0.refl _|apply Drawn0.step)⟩
    ·rw [if_neg c4] at H
     exact absurd H (by simp)
   ·rw [if_neg c3] at H
    have c3b0:decide (x5_1 < (l0.length:Int))=false:=decide_eq_false c3
    clear c3
    obtain rfl:=Option.some.inj H
    go_wp2
    go_ret
    exact ⟨by first|rfl|(simp;done)|(simp [*];done),by repeat (first|exact Drawn0.refl _|apply Drawn0.step)⟩
def laws_FnExactPrimaries.f (k:Nat) (a0_0:Int) (l0_1:List (S24)) (a1:ByteArray):Option (Bool):=if (a1.size:Int) > 1048576 then (some true) else ((laws_szRing.f k a0_0 l0_1 1048576).bind fun t169=>(if t169 < 0 then (some true) else ((laws_toRing.f k a0_0 l0_1).bind fun bt170=>((spec_Primaries.f k bt170.1 bt170.2 a1).bind fun t174=>((laws_toRing.f k a0_0 l0_1).bind fun bt177=>((impl_Primaries.f k bt177.1 bt177.2 a1).bind fun t182=>((laws_eqIntS.f k t182 t174).bind fun t185=>(if t185=true then ((laws_toRing.f k a0_0 l0_1).bind fun bt186=>((laws_eqRing.f k bt177.1 bt177.2 bt186.1 bt186.2).bind fun t190=>(if t190=true then ((laws_markRing.f k bt177.1 bt177.2 1).bind fun bt191=>(if bt191.1 < 0 then (some false) else ((laws_eqIntS.f k t182 t174).bind fun t193=>(if t193=true then ((laws_markIntS.f k t182 1).bind fun bt194=>((laws_heldIntS.f k bt194.2 1).bind fun t196=>(if t196 < 0 then (some false) else (if t196=bt194.1 then ((laws_toRing.f k a0_0 l0_1).bind fun bt197=>((impl_Primaries.f k bt197.1 bt197.2 a1).bind fun t201=>((laws_eqIntS.f k t201 t174).bind fun t204=>(if t204=true then ((laws_heldIntS.f k bt194.2 1).bind fun t205=>(if t205 < 0 then (some false) else (if t205=bt194.1 then (some true) else (some false)))) else (some false))))) else (some false))))) else (some false))))) else (some false)))) else (some false)))))))))
set_option maxHeartbeats 8000000 in
set_option maxRecDepth 100000 in
theorem laws_FnExactPrimaries.calls (k:Nat) (a0_0:Int) (A0_1:Option Addr) (c0_1:Nat) (l0_1:List (S24)) (a1:ByteArray) (r:Bool) (w:World) (hr0_1:Kd.C k24 w A0_1 l0_1.length l0_1) (hc0_1:l0_1.length≤c0_1) (h:laws_FnExactPrimaries.f k a0_0 l0_1 a1=some r) (hr_:Aside0 (r=true)) :
  Calls Try.prog 5 #[.agg #[.int .i64 a0_0,.slice A0_1 l0_1.length c0_1],.string a1] w fun e w'=>e = .returned (.bool r)∧Below w.heap.size w w':=by
 have hu38:=Try.underlying38
 have hu43:=Try.underlying43
 have HR0_1:=Aside0.mk hr0_1
 have HC0_1:=Aside0.mk hc0_1
 clear hr0_1 hc0_1
 have HB:=Aside0.mk (Below.refl w.heap.size w)
 have H:(if (a1.size:Int) > 1048576 then (some true) else ((laws_szRing.f k a0_0 l0_1 1048576).bind fun t169=>(if t169 < 0 then (some true) else ((laws_toRing.f k a0_0 l0_1).bind fun bt170=>((spec_Primaries.f k bt170.1 bt170.2 a1).bind fun t174=>((laws_toRing.f k a0_0 l0_1).bind fun bt177=>((impl_Primaries.f k bt177.1 bt177.2 a1).bind fun t182=>((laws_eqIntS.f k t182 t174).bind fun t185=>(if t185=true then ((laws_toRing.f k a0_0 l0_1).bind fun bt186=>((laws_eqRing.f k bt177.1 bt177.2 bt186.1 bt186.2).bind fun t190=>(if t190=true then ((laws_markRing.f k bt177.1 bt177.2 1).bind fun bt191=>(if bt191.1 < 0 then (some false) else ((laws_eqIntS.f k t182 t174).bind fun t193=>(if t193=true then ((laws_markIntS.f k t182 1).bind fun bt194=>((laws_heldIntS.f k bt194.2 1).bind fun t196=>(if t196 < 0 then (some false) else (if t196=bt194.1 then ((laws_toRing.f k a0_0 l0_1).bind fun bt197=>((impl_Primaries.f k bt197.1 bt197.2 a1).bind fun t201=>((laws_eqIntS.f k t201 t174).bind fun t204=>(if t204=true then ((laws_heldIntS.f k bt194.2 1).bind fun t205=>(if t205 < 0 then (some false) else (if t205=bt194.1 then (some true) else (some false)))) else (some false))))) else (some false))))) else (some false))))) else (some false)))) else (some false))))))))))=some r:=h
 clear h
 by_cases c3:(a1.size:Int) > 1048576
 ·rw [if_pos c3] at H
  have c3b0:decide (1048576 < (a1.size:Int))=true:=decide_eq_true c3
  have c3b1:decide (1048576 < a1.size)=true:=decide_eq_true (by omega)
  clear c3
  obtain rfl:=Option.some.inj H
  go_enter Try.func5,Try.ntmps5
  go_wp2_with (first|((with_reducible refine gate_dst (N:=2) rfl ?_);refine box_event ?hg (N:=2) ?hd (cs:=#[.int .i64 a0_0,.slice A0_1 l0_1.length c0_1]) (t:=38) ?hr ?_;(case hd=>rfl);(case hg=>rfl);(case hr=>first|(go_simp;done)|(go_simp;rfl));intro gb168 hg w4 hbox hb;have n0_:=Aside0.mk (below_step (by repeat (first|(with_reducible first|exact HB.out|apply below_alloc|apply pw_below_drewN|apply below_drew1)|exact HB.out)) hb);have n1_:=Aside0.mk (hbox);have n2_:=Aside0.mk ((by rw [hg];exact (below_size (by repeat (first|(with_reducible first|exact HB.out|apply below_alloc|apply pw_below_drewN|apply below_drew1)|exact HB.out))):w.heap.size≤gb168));have n3_:=Aside0.mk ((by rw [hg];exact (below_size (by repeat (first|(with_reducible first|exact HB.out|apply below_alloc|apply pw_below_drewN|apply below_drew1)|exact HB.out))):w.heap.size≤gb168));clear HB;have HB:=n0_;have BK168:=n1_;have GW168:=n2_;have GE168:=n3_;clear n0_ n1_ n2_ n3_;clear hb hbox hg))
  go_ret
  exact ⟨by first|rfl|(simp [errW_none,errW_some] <;> rfl)|(simp [*,errW_none,errW_some] <;> rfl),by repeat (first|(with_reducible first|exact HB.out|apply below_alloc|apply pw_below_drewN|apply below_drew1|refine below_set ?_ GE168.out)|exact HB.out)⟩
 ·rw [if_neg c3] at H
  have c3b0:decide (1048576 < (a1.size:Int))=false:=decide_eq_false c3
  have c3b1:decide (1048576 < a1.size)=false:=decide_eq_false (by omega)
  clear c3
  replace H:=Option.bind_eq_some_iff.mp H
  obtain ⟨t169,A50,H⟩:=H
  replace H:(if t169 < 0 then (some true) else ((laws_toRing.f k a0_0 l0_1).bind fun bt170=>((spec_Primaries.f k bt170.1 bt170.2 a1).bind fun t174=>((laws_toRing.f k a0_0 l0_1).bind fun bt177=>((impl_Primaries.f k bt177.1 bt177.2 a1).bind fun t182=>((laws_eqIntS.f k t182 t174).bind fun t185=>(if t185=true then ((laws_toRing.f k a0_0 l0_1).bind fun bt186=>((laws_eqRing.f k bt177.1 bt177.2 bt186.1 bt186.2).bind fun t190=>(if t190=true then ((laws_markRing.f k bt177.1 bt177.2 1).bind fun bt191=>(if bt191.1 < 0 then (some false) else ((laws_eqIntS.f k t182 t174).bind fun t193=>(if t193=true then ((laws_markIntS.f k t182 1).bind fun bt194=>((laws_heldIntS.f k bt194.2 1).bind fun t196=>(if t196 < 0 then (some false) else (if t196=bt194.1 then ((laws_toRing.f k a0_0 l0_1).bind fun bt197=>((impl_Primaries.f k bt197.1 bt197.2 a1).bind fun t201=>((laws_eqIntS.f k t201 t174).bind fun t204=>(if t204=true then ((laws_heldIntS.f k bt194.2 1).bind fun t205=>(if t205 < 0 then (some false) else (if t205=bt194.1 then (some true) else (some false)))) else (some false))))) else (some false))))) else (some false))))) else (some false)))) else (some false))))))))=some r:=H
  have A5:=Aside0.mk A50
  clear A50
  by_cases c6:t169 < 0
  ·rw [if_pos c6] at H
   have c6b0:decide (t169 < 0)=true:=decide_eq_true c6
   clear c6
   obtain rfl:=Option.some.inj H
   go_enter Try.func5,Try.ntmps5
   go_wp2_with (first|((with_reducible refine gate_dst (N:=2) rfl ?_);refine box_event ?hg (N:=2) ?hd (cs:=#[.int .i64 a0_0,.slice A0_1 l0_1.length c0_1]) (t:=38) ?hr ?_;(case hd=>rfl);(case hg=>rfl);(case hr=>first|(go_simp;done)|(go_simp;rfl));intro gb168 hg w7 hbox hb;have n0_:=Aside0.mk (below_step (by repeat (first|(with_reducible first|exact HB.out|apply below_alloc|apply pw_below_drewN|apply below_drew1)|exact HB.out)) hb);have n1_:=Aside0.mk (hbox);have n2_:=Aside0.mk ((by rw [hg];exact (below_size (by repeat (first|(with_reducible first|exact HB.out|apply below_alloc|apply pw_below_drewN|apply below_drew1)|exact HB.out))):w.heap.size≤gb168));have n3_:=Aside0.mk ((by rw [hg];exact (below_size (by repeat (first|(with_reducible first|exact HB.out|apply below_alloc|apply pw_below_drewN|apply below_drew1)|exact HB.out))):w.heap.size≤gb168));clear HB;have HB:=n0_;have BK168:=n1_;have GW168:=n2_;have GE168:=n3_;clear n0_ n1_ n2_ n3_;clear hb hbox hg;have hcz8_0:w7.cell? ⟨gb168,0,none⟩=some (.int .i64 a0_0):=(blk_cell BK168.out 0).trans rfl;have hcz8_1:w7.cell? ⟨gb168,1,none⟩=some (.slice A0_1 l0_1.length c0_1):=(blk_cell BK168.out 1).trans rfl;have hfz8_0:=blk_frozen BK168.out 0;have hfz8_1:=blk_frozen BK168.out 1)|((with_reducible refine gate_callee (f:=23) rfl ?_);refine goesL_ (some 18) rfl rfl Try.func23 (by kernel_rfl) rfl #[.agg #[.int .i64 a0_0,.slice A0_1 l0_1.length c0_1],.int .i64 1048576] rfl (by (try simp only [List.map_toArray,List.map_cons,List.map_nil]);first|done|rfl|(simp only [List.length_drop,List.length_take];rfl)) ?_;(with_reducible refine (laws_szRing.calls k a0_0 _ _ l0_1 1048576 t169 _ ?side1 ?side2 A5.out).mono ?_);(case side1=>repeat (first|exact (Kd.C_below HR0_1.out HB.out)|(with_reducible refine Kd.C_alloc ?_ _)|(with_reducible refine Kd.C_drewN ?_ _)|(with_reducible refine Kd.C_drew ?_)));(case side2=>exact HC0_1.out);rintro e w9 ⟨rfl,hb⟩;refine ⟨_,rfl,?_⟩;have n0_:=Aside0.mk (blk_below (g:=gb168) (o:=.cells #[.int .i64 a0_0,.slice A0_1 l0_1.length c0_1] 38 (0,0)) (by (with_reducible repeat (first|refine blk_drewN ?_ _|refine blk_drew ?_|refine blk_alloc ?_ _));exact BK168.out) hb);have n1_:=Aside0.mk (below_step (by repeat (first|(with_reducible first|exact HB.out|apply below_alloc|apply pw_below_drewN|apply below_drew1|refine below_set ?_ GE168.out)|exact HB.out)) hb);clear BK168;clear HB;have BK168:=n0_;have HB:=n1_;clear n0_ n1_;(try clear hb);(try clear hb2);(try clear hk);(try clear hi)))
   go_ret
   exact ⟨by first|rfl|(simp [errW_none,errW_some] <;> rfl)|(simp [*,errW_none,errW_some] <;> rfl),by repeat (first|(with_reducible first|exact HB.out|apply below_alloc|apply pw_below_drewN|apply below_drew1|refine below_set ?_ GE168.out)|exact HB.out)⟩
  ·rw [if_neg c6] at H
   have c6b0:decide (t169 < 0)=false:=decide_eq_false c6
   clear c6
   replace H:=Option.bind_eq_some_iff.mp H
   obtain ⟨⟨t170,t171⟩,A100,H⟩:=H
   replace H:((spec_Primaries.f k t170 t171 a1).bind fun t174=>((laws_toRing.f k a0_0 l0_1).bind fun bt177=>((impl_Primaries.f k bt177.1 bt177.2 a1).bind fun t182=>((laws_eqIntS.f k t182 t174).bind fun t185=>(if t185=true then ((laws_toRing.f k a0_0 l0_1).bind fun bt186=>((laws_eqRing.f k bt177.1 bt177.2 bt186.1 bt186.2).bind fun t190=>(if t190=true then ((laws_markRing.f k bt177.1 bt177.2 1).bind fun bt191=>(if bt191.1 < 0 then (some false) else ((laws_eqIntS.f k t182 t174).bind fun t193=>(if t193=true then ((laws_markIntS.f k t182 1).bind fun bt194=>((laws_heldIntS.f k bt194.2 1).bind fun t196=>(if t196 < 0 then (some false) else (if t196=bt194.1 then ((laws_toRing.f k a0_0 l0_1).bind fun bt197=>((impl_Primaries.f k bt197.1 bt197.2 a1).bind fun t201=>((laws_eqIntS.f k t201 t174).bind fun t204=>(if t204=true then ((laws_heldIntS.f k bt194.2 1).bind fun t205=>(if t205 < 0 then (some false) else (if t205=bt194.1 then (some true) else (some false)))) else (some false))))) else (some false))))) else (some false))))) else (some false)))) else (some false))))))=some r:=H
   have A10:=Aside0.mk A100
   clear A100
   replace H:=Option.bind_eq_some_iff.mp H
   obtain ⟨t174,A110,H⟩:=H
   replace H:((laws_toRing.f k a0_0 l0_1).bind fun bt177=>((impl_Primaries.f k bt177.1 bt177.2 a1).bind fun t182=>((laws_eqIntS.f k t182 t174).bind fun t185=>(if t185=true then ((laws_toRing.f k a0_0 l0_1).bind fun bt186=>((laws_eqRing.f k bt177.1 bt177.2 bt186.1 bt186.2).bind fun t190=>(if t190=true then ((laws_markRing.f k bt177.1 bt177.2 1).bind fun bt191=>(if bt191.1 < 0 then (some false) else ((laws_eqIntS.f k t182 t174).bind fun t193=>(if t193=true then ((laws_markIntS.f k t182 1).bind fun bt194=>((laws_heldIntS.f k bt194.2 1).bind fun t196=>(if t196 < 0 then (some false) else (if t196=bt194.1 then ((laws_toRing.f k a0_0 l0_1).bind fun bt197=>((impl_Primaries.f k bt197.1 bt197.2 a1).bind fun t201=>((laws_eqIntS.f k t201 t174).bind fun t204=>(if t204=true then ((laws_heldIntS.f k bt194.2 1).bind fun t205=>(if t205 < 0 then (some false) else (if t205=bt194.1 then (some true) else (some false)))) else (some false))))) else (some false))))) else (some false))))) else (some false)))) else (some false)))))=some r:=H
   have A11:=Aside0.mk A110
   clear A110
   replace H:=Option.bind_eq_some_iff.mp H
   obtain ⟨⟨t177,t178⟩,A120,H⟩:=H
   replace H:((impl_Primaries.f k t177 t178 a1).bind fun t182=>((laws_eqIntS.f k t182 t174).bind fun t185=>(if t185=true then ((laws_toRing.f k a0_0 l0_1).bind fun bt186=>((laws_eqRing.f k t177 t178 bt186.1 bt186.2).bind fun t190=>(if t190=true then ((laws_markRing.f k t177 t178 1).bind fun bt191=>(if bt191.1 < 0 then (some false) else ((laws_eqIntS.f k t182 t174).bind fun t193=>(if t193=true then ((laws_markIntS.f k t182 1).bind fun bt194=>((laws_heldIntS.f k bt194.2 1).bind fun t196=>(if t196 < 0 then (some false) else (if t196=bt194.1 then ((laws_toRing.f k a0_0 l0_1).bind fun bt197=>((impl_Primaries.f k bt197.1 bt197.2 a1).bind fun t201=>((laws_eqIntS.f k t201 t174).bind fun t204=>(if t204=true then ((laws_heldIntS.f k bt194.2 1).bind fun t205=>(if t205 < 0 then (some false) else (if t205=bt194.1 then (some true) else (some false)))) else (some false))))) else (some false))))) else (some false))))) else (some false)))) else (some false))))=some r:=H
   have A12:=Aside0.mk A120
   clear A120
   replace H:=Option.bind_eq_some_iff.mp H
   obtain ⟨t182,A130,H⟩:=H
   replace H:((laws_eqIntS.f k t182 t174).bind fun t185=>(if t185=true then ((laws_toRing.f k a0_0 l0_1).bind fun bt186=>((laws_eqRing.f k t177 t178 bt186.1 bt186.2).bind fun t190=>(if t190=true then ((laws_markRing.f k t177 t178 1).bind fun bt191=>(if bt191.1 < 0 then (some false) else ((laws_eqIntS.f k t182 t174).bind fun t193=>(if t193=true then ((laws_markIntS.f k t182 1).bind fun bt194=>((laws_heldIntS.f k bt194.2 1).bind fun t196=>(if t196 < 0 then (some false) else (if t196=bt194.1 then ((laws_toRing.f k a0_0 l0_1).bind fun bt197=>((impl_Primaries.f k bt197.1 bt197.2 a1).bind fun t201=>((laws_eqIntS.f k t201 t174).bind fun t204=>(if t204=true then ((laws_heldIntS.f k bt194.2 1).bind fun t205=>(if t205 < 0 then (some false) else (if t205=bt194.1 then (some true) else (some false)))) else (some false))))) else (some false))))) else (some false))))) else (some false)))) else (some false)))=some r:=H
   have A13:=Aside0.mk A130
   clear A130
   replace H:=Option.bind_eq_some_iff.mp H
   obtain ⟨t185,A140,H⟩:=H
   replace H:(if t185=true then ((laws_toRing.f k a0_0 l0_1).bind fun bt186=>((laws_eqRing.f k t177 t178 bt186.1 bt186.2).bind fun t190=>(if t190=true then ((laws_markRing.f k t177 t178 1).bind fun bt191=>(if bt191.1 < 0 then (some false) else ((laws_eqIntS.f k t182 t174).bind fun t193=>(if t193=true then ((laws_markIntS.f k t182 1).bind fun bt194=>((laws_heldIntS.f k bt194.2 1).bind fun t196=>(if t196 < 0 then (some false) else (if t196=bt194.1 then ((laws_toRing.f k a0_0 l0_1).bind fun bt197=>((impl_Primaries.f k bt197.1 bt197.2 a1).bind fun t201=>((laws_eqIntS.f k t201 t174).bind fun t204=>(if t204=true then ((laws_heldIntS.f k bt194.2 1).bind fun t205=>(if t205 < 0 then (some false) else (if t205=bt194.1 then (some true) else (some false)))) else (some false))))) else (some false))))) else (some false))))) else (some false)))) else (some false))=some r:=H
   have A14:=Aside0.mk A140
   clear A140
   by_cases c15:t185=true
   ·subst c15
    have H1:((laws_toRing.f k a0_0 l0_1).bind fun bt186=>((laws_eqRing.f k t177 t178 bt186.1 bt186.2).bind fun t190=>(if t190=true then ((laws_markRing.f k t177 t178 1).bind fun bt191=>(if bt191.1 < 0 then (some false) else ((laws_eqIntS.f k t182 t174).bind fun t193=>(if t193=true then ((laws_markIntS.f k t182 1).bind fun bt194=>((laws_heldIntS.f k bt194.2 1).bind fun t196=>(if t196 < 0 then (some false) else (if t196=bt194.1 then ((laws_toRing.f k a0_0 l0_1).bind fun bt197=>((impl_Primaries.f k bt197.1 bt197.2 a1).bind fun t201=>((laws_eqIntS.f k t201 t174).bind fun t204=>(if t204=true then ((laws_heldIntS.f k bt194.2 1).bind fun t205=>(if t205 < 0 then (some false) else (if t205=bt194.1 then (some true) else (some false)))) else (some false))))) else (some false))))) else (some false))))) else (some false))))=some r:=by rw [if_pos rfl] at H;exact H
    clear H
    have H:=H1
    clear H1
    replace H:=Option.bind_eq_some_iff.mp H
    obtain ⟨⟨t186,t187⟩,A160,H⟩:=H
    replace H:((laws_eqRing.f k t177 t178 t186 t187).bind fun t190=>(if t190=true then ((laws_markRing.f k t177 t178 1).bind fun bt191=>(if bt191.1 < 0 then (some false) else ((laws_eqIntS.f k t182 t174).bind fun t193=>(if t193=true then ((laws_markIntS.f k t182 1).bind fun bt194=>((laws_heldIntS.f k bt194.2 1).bind fun t196=>(if t196 < 0 then (some false) else (if t196=bt194.1 then ((laws_toRing.f k a0_0 l0_1).bind fun bt197=>((impl_Primaries.f k bt197.1 bt197.2 a1).bind fun t201=>((laws_eqIntS.f k t201 t174).bind fun t204=>(if t204=true then ((laws_heldIntS.f k bt194.2 1).bind fun t205=>(if t205 < 0 then (some false) else (if t205=bt194.1 then (some true) else (some false)))) else (some false))))) else (some false))))) else (some false))))) else (some false)))=some r:=H
    have A16:=Aside0.mk A160
    clear A160
    replace H:=Option.bind_eq_some_iff.mp H
    obtain ⟨t190,A170,H⟩:=H
    replace H:(if t190=true then ((laws_markRing.f k t177 t178 1).bind fun bt191=>(if bt191.1 < 0 then (some false) else ((laws_eqIntS.f k t182 t174).bind fun t193=>(if t193=true then ((laws_markIntS.f k t182 1).bind fun bt194=>((laws_heldIntS.f k bt194.2 1).bind fun t196=>(if t196 < 0 then (some false) else (if t196=bt194.1 then ((laws_toRing.f k a0_0 l0_1).bind fun bt197=>((impl_Primaries.f k bt197.1 bt197.2 a1).bind fun t201=>((laws_eqIntS.f k t201 t174).bind fun t204=>(if t204=true then ((laws_heldIntS.f k bt194.2 1).bind fun t205=>(if t205 < 0 then (some false) else (if t205=bt194.1 then (some true) else (some false)))) else (some false))))) else (some false))))) else (some false))))) else (some false))=some r:=H
    have A17:=Aside0.mk A170
    clear A170
    by_cases c18:t190=true
    ·subst c18
     have H1:((laws_markRing.f k t177 t178 1).bind fun bt191=>(if bt191.1 < 0 then (some false) else ((laws_eqIntS.f k t182 t174).bind fun t193=>(if t193=true then ((laws_markIntS.f k t182 1).bind fun bt194=>((laws_heldIntS.f k bt194.2 1).bind fun t196=>(if t196 < 0 then (some false) else (if t196=bt194.1 then ((laws_toRing.f k a0_0 l0_1).bind fun bt197=>((impl_Primaries.f k bt197.1 bt197.2 a1).bind fun t201=>((laws_eqIntS.f k t201 t174).bind fun t204=>(if t204=true then ((laws_heldIntS.f k bt194.2 1).bind fun t205=>(if t205 < 0 then (some false) else (if t205=bt194.1 then (some true) else (some false)))) else (some false))))) else (some false))))) else (some false)))))=some r:=by rw [if_pos rfl] at H;exact H
     clear H
     have H:=H1
     clear H1
     replace H:=Option.bind_eq_some_iff.mp H
     obtain ⟨⟨t191,t192⟩,A190,H⟩:=H
     replace H:(if t191 < 0 then (some false) else ((laws_eqIntS.f k t182 t174).bind fun t193=>(if t193=true then ((laws_markIntS.f k t182 1).bind fun bt194=>((laws_heldIntS.f k bt194.2 1).bind fun t196=>(if t196 < 0 then (some false) else (if t196=bt194.1 then ((laws_toRing.f k a0_0 l0_1).bind fun bt197=>((impl_Primaries.f k bt197.1 bt197.2 a1).bind fun t201=>((laws_eqIntS.f k t201 t174).bind fun t204=>(if t204=true then ((laws_heldIntS.f k bt194.2 1).bind fun t205=>(if t205 < 0 then (some false) else (if t205=bt194.1 then (some true) else (some false)))) else (some false))))) else (some false))))) else (some false))))=some r:=H
     have A19:=Aside0.mk A190
     clear A190
     by_cases c20:t191 < 0
     ·rw [if_pos c20] at H
      have c20b0:decide (t191 < 0)=true:=decide_eq_true c20
      clear c20
      exact absurd ((Option.some.inj H).trans hr_.out) (by decide)
     ·rw [if_neg c20] at H
      have c20b0:decide (t191 < 0)=false:=decide_eq_false c20
      clear c20
      replace H:=Option.bind_eq_some_iff.mp H
      obtain ⟨t193,A210,H⟩:=H
      replace H:(if t193=true then ((laws_markIntS.f k t182 1).bind fun bt194=>((laws_heldIntS.f k bt194.2 1).bind fun t196=>(if t196 < 0 then (some false) else (if t196=bt194.1 then ((laws_toRing.f k a0_0 l0_1).bind fun bt197=>((impl_Primaries.f k bt197.1 bt197.2 a1).bind fun t201=>((laws_eqIntS.f k t201 t174).bind fun t204=>(if t204=true then ((laws_heldIntS.f k bt194.2 1).bind fun t205=>(if t205 < 0 then (some false) else (if t205=bt194.1 then (some true) else (some false)))) else (some false))))) else (some false))))) else (some false))=some r:=H
      have A21:=Aside0.mk A210
      clear A210
      by_cases c22:t193=true
      ·subst c22
       have H1:((laws_markIntS.f k t182 1).bind fun bt194=>((laws_heldIntS.f k bt194.2 1).bind fun t196=>(if t196 < 0 then (some false) else (if t196=bt194.1 then ((laws_toRing.f k a0_0 l0_1).bind fun bt197=>((impl_Primaries.f k bt197.1 bt197.2 a1).bind fun t201=>((laws_eqIntS.f k t201 t174).bind fun t204=>(if t204=true then ((laws_heldIntS.f k bt194.2 1).bind fun t205=>(if t205 < 0 then (some false) else (if t205=bt194.1 then (some true) else (some false)))) else (some false))))) else (some false)))))=some r:=by rw [if_pos rfl] at H;exact H
       clear H
       have H:=H1
       clear H1
       replace H:=Option.bind_eq_some_iff.mp H
       obtain ⟨⟨t194,t195⟩,A230,H⟩:=H
       replace H:((laws_heldIntS.f k t195 1).bind fun t196=>(if t196 < 0 then (some false) else (if t196=t194 then ((laws_toRing.f k a0_0 l0_1).bind fun bt197=>((impl_Primaries.f k bt197.1 bt197.2 a1).bind fun t201=>((laws_eqIntS.f k t201 t174).bind fun t204=>(if t204=true then ((laws_heldIntS.f k t195 1).bind fun t205=>(if t205 < 0 then (some false) else (if t205=t194 then (some true) else (some false)))) else (some false))))) else (some false))))=some r:=H
       have A23:=Aside0.mk A230
       clear A230
       replace H:=Option.bind_eq_some_iff.mp H
       obtain ⟨t196,A240,H⟩:=H
       replace H:(if t196 < 0 then (some false) else (if t196=t194 then ((laws_toRing.f k a0_0 l0_1).bind fun bt197=>((impl_Primaries.f k bt197.1 bt197.2 a1).bind fun t201=>((laws_eqIntS.f k t201 t174).bind fun t204=>(if t204=true then ((laws_heldIntS.f k t195 1).bind fun t205=>(if t205 < 0 then (some false) else (if t205=t194 then (some true) else (some false)))) else (some false))))) else (some false)))=some r:=H
       have A24:=Aside0.mk A240
       clear A240
       by_cases c25:t196 < 0
       ·rw [if_pos c25] at H
        have c25b0:decide (t196 < 0)=true:=decide_eq_true c25
        clear c25
        exact absurd ((Option.some.inj H).trans hr_.out) (by decide)
       ·rw [if_neg c25] at H
        have c25b0:decide (t196 < 0)=false:=decide_eq_false c25
        clear c25
        by_cases c26:t196=t194
        ·rw [if_pos c26] at H
         have c26b0:(t196 == t194)=true:=beq_iff_eq.mpr c26
         have c26b1:(t196 != t194)=false:=bne_eq_false_iff_eq.mpr c26
         clear c26
         replace H:=Option.bind_eq_some_iff.mp H
         obtain ⟨⟨t197,t198⟩,A270,H⟩:=H
         replace H:((impl_Primaries.f k t197 t198 a1).bind fun t201=>((laws_eqIntS.f k t201 t174).bind fun t204=>(if t204=true then ((laws_heldIntS.f k t195 1).bind fun t205=>(if t205 < 0 then (some false) else (if t205=t194 then (some true) else (some false)))) else (some false))))=some r:=H
         have A27:=Aside0.mk A270
         clear A270
         replace H:=Option.bind_eq_some_iff.mp H
         obtain ⟨t201,A280,H⟩:=H
         replace H:((laws_eqIntS.f k t201 t174).bind fun t204=>(if t204=true then ((laws_heldIntS.f k t195 1).bind fun t205=>(if t205 < 0 then (some false) else (if t205=t194 then (some true) else (some false)))) else (some false)))=some r:=H
         have A28:=Aside0.mk A280
         clear A280
         replace H:=Option.bind_eq_some_iff.mp H
         obtain ⟨t204,A290,H⟩:=H
         replace H:(if t204=true then ((laws_heldIntS.f k t195 1).bind fun t205=>(if t205 < 0 then (some false) else (if t205=t194 then (some true) else (some false)))) else (some false))=some r:=H
         have A29:=Aside0.mk A290
         clear A290
         by_cases c30:t204=true
         ·subst c30
          have H1:((laws_heldIntS.f k t195 1).bind fun t205=>(if t205 < 0 then (some false) else (if t205=t194 then (some true) else (some false))))=some r:=by rw [if_pos rfl] at H;exact H
          clear H
          have H:=H1
          clear H1
          replace H:=Option.bind_eq_some_iff.mp H
          obtain ⟨t205,A310,H⟩:=H
          replace H:(if t205 < 0 then (some false) else (if t205=t194 then (some true) else (some false)))=some r:=H
          have A31:=Aside0.mk A310
          clear A310
          by_cases c32:t205 < 0
          ·rw [if_pos c32] at H
           have c32b0:decide (t205 < 0)=true:=decide_eq_true c32
           clear c32
           exact absurd ((Option.some.inj H).trans hr_.out) (by decide)
          ·rw [if_neg c32] at H
           have c32b0:decide (t205 < 0)=false:=decide_eq_false c32
           clear c32
           by_cases c33:t205=t194
           ·rw [if_pos c33] at H
            have c33b0:(t205 == t194)=true:=beq_iff_eq.mpr c33
            have c33b1:(t205 != t194)=false:=bne_eq_false_iff_eq.mpr c33
            clear c33
            obtain rfl:=Option.some.inj H
            go_enter Try.func5,Try.ntmps5
            try go_wp2_with (first|((with_reducible refine gate_dst (N:=2) rfl ?_);refine box_event ?hg (N:=2) ?hd (cs:=#[.int .i64 a0_0,.slice A0_1 l0_1.length c0_1]) (t:=38) ?hr ?_;(case hd=>rfl);(case hg=>rfl);(case hr=>first|(go_simp;done)|(go_simp;rfl));intro gb168 hg w34 hbox hb;have n0_:=Aside0.mk (below_step (by repeat (first|(with_reducible first|exact HB.out|apply below_alloc|apply pw_below_drewN|apply below_drew1)|exact HB.out)) hb);have n1_:=Aside0.mk (hbox);have n2_:=Aside0.mk ((by rw [hg];exact (below_size (by repeat (first|(with_reducible first|exact HB.out|apply below_alloc|apply pw_below_drewN|apply below_drew1)|exact HB.out))):w.heap.size≤gb168));have n3_:=Aside0.mk ((by rw [hg];exact (below_size (by repeat (first|(with_reducible first|exact HB.out|apply below_alloc|apply pw_below_drewN|apply below_drew1)|exact HB.out))):w.heap.size≤gb168));clear HB;have HB:=n0_;have BK168:=n1_;have GW168:=n2_;have GE168:=n3_;clear n0_ n1_ n2_ n3_;clear hb hbox hg;have hcz35_0:w34.cell? ⟨gb168,0,none⟩=some (.int .i64 a0_0):=(blk_cell BK168.out 0).trans rfl;have hcz35_1:w34.cell? ⟨gb168,1,none⟩=some (.slice A0_1 l0_1.length c0_1):=(blk_cell BK168.out 1).trans rfl;have hfz35_0:=blk_frozen BK168.out 0;have hfz35_1:=blk_frozen BK168.out 1)|((with_reducible refine gate_callee (f:=23) rfl ?_);refine goesL_ (some 18) rfl rfl Try.func23 (by kernel_rfl) rfl #[.agg #[.int .i64 a0_0,.slice A0_1 l0_1.length c0_1],.int .i64 1048576] rfl (by (try simp only [List.map_toArray,List.map_cons,List.map_nil]);first|done|rfl|(simp only [List.length_drop,List.length_take];rfl)) ?_;(with_reducible refine (laws_szRing.calls k a0_0 _ _ l0_1 1048576 t169 _ ?side1 ?side2 A5.out).mono ?_);(case side1=>repeat (first|exact (Kd.C_below HR0_1.out HB.out)|(with_reducible refine Kd.C_alloc ?_ _)|(with_reducible refine Kd.C_drewN ?_ _)|(with_reducible refine Kd.C_drew ?_)));(case side2=>exact HC0_1.out);rintro e w36 ⟨rfl,hb⟩;refine ⟨_,rfl,?_⟩;have n0_:=Aside0.mk (blk_below (g:=gb168) (o:=.cells #[.int .i64 a0_0,.slice A0_1 l0_1.length c0_1] 38 (0,0)) (by (with_reducible repeat (first|refine blk_drewN ?_ _|refine blk_drew ?_|refine blk_alloc ?_ _));exact BK168.out) hb);have n1_:=Aside0.mk (below_step (by repeat (first|(with_reducible first|exact HB.out|apply below_alloc|apply pw_below_drewN|apply below_drew1|refine below_set ?_ GE168.out)|exact HB.out)) hb);clear BK168;clear HB;have BK168:=n0_;have HB:=n1_;clear n0_ n1_;(try clear hb);(try clear hb2);(try clear hk);(try clear hi);have hcz37_0:w36.cell? ⟨gb168,0,none⟩=some (.int .i64 a0_0):=(blk_cell BK168.out 0).trans rfl;have hcz37_1:w36.cell? ⟨gb168,1,none⟩=some (.slice A0_1 l0_1.length c0_1):=(blk_cell BK168.out 1).trans rfl;have hfz37_0:=blk_frozen BK168.out 0;have hfz37_1:=blk_frozen BK168.out 1)|((with_reducible refine gate_callee (f:=25) rfl ?_);refine goesL_ (some 22) rfl rfl Try.func25 (by kernel_rfl) rfl #[.agg #[.int .i64 a0_0,.slice A0_1 l0_1.length c0_1]] rfl (by (try simp only [List.map_toArray,List.map_cons,List.map_nil]);first|done|rfl|(simp only [List.length_drop,List.length_take];rfl)) ?_;(with_reducible refine (laws_toRing.calls k a0_0 _ _ l0_1 t170 t171 _ ?side1 ?side2 A10.out).mono ?_);(case side1=>repeat (first|exact (Kd.C_below HR0_1.out HB.out)|(with_reducible refine Kd.C_alloc ?_ _)|(with_reducible refine Kd.C_drewN ?_ _)|(with_reducible refine Kd.C_drew ?_)));(case side2=>exact HC0_1.out);rintro e w38 ⟨v172,rfl,ho0,hb⟩;refine ⟨_,rfl,?_⟩;have n0_:=Aside0.mk (Kd.S_lower (Aid.S_ge ho0) (below_size (by repeat (first|(with_reducible first|exact HB.out|apply below_alloc|apply pw_below_drewN|apply below_drew1|refine below_set ?_ GE168.out)|exact HB.out))));have n1_:=Aside0.mk (blk_below (g:=gb168) (o:=.cells #[.int .i64 a0_0,.slice A0_1 l0_1.length c0_1] 38 (0,0)) (by (with_reducible repeat (first|refine blk_drewN ?_ _|refine blk_drew ?_|refine blk_alloc ?_ _));exact BK168.out) hb);have n2_:=Aside0.mk (below_step (by repeat (first|(with_reducible first|exact HB.out|apply below_alloc|apply pw_below_drewN|apply below_drew1|refine below_set ?_ GE168.out)|exact HB.out)) hb);clear BK168;clear HB;have HO173:=n0_;have BK168:=n1_;have HB:=n2_;clear n0_ n1_ n2_;(try clear hb);(try clear hb2);(try clear hk);(try clear hi);(try clear ho0);obtain ⟨Ao39,co39,eo39⟩:=Kd.S_slice HO173.out;subst eo39)|((with_reducible refine gate_callee (f:=28) rfl ?_);refine goesL_ (some 24) rfl rfl Try.func28 (by kernel_rfl) rfl #[.agg #[.int .i64 t170,.slice Ao39 t171.length co39],.string a1] rfl (by (try simp only [List.map_toArray,List.map_cons,List.map_nil]);first|done|rfl|(simp only [List.length_drop,List.length_take];rfl)) ?_;(with_reducible refine (spec_Primaries.calls k t170 _ _ t171 a1 t174 _ ?side1 ?side2 A11.out).mono ?_);(case side1=>repeat (first|exact (Kd.S_reads' HO173.out).2.2|(with_reducible refine Kd.C_alloc ?_ _)|(with_reducible refine Kd.C_drewN ?_ _)|(with_reducible refine Kd.C_drew ?_)));(case side2=>exact (Kd.S_reads' HO173.out).2.1);rintro e w40 ⟨v175,rfl,ho0,hb⟩;refine ⟨_,rfl,?_⟩;have n0_:=Aside0.mk (Kd.S_below (Aid.S_lt (by (with_reducible repeat (first|apply Kd.S_alloc|apply Kd.S_drewN|apply Kd.S_drew));exact HO173.out)) hb);have n1_:=Aside0.mk (Kd.R_lower (Aid.R_ge ho0) (below_size (by repeat (first|(with_reducible first|exact HB.out|apply below_alloc|apply pw_below_drewN|apply below_drew1|refine below_set ?_ GE168.out)|exact HB.out))));have n2_:=Aside0.mk (blk_below (g:=gb168) (o:=.cells #[.int .i64 a0_0,.slice A0_1 l0_1.length c0_1] 38 (0,0)) (by (with_reducible repeat (first|refine blk_drewN ?_ _|refine blk_drew ?_|refine blk_alloc ?_ _));exact BK168.out) hb);have n3_:=Aside0.mk (below_step (by repeat (first|(with_reducible first|exact HB.out|apply below_alloc|apply pw_below_drewN|apply below_drew1|refine below_set ?_ GE168.out)|exact HB.out)) hb);clear HO173;clear BK168;clear HB;have HO173:=n0_;have HO176:=n1_;have BK168:=n2_;have HB:=n3_;clear n0_ n1_ n2_ n3_;(try clear hb);(try clear hb2);(try clear hk);(try clear hi);(try clear ho0);have hcz41_0:w40.cell? ⟨gb168,0,none⟩=some (.int .i64 a0_0):=(blk_cell BK168.out 0).trans rfl;have hcz41_1:w40.cell? ⟨gb168,1,none⟩=some (.slice A0_1 l0_1.length c0_1):=(blk_cell BK168.out 1).trans rfl;have hfz41_0:=blk_frozen BK168.out 0;have hfz41_1:=blk_frozen BK168.out 1)|((with_reducible refine gate_callee (f:=25) rfl ?_);refine goesL_ (some 26) rfl rfl Try.func25 (by kernel_rfl) rfl #[.agg #[.int .i64 a0_0,.slice A0_1 l0_1.length c0_1]] rfl (by (try simp only [List.map_toArray,List.map_cons,List.map_nil]);first|done|rfl|(simp only [List.length_drop,List.length_take];rfl)) ?_;(with_reducible refine (laws_toRing.calls k a0_0 _ _ l0_1 t177 t178 _ ?side1 ?side2 A12.out).mono ?_);(case side1=>repeat (first|exact (Kd.C_below HR0_1.out HB.out)|(with_reducible refine Kd.C_alloc ?_ _)|(with_reducible refine Kd.C_drewN ?_ _)|(with_reducible refine Kd.C_drew ?_)));(case side2=>exact HC0_1.out);rintro e w42 ⟨v179,rfl,ho0,hb⟩;refine ⟨_,rfl,?_⟩;have n0_:=Aside0.mk (Kd.S_below (Aid.S_lt (by (with_reducible repeat (first|apply Kd.S_alloc|apply Kd.S_drewN|apply Kd.S_drew));exact HO173.out)) hb);have n1_:=Aside0.mk (Kd.R_below (Aid.R_lt (by (with_reducible repeat (first|apply Kd.R_alloc|apply Kd.R_drewN|apply Kd.R_drew));exact HO176.out)) hb);have n2_:=Aside0.mk (Kd.S_lower (Aid.S_ge ho0) (below_size (by repeat (first|(with_reducible first|exact HB.out|apply below_alloc|apply pw_below_drewN|apply below_drew1|refine below_set ?_ GE168.out)|exact HB.out))));have n3_:=Aside0.mk (blk_below (g:=gb168) (o:=.cells #[.int .i64 a0_0,.slice A0_1 l0_1.length c0_1] 38 (0,0)) (by (with_reducible repeat (first|refine blk_drewN ?_ _|refine blk_drew ?_|refine blk_alloc ?_ _));exact BK168.out) hb);have n4_:=Aside0.mk (below_step (by repeat (first|(with_reducible first|exact HB.out|apply below_alloc|apply pw_below_drewN|apply below_drew1|refine below_set ?_ GE168.out)|exact HB.out)) hb);clear HO173;clear HO176;clear BK168;clear HB;have HO173:=n0_;have HO176:=n1_;have HO180:=n2_;have BK168:=n3_;have HB:=n4_;clear n0_ n1_ n2_ n3_ n4_;(try clear hb);(try clear hb2);(try clear hk);(try clear hi);(try clear ho0))|((with_reducible refine gate_dst (N:=7) rfl ?_);refine box_event ?hg (N:=7) ?hd (cs:=#[.int .i64 0,.slice none 0 0]) (t:=43) ?hr ?_;(case hd=>rfl);(case hg=>rfl);(case hr=>first|(go_simp;done)|(go_simp;rfl));intro gb181 hg w43 hbox hb;have n0_:=Aside0.mk (Kd.S_below (by (with_reducible repeat (first|apply Kd.S_alloc|apply Kd.S_drewN|apply Kd.S_drew));exact HO173.out) hb);have n1_:=Aside0.mk (Kd.R_below (by (with_reducible repeat (first|apply Kd.R_alloc|apply Kd.R_drewN|apply Kd.R_drew));exact HO176.out) hb);have n2_:=Aside0.mk (Kd.S_below (by (with_reducible repeat (first|apply Kd.S_alloc|apply Kd.S_drewN|apply Kd.S_drew));exact HO180.out) hb);have n3_:=Aside0.mk (blk_below (g:=gb168) (o:=.cells #[.int .i64 a0_0,.slice A0_1 l0_1.length c0_1] 38 (0,0)) (by (with_reducible repeat (first|refine blk_drewN ?_ _|refine blk_drew ?_|refine blk_alloc ?_ _));exact BK168.out) hb);have n4_:=Aside0.mk (below_step (by repeat (first|(with_reducible first|exact HB.out|apply below_alloc|apply pw_below_drewN|apply below_drew1|refine below_set ?_ GE168.out)|exact HB.out)) hb);have n5_:=Aside0.mk (hbox);have n6_:=Aside0.mk ((by rw [hg];exact (below_size (by repeat (first|(with_reducible first|exact HB.out|apply below_alloc|apply pw_below_drewN|apply below_drew1|refine below_set ?_ GE168.out)|exact HB.out))):w.heap.size≤gb181));have n7_:=Aside0.mk ((by rw [hg];exact (below_size (by repeat (first|(with_reducible first|exact HB.out|apply below_alloc|apply pw_below_drewN|apply below_drew1|refine below_set ?_ GE168.out)|exact HB.out))):w.heap.size≤gb181));have n8_:=Aside0.mk ((by rw [hg];exact Nat.ne_of_lt (blk_lt (g:=gb168) (o:=.cells #[.int .i64 a0_0,.slice A0_1 l0_1.length c0_1] 38 (0,0)) (by (with_reducible repeat (first|refine blk_drewN ?_ _|refine blk_drew ?_|refine blk_alloc ?_ _));exact BK168.out)):gb168 ≠ gb181));have n9_:=Aside0.mk ((by rw [hg];exact Nat.ne_of_gt (blk_lt (g:=gb168) (o:=.cells #[.int .i64 a0_0,.slice A0_1 l0_1.length c0_1] 38 (0,0)) (by (with_reducible repeat (first|refine blk_drewN ?_ _|refine blk_drew ?_|refine blk_alloc ?_ _));exact BK168.out)):gb181 ≠ gb168));clear HO173;clear HO176;clear HO180;clear BK168;clear HB;have HO173:=n0_;have HO176:=n1_;have HO180:=n2_;have BK168:=n3_;have HB:=n4_;have BK181:=n5_;have GW181:=n6_;have GE181:=n7_;have NB168_181:=n8_;have NB181_168:=n9_;clear n0_ n1_ n2_ n3_ n4_ n5_ n6_ n7_ n8_ n9_;clear hb hbox hg;have hnb44:=NB181_168.out;have hnc44:=NB168_181.out;have hcz45_0:w43.cell? ⟨gb181,0,none⟩=some (.int .i64 0):=(blk_cell BK181.out 0).trans rfl;have hcz45_1:w43.cell? ⟨gb181,1,none⟩=some (.slice none 0 0):=(blk_cell BK181.out 1).trans rfl;have hfz45_0:=blk_frozen BK181.out 0;have hfz45_1:=blk_frozen BK181.out 1;obtain ⟨Ao46,co46,eo46⟩:=Kd.S_slice HO180.out;subst eo46)|((with_reducible refine gate_callee (f:=29) rfl ?_);refine goesL_ (some 29) rfl rfl Try.func29 (by kernel_rfl) rfl #[.agg #[.int .i64 t177,.slice Ao46 t178.length co46],.string a1] rfl (by (try simp only [List.map_toArray,List.map_cons,List.map_nil]);first|done|rfl|(simp only [List.length_drop,List.length_take];rfl)) ?_;(with_reducible refine (impl_Primaries.calls k t177 _ _ t178 a1 t182 _ ?side1 ?side2 A13.out).mono ?_);(case side1=>exact ((Kd.S_reads' (e:=29) (base:=w.heap.size) (n:=t178.length) (c:=co46) (by (with_reducible repeat (first|apply Kd.S_alloc|apply Kd.S_drewN|apply Kd.S_drew));exact (Kd.S_mono (Kd.S_far (p:=⟨gb181,1,none⟩) (Kd.S_far (p:=⟨gb181,0,none⟩) (Kd.S_types HO180.out BK181.out (by decide)) (fun _ hk=>hk.2) (.int .i64 t177)) (fun _ hk=>hk.2) (.slice Ao46 t178.length co46)) (fun _ h_=>h_.1)))).2.2));(case side2=>exact (Kd.S_reads' HO180.out).2.1);rintro e w47 ⟨v183,rfl,ho0,hb⟩;refine ⟨_,rfl,?_⟩;have n0_:=Aside0.mk (Kd.S_below (Aid.S_lt (by (with_reducible repeat (first|apply Kd.S_alloc|apply Kd.S_drewN|apply Kd.S_drew));exact (Kd.S_mono (Kd.S_far (p:=⟨gb181,1,none⟩) (Kd.S_far (p:=⟨gb181,0,none⟩) (Kd.S_types HO173.out BK181.out (by decide)) (fun _ hk=>hk.2) (.int .i64 t177)) (fun _ hk=>hk.2) (.slice Ao46 t178.length co46)) (fun _ h_=>h_.1)))) hb);have n1_:=Aside0.mk (Kd.R_below (Aid.R_lt (by (with_reducible repeat (first|apply Kd.R_alloc|apply Kd.R_drewN|apply Kd.R_drew));exact (Kd.R_mono (Kd.R_far (p:=⟨gb181,1,none⟩) (Kd.R_far (p:=⟨gb181,0,none⟩) (Kd.R_types HO176.out BK181.out (by decide)) (fun _ hk=>hk.2) (.int .i64 t177)) (fun _ hk=>hk.2) (.slice Ao46 t178.length co46)) (fun _ h_=>h_.1)))) hb);have n2_:=Aside0.mk (Kd.S_below (Aid.S_lt (by (with_reducible repeat (first|apply Kd.S_alloc|apply Kd.S_drewN|apply Kd.S_drew));exact (Kd.S_mono (Kd.S_far (p:=⟨gb181,1,none⟩) (Kd.S_far (p:=⟨gb181,0,none⟩) (Kd.S_types HO180.out BK181.out (by decide)) (fun _ hk=>hk.2) (.int .i64 t177)) (fun _ hk=>hk.2) (.slice Ao46 t178.length co46)) (fun _ h_=>h_.1)))) hb);have n3_:=Aside0.mk (Kd.R_lower (Aid.R_ge ho0) (below_size (by repeat (first|(with_reducible first|exact HB.out|apply below_alloc|apply pw_below_drewN|apply below_drew1|refine below_set ?_ GE168.out|refine below_set ?_ GE181.out)|exact HB.out))));have n4_:=Aside0.mk (blk_below (g:=gb168) (o:=.cells #[.int .i64 a0_0,.slice A0_1 l0_1.length c0_1] 38 (0,0)) (by (with_reducible repeat (first|refine blk_drewN ?_ _|refine blk_drew ?_|refine blk_alloc ?_ _));refine blk_far ?_ NB168_181.out _;(with_reducible repeat (first|refine blk_drewN ?_ _|refine blk_drew ?_|refine blk_alloc ?_ _));refine blk_far ?_ NB168_181.out _;(with_reducible repeat (first|refine blk_drewN ?_ _|refine blk_drew ?_|refine blk_alloc ?_ _));exact BK168.out) hb);have n5_:=Aside0.mk (blk_below (g:=gb181) (o:=.cells #[.int .i64 t177,.slice Ao46 t178.length co46] 43 (0,0)) (by (with_reducible repeat (first|refine blk_drewN ?_ _|refine blk_drew ?_|refine blk_alloc ?_ _));refine blk_put (cs:=#[.int .i64 t177,.slice none 0 0]) ?_ 1 _ rfl;(with_reducible repeat (first|refine blk_drewN ?_ _|refine blk_drew ?_|refine blk_alloc ?_ _));refine blk_put (cs:=#[.int .i64 0,.slice none 0 0]) ?_ 0 _ rfl;(with_reducible repeat (first|refine blk_drewN ?_ _|refine blk_drew ?_|refine blk_alloc ?_ _));exact BK181.out) hb);have n6_:=Aside0.mk (below_step (by repeat (first|(with_reducible first|exact HB.out|apply below_alloc|apply pw_below_drewN|apply below_drew1|refine below_set ?_ GE168.out|refine below_set ?_ GE181.out)|exact HB.out)) hb);clear HO173;clear HO176;clear HO180;clear BK168;clear BK181;clear HB;have HO173:=n0_;have HO176:=n1_;have HO180:=n2_;have HO184:=n3_;have BK168:=n4_;have BK181:=n5_;have HB:=n6_;clear n0_ n1_ n2_ n3_ n4_ n5_ n6_;(try clear hb);(try clear hb2);(try clear hk);(try clear hi);(try clear ho0);obtain ⟨Ao48,co48,eo48⟩:=Kd.R_slice HO184.out;subst eo48;obtain ⟨Ao49,co49,eo49⟩:=Kd.R_slice HO176.out;subst eo49)|((with_reducible refine gate_callee (f:=30) rfl ?_);refine goesL_ (some 32) rfl rfl Try.func30 (by kernel_rfl) rfl #[.slice Ao48 t182.length co48,.slice Ao49 t174.length co49] rfl (by (try simp only [List.map_toArray,List.map_cons,List.map_nil]);first|done|rfl|(simp only [List.length_drop,List.length_take];rfl)) ?_;(with_reducible refine (laws_eqIntS.calls k _ _ t182 _ _ t174 true _ ?side1 ?side2 ?side3 ?side4 A14.out).mono ?_);(case side1=>repeat (first|exact (Kd.R_reads' HO184.out).2.2|(with_reducible refine Kd.C_alloc ?_ _)|(with_reducible refine Kd.C_drewN ?_ _)|(with_reducible refine Kd.C_drew ?_)));(case side2=>exact (Kd.R_reads' HO184.out).2.1);(case side3=>repeat (first|exact (Kd.R_reads' HO176.out).2.2|(with_reducible refine Kd.C_alloc ?_ _)|(with_reducible refine Kd.C_drewN ?_ _)|(with_reducible refine Kd.C_drew ?_)));(case side4=>exact (Kd.R_reads' HO176.out).2.1);rintro e w' ⟨rfl,⟨nd,rfl⟩⟩;refine ⟨_,rfl,?_⟩;(try (rw [drewN_self w47];generalize hq_:World.drewN w47 _=w47;have n0_:Aside0 (Kd.S k29 29 w47 w.heap.size _ (.slice Ao39 t171.length co39) t171):=⟨by rw [← hq_];exact (by (with_reducible repeat (first|apply Kd.S_alloc|apply Kd.S_drewN|apply Kd.S_drew));exact HO173.out)⟩;have n1_:Aside0 (Kd.R (Kd.int .i64) 3 w47 w.heap.size _ (.slice Ao49 t174.length co49) t174):=⟨by rw [← hq_];exact (by (with_reducible repeat (first|apply Kd.R_alloc|apply Kd.R_drewN|apply Kd.R_drew));exact HO176.out)⟩;have n2_:Aside0 (Kd.S k29 29 w47 w.heap.size _ (.slice Ao46 t178.length co46) t178):=⟨by rw [← hq_];exact (by (with_reducible repeat (first|apply Kd.S_alloc|apply Kd.S_drewN|apply Kd.S_drew));exact HO180.out)⟩;have n3_:Aside0 (Kd.R (Kd.int .i64) 3 w47 w.heap.size _ (.slice Ao48 t182.length co48) t182):=⟨by rw [← hq_];exact (by (with_reducible repeat (first|apply Kd.R_alloc|apply Kd.R_drewN|apply Kd.R_drew));exact HO184.out)⟩;have n4_:Aside0 (w47.heap[gb168]?=some (.cells #[.int .i64 a0_0,.slice A0_1 l0_1.length c0_1] 38 (0,0))):=⟨by rw [← hq_];exact (by (with_reducible repeat (first|refine blk_drewN ?_ _|refine blk_drew ?_|refine blk_alloc ?_ _));exact BK168.out)⟩;have n5_:Aside0 (w47.heap[gb181]?=some (.cells #[.int .i64 t177,.slice Ao46 t178.length co46] 43 (0,0))):=⟨by rw [← hq_];exact (by (with_reducible repeat (first|refine blk_drewN ?_ _|refine blk_drew ?_|refine blk_alloc ?_ _));exact BK181.out)⟩;have n6_:Aside0 (Below w.heap.size w w47):=⟨by rw [← hq_];exact (by repeat (first|(with_reducible first|exact HB.out|apply below_alloc|apply pw_below_drewN|apply below_drew1|refine below_set ?_ GE168.out|refine below_set ?_ GE181.out)|exact HB.out))⟩;clear HO173 HO176 HO180 HO184 BK168 BK181 HB hq_;have HO173:=n0_;have HO176:=n1_;have HO180:=n2_;have HO184:=n3_;have BK168:=n4_;have BK181:=n5_;have HB:=n6_;clear n0_ n1_ n2_ n3_ n4_ n5_ n6_))))
            have n0_:=Aside0.mk (Kd.S_drew HO173.out)
            have n1_:=Aside0.mk (Kd.R_drew HO176.out)
            have n2_:=Aside0.mk (Kd.S_drew HO180.out)
            have n3_:=Aside0.mk (Kd.R_drew HO184.out)
            have n4_:=Aside0.mk (blk_drew BK168.out)
            have n5_:=Aside0.mk (blk_drew BK181.out)
            have n6_:=Aside0.mk (below_drew1 HB.out)
            clear HO173
            clear HO176
            clear HO180
            clear HO184
            clear BK168
            clear BK181
            clear HB
            have HO173:=n0_
            have HO176:=n1_
            have HO180:=n2_
            have HO184:=n3_
            have BK168:=n4_
            have BK181:=n5_
            have HB:=n6_
            clear n0_ n1_ n2_ n3_ n4_ n5_ n6_
            refine start_ (n:=5) (S:=fun w'=>w'.cell? ⟨gb181,0,none⟩=some (.int .i64 t177)∧w'.cell? ⟨gb181,1,none⟩=some (.slice Ao46 t178.length co46)∧w'.cell? ⟨gb168,0,none⟩=some (.int .i64 a0_0)∧w'.cell? ⟨gb168,1,none⟩=some (.slice A0_1 l0_1.length c0_1)) (ds:=[]) #[false,false,false,false,false] (by kernel_rfl) rfl rfl ⟨(blk_cell BK181.out 0).trans rfl,(blk_cell BK181.out 1).trans rfl,(blk_cell BK168.out 0).trans rfl,(blk_cell BK168.out 1).trans rfl⟩ (fun hHeld=>?_)
            generalize w47.drew=w50 at HO173 HO176 HO180 HO184 BK168 BK181 HB hHeld ⊢
            refine take_ (i:=0) (N:=some 34) (v:=?_) (a':=?_) #[true,false,false,false,false] rfl rfl (by kernel_rfl) (fun _ _ _ h=>h) (Or.inl ⟨by rfl,?_⟩) hHeld ?_ ?_
            rotate_left
            ·rintro w' ⟨s0,s1,s2,s3⟩
             go_simp
             with_reducible rfl
            rotate_left
            ·simp only [Act.put,List.setIfInBounds_toArray,List.set_cons_zero,List.set_cons_succ,i64_w,i32_w]
             rfl
            refine take_ (i:=1) (N:=some 35) (v:=?_) (a':=?_) #[true,true,false,false,false] rfl rfl (by kernel_rfl) (fun _ _ _ h=>h) (Or.inl ⟨by rfl,?_⟩) hHeld ?_ ?_
            rotate_left
            ·rintro w' ⟨s0,s1,s2,s3⟩
             go_simp
             with_reducible rfl
            rotate_left
            ·simp only [Act.put,List.setIfInBounds_toArray,List.set_cons_zero,List.set_cons_succ,i64_w,i32_w]
             rfl
            refine one_ (i:=2) (N:=some 36) #[true,true,true,false,false] rfl rfl (by kernel_rfl) (by decide) (fun K hK=>?_)
            refine goes_ Try.func25 (by kernel_rfl) rfl #[.agg #[.int .i64 a0_0,.slice A0_1 l0_1.length c0_1]] (by rfl) rfl rfl (by (try simp only [List.map_toArray,List.map_cons,List.map_nil]);first|done|rfl|(simp only [List.length_drop,List.length_take];rfl)) ?_
            with_reducible refine (laws_toRing.calls k a0_0 _ _ l0_1 t186 t187 _ ?side1 ?side2 A16.out).mono ?_
            (case side1=>repeat (first|exact (Kd.C_below HR0_1.out HB.out)|(with_reducible refine Kd.C_alloc ?_ _)|(with_reducible refine Kd.C_drewN ?_ _)|(with_reducible refine Kd.C_drew ?_)))
            (case side2=>exact HC0_1.out)
            rintro e w51 ⟨v188,rfl,ho0,hb⟩
            refine ⟨_,rfl,?_⟩
            have n0_:=Aside0.mk (Kd.S_below (Aid.S_lt (by (with_reducible repeat (first|apply Kd.S_alloc|apply Kd.S_drewN|apply Kd.S_drew));exact HO173.out)) hb)
            have n1_:=Aside0.mk (Kd.R_below (Aid.R_lt (by (with_reducible repeat (first|apply Kd.R_alloc|apply Kd.R_drewN|apply Kd.R_drew));exact HO176.out)) hb)
            have n2_:=Aside0.mk (Kd.S_below (Aid.S_lt (by (with_reducible repeat (first|apply Kd.S_alloc|apply Kd.S_drewN|apply Kd.S_drew));exact HO180.out)) hb)
            have n3_:=Aside0.mk (Kd.R_below (Aid.R_lt (by (with_reducible repeat (first|apply Kd.R_alloc|apply Kd.R_drewN|apply Kd.R_drew));exact HO184.out)) hb)
            have n4_:=Aside0.mk (Kd.S_lower (Aid.S_ge ho0) (below_size (by repeat (first|(with_reducible first|exact HB.out|apply below_alloc|apply pw_below_drewN|apply below_drew1|refine below_set ?_ GE168.out|refine below_set ?_ GE181.out)|exact HB.out))))
            have n5_:=Aside0.mk (blk_below (g:=gb168) (o:=.cells #[.int .i64 a0_0,.slice A0_1 l0_1.length c0_1] 38 (0,0)) (by (with_reducible repeat (first|refine blk_drewN ?_ _|refine blk_drew ?_|refine blk_alloc ?_ _));exact BK168.out) hb)
            have n6_:=Aside0.mk (blk_below (g:=gb181) (o:=.cells #[.int .i64 t177,.slice Ao46 t178.length co46] 43 (0,0)) (by (with_reducible repeat (first|refine blk_drewN ?_ _|refine blk_drew ?_|refine blk_alloc ?_ _));exact BK181.out) hb)
            have n7_:=Aside0.mk (below_step (by repeat (first|(with_reducible first|exact HB.out|apply below_alloc|apply pw_below_drewN|apply below_drew1|refine below_set ?_ GE168.out|refine below_set ?_ GE181.out)|exact HB.out)) hb)
            clear HO173
            clear HO176
            clear HO180
            clear HO184
            clear BK168
            clear BK181
            clear HB
            have HO173:=n0_
            have HO176:=n1_
            have HO180:=n2_
            have HO184:=n3_
            have HO189:=n4_
            have BK168:=n5_
            have BK181:=n6_
            have HB:=n7_
            clear n0_ n1_ n2_ n3_ n4_ n5_ n6_ n7_
            (try clear hb)
            (try clear hb2)
            (try clear hk)
            (try clear hi)
            (try clear ho0)
            obtain ⟨Ao52,co52,eo52⟩:=Kd.S_slice HO189.out
            (first|subst eo52|(injection eo52 with f1_ f2_ f3_;have f4_:=f1_.symm;have f5_:=f3_.symm;clear f1_ f2_ f3_;subst f4_;subst f5_))
            refine hK.out _ _ ⟨(blk_cell BK181.out 0).trans rfl,(blk_cell BK181.out 1).trans rfl,(blk_cell BK168.out 0).trans rfl,(blk_cell BK168.out 1).trans rfl⟩ (fun hHeld=>?_)
            clear hK K
            refine norm_ (a':=?_) ?_ ?_
            rotate_left
            ·show Act.put _ (some 36) _=_
             simp only [Act.put,List.setIfInBounds_toArray,List.set_cons_zero,List.set_cons_succ,i64_w,i32_w]
             rfl
            refine one_ (i:=3) (N:=some 37) #[true,true,true,true,false] rfl rfl (by kernel_rfl) (by decide) (fun K hK=>?_)
            refine goes_ Try.func27 (by kernel_rfl) rfl #[.agg #[.int .i64 t177,.slice Ao46 t178.length co46],.agg #[.int .i64 t186,.slice Ao52 t187.length co52]] (by rfl) rfl rfl (by (try simp only [List.map_toArray,List.map_cons,List.map_nil]);first|done|rfl|(simp only [List.length_drop,List.length_take];rfl)) ?_
            with_reducible refine (laws_eqRing.calls k t177 _ _ t178 t186 _ _ t187 true _ ?side1 ?side2 ?side3 ?side4 A17.out).mono ?_
            (case side1=>repeat (first|exact (Kd.S_reads' HO180.out).2.2|(with_reducible refine Kd.C_alloc ?_ _)|(with_reducible refine Kd.C_drewN ?_ _)|(with_reducible refine Kd.C_drew ?_)))
            (case side2=>exact (Kd.S_reads' HO180.out).2.1)
            (case side3=>repeat (first|exact (Kd.S_reads' HO189.out).2.2|(with_reducible refine Kd.C_alloc ?_ _)|(with_reducible refine Kd.C_drewN ?_ _)|(with_reducible refine Kd.C_drew ?_)))
            (case side4=>exact (Kd.S_reads' HO189.out).2.1)
            rintro e w53 ⟨rfl,hb⟩
            refine ⟨_,rfl,?_⟩
            have n0_:=Aside0.mk (Kd.S_below ((by (with_reducible repeat (first|apply Kd.S_alloc|apply Kd.S_drewN|apply Kd.S_drew));exact HO173.out)) hb)
            have n1_:=Aside0.mk (Kd.R_below ((by (with_reducible repeat (first|apply Kd.R_alloc|apply Kd.R_drewN|apply Kd.R_drew));exact HO176.out)) hb)
            have n2_:=Aside0.mk (Kd.S_below ((by (with_reducible repeat (first|apply Kd.S_alloc|apply Kd.S_drewN|apply Kd.S_drew));exact HO180.out)) hb)
            have n3_:=Aside0.mk (Kd.R_below ((by (with_reducible repeat (first|apply Kd.R_alloc|apply Kd.R_drewN|apply Kd.R_drew));exact HO184.out)) hb)
            have n4_:=Aside0.mk (Kd.S_below ((by (with_reducible repeat (first|apply Kd.S_alloc|apply Kd.S_drewN|apply Kd.S_drew));exact HO189.out)) hb)
            have n5_:=Aside0.mk (blk_below (g:=gb168) (o:=.cells #[.int .i64 a0_0,.slice A0_1 l0_1.length c0_1] 38 (0,0)) (by (with_reducible repeat (first|refine blk_drewN ?_ _|refine blk_drew ?_|refine blk_alloc ?_ _));exact BK168.out) hb)
            have n6_:=Aside0.mk (blk_below (g:=gb181) (o:=.cells #[.int .i64 t177,.slice Ao46 t178.length co46] 43 (0,0)) (by (with_reducible repeat (first|refine blk_drewN ?_ _|refine blk_drew ?_|refine blk_alloc ?_ _));exact BK181.out) hb)
            have n7_:=Aside0.mk (below_step (by repeat (first|(with_reducible first|exact HB.out|apply below_alloc|apply pw_below_drewN|apply below_drew1|refine below_set ?_ GE168.out|refine below_set ?_ GE181.out)|exact HB.out)) hb)
            clear HO173
            clear HO176
            clear HO180
            clear HO184
            clear HO189
            clear BK168
            clear BK181
            clear HB
            have HO173:=n0_
            have HO176:=n1_
            have HO180:=n2_
            have HO184:=n3_
            have HO189:=n4_
            have BK168:=n5_
            have BK181:=n6_
            have HB:=n7_
            clear n0_ n1_ n2_ n3_ n4_ n5_ n6_ n7_
            (try clear hb)
            (try clear hb2)
            (try clear hk)
            (try clear hi)
            refine hK.out _ _ ⟨(blk_cell BK181.out 0).trans rfl,(blk_cell BK181.out 1).trans rfl,(blk_cell BK168.out 0).trans rfl,(blk_cell BK168.out 1).trans rfl⟩ (fun hHeld=>?_)
            clear hK K
            refine norm_ (a':=?_) ?_ ?_
            rotate_left
            ·show Act.put _ (some 37) _=_
             simp only [Act.put,List.setIfInBounds_toArray,List.set_cons_zero,List.set_cons_succ,i64_w,i32_w]
             rfl
            refine pure_ (i:=4) (N:=some 38) (v:=?_) (a':=?_) #[true,true,true,true,true] rfl rfl (by kernel_rfl) (fun _ _ _ h=>h) (Or.inl ⟨by rfl,?_⟩) ?_ ?_
            rotate_left
            ·intro w'
             go_simp
             with_reducible rfl
            rotate_left
            ·simp only [Act.put,List.setIfInBounds_toArray,List.set_cons_zero,List.set_cons_succ,i64_w,i32_w]
             rfl
            refine done_ (by kernel_rfl) ?_
            have hcz54_0:w53.cell? ⟨gb181,0,none⟩=some (.int .i64 t177):=(blk_cell BK181.out 0).trans rfl
            have hcz54_1:w53.cell? ⟨gb181,1,none⟩=some (.slice Ao46 t178.length co46):=(blk_cell BK181.out 1).trans rfl
            have hfz54_0:=blk_frozen BK181.out 0
            have hfz54_1:=blk_frozen BK181.out 1
            try go_wp2_with (first|((with_reducible refine gate_callee (f:=31) rfl ?_);refine goesL_ (some 41) rfl rfl Try.func31 (by kernel_rfl) rfl #[.agg #[.int .i64 t177,.slice Ao46 t178.length co46],.int .i64 1] rfl (by (try simp only [List.map_toArray,List.map_cons,List.map_nil]);first|done|rfl|(simp only [List.length_drop,List.length_take];rfl)) ?_;have po0_:=Aside0.mk ((Kd.S_types (Kd.S_types (by (with_reducible repeat (first|apply Kd.S_alloc|apply Kd.S_drewN|apply Kd.S_drew));exact HO180.out) BK168.out (by decide)) BK181.out (by decide)));(with_reducible refine (laws_markRing.calls k t177 _ (.slice Ao46 t178.length co46) t178 1 t191 t192 w _ ?side1 po0_.out A19.out).mono ?_);clear po0_;(case side1=>repeat (first|(with_reducible first|exact HB.out|apply below_alloc|apply pw_below_drewN|apply below_drew1|refine below_set ?_ GE168.out|refine below_set ?_ GE181.out)|exact HB.out));rintro e w55 ⟨rfl,hy0,hb,hkp⟩;refine ⟨_,rfl,?_⟩;have n0_:=Aside0.mk (blk_kept (by (with_reducible repeat (first|refine blk_drewN ?_ _|refine blk_drew ?_|refine blk_alloc ?_ _));exact BK168.out) hkp (fun hs_=>by (try dsimp only at hs_);omega));have n1_:=Aside0.mk (Kd.S_kept (by (with_reducible repeat (first|apply Kd.S_alloc|apply Kd.S_drewN|apply Kd.S_drew));exact HO173.out) hkp (fun k_ h1_ h2_=>by (try dsimp only at h1_ h2_);omega));have n2_:=Aside0.mk (Kd.R_kept (by (with_reducible repeat (first|apply Kd.R_alloc|apply Kd.R_drewN|apply Kd.R_drew));exact HO176.out) hkp (fun k_ h1_ h2_=>by (try dsimp only at h1_ h2_);omega));have n3_:=Aside0.mk (hy0);have n4_:=Aside0.mk (blk_kept (by (with_reducible repeat (first|refine blk_drewN ?_ _|refine blk_drew ?_|refine blk_alloc ?_ _));exact BK181.out) hkp (fun hs_=>by (try dsimp only at hs_);omega));have n5_:=Aside0.mk (Kd.R_kept (by (with_reducible repeat (first|apply Kd.R_alloc|apply Kd.R_drewN|apply Kd.R_drew));exact HO184.out) hkp (fun k_ h1_ h2_=>by (try dsimp only at h1_ h2_);omega));have n6_:=Aside0.mk (Kd.S_kept (by (with_reducible repeat (first|apply Kd.S_alloc|apply Kd.S_drewN|apply Kd.S_drew));exact HO189.out) hkp (fun k_ h1_ h2_=>by (try dsimp only at h1_ h2_);omega));have n7_:=Aside0.mk (hb);clear BK168;clear HO173;clear HO176;clear HO180;clear BK181;clear HO184;clear HO189;clear HB;have BK168:=n0_;have HO173:=n1_;have HO176:=n2_;have HO180:=n3_;have BK181:=n4_;have HO184:=n5_;have HO189:=n6_;have HB:=n7_;clear n0_ n1_ n2_ n3_ n4_ n5_ n6_ n7_;(try clear hb);(try clear hkp);(try clear hy0))|(go_at_call 30;(with_reducible refine (laws_eqIntS.calls k _ _ t182 _ _ t174 true _ ?side1 ?side2 ?side3 ?side4 A21.out).mono ?_);(case side1=>repeat (first|exact (Kd.R_reads' HO184.out).2.2|(with_reducible refine Kd.C_alloc ?_ _)|(with_reducible refine Kd.C_drewN ?_ _)|(with_reducible refine Kd.C_drew ?_)));(case side2=>exact (Kd.R_reads' HO184.out).2.1);(case side3=>repeat (first|exact (Kd.R_reads' HO176.out).2.2|(with_reducible refine Kd.C_alloc ?_ _)|(with_reducible refine Kd.C_drewN ?_ _)|(with_reducible refine Kd.C_drew ?_)));(case side4=>exact (Kd.R_reads' HO176.out).2.1);rintro e w' ⟨rfl,⟨nd,rfl⟩⟩;(try (rw [drewN_self w55];generalize hq_:World.drewN w55 _=w55;have n0_:Aside0 (Kd.S k29 29 w55 w.heap.size _ (.slice Ao39 t171.length co39) t171):=⟨by rw [← hq_];exact (by (with_reducible repeat (first|apply Kd.S_alloc|apply Kd.S_drewN|apply Kd.S_drew));exact HO173.out)⟩;have n1_:Aside0 (Kd.R (Kd.int .i64) 3 w55 w.heap.size _ (.slice Ao49 t174.length co49) t174):=⟨by rw [← hq_];exact (by (with_reducible repeat (first|apply Kd.R_alloc|apply Kd.R_drewN|apply Kd.R_drew));exact HO176.out)⟩;have n2_:Aside0 (Kd.S k29 29 w55 w.heap.size _ (.slice Ao46 t178.length co46) t192):=⟨by rw [← hq_];exact (by (with_reducible repeat (first|apply Kd.S_alloc|apply Kd.S_drewN|apply Kd.S_drew));exact HO180.out)⟩;have n3_:Aside0 (Kd.R (Kd.int .i64) 3 w55 w.heap.size _ (.slice Ao48 t182.length co48) t182):=⟨by rw [← hq_];exact (by (with_reducible repeat (first|apply Kd.R_alloc|apply Kd.R_drewN|apply Kd.R_drew));exact HO184.out)⟩;have n4_:Aside0 (Kd.S k29 29 w55 w.heap.size _ (.slice Ao52 t187.length co52) t187):=⟨by rw [← hq_];exact (by (with_reducible repeat (first|apply Kd.S_alloc|apply Kd.S_drewN|apply Kd.S_drew));exact HO189.out)⟩;have n5_:Aside0 (w55.heap[gb168]?=some (.cells #[.int .i64 a0_0,.slice A0_1 l0_1.length c0_1] 38 (0,0))):=⟨by rw [← hq_];exact (by (with_reducible repeat (first|refine blk_drewN ?_ _|refine blk_drew ?_|refine blk_alloc ?_ _));exact BK168.out)⟩;have n6_:Aside0 (w55.heap[gb181]?=some (.cells #[.int .i64 t177,.slice Ao46 t178.length co46] 43 (0,0))):=⟨by rw [← hq_];exact (by (with_reducible repeat (first|refine blk_drewN ?_ _|refine blk_drew ?_|refine blk_alloc ?_ _));exact BK181.out)⟩;have n7_:Aside0 (Below w.heap.size w w55):=⟨by rw [← hq_];exact (by repeat (first|(with_reducible first|exact HB.out|apply below_alloc|apply pw_below_drewN|apply below_drew1|refine below_set ?_ GE168.out|refine below_set ?_ GE181.out)|exact HB.out))⟩;clear HO173 HO176 HO180 HO184 HO189 BK168 BK181 HB hq_;have HO173:=n0_;have HO176:=n1_;have HO180:=n2_;have HO184:=n3_;have HO189:=n4_;have BK168:=n5_;have BK181:=n6_;have HB:=n7_;clear n0_ n1_ n2_ n3_ n4_ n5_ n6_ n7_)))|((with_reducible refine gate_callee (f:=32) rfl ?_);refine goesL_ (some 52) rfl rfl Try.func32 (by kernel_rfl) rfl #[.slice Ao48 t182.length co48,.int .i64 1] rfl (by (try simp only [List.map_toArray,List.map_cons,List.map_nil]);first|done|rfl|(simp only [List.length_drop,List.length_take];rfl)) ?_;have po0_:=Aside0.mk ((Kd.R_types (Kd.R_types (by (with_reducible repeat (first|apply Kd.R_alloc|apply Kd.R_drewN|apply Kd.R_drew));exact HO184.out) BK168.out (by decide)) BK181.out (by decide)));(with_reducible refine (laws_markIntS.calls k _ (.slice Ao48 t182.length co48) t182 1 t194 t195 w _ ?side1 po0_.out A23.out).mono ?_);clear po0_;(case side1=>repeat (first|(with_reducible first|exact HB.out|apply below_alloc|apply pw_below_drewN|apply below_drew1|refine below_set ?_ GE168.out|refine below_set ?_ GE181.out)|exact HB.out));rintro e w56 ⟨rfl,hy0,hb,hkp⟩;refine ⟨_,rfl,?_⟩;have n0_:=Aside0.mk (blk_kept (by (with_reducible repeat (first|refine blk_drewN ?_ _|refine blk_drew ?_|refine blk_alloc ?_ _));exact BK168.out) hkp (fun hs_=>by (try dsimp only at hs_);omega));have n1_:=Aside0.mk (Kd.S_kept (by (with_reducible repeat (first|apply Kd.S_alloc|apply Kd.S_drewN|apply Kd.S_drew));exact HO173.out) hkp (fun k_ h1_ h2_=>by (try dsimp only at h1_ h2_);omega));have n2_:=Aside0.mk (Kd.R_kept (by (with_reducible repeat (first|apply Kd.R_alloc|apply Kd.R_drewN|apply Kd.R_drew));exact HO176.out) hkp (fun k_ h1_ h2_=>by (try dsimp only at h1_ h2_);omega));have n3_:=Aside0.mk (Kd.S_kept (by (with_reducible repeat (first|apply Kd.S_alloc|apply Kd.S_drewN|apply Kd.S_drew));exact HO180.out) hkp (fun k_ h1_ h2_=>by (try dsimp only at h1_ h2_);omega));have n4_:=Aside0.mk (blk_kept (by (with_reducible repeat (first|refine blk_drewN ?_ _|refine blk_drew ?_|refine blk_alloc ?_ _));exact BK181.out) hkp (fun hs_=>by (try dsimp only at hs_);omega));have n5_:=Aside0.mk (Kd.R_reok rfl hy0 (fun k_ e_=>HO184.out.1 k_ e_));have n6_:=Aside0.mk (Kd.S_kept (by (with_reducible repeat (first|apply Kd.S_alloc|apply Kd.S_drewN|apply Kd.S_drew));exact HO189.out) hkp (fun k_ h1_ h2_=>by (try dsimp only at h1_ h2_);omega));have n7_:=Aside0.mk (hb);clear BK168;clear HO173;clear HO176;clear HO180;clear BK181;clear HO184;clear HO189;clear HB;have BK168:=n0_;have HO173:=n1_;have HO176:=n2_;have HO180:=n3_;have BK181:=n4_;have HO184:=n5_;have HO189:=n6_;have HB:=n7_;clear n0_ n1_ n2_ n3_ n4_ n5_ n6_ n7_;(try clear hb);(try clear hkp);(try clear hy0))|((with_reducible refine gate_callee (f:=33) rfl ?_);refine goesL_ (some 55) rfl rfl Try.func33 (by kernel_rfl) rfl #[.slice Ao48 t195.length co48,.int .i64 1] rfl (by (try simp only [List.map_toArray,List.map_cons,List.map_nil]);first|done|(rw [show t195.length=t182.length from (Kd.R_reads' HO184.out).1.symm] <;> rfl)|rfl|(simp only [List.length_drop,List.length_take];rfl)) ?_;(with_reducible refine (laws_heldIntS.calls k _ _ t195 1 t196 _ ?side1 ?side2 A24.out).mono ?_);(case side1=>repeat (first|exact (Kd.R_reads' HO184.out).2.2|(with_reducible refine Kd.C_alloc ?_ _)|(with_reducible refine Kd.C_drewN ?_ _)|(with_reducible refine Kd.C_drew ?_)));(case side2=>rw [show t195.length=t182.length from (Kd.R_reads' HO184.out).1.symm];exact (Kd.R_reads' HO184.out).2.1);rintro e w' ⟨rfl,⟨nd,rfl⟩⟩;refine ⟨_,rfl,?_⟩;(try (rw [drewN_self w56];generalize hq_:World.drewN w56 _=w56;have n0_:Aside0 (Kd.S k29 29 w56 w.heap.size _ (.slice Ao39 t171.length co39) t171):=⟨by rw [← hq_];exact (by (with_reducible repeat (first|apply Kd.S_alloc|apply Kd.S_drewN|apply Kd.S_drew));exact HO173.out)⟩;have n1_:Aside0 (Kd.R (Kd.int .i64) 3 w56 w.heap.size _ (.slice Ao49 t174.length co49) t174):=⟨by rw [← hq_];exact (by (with_reducible repeat (first|apply Kd.R_alloc|apply Kd.R_drewN|apply Kd.R_drew));exact HO176.out)⟩;have n2_:Aside0 (Kd.S k29 29 w56 w.heap.size _ (.slice Ao46 t178.length co46) t192):=⟨by rw [← hq_];exact (by (with_reducible repeat (first|apply Kd.S_alloc|apply Kd.S_drewN|apply Kd.S_drew));exact HO180.out)⟩;have n3_:Aside0 (Kd.R (Kd.int .i64) 3 w56 w.heap.size _ (.slice Ao48 t182.length co48) t195):=⟨by rw [← hq_];exact (by (with_reducible repeat (first|apply Kd.R_alloc|apply Kd.R_drewN|apply Kd.R_drew));exact HO184.out)⟩;have n4_:Aside0 (Kd.S k29 29 w56 w.heap.size _ (.slice Ao52 t187.length co52) t187):=⟨by rw [← hq_];exact (by (with_reducible repeat (first|apply Kd.S_alloc|apply Kd.S_drewN|apply Kd.S_drew));exact HO189.out)⟩;have n5_:Aside0 (w56.heap[gb168]?=some (.cells #[.int .i64 a0_0,.slice A0_1 l0_1.length c0_1] 38 (0,0))):=⟨by rw [← hq_];exact (by (with_reducible repeat (first|refine blk_drewN ?_ _|refine blk_drew ?_|refine blk_alloc ?_ _));exact BK168.out)⟩;have n6_:Aside0 (w56.heap[gb181]?=some (.cells #[.int .i64 t177,.slice Ao46 t178.length co46] 43 (0,0))):=⟨by rw [← hq_];exact (by (with_reducible repeat (first|refine blk_drewN ?_ _|refine blk_drew ?_|refine blk_alloc ?_ _));exact BK181.out)⟩;have n7_:Aside0 (Below w.heap.size w w56):=⟨by rw [← hq_];exact (by repeat (first|(with_reducible first|exact HB.out|apply below_alloc|apply pw_below_drewN|apply below_drew1|refine below_set ?_ GE168.out|refine below_set ?_ GE181.out)|exact HB.out))⟩;clear HO173 HO176 HO180 HO184 HO189 BK168 BK181 HB hq_;have HO173:=n0_;have HO176:=n1_;have HO180:=n2_;have HO184:=n3_;have HO189:=n4_;have BK168:=n5_;have BK181:=n6_;have HB:=n7_;clear n0_ n1_ n2_ n3_ n4_ n5_ n6_ n7_));have hcz57_0:w56.cell? ⟨gb168,0,none⟩=some (.int .i64 a0_0):=(blk_cell BK168.out 0).trans rfl;have hcz57_1:w56.cell? ⟨gb168,1,none⟩=some (.slice A0_1 l0_1.length c0_1):=(blk_cell BK168.out 1).trans rfl;have hfz57_0:=blk_frozen BK168.out 0;have hfz57_1:=blk_frozen BK168.out 1)|((with_reducible refine gate_callee (f:=25) rfl ?_);refine goesL_ (some 62) rfl rfl Try.func25 (by kernel_rfl) rfl #[.agg #[.int .i64 a0_0,.slice A0_1 l0_1.length c0_1]] rfl (by (try simp only [List.map_toArray,List.map_cons,List.map_nil]);first|done|rfl|(simp only [List.length_drop,List.length_take];rfl)) ?_;(with_reducible refine (laws_toRing.calls k a0_0 _ _ l0_1 t197 t198 _ ?side1 ?side2 A27.out).mono ?_);(case side1=>repeat (first|exact (Kd.C_below HR0_1.out HB.out)|(with_reducible refine Kd.C_alloc ?_ _)|(with_reducible refine Kd.C_drewN ?_ _)|(with_reducible refine Kd.C_drew ?_)));(case side2=>exact HC0_1.out);rintro e w58 ⟨v199,rfl,ho0,hb⟩;refine ⟨_,rfl,?_⟩;have n0_:=Aside0.mk (Kd.S_below (Aid.S_lt (by (with_reducible repeat (first|apply Kd.S_alloc|apply Kd.S_drewN|apply Kd.S_drew));exact HO173.out)) hb);have n1_:=Aside0.mk (Kd.R_below (Aid.R_lt (by (with_reducible repeat (first|apply Kd.R_alloc|apply Kd.R_drewN|apply Kd.R_drew));exact HO176.out)) hb);have n2_:=Aside0.mk (Kd.S_below (Aid.S_lt (by (with_reducible repeat (first|apply Kd.S_alloc|apply Kd.S_drewN|apply Kd.S_drew));exact HO180.out)) hb);have n3_:=Aside0.mk (Kd.R_below (Aid.R_lt (by (with_reducible repeat (first|apply Kd.R_alloc|apply Kd.R_drewN|apply Kd.R_drew));exact HO184.out)) hb);have n4_:=Aside0.mk (Kd.S_below (Aid.S_lt (by (with_reducible repeat (first|apply Kd.S_alloc|apply Kd.S_drewN|apply Kd.S_drew));exact HO189.out)) hb);have n5_:=Aside0.mk (Kd.S_lower (Aid.S_ge ho0) (below_size (by repeat (first|(with_reducible first|exact HB.out|apply below_alloc|apply pw_below_drewN|apply below_drew1|refine below_set ?_ GE168.out|refine below_set ?_ GE181.out)|exact HB.out))));have n6_:=Aside0.mk (blk_below (g:=gb168) (o:=.cells #[.int .i64 a0_0,.slice A0_1 l0_1.length c0_1] 38 (0,0)) (by (with_reducible repeat (first|refine blk_drewN ?_ _|refine blk_drew ?_|refine blk_alloc ?_ _));exact BK168.out) hb);have n7_:=Aside0.mk (blk_below (g:=gb181) (o:=.cells #[.int .i64 t177,.slice Ao46 t178.length co46] 43 (0,0)) (by (with_reducible repeat (first|refine blk_drewN ?_ _|refine blk_drew ?_|refine blk_alloc ?_ _));exact BK181.out) hb);have n8_:=Aside0.mk (below_step (by repeat (first|(with_reducible first|exact HB.out|apply below_alloc|apply pw_below_drewN|apply below_drew1|refine below_set ?_ GE168.out|refine below_set ?_ GE181.out)|exact HB.out)) hb);clear HO173;clear HO176;clear HO180;clear HO184;clear HO189;clear BK168;clear BK181;clear HB;have HO173:=n0_;have HO176:=n1_;have HO180:=n2_;have HO184:=n3_;have HO189:=n4_;have HO200:=n5_;have BK168:=n6_;have BK181:=n7_;have HB:=n8_;clear n0_ n1_ n2_ n3_ n4_ n5_ n6_ n7_ n8_;(try clear hb);(try clear hb2);(try clear hk);(try clear hi);(try clear ho0);obtain ⟨Ao59,co59,eo59⟩:=Kd.S_slice HO200.out;subst eo59)|((with_reducible refine gate_callee (f:=29) rfl ?_);refine goesL_ (some 64) rfl rfl Try.func29 (by kernel_rfl) rfl #[.agg #[.int .i64 t197,.slice Ao59 t198.length co59],.string a1] rfl (by (try simp only [List.map_toArray,List.map_cons,List.map_nil]);first|done|rfl|(simp only [List.length_drop,List.length_take];rfl)) ?_;(with_reducible refine (impl_Primaries.calls k t197 _ _ t198 a1 t201 _ ?side1 ?side2 A28.out).mono ?_);(case side1=>repeat (first|exact (Kd.S_reads' HO200.out).2.2|(with_reducible refine Kd.C_alloc ?_ _)|(with_reducible refine Kd.C_drewN ?_ _)|(with_reducible refine Kd.C_drew ?_)));(case side2=>exact (Kd.S_reads' HO200.out).2.1);rintro e w60 ⟨v202,rfl,ho0,hb⟩;refine ⟨_,rfl,?_⟩;have n0_:=Aside0.mk (Kd.S_below (Aid.S_lt (by (with_reducible repeat (first|apply Kd.S_alloc|apply Kd.S_drewN|apply Kd.S_drew));exact HO173.out)) hb);have n1_:=Aside0.mk (Kd.R_below (Aid.R_lt (by (with_reducible repeat (first|apply Kd.R_alloc|apply Kd.R_drewN|apply Kd.R_drew));exact HO176.out)) hb);have n2_:=Aside0.mk (Kd.S_below (Aid.S_lt (by (with_reducible repeat (first|apply Kd.S_alloc|apply Kd.S_drewN|apply Kd.S_drew));exact HO180.out)) hb);have n3_:=Aside0.mk (Kd.R_below (Aid.R_lt (by (with_reducible repeat (first|apply Kd.R_alloc|apply Kd.R_drewN|apply Kd.R_drew));exact HO184.out)) hb);have n4_:=Aside0.mk (Kd.S_below (Aid.S_lt (by (with_reducible repeat (first|apply Kd.S_alloc|apply Kd.S_drewN|apply Kd.S_drew));exact HO189.out)) hb);have n5_:=Aside0.mk (Kd.S_below (Aid.S_lt (by (with_reducible repeat (first|apply Kd.S_alloc|apply Kd.S_drewN|apply Kd.S_drew));exact HO200.out)) hb);have n6_:=Aside0.mk (Kd.R_lower (Aid.R_ge ho0) (below_size (by repeat (first|(with_reducible first|exact HB.out|apply below_alloc|apply pw_below_drewN|apply below_drew1|refine below_set ?_ GE168.out|refine below_set ?_ GE181.out)|exact HB.out))));have n7_:=Aside0.mk (blk_below (g:=gb168) (o:=.cells #[.int .i64 a0_0,.slice A0_1 l0_1.length c0_1] 38 (0,0)) (by (with_reducible repeat (first|refine blk_drewN ?_ _|refine blk_drew ?_|refine blk_alloc ?_ _));exact BK168.out) hb);have n8_:=Aside0.mk (blk_below (g:=gb181) (o:=.cells #[.int .i64 t177,.slice Ao46 t178.length co46] 43 (0,0)) (by (with_reducible repeat (first|refine blk_drewN ?_ _|refine blk_drew ?_|refine blk_alloc ?_ _));exact BK181.out) hb);have n9_:=Aside0.mk (below_step (by repeat (first|(with_reducible first|exact HB.out|apply below_alloc|apply pw_below_drewN|apply below_drew1|refine below_set ?_ GE168.out|refine below_set ?_ GE181.out)|exact HB.out)) hb);clear HO173;clear HO176;clear HO180;clear HO184;clear HO189;clear HO200;clear BK168;clear BK181;clear HB;have HO173:=n0_;have HO176:=n1_;have HO180:=n2_;have HO184:=n3_;have HO189:=n4_;have HO200:=n5_;have HO203:=n6_;have BK168:=n7_;have BK181:=n8_;have HB:=n9_;clear n0_ n1_ n2_ n3_ n4_ n5_ n6_ n7_ n8_ n9_;(try clear hb);(try clear hb2);(try clear hk);(try clear hi);(try clear ho0);obtain ⟨Ao61,co61,eo61⟩:=Kd.R_slice HO203.out;subst eo61)|((with_reducible refine gate_callee (f:=30) rfl ?_);refine goesL_ (some 67) rfl rfl Try.func30 (by kernel_rfl) rfl #[.slice Ao61 t201.length co61,.slice Ao49 t174.length co49] rfl (by (try simp only [List.map_toArray,List.map_cons,List.map_nil]);first|done|rfl|(simp only [List.length_drop,List.length_take];rfl)) ?_;(with_reducible refine (laws_eqIntS.calls k _ _ t201 _ _ t174 true _ ?side1 ?side2 ?side3 ?side4 A29.out).mono ?_);(case side1=>repeat (first|exact (Kd.R_reads' HO203.out).2.2|(with_reducible refine Kd.C_alloc ?_ _)|(with_reducible refine Kd.C_drewN ?_ _)|(with_reducible refine Kd.C_drew ?_)));(case side2=>exact (Kd.R_reads' HO203.out).2.1);(case side3=>repeat (first|exact (Kd.R_reads' HO176.out).2.2|(with_reducible refine Kd.C_alloc ?_ _)|(with_reducible refine Kd.C_drewN ?_ _)|(with_reducible refine Kd.C_drew ?_)));(case side4=>exact (Kd.R_reads' HO176.out).2.1);rintro e w' ⟨rfl,⟨nd,rfl⟩⟩;refine ⟨_,rfl,?_⟩;(try (rw [drewN_self w60];generalize hq_:World.drewN w60 _=w60;have n0_:Aside0 (Kd.S k29 29 w60 w.heap.size _ (.slice Ao39 t171.length co39) t171):=⟨by rw [← hq_];exact (by (with_reducible repeat (first|apply Kd.S_alloc|apply Kd.S_drewN|apply Kd.S_drew));exact HO173.out)⟩;have n1_:Aside0 (Kd.R (Kd.int .i64) 3 w60 w.heap.size _ (.slice Ao49 t174.length co49) t174):=⟨by rw [← hq_];exact (by (with_reducible repeat (first|apply Kd.R_alloc|apply Kd.R_drewN|apply Kd.R_drew));exact HO176.out)⟩;have n2_:Aside0 (Kd.S k29 29 w60 w.heap.size _ (.slice Ao46 t178.length co46) t192):=⟨by rw [← hq_];exact (by (with_reducible repeat (first|apply Kd.S_alloc|apply Kd.S_drewN|apply Kd.S_drew));exact HO180.out)⟩;have n3_:Aside0 (Kd.R (Kd.int .i64) 3 w60 w.heap.size _ (.slice Ao48 t182.length co48) t195):=⟨by rw [← hq_];exact (by (with_reducible repeat (first|apply Kd.R_alloc|apply Kd.R_drewN|apply Kd.R_drew));exact HO184.out)⟩;have n4_:Aside0 (Kd.S k29 29 w60 w.heap.size _ (.slice Ao52 t187.length co52) t187):=⟨by rw [← hq_];exact (by (with_reducible repeat (first|apply Kd.S_alloc|apply Kd.S_drewN|apply Kd.S_drew));exact HO189.out)⟩;have n5_:Aside0 (Kd.S k29 29 w60 w.heap.size _ (.slice Ao59 t198.length co59) t198):=⟨by rw [← hq_];exact (by (with_reducible repeat (first|apply Kd.S_alloc|apply Kd.S_drewN|apply Kd.S_drew));exact HO200.out)⟩;have n6_:Aside0 (Kd.R (Kd.int .i64) 3 w60 w.heap.size _ (.slice Ao61 t201.length co61) t201):=⟨by rw [← hq_];exact (by (with_reducible repeat (first|apply Kd.R_alloc|apply Kd.R_drewN|apply Kd.R_drew));exact HO203.out)⟩;have n7_:Aside0 (w60.heap[gb168]?=some (.cells #[.int .i64 a0_0,.slice A0_1 l0_1.length c0_1] 38 (0,0))):=⟨by rw [← hq_];exact (by (with_reducible repeat (first|refine blk_drewN ?_ _|refine blk_drew ?_|refine blk_alloc ?_ _));exact BK168.out)⟩;have n8_:Aside0 (w60.heap[gb181]?=some (.cells #[.int .i64 t177,.slice Ao46 t178.length co46] 43 (0,0))):=⟨by rw [← hq_];exact (by (with_reducible repeat (first|refine blk_drewN ?_ _|refine blk_drew ?_|refine blk_alloc ?_ _));exact BK181.out)⟩;have n9_:Aside0 (Below w.heap.size w w60):=⟨by rw [← hq_];exact (by repeat (first|(with_reducible first|exact HB.out|apply below_alloc|apply pw_below_drewN|apply below_drew1|refine below_set ?_ GE168.out|refine below_set ?_ GE181.out)|exact HB.out))⟩;clear HO173 HO176 HO180 HO184 HO189 HO200 HO203 BK168 BK181 HB hq_;have HO173:=n0_;have HO176:=n1_;have HO180:=n2_;have HO184:=n3_;have HO189:=n4_;have HO200:=n5_;have HO203:=n6_;have BK168:=n7_;have BK181:=n8_;have HB:=n9_;clear n0_ n1_ n2_ n3_ n4_ n5_ n6_ n7_ n8_ n9_)))|((with_reducible refine gate_callee (f:=33) rfl ?_);refine goesL_ (some 71) rfl rfl Try.func33 (by kernel_rfl) rfl #[.slice Ao48 t195.length co48,.int .i64 1] rfl (by (try simp only [List.map_toArray,List.map_cons,List.map_nil]);first|done|(rw [show t195.length=t182.length from (Kd.R_reads' HO184.out).1.symm] <;> rfl)|rfl|(simp only [List.length_drop,List.length_take];rfl)) ?_;(with_reducible refine (laws_heldIntS.calls k _ _ t195 1 t205 _ ?side1 ?side2 A31.out).mono ?_);(case side1=>repeat (first|exact (Kd.R_reads' HO184.out).2.2|(with_reducible refine Kd.C_alloc ?_ _)|(with_reducible refine Kd.C_drewN ?_ _)|(with_reducible refine Kd.C_drew ?_)));(case side2=>rw [show t195.length=t182.length from (Kd.R_reads' HO184.out).1.symm];exact (Kd.R_reads' HO184.out).2.1);rintro e w' ⟨rfl,⟨nd,rfl⟩⟩;refine ⟨_,rfl,?_⟩;(try (rw [drewN_self w60];generalize hq_:World.drewN w60 _=w60;have n0_:Aside0 (Kd.S k29 29 w60 w.heap.size _ (.slice Ao39 t171.length co39) t171):=⟨by rw [← hq_];exact (by (with_reducible repeat (first|apply Kd.S_alloc|apply Kd.S_drewN|apply Kd.S_drew));exact HO173.out)⟩;have n1_:Aside0 (Kd.R (Kd.int .i64) 3 w60 w.heap.size _ (.slice Ao49 t174.length co49) t174):=⟨by rw [← hq_];exact (by (with_reducible repeat (first|apply Kd.R_alloc|apply Kd.R_drewN|apply Kd.R_drew));exact HO176.out)⟩;have n2_:Aside0 (Kd.S k29 29 w60 w.heap.size _ (.slice Ao46 t178.length co46) t192):=⟨by rw [← hq_];exact (by (with_reducible repeat (first|apply Kd.S_alloc|apply Kd.S_drewN|apply Kd.S_drew));exact HO180.out)⟩;have n3_:Aside0 (Kd.R (Kd.int .i64) 3 w60 w.heap.size _ (.slice Ao48 t182.length co48) t195):=⟨by rw [← hq_];exact (by (with_reducible repeat (first|apply Kd.R_alloc|apply Kd.R_drewN|apply Kd.R_drew));exact HO184.out)⟩;have n4_:Aside0 (Kd.S k29 29 w60 w.heap.size _ (.slice Ao52 t187.length co52) t187):=⟨by rw [← hq_];exact (by (with_reducible repeat (first|apply Kd.S_alloc|apply Kd.S_drewN|apply Kd.S_drew));exact HO189.out)⟩;have n5_:Aside0 (Kd.S k29 29 w60 w.heap.size _ (.slice Ao59 t198.length co59) t198):=⟨by rw [← hq_];exact (by (with_reducible repeat (first|apply Kd.S_alloc|apply Kd.S_drewN|apply Kd.S_drew));exact HO200.out)⟩;have n6_:Aside0 (Kd.R (Kd.int .i64) 3 w60 w.heap.size _ (.slice Ao61 t201.length co61) t201):=⟨by rw [← hq_];exact (by (with_reducible repeat (first|apply Kd.R_alloc|apply Kd.R_drewN|apply Kd.R_drew));exact HO203.out)⟩;have n7_:Aside0 (w60.heap[gb168]?=some (.cells #[.int .i64 a0_0,.slice A0_1 l0_1.length c0_1] 38 (0,0))):=⟨by rw [← hq_];exact (by (with_reducible repeat (first|refine blk_drewN ?_ _|refine blk_drew ?_|refine blk_alloc ?_ _));exact BK168.out)⟩;have n8_:Aside0 (w60.heap[gb181]?=some (.cells #[.int .i64 t177,.slice Ao46 t178.length co46] 43 (0,0))):=⟨by rw [← hq_];exact (by (with_reducible repeat (first|refine blk_drewN ?_ _|refine blk_drew ?_|refine blk_alloc ?_ _));exact BK181.out)⟩;have n9_:Aside0 (Below w.heap.size w w60):=⟨by rw [← hq_];exact (by repeat (first|(with_reducible first|exact HB.out|apply below_alloc|apply pw_below_drewN|apply below_drew1|refine below_set ?_ GE168.out|refine below_set ?_ GE181.out)|exact HB.out))⟩;clear HO173 HO176 HO180 HO184 HO189 HO200 HO203 BK168 BK181 HB hq_;have HO173:=n0_;have HO176:=n1_;have HO180:=n2_;have HO184:=n3_;have HO189:=n4_;have HO200:=n5_;have HO203:=n6_;have BK168:=n7_;have BK181:=n8_;have HB:=n9_;clear n0_ n1_ n2_ n3_ n4_ n5_ n6_ n7_ n8_ n9_))))
            go_ret
            exact ⟨by first|rfl|(simp [errW_none,errW_some] <;> rfl)|(simp [*,errW_none,errW_some] <;> rfl),by repeat (first|(with_reducible first|exact HB.out|apply below_alloc|apply pw_below_drewN|apply below_drew1|refine below_set ?_ GE168.out|refine below_set ?_ GE181.out)|exact HB.out)⟩
           ·rw [if_neg c33] at H
            have c33b0:(t205 == t194)=false:=beq_eq_false_iff_ne.mpr c33
            have c33b1:(t205 != t194)=true:=bne_iff_ne.mpr c33
            exact absurd ((Option.some.inj H).trans hr_.out) (by decide)
         ·replace c30:=Bool.eq_false_iff.mpr c30
          subst c30
          have H1:(some false)=some r:=by rw [if_neg (show ¬ (false=true) by decide)] at H;exact H
          clear H
          have H:=H1
          clear H1
          exact absurd ((Option.some.inj H).trans hr_.out) (by decide)
        ·rw [if_neg c26] at H
         have c26b0:(t196 == t194)=false:=beq_eq_false_iff_ne.mpr c26
         have c26b1:(t196 != t194)=true:=bne_iff_ne.mpr c26
         exact absurd ((Option.some.inj H).trans hr_.out) (by decide)
      ·replace c22:=Bool.eq_false_iff.mpr c22
       subst c22
       have H1:(some false)=some r:=by rw [if_neg (show ¬ (false=true) by decide)] at H;exact H
       clear H
       have H:=H1
       clear H1
       exact absurd ((Option.some.inj H).trans hr_.out) (by decide)
    ·replace c18:=Bool.eq_false_iff.mpr c18
     subst c18
     have H1:(some false)=some r:=by rw [if_neg (show ¬ (false=true) by decide)] at H;exact H
     clear H
     have H:=H1
     clear H1
     exact absurd ((Option.some.inj H).trans hr_.out) (by decide)
   ·replace c15:=Bool.eq_false_iff.mpr c15
    subst c15
    have H1:(some false)=some r:=by rw [if_neg (show ¬ (false=true) by decide)] at H;exact H
    clear H
    have H:=H1
    clear H1
    exact absurd ((Option.some.inj H).trans hr_.out) (by decide)
end Go.Proofs.Ytbhllgifciaepaa.PFnExactPrimaries
