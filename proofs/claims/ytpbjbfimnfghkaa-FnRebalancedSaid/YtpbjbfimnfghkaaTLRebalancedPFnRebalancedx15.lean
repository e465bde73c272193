/- Trimmed by a program of this session (trim.py). Not trusted: Lean checks it. -/
import Derived.Test.YtpbjbfimnfghkaaTLRebalancedPFnRebalancedx0
import Derived.Test.YtpbjbfimnfghkaaTLRebalancedPFnRebalancedx2
namespace Go.Proofs.Ytpbjbfimnfghkaa.PFnRebalanced
open Go.RowKit Go.Proofs.YtpbjbfimnfghkaaW.PrintWords Go.Proofs.YtpbjbfimnfghkaaW.PrintLast Go.Proofs.YtpbjbfimnfghkaaW.PrintMore Go.Proofs.Ytpbjbfimnfghkaa.St
attribute [local go_sem] max2_int min2_int max_two min_two max_three min_three max_four min_four
set_option linter.unusedVariables false
set_option linter.unusedSimpArgs false
mutual
def spec_l6Heavy.l0:Nat→List (S61)→Int→Bool→Int→Int→List (S35)→List Int→Int→Int→Int→Option (Int)
 | 0,_,_,_,_,_,_,_,_,_,_=>none
 | k+1,x2,x3,x10,x11,x554000,x554001,x555000,x560000,x560001,x560002=>if x11 < (x555000.length:Int) then (spec_l6Heavy.j1 k x2 x3 x10 x11 x10 x554000 x554001 x555000 x560000 x560001 x560002) else (spec_l6Heavy.j1 k x2 x3 x10 x11 false x554000 x554001 x555000 x560000 x560001 x560002)
def spec_l6Heavy.j1:Nat→List (S61)→Int→Bool→Int→Bool→Int→List (S35)→List Int→Int→Int→Int→Option (Int)
 | 0,_,_,_,_,_,_,_,_,_,_,_=>none
 | k+1,x2,x3,x10,x11,x27,x554000,x554001,x555000,x560000,x560001,x560002=>if x27=true then (if 0≤x11 then (if x11 < (x555000.length:Int) then ((spec_DevAt.f k x2 (rd x555000 x11)).bind fun bt561=>(if bt561.2.2.2=true then (if bt561.2.1=x560001 then ((spec_LoadOf.f k x554000 x554001 bt561.1).bind fun t566=>((spec_LoadOf.f k x554000 x554001 x3).bind fun t567=>(if (wrap64 (t566 - t567)) ≥ 2 then (some x11) else (spec_l6Heavy.l0 k x2 x3 x10 (wrap64 (x11+1)) x554000 x554001 x555000 x560000 x560001 x560002)))) else (spec_l6Heavy.l0 k x2 x3 x10 (wrap64 (x11+1)) x554000 x554001 x555000 x560000 x560001 x560002)) else (spec_l6Heavy.l0 k x2 x3 x10 (wrap64 (x11+1)) x554000 x554001 x555000 x560000 x560001 x560002))) else (none)) else (none)) else (some (-1))
end
def spec_l6Heavy.f (k:Nat) (a0_0:Int) (l0_1:List (S35)) (l1_0:List Int) (l2:List (S61)) (a3:Int):Option (Int):=(spec_DevAt.f k l2 a3).bind fun bt555=>(spec_l6Heavy.l0 k l2 a3 bt555.2.2.2 0 a0_0 l0_1 l1_0 bt555.1 bt555.2.1 bt555.2.2.1)
def spec_l6Heavy.T6:Bool × List (List Nat × List Nat):=(true,[([],[]),([0],[0]),([1],[1]),([2,1],[1,2]),([1],[1]),([4,1],[1,4]),([3,5,1],[1,3,5]),([1,6],[1,6]),([7,1],[7]),([8],[8]),([8],[8]),([10,8],[8,10]),([9,11,8,8],[8,9,11]),([8],[8]),([8],[8]),([13,14,12,8],[8,13,14]),([12,15,8],[8,12,15]),([16,8],[8,16]),([8,17],[8,17])])
def spec_l6Heavy.B6:List Nat:=[0,1,3,7,3,19,63,127,255,511,511,1535,4095,511,511,32767,65535,131071,262143]
theorem spec_l6Heavy.tab6:rtab .any (opsOf Try.f51 6)=spec_l6Heavy.T6:=by kernel_rfl
theorem spec_l6Heavy.bits6:waitsOk spec_l6Heavy.T6.2 spec_l6Heavy.B6=true:=by kernel_rfl
set_option maxHeartbeats 8000000 in
set_option maxRecDepth 100000 in
theorem spec_l6Heavy.calls (k:Nat) (a0_0:Int) (A0_1:Option Addr) (c0_1:Nat) (l0_1:List (S35)) (A1_0:Option Addr) (c1_0:Nat) (l1_0:List Int) (A2:Option Addr) (c2:Nat) (l2:List (S61)) (a3:Int) (r:Int) (w:World) (hr0_1:Kd.C k35 w A0_1 l0_1.length l0_1) (hc0_1:l0_1.length≤c0_1) (hr1_0:Kd.C (Kd.int .i64) w A1_0 l1_0.length l1_0) (hc1_0:l1_0.length≤c1_0) (hr2:Kd.C k61 w A2 l2.length l2) (hc2:l2.length≤c2) (h:spec_l6Heavy.f k a0_0 l0_1 l1_0 l2 a3=some r) :
  Calls Try.prog 51 #[.agg #[.int .i64 a0_0,.slice A0_1 l0_1.length c0_1],.agg #[.slice A1_0 l1_0.length c1_0],.slice A2 l2.length c2,.int .i64 a3] w fun e w'=>e = .returned (.int .i64 r)∧Below w.heap.size w w':=by
 have hu26:=Try.underlying26
 have hu35:=Try.underlying35
 have hu61:=Try.underlying61
 have HR0_1:=aM hr0_1
 have HC0_1:=aM hc0_1
 clear hr0_1 hc0_1
 have HR1_0:=aM hr1_0
 have HC1_0:=aM hc1_0
 clear hr1_0 hc1_0
 have HR2:=aM hr2
 have HC2:=aM hc2
 clear hr2 hc2
 have HB:=aM (Below.refl w.heap.size w)
 have H:((spec_DevAt.f k l2 a3).bind fun bt555=>(spec_l6Heavy.l0 k l2 a3 bt555.2.2.2 0 a0_0 l0_1 l1_0 bt555.1 bt555.2.1 bt555.2.2.1))=some r:=h
 clear h
 replace H:=Option.bind_eq_some_iff.mp H
 obtain ⟨⟨t555,t556,t557,t558⟩,A50,H⟩:=H
 try dsimp only at H
 have A5:=aM A50
 clear A50
 have H':=Aside0.mk H
 clear H
 go_enter Try.func51,Try.ntmps51
 go_wp2_with (first|((with_reducible refine gate_dst (N:=4) rfl ?_);refine box_event ?hg (N:=4) ?hd (cs:=#[.int .i64 a0_0,.slice A0_1 l0_1.length c0_1]) (t:=26) ?hr ?_;(case hd=>rfl);(case hg=>rfl);(case hr=>(go_simp;done));intro gb553 hg w6 hbox hb;have BK553:=aM (hbox);have GW553:=gS w hg;replace HB:=bs hb;clear hb hbox hg)|((with_reducible refine gate_dst (N:=5) rfl ?_);refine box_event ?hg (N:=5) ?hd (cs:=#[.slice A1_0 l1_0.length c1_0]) (t:=35) ?hr ?_;(case hd=>rfl);(case hg=>rfl);(case hr=>(go_simp;done));intro gb554 hg w7 hbox hb;have BK554:=aM (hbox);have GW554:=gS w hg;replace HB:=bs hb;have NB553_554:=nL hg BK553;have NB554_553:=nG hg BK553;replace BK553:=bB BK553 hb;clear hb hbox hg)|((with_reducible refine gate_callee (f:=56) rfl ?_);refine goesL_ (some 17) rfl rfl Try.func56 (by kernel_rfl) rfl #[.slice A2 l2.length c2,.int .i64 a3] rfl (by (try simp only [List.map_toArray,List.map_cons,List.map_nil]);rfl) ?_;(with_reducible refine (spec_DevAt.calls k _ _ l2 a3 t555 t556 t557 t558 _ ?side1 ?side2 A5.out).mono ?_);(case side1=>exact rC HR2);(case side2=>exact HC2.out);rintro e w8 ⟨rfl,hb⟩;refine ⟨_,rfl,?_⟩;replace BK553:=bB BK553 hb;replace BK554:=bB BK554 hb;replace HB:=bs hb;(try clear hb))|((with_reducible refine gate_dst (N:=9) rfl ?_);refine box_event ?hg (N:=9) ?hd (cs:=#[.int .i64 0,.int .i64 0,.int .i64 0]) (t:=61) ?hr ?_;(case hd=>rfl);(case hg=>rfl);(case hr=>(go_simp;done));intro gb559 hg w9 hbox hb;have BK559:=aM (hbox);have GW559:=gS w hg;replace HB:=bs hb;have NB553_559:=nL hg BK553;have NB559_553:=nG hg BK553;replace BK553:=bB BK553 hb;have NB554_559:=nL hg BK554;have NB559_554:=nG hg BK554;replace BK554:=bB BK554 hb;clear hb hbox hg;have hnb10:=NB559_553.out;have hnc10:=NB553_559.out;have hnb11:=NB559_554.out;have hnc11:=NB554_559.out;obtain ⟨hcz12_0,hcz12_1,hcz12_2,hfz12_0,hfz12_1,hfz12_2⟩:=b3 BK559))
 go_loopg [11] k (fun kq v11 w'=>∃ (x11_1:Int),v11 = .int .i64 x11_1∧Aside0 (spec_l6Heavy.l0 kq l2 a3 t558 x11_1 a0_0 l0_1 l1_0 t555 t556 t557=some r)∧Aside0 (kq≤k)∧Aside0 (w'.heap[gb553]?=some (.cells #[.int .i64 a0_0,(.slice A0_1 l0_1.length c0_1)] 26 (0,0)))∧Aside0 (w'.heap[gb554]?=some (.cells #[(.slice A1_0 l1_0.length c1_0)] 35 (0,0)))∧Aside0 (w'.heap[gb559]?=some (.cells #[.int .i64 t555,.int .i64 t556,.int .i64 t557] 61 (0,0)))∧Aside0 (Below w.heap.size w w'))
 case atStart=>exact ⟨(0),rd_,H',⟨Nat.le_refl _⟩,⟨by refine blk_far ?_ NB553_559.out _;refine blk_far ?_ NB553_559.out _;refine blk_far ?_ NB553_559.out _;exact BK553.out⟩,⟨by refine blk_far ?_ NB554_559.out _;refine blk_far ?_ NB554_559.out _;refine blk_far ?_ NB554_559.out _;exact BK554.out⟩,⟨by refine blk_put (cs:=#[.int .i64 t555,.int .i64 t556,.int .i64 0]) ?_ 2 _ rfl;refine blk_put (cs:=#[.int .i64 t555,.int .i64 0,.int .i64 0]) ?_ 1 _ rfl;refine blk_put (cs:=#[.int .i64 0,.int .i64 0,.int .i64 0]) ?_ 0 _ rfl;exact BK559.out⟩,⟨be⟩⟩
 case round=>
  clear H'
  try clear hcz12_0
  try clear hcz12_1
  try clear hcz12_2
  try clear hfz12_0
  try clear hfz12_1
  try clear hfz12_2
  obtain ⟨x11_1,rfl,HA,HK1,BK553,BK554,BK559,HB⟩:=hrel
  cases gk with
  | zero=>exact absurd HA.out (by simp [spec_l6Heavy.l0])
  | succ k1=>
   have H:=HA.out
   clear HA
   simp only [spec_l6Heavy.l0] at H
   have HC13:=aM H
   clear H
   go_upto_region 3 with (fail)
   go_cut [27] (fun v27 wc=>∃ (kq:Nat) (x27_12:Bool),v27 = .bool x27_12∧Aside0 (spec_l6Heavy.j1 kq l2 a3 t558 x11_1 x27_12 a0_0 l0_1 l1_0 t555 t556 t557=some r)∧Aside0 (kq≤k1)∧Aside0 (wc.heap[gb553]?=some (.cells #[.int .i64 a0_0,(.slice A0_1 l0_1.length c0_1)] 26 (0,0)))∧Aside0 (wc.heap[gb554]?=some (.cells #[(.slice A1_0 l1_0.length c1_0)] 35 (0,0)))∧Aside0 (wc.heap[gb559]?=some (.cells #[.int .i64 t555,.int .i64 t556,.int .i64 t557] 61 (0,0)))∧Aside0 (Below w.heap.size w wc))
   case first=>
    have H:=HC13.out
    clear HC13
    by_cases c14:x11_1 < (l1_0.length:Int)
    ·rw [if_pos c14] at H
     have c14b0:decide (x11_1 < (l1_0.length:Int))=true:=decide_eq_true c14
     clear c14
     (skip)
     have H':=Aside0.mk H
     clear H
     have hnb15:=NB554_553.out
     have hnc15:=NB553_554.out
     have hnb16:=NB554_559.out
     have hnc16:=NB559_554.out
     obtain ⟨hcz17_0,hfz17_0⟩:=b1 BK554
     go_wp2
     go_meet
     case rel=>exact ⟨_,(t558),rd_,H',⟨by have:=HK1.out;omega⟩,⟨bk BK553⟩,⟨bk BK554⟩,⟨bk BK559⟩,⟨be⟩⟩
    ·rw [if_neg c14] at H
     have c14b0:decide (x11_1 < (l1_0.length:Int))=false:=decide_eq_false c14
     clear c14
     (skip)
     have H':=Aside0.mk H
     clear H
     have hnb18:=NB554_553.out
     have hnc18:=NB553_554.out
     have hnb19:=NB554_559.out
     have hnc19:=NB559_554.out
     obtain ⟨hcz20_0,hfz20_0⟩:=b1 BK554
     go_wp2
     go_meet
     case rel=>exact ⟨_,(false),rd_,H',⟨by have:=HK1.out;omega⟩,⟨bk BK553⟩,⟨bk BK554⟩,⟨bk BK559⟩,⟨be⟩⟩
   case rest=>
    clear HC13
    obtain ⟨kq,x27_12,rfl,HA,HJ12,BK553,BK554,BK559,HB⟩:=hcut
    cases kq with
    | zero=>exact absurd HA.out (by simp [spec_l6Heavy.j1])
    | succ kj12=>
     have H:=HA.out
     clear HA
     simp only [spec_l6Heavy.j1] at H
     by_cases c21:x27_12=true
     ·subst c21
      rw [if_pos rfl] at H
      obtain ⟨c22,H⟩:=ifs H
      have c22b0:decide (0≤x11_1)=true:=decide_eq_true c22
      clear c22
      obtain ⟨c23,H⟩:=ifs H
      have c23b0:decide (x11_1 < (l1_0.length:Int))=true:=decide_eq_true c23
      clear c23
      replace H:=Option.bind_eq_some_iff.mp H
      obtain ⟨⟨t561,t562,t563,t564⟩,A240,H⟩:=H
      try dsimp only at H
      have A24:=aM A240
      clear A240
      by_cases c25:t564=true
      ·subst c25
       rw [if_pos rfl] at H
       by_cases c26:t562=t556
       ·rw [if_pos c26] at H
        have c26b0:(t562 == t556)=true:=beq_iff_eq.mpr c26
        have c26b1:(t562 != t556)=false:=bne_eq_false_iff_eq.mpr c26
        clear c26
        replace H:=Option.bind_eq_some_iff.mp H
        obtain ⟨t566,A270,H⟩:=H
        try dsimp only at H
        have A27:=aM A270
        clear A270
        replace H:=Option.bind_eq_some_iff.mp H
        obtain ⟨t567,A280,H⟩:=H
        try dsimp only at H
        have A28:=aM A280
        clear A280
        by_cases c29:(wrap64 (t566 - t567)) ≥ 2
        ·rw [if_pos c29] at H
         have c29b0:decide (2≤(wrap64 (t566 - t567)))=true:=decide_eq_true c29
         clear c29
         obtain rfl:=Option.some.inj H
         have hnb30:=NB554_553.out
         have hnc30:=NB553_554.out
         have hnb31:=NB554_559.out
         have hnc31:=NB559_554.out
         obtain ⟨hcz32_0,hfz32_0⟩:=b1 BK554
         have p560:0≤(x11_1:Int):=od
         have q560:x11_1 < (l1_0.length:Int):=od
         obtain ⟨ad560,e560,hx560_0⟩:=Kd.at_int HR1_0.out x11_1 p560 q560
         cases e560
         replace hx560_0:=xH HB hx560_0
         replace p560:=eq_true p560
         replace q560:=eq_true q560
         try go_wp2_with (first|((with_reducible refine gate_callee (f:=56) rfl ?_);refine goesL_ (some 37) rfl rfl Try.func56 (by kernel_rfl) rfl #[.slice A2 l2.length c2,.int .i64 (rd l1_0 x11_1)] rfl (by (try simp only [List.map_toArray,List.map_cons,List.map_nil]);rfl) ?_;(with_reducible refine (spec_DevAt.calls kj12 _ _ l2 (rd l1_0 x11_1) t561 t562 t563 true _ ?side1 ?side2 A24.out).mono ?_);(case side1=>exact rC HR2);(case side2=>exact HC2.out);rintro e w33 ⟨rfl,hb⟩;refine ⟨_,rfl,?_⟩;replace BK553:=bB BK553 hb;replace BK554:=bB BK554 hb;replace BK559:=bB BK559 hb;replace HB:=bs hb;(try clear hb))|((with_reducible refine gate_dst (N:=12) rfl ?_);refine box_event ?hg (N:=12) ?hd (cs:=#[.int .i64 0,.int .i64 0,.int .i64 0]) (t:=61) ?hr ?_;(case hd=>rfl);(case hg=>rfl);(case hr=>(go_simp;done));intro gb565 hg w34 hbox hb;have BK565:=aM (hbox);have GW565:=gS w hg;have GE565:=gS w hg;replace HB:=bs hb;have NB553_565:=nL hg BK553;have NB565_553:=nG hg BK553;replace BK553:=bB BK553 hb;have NB554_565:=nL hg BK554;have NB565_554:=nG hg BK554;replace BK554:=bB BK554 hb;have NB559_565:=nL hg BK559;have NB565_559:=nG hg BK559;replace BK559:=bB BK559 hb;clear hb hbox hg;have hnb35:=NB565_553.out;have hnc35:=NB553_565.out;have hnb36:=NB565_554.out;have hnc36:=NB554_565.out;have hnb37:=NB565_559.out;have hnc37:=NB559_565.out;obtain ⟨hcz38_0,hcz38_1,hcz38_2,hfz38_0,hfz38_1,hfz38_2⟩:=b3 BK565))
         obtain ⟨w39,hW_⟩ : ∃ W_:World,W_=(((w34.setCell ⟨gb565,0,none⟩ (.int .i64 t561)).setCell ⟨gb565,1,none⟩ (.int .i64 t562)).setCell ⟨gb565,2,none⟩ (.int .i64 t563)):=⟨_,rfl⟩
         have n0_:Aside0 (w39.heap[gb553]?=some (.cells #[.int .i64 a0_0,.slice A0_1 l0_1.length c0_1] 26 (0,0))):=⟨by rw [hW_];refine blk_far ?_ NB553_565.out _;refine blk_far ?_ NB553_565.out _;refine blk_far ?_ NB553_565.out _;exact BK553.out⟩
         have n1_:Aside0 (w39.heap[gb554]?=some (.cells #[.slice (some ad560) l1_0.length c1_0] 35 (0,0))):=⟨by rw [hW_];refine blk_far ?_ NB554_565.out _;refine blk_far ?_ NB554_565.out _;refine blk_far ?_ NB554_565.out _;exact BK554.out⟩
         have n2_:Aside0 (w39.heap[gb559]?=some (.cells #[.int .i64 t555,.int .i64 t556,.int .i64 t557] 61 (0,0))):=⟨by rw [hW_];refine blk_far ?_ NB559_565.out _;refine blk_far ?_ NB559_565.out _;refine blk_far ?_ NB559_565.out _;exact BK559.out⟩
         have n3_:Aside0 (w39.heap[gb565]?=some (.cells #[.int .i64 t561,.int .i64 t562,.int .i64 t563] 61 (0,0))):=⟨by rw [hW_];refine blk_put (cs:=#[.int .i64 t561,.int .i64 t562,.int .i64 0]) ?_ 2 _ rfl;refine blk_put (cs:=#[.int .i64 t561,.int .i64 0,.int .i64 0]) ?_ 1 _ rfl;refine blk_put (cs:=#[.int .i64 0,.int .i64 0,.int .i64 0]) ?_ 0 _ rfl;exact BK565.out⟩
         have n4_:Aside0 (Below w.heap.size w w39):=⟨by rw [hW_];exact be⟩
         (try clear BK553)
         (try clear BK554)
         (try clear BK559)
         (try clear BK565)
         (try clear HB)
         rw [← hW_];clear hW_
         have BK553:=n0_;have BK554:=n1_;have BK559:=n2_;have BK565:=n3_;have HB:=n4_;clear n0_ n1_ n2_ n3_ n4_;replace BK553:=aM (blk_drew BK553.out);replace BK554:=aM (blk_drew BK554.out);replace BK559:=aM (blk_drew BK559.out);replace BK565:=aM (blk_drew BK565.out);replace HB:=aM (below_drew1 HB.out)
         refine start_ (n:=19) (S:=fun w'=>w'.cell? ⟨gb565,0,none⟩=some (.int .i64 t561)∧w'.cell? ⟨gb565,1,none⟩=some (.int .i64 t562)∧w'.cell? ⟨gb565,2,none⟩=some (.int .i64 t563)∧w'.cell? ⟨gb559,0,none⟩=some (.int .i64 t555)∧w'.cell? ⟨gb559,1,none⟩=some (.int .i64 t556)∧w'.cell? ⟨gb559,2,none⟩=some (.int .i64 t557)∧w'.cell? ⟨gb553,0,none⟩=some (.int .i64 a0_0)∧w'.cell? ⟨gb553,1,none⟩=some (.slice A0_1 l0_1.length c0_1)) (ds:=[]) (fl 19 0) (by kernel_rfl) rfl rfl ⟨bq BK565 0,bq BK565 1,bq BK565 2,bq BK559 0,bq BK559 1,bq BK559 2,bq BK553 0,bq BK553 1⟩ (fun hHeld=>?_);refine with_tabW spec_l6Heavy.tab6 spec_l6Heavy.bits6 (fun HT_ HW_=>?_)
         generalize w39.drew=w40 at BK553 BK554 BK559 BK565 HB hHeld ⊢
         refine pt 0 40 (fl 19 1) HT_ ?_
         refine pt 1 41 (fl 19 3) HT_ ?_
         refine pt 2 42 (fl 19 7) HT_ ?_
         refine pt 4 44 (fl 19 23) HT_ ?_
         refine tt 3 43 (fl 19 31) HT_ HW_ hHeld ?_
         refine tt 5 45 (fl 19 63) HT_ HW_ hHeld ?_
         refine pt 6 46 (fl 19 127) HT_ ?_
         refine pt 7 47 (fl 19 255) HT_ ?_
         refine pt 8 48 (fl 19 511) HT_ ?_
         refine pt 10 50 (fl 19 1535) HT_ ?_
         refine pt 14 54 (fl 19 17919) HT_ ?_
         refine tt 9 49 (fl 19 18431) HT_ HW_ hHeld ?_
         refine tt 11 51 (fl 19 20479) HT_ HW_ hHeld ?_
         refine tt 13 53 (fl 19 28671) HT_ HW_ hHeld ?_
         refine ot 12 (some 52) (fl 19 32767) HT_ (fun K hK=>?_)
         refine goes_ Try.func76 (by kernel_rfl) rfl #[.agg #[.int .i64 a0_0,.slice A0_1 l0_1.length c0_1],.int .i64 t561] (by rfl) rfl rfl (by (try simp only [List.map_toArray,List.map_cons,List.map_nil]);rfl) ?_
         with_reducible refine (spec_LoadOf.calls kj12 a0_0 _ _ l0_1 t561 t566 _ ?side1 ?side2 A27.out).mono ?_
         (case side1=>exact rC HR0_1)
         (case side2=>exact HC0_1.out)
         rintro e w41 ⟨rfl,hb⟩
         refine ⟨_,rfl,?_⟩
         replace BK553:=bB BK553 hb;replace BK559:=bB BK559 hb;replace BK565:=bB BK565 hb;replace HB:=bs hb;clear BK554;(try clear hb);skip
         refine hK.out _ _ ⟨bq BK565 0,bq BK565 1,bq BK565 2,bq BK559 0,bq BK559 1,bq BK559 2,bq BK553 0,bq BK553 1⟩ (fun hHeld=>?_)
         clear hK K
         refine no 52 ?_
         refine ot 15 (some 55) (fl 19 65535) HT_ (fun K hK=>?_)
         refine goes_ Try.func76 (by kernel_rfl) rfl #[.agg #[.int .i64 a0_0,.slice A0_1 l0_1.length c0_1],.int .i64 a3] (by rfl) rfl rfl (by (try simp only [List.map_toArray,List.map_cons,List.map_nil]);rfl) ?_
         with_reducible refine (spec_LoadOf.calls kj12 a0_0 _ _ l0_1 a3 t567 _ ?side1 ?side2 A28.out).mono ?_
         (case side1=>exact rC HR0_1)
         (case side2=>exact HC0_1.out)
         rintro e w42 ⟨rfl,hb⟩
         refine ⟨_,rfl,?_⟩
         replace BK553:=bB BK553 hb;replace BK559:=bB BK559 hb;replace BK565:=bB BK565 hb;replace HB:=bs hb;(try clear hb);skip
         refine hK.out _ _ ⟨bq BK565 0,bq BK565 1,bq BK565 2,bq BK559 0,bq BK559 1,bq BK559 2,bq BK553 0,bq BK553 1⟩ (fun hHeld=>?_)
         clear hK K
         refine no 55 ?_
         refine pt 16 56 (fl 19 131071) HT_ ?_
         refine pt 17 57 (fl 19 262143) HT_ ?_
         refine pt 18 58 (fl 19 524287) HT_ ?_
         refine done_ (done_of HT_.out (by kernel_rfl)) ?_
         try go_wp2
         go_ret
         exact ⟨rz,be⟩
        ·rw [if_neg c29] at H
         have c29b0:decide (2≤(wrap64 (t566 - t567)))=false:=decide_eq_false c29
         clear c29
         have H':=Aside0.mk H
         clear H
         have hnb43:=NB554_553.out
         have hnc43:=NB553_554.out
         have hnb44:=NB554_559.out
         have hnc44:=NB559_554.out
         obtain ⟨hcz45_0,hfz45_0⟩:=b1 BK554
         have p560:0≤(x11_1:Int):=od
         have q560:x11_1 < (l1_0.length:Int):=od
         obtain ⟨ad560,e560,hx560_0⟩:=Kd.at_int HR1_0.out x11_1 p560 q560
         cases e560
         replace hx560_0:=xH HB hx560_0
         replace p560:=eq_true p560
         replace q560:=eq_true q560
         try go_wp2_with (first|((with_reducible refine gate_callee (f:=56) rfl ?_);refine goesL_ (some 37) rfl rfl Try.func56 (by kernel_rfl) rfl #[.slice A2 l2.length c2,.int .i64 (rd l1_0 x11_1)] rfl (by (try simp only [List.map_toArray,List.map_cons,List.map_nil]);rfl) ?_;(with_reducible refine (spec_DevAt.calls kj12 _ _ l2 (rd l1_0 x11_1) t561 t562 t563 true _ ?side1 ?side2 A24.out).mono ?_);(case side1=>exact rC HR2);(case side2=>exact HC2.out);rintro e w46 ⟨rfl,hb⟩;refine ⟨_,rfl,?_⟩;replace BK553:=bB BK553 hb;replace BK554:=bB BK554 hb;replace BK559:=bB BK559 hb;replace HB:=bs hb;(try clear hb))|((with_reducible refine gate_dst (N:=12) rfl ?_);refine box_event ?hg (N:=12) ?hd (cs:=#[.int .i64 0,.int .i64 0,.int .i64 0]) (t:=61) ?hr ?_;(case hd=>rfl);(case hg=>rfl);(case hr=>(go_simp;done));intro gb565 hg w47 hbox hb;have BK565:=aM (hbox);have GW565:=gS w hg;have GE565:=gS w hg;replace HB:=bs hb;have NB553_565:=nL hg BK553;have NB565_553:=nG hg BK553;replace BK553:=bB BK553 hb;have NB554_565:=nL hg BK554;have NB565_554:=nG hg BK554;replace BK554:=bB BK554 hb;have NB559_565:=nL hg BK559;have NB565_559:=nG hg BK559;replace BK559:=bB BK559 hb;clear hb hbox hg;have hnb48:=NB565_553.out;have hnc48:=NB553_565.out;have hnb49:=NB565_554.out;have hnc49:=NB554_565.out;have hnb50:=NB565_559.out;have hnc50:=NB559_565.out;obtain ⟨hcz51_0,hcz51_1,hcz51_2,hfz51_0,hfz51_1,hfz51_2⟩:=b3 BK565))
         obtain ⟨w52,hW_⟩ : ∃ W_:World,W_=(((w47.setCell ⟨gb565,0,none⟩ (.int .i64 t561)).setCell ⟨gb565,1,none⟩ (.int .i64 t562)).setCell ⟨gb565,2,none⟩ (.int .i64 t563)):=⟨_,rfl⟩
         have n0_:Aside0 (w52.heap[gb553]?=some (.cells #[.int .i64 a0_0,.slice A0_1 l0_1.length c0_1] 26 (0,0))):=⟨by rw [hW_];refine blk_far ?_ NB553_565.out _;refine blk_far ?_ NB553_565.out _;refine blk_far ?_ NB553_565.out _;exact BK553.out⟩
         have n1_:Aside0 (w52.heap[gb554]?=some (.cells #[.slice (some ad560) l1_0.length c1_0] 35 (0,0))):=⟨by rw [hW_];refine blk_far ?_ NB554_565.out _;refine blk_far ?_ NB554_565.out _;refine blk_far ?_ NB554_565.out _;exact BK554.out⟩
         have n2_:Aside0 (w52.heap[gb559]?=some (.cells #[.int .i64 t555,.int .i64 t556,.int .i64 t557] 61 (0,0))):=⟨by rw [hW_];refine blk_far ?_ NB559_565.out _;refine blk_far ?_ NB559_565.out _;refine blk_far ?_ NB559_565.out _;exact BK559.out⟩
         have n3_:Aside0 (w52.heap[gb565]?=some (.cells #[.int .i64 t561,.int .i64 t562,.int .i64 t563] 61 (0,0))):=⟨by rw [hW_];refine blk_put (cs:=#[.int .i64 t561,.int .i64 t562,.int .i64 0]) ?_ 2 _ rfl;refine blk_put (cs:=#[.int .i64 t561,.int .i64 0,.int .i64 0]) ?_ 1 _ rfl;refine blk_put (cs:=#[.int .i64 0,.int .i64 0,.int .i64 0]) ?_ 0 _ rfl;exact BK565.out⟩
         have n4_:Aside0 (Below w.heap.size w w52):=⟨by rw [hW_];exact be⟩
         (try clear BK553)
         (try clear BK554)
         (try clear BK559)
         (try clear BK565)
         (try clear HB)
         rw [← hW_];clear hW_
         have BK553:=n0_;have BK554:=n1_;have BK559:=n2_;have BK565:=n3_;have HB:=n4_;clear n0_ n1_ n2_ n3_ n4_;replace BK553:=aM (blk_drew BK553.out);replace BK554:=aM (blk_drew BK554.out);replace BK559:=aM (blk_drew BK559.out);replace BK565:=aM (blk_drew BK565.out);replace HB:=aM (below_drew1 HB.out)
         refine start_ (n:=19) (S:=fun w'=>w'.cell? ⟨gb565,0,none⟩=some (.int .i64 t561)∧w'.cell? ⟨gb565,1,none⟩=some (.int .i64 t562)∧w'.cell? ⟨gb565,2,none⟩=some (.int .i64 t563)∧w'.cell? ⟨gb559,0,none⟩=some (.int .i64 t555)∧w'.cell? ⟨gb559,1,none⟩=some (.int .i64 t556)∧w'.cell? ⟨gb559,2,none⟩=some (.int .i64 t557)∧w'.cell? ⟨gb553,0,none⟩=some (.int .i64 a0_0)∧w'.cell? ⟨gb553,1,none⟩=some (.slice A0_1 l0_1.length c0_1)) (ds:=[]) (fl 19 0) (by kernel_rfl) rfl rfl ⟨bq BK565 0,bq BK565 1,bq BK565 2,bq BK559 0,bq BK559 1,bq BK559 2,bq BK553 0,bq BK553 1⟩ (fun hHeld=>?_);refine with_tabW spec_l6Heavy.tab6 spec_l6Heavy.bits6 (fun HT_ HW_=>?_)
         generalize w52.drew=w53 at BK553 BK554 BK559 BK565 HB hHeld ⊢
         refine pt 0 40 (fl 19 1) HT_ ?_
         refine pt 1 41 (fl 19 3) HT_ ?_
         refine pt 2 42 (fl 19 7) HT_ ?_
         refine pt 4 44 (fl 19 23) HT_ ?_
         refine tt 3 43 (fl 19 31) HT_ HW_ hHeld ?_
         refine tt 5 45 (fl 19 63) HT_ HW_ hHeld ?_
         refine pt 6 46 (fl 19 127) HT_ ?_
         refine pt 7 47 (fl 19 255) HT_ ?_
         refine pt 8 48 (fl 19 511) HT_ ?_
         refine pt 10 50 (fl 19 1535) HT_ ?_
         refine pt 14 54 (fl 19 17919) HT_ ?_
         refine tt 9 49 (fl 19 18431) HT_ HW_ hHeld ?_
         refine tt 11 51 (fl 19 20479) HT_ HW_ hHeld ?_
         refine tt 13 53 (fl 19 28671) HT_ HW_ hHeld ?_
         refine ot 12 (some 52) (fl 19 32767) HT_ (fun K hK=>?_)
         refine goes_ Try.func76 (by kernel_rfl) rfl #[.agg #[.int .i64 a0_0,.slice A0_1 l0_1.length c0_1],.int .i64 t561] (by rfl) rfl rfl (by (try simp only [List.map_toArray,List.map_cons,List.map_nil]);rfl) ?_
         with_reducible refine (spec_LoadOf.calls kj12 a0_0 _ _ l0_1 t561 t566 _ ?side1 ?side2 A27.out).mono ?_
         (case side1=>exact rC HR0_1)
         (case side2=>exact HC0_1.out)
         rintro e w54 ⟨rfl,hb⟩
         refine ⟨_,rfl,?_⟩
         replace BK553:=bB BK553 hb;replace BK554:=bB BK554 hb;replace BK559:=bB BK559 hb;replace BK565:=bB BK565 hb;replace HB:=bs hb;(try clear hb);skip
         refine hK.out _ _ ⟨bq BK565 0,bq BK565 1,bq BK565 2,bq BK559 0,bq BK559 1,bq BK559 2,bq BK553 0,bq BK553 1⟩ (fun hHeld=>?_)
         clear hK K
         refine no 52 ?_
         refine ot 15 (some 55) (fl 19 65535) HT_ (fun K hK=>?_)
         refine goes_ Try.func76 (by kernel_rfl) rfl #[.agg #[.int .i64 a0_0,.slice A0_1 l0_1.length c0_1],.int .i64 a3] (by rfl) rfl rfl (by (try simp only [List.map_toArray,List.map_cons,List.map_nil]);rfl) ?_
         with_reducible refine (spec_LoadOf.calls kj12 a0_0 _ _ l0_1 a3 t567 _ ?side1 ?side2 A28.out).mono ?_
         (case side1=>exact rC HR0_1)
         (case side2=>exact HC0_1.out)
         rintro e w55 ⟨rfl,hb⟩
         refine ⟨_,rfl,?_⟩
         replace BK553:=bB BK553 hb;replace BK554:=bB BK554 hb;replace BK559:=bB BK559 hb;replace BK565:=bB BK565 hb;replace HB:=bs hb;(try clear hb);skip
         refine hK.out _ _ ⟨bq BK565 0,bq BK565 1,bq BK565 2,bq BK559 0,bq BK559 1,bq BK559 2,bq BK553 0,bq BK553 1⟩ (fun hHeld=>?_)
         clear hK K
         refine no 55 ?_
         refine pt 16 56 (fl 19 131071) HT_ ?_
         refine pt 17 57 (fl 19 262143) HT_ ?_
         refine pt 18 58 (fl 19 524287) HT_ ?_
         refine done_ (done_of HT_.out (by kernel_rfl)) ?_
         try go_wp2
         go_roundg kj12
         case measure=>have:=HK1.out;have:=HJ12.out;omega
         case rel=>exact ⟨(wrap64 (x11_1+1)),rd_,H',⟨by have:=HK1.out;have:=HJ12.out;omega⟩,⟨bk BK553⟩,⟨bk BK554⟩,⟨bk BK559⟩,⟨be⟩⟩
       ·rw [if_neg c26] at H
        have c26b0:(t562 == t556)=false:=beq_eq_false_iff_ne.mpr c26
        have c26b1:(t562 != t556)=true:=bne_iff_ne.mpr c26
        have H':=Aside0.mk H
        clear H
        have hnb56:=NB554_553.out
        have hnc56:=NB553_554.out
        have hnb57:=NB554_559.out
        have hnc57:=NB559_554.out
        obtain ⟨hcz58_0,hfz58_0⟩:=b1 BK554
        have p560:0≤(x11_1:Int):=od
        have q560:x11_1 < (l1_0.length:Int):=od
        obtain ⟨ad560,e560,hx560_0⟩:=Kd.at_int HR1_0.out x11_1 p560 q560
        cases e560
        replace hx560_0:=xH HB hx560_0
        replace p560:=eq_true p560
        replace q560:=eq_true q560
        try go_wp2_with (first|((with_reducible refine gate_callee (f:=56) rfl ?_);refine goesL_ (some 37) rfl rfl Try.func56 (by kernel_rfl) rfl #[.slice A2 l2.length c2,.int .i64 (rd l1_0 x11_1)] rfl (by (try simp only [List.map_toArray,List.map_cons,List.map_nil]);rfl) ?_;(with_reducible refine (spec_DevAt.calls kj12 _ _ l2 (rd l1_0 x11_1) t561 t562 t563 true _ ?side1 ?side2 A24.out).mono ?_);(case side1=>exact rC HR2);(case side2=>exact HC2.out);rintro e w59 ⟨rfl,hb⟩;refine ⟨_,rfl,?_⟩;replace BK553:=bB BK553 hb;replace BK554:=bB BK554 hb;replace BK559:=bB BK559 hb;replace HB:=bs hb;(try clear hb))|((with_reducible refine gate_dst (N:=12) rfl ?_);refine box_event ?hg (N:=12) ?hd (cs:=#[.int .i64 0,.int .i64 0,.int .i64 0]) (t:=61) ?hr ?_;(case hd=>rfl);(case hg=>rfl);(case hr=>(go_simp;done));intro gb565 hg w60 hbox hb;have BK565:=aM (hbox);have GW565:=gS w hg;have GE565:=gS w hg;replace HB:=bs hb;have NB553_565:=nL hg BK553;have NB565_553:=nG hg BK553;replace BK553:=bB BK553 hb;have NB554_565:=nL hg BK554;have NB565_554:=nG hg BK554;replace BK554:=bB BK554 hb;have NB559_565:=nL hg BK559;have NB565_559:=nG hg BK559;replace BK559:=bB BK559 hb;clear hb hbox hg;have hnb61:=NB565_553.out;have hnc61:=NB553_565.out;have hnb62:=NB565_554.out;have hnc62:=NB554_565.out;have hnb63:=NB565_559.out;have hnc63:=NB559_565.out;obtain ⟨hcz64_0,hcz64_1,hcz64_2,hfz64_0,hfz64_1,hfz64_2⟩:=b3 BK565))
        obtain ⟨w65,hW_⟩ : ∃ W_:World,W_=(((w60.setCell ⟨gb565,0,none⟩ (.int .i64 t561)).setCell ⟨gb565,1,none⟩ (.int .i64 t562)).setCell ⟨gb565,2,none⟩ (.int .i64 t563)):=⟨_,rfl⟩
        have n0_:Aside0 (w65.heap[gb553]?=some (.cells #[.int .i64 a0_0,.slice A0_1 l0_1.length c0_1] 26 (0,0))):=⟨by rw [hW_];refine blk_far ?_ NB553_565.out _;refine blk_far ?_ NB553_565.out _;refine blk_far ?_ NB553_565.out _;exact BK553.out⟩
        have n1_:Aside0 (w65.heap[gb554]?=some (.cells #[.slice (some ad560) l1_0.length c1_0] 35 (0,0))):=⟨by rw [hW_];refine blk_far ?_ NB554_565.out _;refine blk_far ?_ NB554_565.out _;refine blk_far ?_ NB554_565.out _;exact BK554.out⟩
        have n2_:Aside0 (w65.heap[gb559]?=some (.cells #[.int .i64 t555,.int .i64 t556,.int .i64 t557] 61 (0,0))):=⟨by rw [hW_];refine blk_far ?_ NB559_565.out _;refine blk_far ?_ NB559_565.out _;refine blk_far ?_ NB559_565.out _;exact BK559.out⟩
        have n3_:Aside0 (w65.heap[gb565]?=some (.cells #[.int .i64 t561,.int .i64 t562,.int .i64 t563] 61 (0,0))):=⟨by rw [hW_];refine blk_put (cs:=#[.int .i64 t561,.int .i64 t562,.int .i64 0]) ?_ 2 _ rfl;refine blk_put (cs:=#[.int .i64 t561,.int .i64 0,.int .i64 0]) ?_ 1 _ rfl;refine blk_put (cs:=#[.int .i64 0,.int .i64 0,.int .i64 0]) ?_ 0 _ rfl;exact BK565.out⟩
        have n4_:Aside0 (Below w.heap.size w w65):=⟨by rw [hW_];exact be⟩
        (try clear BK553)
        (try clear BK554)
        (try clear BK559)
        (try clear BK565)
        (try clear HB)
        rw [← hW_];clear hW_
        have BK553:=n0_;have BK554:=n1_;have BK559:=n2_;have BK565:=n3_;have HB:=n4_;clear n0_ n1_ n2_ n3_ n4_;replace BK553:=aM (blk_drew BK553.out);replace BK554:=aM (blk_drew BK554.out);replace BK559:=aM (blk_drew BK559.out);replace BK565:=aM (blk_drew BK565.out);replace HB:=aM (below_drew1 HB.out)
        refine start_ (n:=19) (S:=fun w'=>w'.cell? ⟨gb565,0,none⟩=some (.int .i64 t561)∧w'.cell? ⟨gb565,1,none⟩=some (.int .i64 t562)∧w'.cell? ⟨gb565,2,none⟩=some (.int .i64 t563)∧w'.cell? ⟨gb559,0,none⟩=some (.int .i64 t555)∧w'.cell? ⟨gb559,1,none⟩=some (.int .i64 t556)∧w'.cell? ⟨gb559,2,none⟩=some (.int .i64 t557)) (ds:=[]) (fl 19 0) (by kernel_rfl) rfl rfl ⟨bq BK565 0,bq BK565 1,bq BK565 2,bq BK559 0,bq BK559 1,bq BK559 2⟩ (fun hHeld=>?_);refine with_tabW spec_l6Heavy.tab6 spec_l6Heavy.bits6 (fun HT_ HW_=>?_)
        generalize w65.drew=w66 at BK553 BK554 BK559 BK565 HB hHeld ⊢
        refine pt 0 40 (fl 19 1) HT_ ?_
        refine pt 1 41 (fl 19 3) HT_ ?_
        refine pt 2 42 (fl 19 7) HT_ ?_
        refine pt 4 44 (fl 19 23) HT_ ?_
        refine tt 3 43 (fl 19 31) HT_ HW_ hHeld ?_
        refine tt 5 45 (fl 19 63) HT_ HW_ hHeld ?_
        refine pt 6 46 (fl 19 127) HT_ ?_
        refine pt 7 47 (fl 19 255) HT_ ?_
        refine pt 8 48 (fl 19 511) HT_ ?_
        refine ut 9 49 (fl 19 1023) HT_ ?_
        refine ut 10 50 (fl 19 2047) HT_ ?_
        refine ut 11 51 (fl 19 4095) HT_ ?_
        refine ut 12 52 (fl 19 8191) HT_ ?_
        refine ut 13 53 (fl 19 16383) HT_ ?_
        refine ut 14 54 (fl 19 32767) HT_ ?_
        refine ut 15 55 (fl 19 65535) HT_ ?_
        refine ut 16 56 (fl 19 131071) HT_ ?_
        refine ut 17 57 (fl 19 262143) HT_ ?_
        refine pt 18 58 (fl 19 524287) HT_ ?_
        refine done_ (done_of HT_.out (by kernel_rfl)) ?_
        try go_wp2
        go_roundg kj12
        case measure=>have:=HK1.out;have:=HJ12.out;omega
        case rel=>exact ⟨(wrap64 (x11_1+1)),rd_,H',⟨by have:=HK1.out;have:=HJ12.out;omega⟩,⟨bk BK553⟩,⟨bk BK554⟩,⟨bk BK559⟩,⟨be⟩⟩
      ·replace c25:=Bool.eq_false_iff.mpr c25
       subst c25
       replace H:=(if_neg (show ¬ (false=true) by decide)).symm.trans H
       have H':=Aside0.mk H
       clear H
       have hnb67:=NB554_553.out
       have hnc67:=NB553_554.out
       have hnb68:=NB554_559.out
       have hnc68:=NB559_554.out
       obtain ⟨hcz69_0,hfz69_0⟩:=b1 BK554
       have p560:0≤(x11_1:Int):=od
       have q560:x11_1 < (l1_0.length:Int):=od
       obtain ⟨ad560,e560,hx560_0⟩:=Kd.at_int HR1_0.out x11_1 p560 q560
       cases e560
       replace hx560_0:=xH HB hx560_0
       replace p560:=eq_true p560
       replace q560:=eq_true q560
       try go_wp2_with (first|((with_reducible refine gate_callee (f:=56) rfl ?_);refine goesL_ (some 37) rfl rfl Try.func56 (by kernel_rfl) rfl #[.slice A2 l2.length c2,.int .i64 (rd l1_0 x11_1)] rfl (by (try simp only [List.map_toArray,List.map_cons,List.map_nil]);rfl) ?_;(with_reducible refine (spec_DevAt.calls kj12 _ _ l2 (rd l1_0 x11_1) t561 t562 t563 false _ ?side1 ?side2 A24.out).mono ?_);(case side1=>exact rC HR2);(case side2=>exact HC2.out);rintro e w70 ⟨rfl,hb⟩;refine ⟨_,rfl,?_⟩;replace BK553:=bB BK553 hb;replace BK554:=bB BK554 hb;replace BK559:=bB BK559 hb;replace HB:=bs hb;(try clear hb))|((with_reducible refine gate_dst (N:=12) rfl ?_);refine box_event ?hg (N:=12) ?hd (cs:=#[.int .i64 0,.int .i64 0,.int .i64 0]) (t:=61) ?hr ?_;(case hd=>rfl);(case hg=>rfl);(case hr=>(go_simp;done));intro gb565 hg w71 hbox hb;have BK565:=aM (hbox);have GW565:=gS w hg;have GE565:=gS w hg;replace HB:=bs hb;have NB553_565:=nL hg BK553;have NB565_553:=nG hg BK553;replace BK553:=bB BK553 hb;have NB554_565:=nL hg BK554;have NB565_554:=nG hg BK554;replace BK554:=bB BK554 hb;have NB559_565:=nL hg BK559;have NB565_559:=nG hg BK559;replace BK559:=bB BK559 hb;clear hb hbox hg;have hnb72:=NB565_553.out;have hnc72:=NB553_565.out;have hnb73:=NB565_554.out;have hnc73:=NB554_565.out;have hnb74:=NB565_559.out;have hnc74:=NB559_565.out;obtain ⟨hcz75_0,hcz75_1,hcz75_2,hfz75_0,hfz75_1,hfz75_2⟩:=b3 BK565))
       obtain ⟨w76,hW_⟩ : ∃ W_:World,W_=(((w71.setCell ⟨gb565,0,none⟩ (.int .i64 t561)).setCell ⟨gb565,1,none⟩ (.int .i64 t562)).setCell ⟨gb565,2,none⟩ (.int .i64 t563)):=⟨_,rfl⟩
       have n0_:Aside0 (w76.heap[gb553]?=some (.cells #[.int .i64 a0_0,.slice A0_1 l0_1.length c0_1] 26 (0,0))):=⟨by rw [hW_];refine blk_far ?_ NB553_565.out _;refine blk_far ?_ NB553_565.out _;refine blk_far ?_ NB553_565.out _;exact BK553.out⟩
       have n1_:Aside0 (w76.heap[gb554]?=some (.cells #[.slice (some ad560) l1_0.length c1_0] 35 (0,0))):=⟨by rw [hW_];refine blk_far ?_ NB554_565.out _;refine blk_far ?_ NB554_565.out _;refine blk_far ?_ NB554_565.out _;exact BK554.out⟩
       have n2_:Aside0 (w76.heap[gb559]?=some (.cells #[.int .i64 t555,.int .i64 t556,.int .i64 t557] 61 (0,0))):=⟨by rw [hW_];refine blk_far ?_ NB559_565.out _;refine blk_far ?_ NB559_565.out _;refine blk_far ?_ NB559_565.out _;exact BK559.out⟩
       have n3_:Aside0 (w76.heap[gb565]?=some (.cells #[.int .i64 t561,.int .i64 t562,.int .i64 t563] 61 (0,0))):=⟨by rw [hW_];refine blk_put (cs:=#[.int .i64 t561,.int .i64 t562,.int .i64 0]) ?_ 2 _ rfl;refine blk_put (cs:=#[.int .i64 t561,.int .i64 0,.int .i64 0]) ?_ 1 _ rfl;refine blk_put (cs:=#[.int .i64 0,.int .i64 0,.int .i64 0]) ?_ 0 _ rfl;exact BK565.out⟩
       have n4_:Aside0 (Below w.heap.size w w76):=⟨by rw [hW_];exact be⟩
       (try clear BK553)
       (try clear BK554)
       (try clear BK559)
       (try clear BK565)
       (try clear HB)
       rw [← hW_];clear hW_
       have BK553:=n0_;have BK554:=n1_;have BK559:=n2_;have BK565:=n3_;have HB:=n4_;clear n0_ n1_ n2_ n3_ n4_;replace BK553:=aM (blk_drew BK553.out);replace BK554:=aM (blk_drew BK554.out);replace BK559:=aM (blk_drew BK559.out);replace BK565:=aM (blk_drew BK565.out);replace HB:=aM (below_drew1 HB.out)
       refine start_ (n:=19) (S:=fun w'=>True) (ds:=[]) (fl 19 0) (by kernel_rfl) rfl rfl trivial (fun hHeld=>?_);refine with_tabW spec_l6Heavy.tab6 spec_l6Heavy.bits6 (fun HT_ HW_=>?_)
       generalize w76.drew=w77 at BK553 BK554 BK559 BK565 HB hHeld ⊢
       refine pt 0 40 (fl 19 1) HT_ ?_
       refine pt 1 41 (fl 19 3) HT_ ?_
       refine ut 2 42 (fl 19 7) HT_ ?_
       refine ut 3 43 (fl 19 15) HT_ ?_
       refine ut 4 44 (fl 19 31) HT_ ?_
       refine ut 5 45 (fl 19 63) HT_ ?_
       refine ut 6 46 (fl 19 127) HT_ ?_
       refine pt 7 47 (fl 19 255) HT_ ?_
       refine pt 8 48 (fl 19 511) HT_ ?_
       refine ut 9 49 (fl 19 1023) HT_ ?_
       refine ut 10 50 (fl 19 2047) HT_ ?_
       refine ut 11 51 (fl 19 4095) HT_ ?_
       refine ut 12 52 (fl 19 8191) HT_ ?_
       refine ut 13 53 (fl 19 16383) HT_ ?_
       refine ut 14 54 (fl 19 32767) HT_ ?_
       refine ut 15 55 (fl 19 65535) HT_ ?_
       refine ut 16 56 (fl 19 131071) HT_ ?_
       refine ut 17 57 (fl 19 262143) HT_ ?_
       refine pt 18 58 (fl 19 524287) HT_ ?_
       refine done_ (done_of HT_.out (by kernel_rfl)) ?_
       try go_wp2
       go_roundg kj12
       case measure=>have:=HK1.out;have:=HJ12.out;omega
       case rel=>exact ⟨(wrap64 (x11_1+1)),rd_,H',⟨by have:=HK1.out;have:=HJ12.out;omega⟩,⟨bk BK553⟩,⟨bk BK554⟩,⟨bk BK559⟩,⟨be⟩⟩
     ·replace c21:=Bool.eq_false_iff.mpr c21
      subst c21
      replace H:=(if_neg (show ¬ (false=true) by decide)).symm.trans H
      obtain rfl:=Option.some.inj H
      go_wp2
      go_ret
      exact ⟨rz,be⟩
end Go.Proofs.Ytpbjbfimnfghkaa.PFnRebalanced
