/- Trimmed by a program of this session (trim.py). Not trusted: Lean checks it. -/
import Derived.Test.YtpbjbfimnfghkaaTLRebalancedPFnRebalancedx0
import Derived.Test.YtpbjbfimnfghkaaTLRebalancedPFnRebalancedx9
import Derived.Test.YtpbjbfimnfghkaaTLRebalancedPFnRebalancedx10
import Derived.Test.YtpbjbfimnfghkaaTLRebalancedPFnRebalancedx11
namespace Go.Proofs.Ytpbjbfimnfghkaa.PFnRebalanced
open Go.RowKit Go.Proofs.YtpbjbfimnfghkaaW.PrintWords Go.Proofs.YtpbjbfimnfghkaaW.PrintLast Go.Proofs.YtpbjbfimnfghkaaW.PrintMore Go.Proofs.Ytpbjbfimnfghkaa.St
attribute [local go_sem] max2_int min2_int max_two min_two max_three min_three max_four min_four
set_option linter.unusedVariables false
set_option linter.unusedSimpArgs false
def impl_heavy.l0:Nat→List (S61)→Int→Bool→List Int→Int→Int→Int→List (S35)→Int→Int→Int→Option (Int × Int)
 | 0,_,_,_,_,_,_,_,_,_,_,_=>none
 | k+1,x2,x8,x10,x26,x27,x28,x472000,x472001,x479000,x479001,x479002=>if x28 < x27 then (if 0≤x28 then (if x28 < (x26.length:Int) then ((impl_DevAt.f k x2 (rd x26 x28)).bind fun bt480=>(if x10=true then (if bt480.2.1=x479001 then ((impl_LoadOf.f k x472000 x472001 (rd x26 x28)).bind fun t485=>((impl_LoadOf.f k x472000 x472001 x8).bind fun t486=>(if (wrap64 (t485 - t486)) ≥ 2 then (some (x28,x8)) else (impl_heavy.l0 k x2 x8 x10 x26 x27 (wrap64 (x28+1)) x472000 x472001 x479000 x479001 x479002)))) else (impl_heavy.l0 k x2 x8 x10 x26 x27 (wrap64 (x28+1)) x472000 x472001 x479000 x479001 x479002)) else (impl_heavy.l0 k x2 x8 x10 x26 x27 (wrap64 (x28+1)) x472000 x472001 x479000 x479001 x479002))) else (none)) else (none)) else (some ((-1),(-1)))
def impl_heavy.f (k:Nat) (a0_0:Int) (l0_1:List (S35)) (l1_0:List Int) (l2:List (S61)):Option (Int × Int):=(impl_Best.f k a0_0 l0_1 l1_0 l2).bind fun t473=>((impl_DevAt.f k l2 t473).bind fun bt474=>(impl_heavy.l0 k l2 t473 bt474.2.2.2 l1_0 (l1_0.length:Int) 0 a0_0 l0_1 bt474.1 bt474.2.1 bt474.2.2.1))
def impl_heavy.T7:Bool × List (List Nat × List Nat):=(true,[([],[]),([0],[0]),([1],[1]),([2,1],[1,2]),([1],[1]),([4,1],[1,4]),([3,5,1],[1,3,5]),([1,6],[1,6]),([7,1],[7]),([8],[8]),([8],[8]),([9,10,8,8],[8,9,10]),([8],[8]),([8],[8]),([12,13,11,8],[8,12,13]),([11,14,8],[8,11,14]),([15,8],[8,15]),([8,16],[8,16])])
def impl_heavy.B7:List Nat:=[0,1,3,7,3,19,63,127,255,511,511,2047,511,511,16383,32767,65535,131071]
theorem impl_heavy.tab7:rtab .any (opsOf Try.f46 7)=impl_heavy.T7:=by kernel_rfl
theorem impl_heavy.bits7:waitsOk impl_heavy.T7.2 impl_heavy.B7=true:=by kernel_rfl
set_option maxHeartbeats 8000000 in
set_option maxRecDepth 100000 in
theorem impl_heavy.calls (k:Nat) (a0_0:Int) (A0_1:Option Addr) (c0_1:Nat) (l0_1:List (S35)) (A1_0:Option Addr) (c1_0:Nat) (l1_0:List Int) (A2:Option Addr) (c2:Nat) (l2:List (S61)) (r1:Int) (r2:Int) (w:World) (hr0_1:Kd.C k35 w A0_1 l0_1.length l0_1) (hc0_1:l0_1.length≤c0_1) (hr1_0:Kd.C (Kd.int .i64) w A1_0 l1_0.length l1_0) (hc1_0:l1_0.length≤c1_0) (hr2:Kd.C k61 w A2 l2.length l2) (hc2:l2.length≤c2) (h:impl_heavy.f k a0_0 l0_1 l1_0 l2=some (r1,r2)) :
  Calls Try.prog 46 #[.agg #[.int .i64 a0_0,.slice A0_1 l0_1.length c0_1],.agg #[.slice A1_0 l1_0.length c1_0],.slice A2 l2.length c2] w fun e w'=>e = .returned (.tuple #[.int .i64 r1,.int .i64 r2])∧Below w.heap.size w w':=by
 have hu26:=Try.underlying26
 have hu35:=Try.underlying35
 have hu61:=Try.underlying61
 have HR0_1:=aM hr0_1
 have HC0_1:=aM hc0_1
 clear hr0_1 hc0_1
 have HR1_0:=aM hr1_0
 have HC1_0:=aM hc1_0
 clear hr1_0 hc1_0
 have HR2:=aM hr2
 have HC2:=aM hc2
 clear hr2 hc2
 have HB:=aM (Below.refl w.heap.size w)
 have H:((impl_Best.f k a0_0 l0_1 l1_0 l2).bind fun t473=>((impl_DevAt.f k l2 t473).bind fun bt474=>(impl_heavy.l0 k l2 t473 bt474.2.2.2 l1_0 (l1_0.length:Int) 0 a0_0 l0_1 bt474.1 bt474.2.1 bt474.2.2.1)))=some (r1,r2):=h
 clear h
 replace H:=Option.bind_eq_some_iff.mp H
 obtain ⟨t473,A40,H⟩:=H
 try dsimp only at H
 have A4:=aM A40
 clear A40
 replace H:=Option.bind_eq_some_iff.mp H
 obtain ⟨⟨t474,t475,t476,t477⟩,A50,H⟩:=H
 try dsimp only at H
 have A5:=aM A50
 clear A50
 have H':=Aside0.mk H
 clear H
 go_enter Try.func46,Try.ntmps46
 go_wp2_with (first|((with_reducible refine gate_dst (N:=3) rfl ?_);refine box_event ?hg (N:=3) ?hd (cs:=#[.int .i64 a0_0,.slice A0_1 l0_1.length c0_1]) (t:=26) ?hr ?_;(case hd=>rfl);(case hg=>rfl);(case hr=>(go_simp;done));intro gb471 hg w6 hbox hb;have BK471:=aM (hbox);have GW471:=gS w hg;replace HB:=bs hb;clear hb hbox hg)|((with_reducible refine gate_dst (N:=4) rfl ?_);refine box_event ?hg (N:=4) ?hd (cs:=#[.slice A1_0 l1_0.length c1_0]) (t:=35) ?hr ?_;(case hd=>rfl);(case hg=>rfl);(case hr=>(go_simp;done));intro gb472 hg w7 hbox hb;have BK472:=aM (hbox);have GW472:=gS w hg;replace HB:=bs hb;have NB471_472:=nL hg BK471;have NB472_471:=nG hg BK471;replace BK471:=bB BK471 hb;clear hb hbox hg;have hnb8:=NB471_472.out;have hnc8:=NB472_471.out;obtain ⟨hcz9_0,hcz9_1,hfz9_0,hfz9_1⟩:=b2 BK471;obtain ⟨hcz10_0,hfz10_0⟩:=b1 BK472)|((with_reducible refine gate_callee (f:=45) rfl ?_);refine goesL_ (some 18) rfl rfl Try.func45 (by kernel_rfl) rfl #[.agg #[.int .i64 a0_0,.slice A0_1 l0_1.length c0_1],.agg #[.slice A1_0 l1_0.length c1_0],.slice A2 l2.length c2] rfl (by (try simp only [List.map_toArray,List.map_cons,List.map_nil]);rfl) ?_;(with_reducible refine (impl_Best.calls k a0_0 _ _ l0_1 _ _ l1_0 _ _ l2 t473 _ ?side1 ?side2 ?side3 ?side4 ?side5 ?side6 A4.out).mono ?_);(case side1=>exact rC HR0_1);(case side2=>exact HC0_1.out);(case side3=>exact rC HR1_0);(case side4=>exact HC1_0.out);(case side5=>exact rC HR2);(case side6=>exact HC2.out);rintro e w11 ⟨rfl,hb⟩;refine ⟨_,rfl,?_⟩;replace BK471:=bB BK471 hb;replace BK472:=bB BK472 hb;replace HB:=bs hb;(try clear hb))|((with_reducible refine gate_callee (f:=60) rfl ?_);refine goesL_ (some 22) rfl rfl Try.func60 (by kernel_rfl) rfl #[.slice A2 l2.length c2,.int .i64 t473] rfl (by (try simp only [List.map_toArray,List.map_cons,List.map_nil]);rfl) ?_;(with_reducible refine (impl_DevAt.calls k _ _ l2 t473 t474 t475 t476 t477 _ ?side1 ?side2 A5.out).mono ?_);(case side1=>exact rC HR2);(case side2=>exact HC2.out);rintro e w12 ⟨rfl,hb⟩;refine ⟨_,rfl,?_⟩;replace BK471:=bB BK471 hb;replace BK472:=bB BK472 hb;replace HB:=bs hb;(try clear hb))|((with_reducible refine gate_dst (N:=9) rfl ?_);refine box_event ?hg (N:=9) ?hd (cs:=#[.int .i64 0,.int .i64 0,.int .i64 0]) (t:=61) ?hr ?_;(case hd=>rfl);(case hg=>rfl);(case hr=>(go_simp;done));intro gb478 hg w13 hbox hb;have BK478:=aM (hbox);have GW478:=gS w hg;replace HB:=bs hb;have NB471_478:=nL hg BK471;have NB478_471:=nG hg BK471;replace BK471:=bB BK471 hb;have NB472_478:=nL hg BK472;have NB478_472:=nG hg BK472;replace BK472:=bB BK472 hb;clear hb hbox hg;have hnb14:=NB478_471.out;have hnc14:=NB471_478.out;have hnb15:=NB478_472.out;have hnc15:=NB472_478.out;obtain ⟨hcz16_0,hcz16_1,hcz16_2,hfz16_0,hfz16_1,hfz16_2⟩:=b3 BK478;obtain ⟨hcz17_0,hfz17_0⟩:=b1 BK472))
 go_loopg [28] k (fun kq v28 w'=>∃ (x28_1:Int),v28 = .int .i64 x28_1∧Aside0 (impl_heavy.l0 kq l2 t473 t477 l1_0 (l1_0.length:Int) x28_1 a0_0 l0_1 t474 t475 t476=some (r1,r2))∧Aside0 (kq≤k)∧Aside0 (w'.heap[gb471]?=some (.cells #[.int .i64 a0_0,(.slice A0_1 l0_1.length c0_1)] 26 (0,0)))∧Aside0 (w'.heap[gb472]?=some (.cells #[(.slice A1_0 l1_0.length c1_0)] 35 (0,0)))∧Aside0 (w'.heap[gb478]?=some (.cells #[.int .i64 t474,.int .i64 t475,.int .i64 t476] 61 (0,0)))∧Aside0 (Below w.heap.size w w'))
 case atStart=>exact ⟨(0),rd_,H',⟨Nat.le_refl _⟩,⟨by refine blk_far ?_ NB471_478.out _;refine blk_far ?_ NB471_478.out _;refine blk_far ?_ NB471_478.out _;exact BK471.out⟩,⟨by refine blk_far ?_ NB472_478.out _;refine blk_far ?_ NB472_478.out _;refine blk_far ?_ NB472_478.out _;exact BK472.out⟩,⟨by refine blk_put (cs:=#[.int .i64 t474,.int .i64 t475,.int .i64 0]) ?_ 2 _ rfl;refine blk_put (cs:=#[.int .i64 t474,.int .i64 0,.int .i64 0]) ?_ 1 _ rfl;refine blk_put (cs:=#[.int .i64 0,.int .i64 0,.int .i64 0]) ?_ 0 _ rfl;exact BK478.out⟩,⟨be⟩⟩
 case round=>
  clear H'
  try clear hcz10_0
  try clear hcz16_0
  try clear hcz16_1
  try clear hcz16_2
  try clear hcz17_0
  try clear hcz9_0
  try clear hcz9_1
  try clear hfz10_0
  try clear hfz16_0
  try clear hfz16_1
  try clear hfz16_2
  try clear hfz17_0
  try clear hfz9_0
  try clear hfz9_1
  obtain ⟨x28_1,rfl,HA,HK1,BK471,BK472,BK478,HB⟩:=hrel
  cases gk with
  | zero=>exact absurd HA.out (by simp [impl_heavy.l0])
  | succ k1=>
   have H:=HA.out
   clear HA
   simp only [impl_heavy.l0] at H
   by_cases c18:x28_1 < (l1_0.length:Int)
   ·rw [if_pos c18] at H
    have c18b0:decide (x28_1 < (l1_0.length:Int))=true:=decide_eq_true c18
    clear c18
    obtain ⟨c19,H⟩:=ifs H
    have c19b0:decide (0≤x28_1)=true:=decide_eq_true c19
    clear c19
    obtain ⟨c20,H⟩:=ifs H
    have c20b0:decide (x28_1 < (l1_0.length:Int))=true:=decide_eq_true c20
    clear c20
    replace H:=Option.bind_eq_some_iff.mp H
    obtain ⟨⟨t480,t481,t482,t483⟩,A210,H⟩:=H
    try dsimp only at H
    have A21:=aM A210
    clear A210
    by_cases c22:t477=true
    ·subst c22
     rw [if_pos rfl] at H
     by_cases c23:t481=t475
     ·rw [if_pos c23] at H
      have c23b0:(t481 == t475)=true:=beq_iff_eq.mpr c23
      have c23b1:(t481 != t475)=false:=bne_eq_false_iff_eq.mpr c23
      clear c23
      replace H:=Option.bind_eq_some_iff.mp H
      obtain ⟨t485,A240,H⟩:=H
      try dsimp only at H
      have A24:=aM A240
      clear A240
      replace H:=Option.bind_eq_some_iff.mp H
      obtain ⟨t486,A250,H⟩:=H
      try dsimp only at H
      have A25:=aM A250
      clear A250
      by_cases c26:(wrap64 (t485 - t486)) ≥ 2
      ·rw [if_pos c26] at H
       have c26b0:decide (2≤(wrap64 (t485 - t486)))=true:=decide_eq_true c26
       clear c26
       simp only [Option.some.injEq,Prod.mk.injEq] at H
       obtain ⟨rfl,rfl⟩:=H
       have p479:0≤(x28_1:Int):=od
       have q479:x28_1 < (l1_0.length:Int):=od
       obtain ⟨ad479,e479,hx479_0⟩:=Kd.at_int HR1_0.out x28_1 p479 q479
       cases e479
       replace hx479_0:=xH HB hx479_0
       replace p479:=eq_true p479
       replace q479:=eq_true q479
       try go_wp2_with (first|((with_reducible refine gate_callee (f:=60) rfl ?_);refine goesL_ (some 36) rfl rfl Try.func60 (by kernel_rfl) rfl #[.slice A2 l2.length c2,.int .i64 (rd l1_0 x28_1)] rfl (by (try simp only [List.map_toArray,List.map_cons,List.map_nil]);rfl) ?_;(with_reducible refine (impl_DevAt.calls k1 _ _ l2 (rd l1_0 x28_1) t480 t481 t482 t483 _ ?side1 ?side2 A21.out).mono ?_);(case side1=>exact rC HR2);(case side2=>exact HC2.out);rintro e w27 ⟨rfl,hb⟩;refine ⟨_,rfl,?_⟩;replace BK471:=bB BK471 hb;replace BK472:=bB BK472 hb;replace BK478:=bB BK478 hb;replace HB:=bs hb;(try clear hb))|((with_reducible refine gate_dst (N:=13) rfl ?_);refine box_event ?hg (N:=13) ?hd (cs:=#[.int .i64 0,.int .i64 0,.int .i64 0]) (t:=61) ?hr ?_;(case hd=>rfl);(case hg=>rfl);(case hr=>(go_simp;done));intro gb484 hg w28 hbox hb;have BK484:=aM (hbox);have GW484:=gS w hg;have GE484:=gS w hg;replace HB:=bs hb;have NB471_484:=nL hg BK471;have NB484_471:=nG hg BK471;replace BK471:=bB BK471 hb;have NB472_484:=nL hg BK472;have NB484_472:=nG hg BK472;replace BK472:=bB BK472 hb;have NB478_484:=nL hg BK478;have NB484_478:=nG hg BK478;replace BK478:=bB BK478 hb;clear hb hbox hg;have hnb29:=NB484_471.out;have hnc29:=NB471_484.out;have hnb30:=NB484_472.out;have hnc30:=NB472_484.out;have hnb31:=NB484_478.out;have hnc31:=NB478_484.out;obtain ⟨hcz32_0,hcz32_1,hcz32_2,hfz32_0,hfz32_1,hfz32_2⟩:=b3 BK484))
       obtain ⟨w33,hW_⟩ : ∃ W_:World,W_=(((w28.setCell ⟨gb484,0,none⟩ (.int .i64 t480)).setCell ⟨gb484,1,none⟩ (.int .i64 t481)).setCell ⟨gb484,2,none⟩ (.int .i64 t482)):=⟨_,rfl⟩
       have n0_:Aside0 (w33.heap[gb471]?=some (.cells #[.int .i64 a0_0,.slice A0_1 l0_1.length c0_1] 26 (0,0))):=⟨by rw [hW_];refine blk_far ?_ NB471_484.out _;refine blk_far ?_ NB471_484.out _;refine blk_far ?_ NB471_484.out _;exact BK471.out⟩
       have n1_:Aside0 (w33.heap[gb472]?=some (.cells #[.slice (some ad479) l1_0.length c1_0] 35 (0,0))):=⟨by rw [hW_];refine blk_far ?_ NB472_484.out _;refine blk_far ?_ NB472_484.out _;refine blk_far ?_ NB472_484.out _;exact BK472.out⟩
       have n2_:Aside0 (w33.heap[gb478]?=some (.cells #[.int .i64 t474,.int .i64 t475,.int .i64 t476] 61 (0,0))):=⟨by rw [hW_];refine blk_far ?_ NB478_484.out _;refine blk_far ?_ NB478_484.out _;refine blk_far ?_ NB478_484.out _;exact BK478.out⟩
       have n3_:Aside0 (w33.heap[gb484]?=some (.cells #[.int .i64 t480,.int .i64 t481,.int .i64 t482] 61 (0,0))):=⟨by rw [hW_];refine blk_put (cs:=#[.int .i64 t480,.int .i64 t481,.int .i64 0]) ?_ 2 _ rfl;refine blk_put (cs:=#[.int .i64 t480,.int .i64 0,.int .i64 0]) ?_ 1 _ rfl;refine blk_put (cs:=#[.int .i64 0,.int .i64 0,.int .i64 0]) ?_ 0 _ rfl;exact BK484.out⟩
       have n4_:Aside0 (Below w.heap.size w w33):=⟨by rw [hW_];exact be⟩
       (try clear BK471)
       (try clear BK472)
       (try clear BK478)
       (try clear BK484)
       (try clear HB)
       rw [← hW_];clear hW_
       have BK471:=n0_;have BK472:=n1_;have BK478:=n2_;have BK484:=n3_;have HB:=n4_;clear n0_ n1_ n2_ n3_ n4_;replace BK471:=aM (blk_drew BK471.out);replace BK472:=aM (blk_drew BK472.out);replace BK478:=aM (blk_drew BK478.out);replace BK484:=aM (blk_drew BK484.out);replace HB:=aM (below_drew1 HB.out)
       refine start_ (n:=18) (S:=fun w'=>w'.cell? ⟨gb484,0,none⟩=some (.int .i64 t480)∧w'.cell? ⟨gb484,1,none⟩=some (.int .i64 t481)∧w'.cell? ⟨gb484,2,none⟩=some (.int .i64 t482)∧w'.cell? ⟨gb478,0,none⟩=some (.int .i64 t474)∧w'.cell? ⟨gb478,1,none⟩=some (.int .i64 t475)∧w'.cell? ⟨gb478,2,none⟩=some (.int .i64 t476)∧w'.cell? ⟨gb471,0,none⟩=some (.int .i64 a0_0)∧w'.cell? ⟨gb471,1,none⟩=some (.slice A0_1 l0_1.length c0_1)) (ds:=[]) (fl 18 0) (by kernel_rfl) rfl rfl ⟨bq BK484 0,bq BK484 1,bq BK484 2,bq BK478 0,bq BK478 1,bq BK478 2,bq BK471 0,bq BK471 1⟩ (fun hHeld=>?_);refine with_tabW impl_heavy.tab7 impl_heavy.bits7 (fun HT_ HW_=>?_)
       generalize w33.drew=w34 at BK471 BK472 BK478 BK484 HB hHeld ⊢
       refine pt 0 39 (fl 18 1) HT_ ?_
       refine pt 1 40 (fl 18 3) HT_ ?_
       refine pt 2 41 (fl 18 7) HT_ ?_
       refine pt 4 43 (fl 18 23) HT_ ?_
       refine tt 3 42 (fl 18 31) HT_ HW_ hHeld ?_
       refine tt 5 44 (fl 18 63) HT_ HW_ hHeld ?_
       refine pt 6 45 (fl 18 127) HT_ ?_
       refine pt 7 46 (fl 18 255) HT_ ?_
       refine pt 8 47 (fl 18 511) HT_ ?_
       refine pt 10 49 (fl 18 1535) HT_ ?_
       refine pt 13 52 (fl 18 9727) HT_ ?_
       refine tt 9 48 (fl 18 10239) HT_ HW_ hHeld ?_
       refine tt 12 51 (fl 18 14335) HT_ HW_ hHeld ?_
       refine ot 11 (some 50) (fl 18 16383) HT_ (fun K hK=>?_)
       refine goes_ Try.func35 (by kernel_rfl) rfl #[.agg #[.int .i64 a0_0,.slice A0_1 l0_1.length c0_1],.int .i64 (rd l1_0 x28_1)] (by rfl) rfl rfl (by (try simp only [List.map_toArray,List.map_cons,List.map_nil]);rfl) ?_
       with_reducible refine (impl_LoadOf.calls k1 a0_0 _ _ l0_1 (rd l1_0 x28_1) t485 _ ?side1 ?side2 A24.out).mono ?_
       (case side1=>exact rC HR0_1)
       (case side2=>exact HC0_1.out)
       rintro e w35 ⟨rfl,hb⟩
       refine ⟨_,rfl,?_⟩
       replace BK471:=bB BK471 hb;replace BK478:=bB BK478 hb;replace BK484:=bB BK484 hb;replace HB:=bs hb;clear BK472;(try clear hb);skip
       refine hK.out _ _ ⟨bq BK484 0,bq BK484 1,bq BK484 2,bq BK478 0,bq BK478 1,bq BK478 2,bq BK471 0,bq BK471 1⟩ (fun hHeld=>?_)
       clear hK K
       refine no 50 ?_
       refine ot 14 (some 53) (fl 18 32767) HT_ (fun K hK=>?_)
       refine goes_ Try.func35 (by kernel_rfl) rfl #[.agg #[.int .i64 a0_0,.slice A0_1 l0_1.length c0_1],.int .i64 t473] (by rfl) rfl rfl (by (try simp only [List.map_toArray,List.map_cons,List.map_nil]);rfl) ?_
       with_reducible refine (impl_LoadOf.calls k1 a0_0 _ _ l0_1 t473 t486 _ ?side1 ?side2 A25.out).mono ?_
       (case side1=>exact rC HR0_1)
       (case side2=>exact HC0_1.out)
       rintro e w36 ⟨rfl,hb⟩
       refine ⟨_,rfl,?_⟩
       replace BK471:=bB BK471 hb;replace BK478:=bB BK478 hb;replace BK484:=bB BK484 hb;replace HB:=bs hb;(try clear hb);skip
       refine hK.out _ _ ⟨bq BK484 0,bq BK484 1,bq BK484 2,bq BK478 0,bq BK478 1,bq BK478 2,bq BK471 0,bq BK471 1⟩ (fun hHeld=>?_)
       clear hK K
       refine no 53 ?_
       refine pt 15 54 (fl 18 65535) HT_ ?_
       refine pt 16 55 (fl 18 131071) HT_ ?_
       refine pt 17 56 (fl 18 262143) HT_ ?_
       refine done_ (done_of HT_.out (by kernel_rfl)) ?_
       try go_wp2
       go_ret2
       exact ⟨rz,be⟩
      ·rw [if_neg c26] at H
       have c26b0:decide (2≤(wrap64 (t485 - t486)))=false:=decide_eq_false c26
       clear c26
       have H':=Aside0.mk H
       clear H
       have p479:0≤(x28_1:Int):=od
       have q479:x28_1 < (l1_0.length:Int):=od
       obtain ⟨ad479,e479,hx479_0⟩:=Kd.at_int HR1_0.out x28_1 p479 q479
       cases e479
       replace hx479_0:=xH HB hx479_0
       replace p479:=eq_true p479
       replace q479:=eq_true q479
       try go_wp2_with (first|((with_reducible refine gate_callee (f:=60) rfl ?_);refine goesL_ (some 36) rfl rfl Try.func60 (by kernel_rfl) rfl #[.slice A2 l2.length c2,.int .i64 (rd l1_0 x28_1)] rfl (by (try simp only [List.map_toArray,List.map_cons,List.map_nil]);rfl) ?_;(with_reducible refine (impl_DevAt.calls k1 _ _ l2 (rd l1_0 x28_1) t480 t481 t482 t483 _ ?side1 ?side2 A21.out).mono ?_);(case side1=>exact rC HR2);(case side2=>exact HC2.out);rintro e w37 ⟨rfl,hb⟩;refine ⟨_,rfl,?_⟩;replace BK471:=bB BK471 hb;replace BK472:=bB BK472 hb;replace BK478:=bB BK478 hb;replace HB:=bs hb;(try clear hb))|((with_reducible refine gate_dst (N:=13) rfl ?_);refine box_event ?hg (N:=13) ?hd (cs:=#[.int .i64 0,.int .i64 0,.int .i64 0]) (t:=61) ?hr ?_;(case hd=>rfl);(case hg=>rfl);(case hr=>(go_simp;done));intro gb484 hg w38 hbox hb;have BK484:=aM (hbox);have GW484:=gS w hg;have GE484:=gS w hg;replace HB:=bs hb;have NB471_484:=nL hg BK471;have NB484_471:=nG hg BK471;replace BK471:=bB BK471 hb;have NB472_484:=nL hg BK472;have NB484_472:=nG hg BK472;replace BK472:=bB BK472 hb;have NB478_484:=nL hg BK478;have NB484_478:=nG hg BK478;replace BK478:=bB BK478 hb;clear hb hbox hg;have hnb39:=NB484_471.out;have hnc39:=NB471_484.out;have hnb40:=NB484_472.out;have hnc40:=NB472_484.out;have hnb41:=NB484_478.out;have hnc41:=NB478_484.out;obtain ⟨hcz42_0,hcz42_1,hcz42_2,hfz42_0,hfz42_1,hfz42_2⟩:=b3 BK484))
       obtain ⟨w43,hW_⟩ : ∃ W_:World,W_=(((w38.setCell ⟨gb484,0,none⟩ (.int .i64 t480)).setCell ⟨gb484,1,none⟩ (.int .i64 t481)).setCell ⟨gb484,2,none⟩ (.int .i64 t482)):=⟨_,rfl⟩
       have n0_:Aside0 (w43.heap[gb471]?=some (.cells #[.int .i64 a0_0,.slice A0_1 l0_1.length c0_1] 26 (0,0))):=⟨by rw [hW_];refine blk_far ?_ NB471_484.out _;refine blk_far ?_ NB471_484.out _;refine blk_far ?_ NB471_484.out _;exact BK471.out⟩
       have n1_:Aside0 (w43.heap[gb472]?=some (.cells #[.slice (some ad479) l1_0.length c1_0] 35 (0,0))):=⟨by rw [hW_];refine blk_far ?_ NB472_484.out _;refine blk_far ?_ NB472_484.out _;refine blk_far ?_ NB472_484.out _;exact BK472.out⟩
       have n2_:Aside0 (w43.heap[gb478]?=some (.cells #[.int .i64 t474,.int .i64 t475,.int .i64 t476] 61 (0,0))):=⟨by rw [hW_];refine blk_far ?_ NB478_484.out _;refine blk_far ?_ NB478_484.out _;refine blk_far ?_ NB478_484.out _;exact BK478.out⟩
       have n3_:Aside0 (w43.heap[gb484]?=some (.cells #[.int .i64 t480,.int .i64 t481,.int .i64 t482] 61 (0,0))):=⟨by rw [hW_];refine blk_put (cs:=#[.int .i64 t480,.int .i64 t481,.int .i64 0]) ?_ 2 _ rfl;refine blk_put (cs:=#[.int .i64 t480,.int .i64 0,.int .i64 0]) ?_ 1 _ rfl;refine blk_put (cs:=#[.int .i64 0,.int .i64 0,.int .i64 0]) ?_ 0 _ rfl;exact BK484.out⟩
       have n4_:Aside0 (Below w.heap.size w w43):=⟨by rw [hW_];exact be⟩
       (try clear BK471)
       (try clear BK472)
       (try clear BK478)
       (try clear BK484)
       (try clear HB)
       rw [← hW_];clear hW_
       have BK471:=n0_;have BK472:=n1_;have BK478:=n2_;have BK484:=n3_;have HB:=n4_;clear n0_ n1_ n2_ n3_ n4_;replace BK471:=aM (blk_drew BK471.out);replace BK472:=aM (blk_drew BK472.out);replace BK478:=aM (blk_drew BK478.out);replace BK484:=aM (blk_drew BK484.out);replace HB:=aM (below_drew1 HB.out)
       refine start_ (n:=18) (S:=fun w'=>w'.cell? ⟨gb484,0,none⟩=some (.int .i64 t480)∧w'.cell? ⟨gb484,1,none⟩=some (.int .i64 t481)∧w'.cell? ⟨gb484,2,none⟩=some (.int .i64 t482)∧w'.cell? ⟨gb478,0,none⟩=some (.int .i64 t474)∧w'.cell? ⟨gb478,1,none⟩=some (.int .i64 t475)∧w'.cell? ⟨gb478,2,none⟩=some (.int .i64 t476)∧w'.cell? ⟨gb471,0,none⟩=some (.int .i64 a0_0)∧w'.cell? ⟨gb471,1,none⟩=some (.slice A0_1 l0_1.length c0_1)) (ds:=[]) (fl 18 0) (by kernel_rfl) rfl rfl ⟨bq BK484 0,bq BK484 1,bq BK484 2,bq BK478 0,bq BK478 1,bq BK478 2,bq BK471 0,bq BK471 1⟩ (fun hHeld=>?_);refine with_tabW impl_heavy.tab7 impl_heavy.bits7 (fun HT_ HW_=>?_)
       generalize w43.drew=w44 at BK471 BK472 BK478 BK484 HB hHeld ⊢
       refine pt 0 39 (fl 18 1) HT_ ?_
       refine pt 1 40 (fl 18 3) HT_ ?_
       refine pt 2 41 (fl 18 7) HT_ ?_
       refine pt 4 43 (fl 18 23) HT_ ?_
       refine tt 3 42 (fl 18 31) HT_ HW_ hHeld ?_
       refine tt 5 44 (fl 18 63) HT_ HW_ hHeld ?_
       refine pt 6 45 (fl 18 127) HT_ ?_
       refine pt 7 46 (fl 18 255) HT_ ?_
       refine pt 8 47 (fl 18 511) HT_ ?_
       refine pt 10 49 (fl 18 1535) HT_ ?_
       refine pt 13 52 (fl 18 9727) HT_ ?_
       refine tt 9 48 (fl 18 10239) HT_ HW_ hHeld ?_
       refine tt 12 51 (fl 18 14335) HT_ HW_ hHeld ?_
       refine ot 11 (some 50) (fl 18 16383) HT_ (fun K hK=>?_)
       refine goes_ Try.func35 (by kernel_rfl) rfl #[.agg #[.int .i64 a0_0,.slice A0_1 l0_1.length c0_1],.int .i64 (rd l1_0 x28_1)] (by rfl) rfl rfl (by (try simp only [List.map_toArray,List.map_cons,List.map_nil]);rfl) ?_
       with_reducible refine (impl_LoadOf.calls k1 a0_0 _ _ l0_1 (rd l1_0 x28_1) t485 _ ?side1 ?side2 A24.out).mono ?_
       (case side1=>exact rC HR0_1)
       (case side2=>exact HC0_1.out)
       rintro e w45 ⟨rfl,hb⟩
       refine ⟨_,rfl,?_⟩
       replace BK471:=bB BK471 hb;replace BK472:=bB BK472 hb;replace BK478:=bB BK478 hb;replace BK484:=bB BK484 hb;replace HB:=bs hb;(try clear hb);skip
       refine hK.out _ _ ⟨bq BK484 0,bq BK484 1,bq BK484 2,bq BK478 0,bq BK478 1,bq BK478 2,bq BK471 0,bq BK471 1⟩ (fun hHeld=>?_)
       clear hK K
       refine no 50 ?_
       refine ot 14 (some 53) (fl 18 32767) HT_ (fun K hK=>?_)
       refine goes_ Try.func35 (by kernel_rfl) rfl #[.agg #[.int .i64 a0_0,.slice A0_1 l0_1.length c0_1],.int .i64 t473] (by rfl) rfl rfl (by (try simp only [List.map_toArray,List.map_cons,List.map_nil]);rfl) ?_
       with_reducible refine (impl_LoadOf.calls k1 a0_0 _ _ l0_1 t473 t486 _ ?side1 ?side2 A25.out).mono ?_
       (case side1=>exact rC HR0_1)
       (case side2=>exact HC0_1.out)
       rintro e w46 ⟨rfl,hb⟩
       refine ⟨_,rfl,?_⟩
       replace BK471:=bB BK471 hb;replace BK472:=bB BK472 hb;replace BK478:=bB BK478 hb;replace BK484:=bB BK484 hb;replace HB:=bs hb;(try clear hb);skip
       refine hK.out _ _ ⟨bq BK484 0,bq BK484 1,bq BK484 2,bq BK478 0,bq BK478 1,bq BK478 2,bq BK471 0,bq BK471 1⟩ (fun hHeld=>?_)
       clear hK K
       refine no 53 ?_
       refine pt 15 54 (fl 18 65535) HT_ ?_
       refine pt 16 55 (fl 18 131071) HT_ ?_
       refine pt 17 56 (fl 18 262143) HT_ ?_
       refine done_ (done_of HT_.out (by kernel_rfl)) ?_
       try go_wp2
       go_roundg k1
       case measure=>have:=HK1.out;omega
       case rel=>exact ⟨(wrap64 (x28_1+1)),rd_,H',⟨by have:=HK1.out;omega⟩,⟨bk BK471⟩,⟨bk BK472⟩,⟨bk BK478⟩,⟨be⟩⟩
     ·rw [if_neg c23] at H
      have c23b0:(t481 == t475)=false:=beq_eq_false_iff_ne.mpr c23
      have c23b1:(t481 != t475)=true:=bne_iff_ne.mpr c23
      have H':=Aside0.mk H
      clear H
      have p479:0≤(x28_1:Int):=od
      have q479:x28_1 < (l1_0.length:Int):=od
      obtain ⟨ad479,e479,hx479_0⟩:=Kd.at_int HR1_0.out x28_1 p479 q479
      cases e479
      replace hx479_0:=xH HB hx479_0
      replace p479:=eq_true p479
      replace q479:=eq_true q479
      try go_wp2_with (first|((with_reducible refine gate_callee (f:=60) rfl ?_);refine goesL_ (some 36) rfl rfl Try.func60 (by kernel_rfl) rfl #[.slice A2 l2.length c2,.int .i64 (rd l1_0 x28_1)] rfl (by (try simp only [List.map_toArray,List.map_cons,List.map_nil]);rfl) ?_;(with_reducible refine (impl_DevAt.calls k1 _ _ l2 (rd l1_0 x28_1) t480 t481 t482 t483 _ ?side1 ?side2 A21.out).mono ?_);(case side1=>exact rC HR2);(case side2=>exact HC2.out);rintro e w47 ⟨rfl,hb⟩;refine ⟨_,rfl,?_⟩;replace BK471:=bB BK471 hb;replace BK472:=bB BK472 hb;replace BK478:=bB BK478 hb;replace HB:=bs hb;(try clear hb))|((with_reducible refine gate_dst (N:=13) rfl ?_);refine box_event ?hg (N:=13) ?hd (cs:=#[.int .i64 0,.int .i64 0,.int .i64 0]) (t:=61) ?hr ?_;(case hd=>rfl);(case hg=>rfl);(case hr=>(go_simp;done));intro gb484 hg w48 hbox hb;have BK484:=aM (hbox);have GW484:=gS w hg;have GE484:=gS w hg;replace HB:=bs hb;have NB471_484:=nL hg BK471;have NB484_471:=nG hg BK471;replace BK471:=bB BK471 hb;have NB472_484:=nL hg BK472;have NB484_472:=nG hg BK472;replace BK472:=bB BK472 hb;have NB478_484:=nL hg BK478;have NB484_478:=nG hg BK478;replace BK478:=bB BK478 hb;clear hb hbox hg;have hnb49:=NB484_471.out;have hnc49:=NB471_484.out;have hnb50:=NB484_472.out;have hnc50:=NB472_484.out;have hnb51:=NB484_478.out;have hnc51:=NB478_484.out;obtain ⟨hcz52_0,hcz52_1,hcz52_2,hfz52_0,hfz52_1,hfz52_2⟩:=b3 BK484))
      obtain ⟨w53,hW_⟩ : ∃ W_:World,W_=(((w48.setCell ⟨gb484,0,none⟩ (.int .i64 t480)).setCell ⟨gb484,1,none⟩ (.int .i64 t481)).setCell ⟨gb484,2,none⟩ (.int .i64 t482)):=⟨_,rfl⟩
      have n0_:Aside0 (w53.heap[gb471]?=some (.cells #[.int .i64 a0_0,.slice A0_1 l0_1.length c0_1] 26 (0,0))):=⟨by rw [hW_];refine blk_far ?_ NB471_484.out _;refine blk_far ?_ NB471_484.out _;refine blk_far ?_ NB471_484.out _;exact BK471.out⟩
      have n1_:Aside0 (w53.heap[gb472]?=some (.cells #[.slice (some ad479) l1_0.length c1_0] 35 (0,0))):=⟨by rw [hW_];refine blk_far ?_ NB472_484.out _;refine blk_far ?_ NB472_484.out _;refine blk_far ?_ NB472_484.out _;exact BK472.out⟩
      have n2_:Aside0 (w53.heap[gb478]?=some (.cells #[.int .i64 t474,.int .i64 t475,.int .i64 t476] 61 (0,0))):=⟨by rw [hW_];refine blk_far ?_ NB478_484.out _;refine blk_far ?_ NB478_484.out _;refine blk_far ?_ NB478_484.out _;exact BK478.out⟩
      have n3_:Aside0 (w53.heap[gb484]?=some (.cells #[.int .i64 t480,.int .i64 t481,.int .i64 t482] 61 (0,0))):=⟨by rw [hW_];refine blk_put (cs:=#[.int .i64 t480,.int .i64 t481,.int .i64 0]) ?_ 2 _ rfl;refine blk_put (cs:=#[.int .i64 t480,.int .i64 0,.int .i64 0]) ?_ 1 _ rfl;refine blk_put (cs:=#[.int .i64 0,.int .i64 0,.int .i64 0]) ?_ 0 _ rfl;exact BK484.out⟩
      have n4_:Aside0 (Below w.heap.size w w53):=⟨by rw [hW_];exact be⟩
      (try clear BK471)
      (try clear BK472)
      (try clear BK478)
      (try clear BK484)
      (try clear HB)
      rw [← hW_];clear hW_
      have BK471:=n0_;have BK472:=n1_;have BK478:=n2_;have BK484:=n3_;have HB:=n4_;clear n0_ n1_ n2_ n3_ n4_;replace BK471:=aM (blk_drew BK471.out);replace BK472:=aM (blk_drew BK472.out);replace BK478:=aM (blk_drew BK478.out);replace BK484:=aM (blk_drew BK484.out);replace HB:=aM (below_drew1 HB.out)
      refine start_ (n:=18) (S:=fun w'=>w'.cell? ⟨gb484,0,none⟩=some (.int .i64 t480)∧w'.cell? ⟨gb484,1,none⟩=some (.int .i64 t481)∧w'.cell? ⟨gb484,2,none⟩=some (.int .i64 t482)∧w'.cell? ⟨gb478,0,none⟩=some (.int .i64 t474)∧w'.cell? ⟨gb478,1,none⟩=some (.int .i64 t475)∧w'.cell? ⟨gb478,2,none⟩=some (.int .i64 t476)) (ds:=[]) (fl 18 0) (by kernel_rfl) rfl rfl ⟨bq BK484 0,bq BK484 1,bq BK484 2,bq BK478 0,bq BK478 1,bq BK478 2⟩ (fun hHeld=>?_);refine with_tabW impl_heavy.tab7 impl_heavy.bits7 (fun HT_ HW_=>?_)
      generalize w53.drew=w54 at BK471 BK472 BK478 BK484 HB hHeld ⊢
      refine pt 0 39 (fl 18 1) HT_ ?_
      refine pt 1 40 (fl 18 3) HT_ ?_
      refine pt 2 41 (fl 18 7) HT_ ?_
      refine pt 4 43 (fl 18 23) HT_ ?_
      refine tt 3 42 (fl 18 31) HT_ HW_ hHeld ?_
      refine tt 5 44 (fl 18 63) HT_ HW_ hHeld ?_
      refine pt 6 45 (fl 18 127) HT_ ?_
      refine pt 7 46 (fl 18 255) HT_ ?_
      refine pt 8 47 (fl 18 511) HT_ ?_
      refine ut 9 48 (fl 18 1023) HT_ ?_
      refine ut 10 49 (fl 18 2047) HT_ ?_
      refine ut 11 50 (fl 18 4095) HT_ ?_
      refine ut 12 51 (fl 18 8191) HT_ ?_
      refine ut 13 52 (fl 18 16383) HT_ ?_
      refine ut 14 53 (fl 18 32767) HT_ ?_
      refine ut 15 54 (fl 18 65535) HT_ ?_
      refine ut 16 55 (fl 18 131071) HT_ ?_
      refine pt 17 56 (fl 18 262143) HT_ ?_
      refine done_ (done_of HT_.out (by kernel_rfl)) ?_
      try go_wp2
      go_roundg k1
      case measure=>have:=HK1.out;omega
      case rel=>exact ⟨(wrap64 (x28_1+1)),rd_,H',⟨by have:=HK1.out;omega⟩,⟨bk BK471⟩,⟨bk BK472⟩,⟨bk BK478⟩,⟨be⟩⟩
    ·replace c22:=Bool.eq_false_iff.mpr c22
     subst c22
     replace H:=(if_neg (show ¬ (false=true) by decide)).symm.trans H
     have H':=Aside0.mk H
     clear H
     have p479:0≤(x28_1:Int):=od
     have q479:x28_1 < (l1_0.length:Int):=od
     obtain ⟨ad479,e479,hx479_0⟩:=Kd.at_int HR1_0.out x28_1 p479 q479
     cases e479
     replace hx479_0:=xH HB hx479_0
     replace p479:=eq_true p479
     replace q479:=eq_true q479
     try go_wp2_with (first|((with_reducible refine gate_callee (f:=60) rfl ?_);refine goesL_ (some 36) rfl rfl Try.func60 (by kernel_rfl) rfl #[.slice A2 l2.length c2,.int .i64 (rd l1_0 x28_1)] rfl (by (try simp only [List.map_toArray,List.map_cons,List.map_nil]);rfl) ?_;(with_reducible refine (impl_DevAt.calls k1 _ _ l2 (rd l1_0 x28_1) t480 t481 t482 t483 _ ?side1 ?side2 A21.out).mono ?_);(case side1=>exact rC HR2);(case side2=>exact HC2.out);rintro e w55 ⟨rfl,hb⟩;refine ⟨_,rfl,?_⟩;replace BK471:=bB BK471 hb;replace BK472:=bB BK472 hb;replace BK478:=bB BK478 hb;replace HB:=bs hb;(try clear hb))|((with_reducible refine gate_dst (N:=13) rfl ?_);refine box_event ?hg (N:=13) ?hd (cs:=#[.int .i64 0,.int .i64 0,.int .i64 0]) (t:=61) ?hr ?_;(case hd=>rfl);(case hg=>rfl);(case hr=>(go_simp;done));intro gb484 hg w56 hbox hb;have BK484:=aM (hbox);have GW484:=gS w hg;have GE484:=gS w hg;replace HB:=bs hb;have NB471_484:=nL hg BK471;have NB484_471:=nG hg BK471;replace BK471:=bB BK471 hb;have NB472_484:=nL hg BK472;have NB484_472:=nG hg BK472;replace BK472:=bB BK472 hb;have NB478_484:=nL hg BK478;have NB484_478:=nG hg BK478;replace BK478:=bB BK478 hb;clear hb hbox hg;have hnb57:=NB484_471.out;have hnc57:=NB471_484.out;have hnb58:=NB484_472.out;have hnc58:=NB472_484.out;have hnb59:=NB484_478.out;have hnc59:=NB478_484.out;obtain ⟨hcz60_0,hcz60_1,hcz60_2,hfz60_0,hfz60_1,hfz60_2⟩:=b3 BK484))
     obtain ⟨w61,hW_⟩ : ∃ W_:World,W_=(((w56.setCell ⟨gb484,0,none⟩ (.int .i64 t480)).setCell ⟨gb484,1,none⟩ (.int .i64 t481)).setCell ⟨gb484,2,none⟩ (.int .i64 t482)):=⟨_,rfl⟩
     have n0_:Aside0 (w61.heap[gb471]?=some (.cells #[.int .i64 a0_0,.slice A0_1 l0_1.length c0_1] 26 (0,0))):=⟨by rw [hW_];refine blk_far ?_ NB471_484.out _;refine blk_far ?_ NB471_484.out _;refine blk_far ?_ NB471_484.out _;exact BK471.out⟩
     have n1_:Aside0 (w61.heap[gb472]?=some (.cells #[.slice (some ad479) l1_0.length c1_0] 35 (0,0))):=⟨by rw [hW_];refine blk_far ?_ NB472_484.out _;refine blk_far ?_ NB472_484.out _;refine blk_far ?_ NB472_484.out _;exact BK472.out⟩
     have n2_:Aside0 (w61.heap[gb478]?=some (.cells #[.int .i64 t474,.int .i64 t475,.int .i64 t476] 61 (0,0))):=⟨by rw [hW_];refine blk_far ?_ NB478_484.out _;refine blk_far ?_ NB478_484.out _;refine blk_far ?_ NB478_484.out _;exact BK478.out⟩
     have n3_:Aside0 (w61.heap[gb484]?=some (.cells #[.int .i64 t480,.int .i64 t481,.int .i64 t482] 61 (0,0))):=⟨by rw [hW_];refine blk_put (cs:=#[.int .i64 t480,.int .i64 t481,.int .i64 0]) ?_ 2 _ rfl;refine blk_put (cs:=#[.int .i64 t480,.int .i64 0,.int .i64 0]) ?_ 1 _ rfl;refine blk_put (cs:=#[.int .i64 0,.int .i64 0,.int .i64 0]) ?_ 0 _ rfl;exact BK484.out⟩
     have n4_:Aside0 (Below w.heap.size w w61):=⟨by rw [hW_];exact be⟩
     (try clear BK471)
     (try clear BK472)
     (try clear BK478)
     (try clear BK484)
     (try clear HB)
     rw [← hW_];clear hW_
     have BK471:=n0_;have BK472:=n1_;have BK478:=n2_;have BK484:=n3_;have HB:=n4_;clear n0_ n1_ n2_ n3_ n4_;replace BK471:=aM (blk_drew BK471.out);replace BK472:=aM (blk_drew BK472.out);replace BK478:=aM (blk_drew BK478.out);replace BK484:=aM (blk_drew BK484.out);replace HB:=aM (below_drew1 HB.out)
     refine start_ (n:=18) (S:=fun w'=>True) (ds:=[]) (fl 18 0) (by kernel_rfl) rfl rfl trivial (fun hHeld=>?_);refine with_tabW impl_heavy.tab7 impl_heavy.bits7 (fun HT_ HW_=>?_)
     generalize w61.drew=w62 at BK471 BK472 BK478 BK484 HB hHeld ⊢
     refine pt 0 39 (fl 18 1) HT_ ?_
     refine pt 1 40 (fl 18 3) HT_ ?_
     refine ut 2 41 (fl 18 7) HT_ ?_
     refine ut 3 42 (fl 18 15) HT_ ?_
     refine ut 4 43 (fl 18 31) HT_ ?_
     refine ut 5 44 (fl 18 63) HT_ ?_
     refine ut 6 45 (fl 18 127) HT_ ?_
     refine pt 7 46 (fl 18 255) HT_ ?_
     refine pt 8 47 (fl 18 511) HT_ ?_
     refine ut 9 48 (fl 18 1023) HT_ ?_
     refine ut 10 49 (fl 18 2047) HT_ ?_
     refine ut 11 50 (fl 18 4095) HT_ ?_
     refine ut 12 51 (fl 18 8191) HT_ ?_
     refine ut 13 52 (fl 18 16383) HT_ ?_
     refine ut 14 53 (fl 18 32767) HT_ ?_
     refine ut 15 54 (fl 18 65535) HT_ ?_
     refine ut 16 55 (fl 18 131071) HT_ ?_
     refine pt 17 56 (fl 18 262143) HT_ ?_
     refine done_ (done_of HT_.out (by kernel_rfl)) ?_
     try go_wp2
     go_roundg k1
     case measure=>have:=HK1.out;omega
     case rel=>exact ⟨(wrap64 (x28_1+1)),rd_,H',⟨by have:=HK1.out;omega⟩,⟨bk BK471⟩,⟨bk BK472⟩,⟨bk BK478⟩,⟨be⟩⟩
   ·rw [if_neg c18] at H
    have c18b0:decide (x28_1 < (l1_0.length:Int))=false:=decide_eq_false c18
    clear c18
    simp only [Option.some.injEq,Prod.mk.injEq] at H
    obtain ⟨rfl,rfl⟩:=H
    go_wp2
    go_ret2
    exact ⟨rz,be⟩
end Go.Proofs.Ytpbjbfimnfghkaa.PFnRebalanced
