/- Trimmed by a program of this session (trim.py). Not trusted: Lean checks it. -/
import Derived.Test.YtpbjbfimnfghkaaTLRebalancedPFnRebalancedx0
namespace Go.Proofs.Ytpbjbfimnfghkaa.PFnRebalanced
open Go.RowKit Go.Proofs.YtpbjbfimnfghkaaW.PrintWords Go.Proofs.YtpbjbfimnfghkaaW.PrintLast Go.Proofs.YtpbjbfimnfghkaaW.PrintMore Go.Proofs.Ytpbjbfimnfghkaa.St
attribute [local go_sem] max2_int min2_int max_two min_two max_three min_three max_four min_four
set_option linter.unusedVariables false
set_option linter.unusedSimpArgs false
def spec_l4Has.l0:Nat→List Int→Int→Int→Option (Bool)
 | 0,_,_,_=>none
 | k+1,x0,x1,x5=>if x5 < (x0.length:Int) then (if 0≤x5 then (if (rd x0 x5)=x1 then (some true) else (spec_l4Has.l0 k x0 x1 (wrap64 (x5+1)))) else (none)) else (some false)
def spec_l4Has.f (k:Nat) (l0:List Int) (a1:Int):Option (Bool):=spec_l4Has.l0 k l0 a1 0
set_option maxHeartbeats 8000000 in
set_option maxRecDepth 100000 in
theorem spec_l4Has.calls (k:Nat) (A0:Option Addr) (c0:Nat) (l0:List Int) (a1:Int) (r:Bool) (w:World) (hr0:Kd.C (Kd.int .i64) w A0 l0.length l0) (hc0:l0.length≤c0) (h:spec_l4Has.f k l0 a1=some r) :
  Calls Try.prog 68 #[.slice A0 l0.length c0,.int .i64 a1] w fun e w'=>e = .returned (.bool r)∧Drawn0 w w':=by
 have HR0:=aM hr0
 have HC0:=aM hc0
 clear hr0 hc0
 have H:(spec_l4Has.l0 k l0 a1 0)=some r:=h
 clear h
 have H':=Aside0.mk H
 clear H
 go_enter Try.func68,Try.ntmps68
 go_wp2
 go_loopg [5] k (fun kq v5 w'=>∃ (x5_1:Int),v5 = .int .i64 x5_1∧Aside0 (spec_l4Has.l0 kq l0 a1 x5_1=some r)∧Aside0 (kq≤k)∧Drawn0 w w')
 case atStart=>exact ⟨(0),rd_,H',⟨Nat.le_refl _⟩,by repeat (exact Drawn0.refl _)⟩
 case round=>
  clear H'
  obtain ⟨x5_1,rfl,HA,HK1,⟨m1,rfl⟩⟩:=hrel
  cases gk with
  | zero=>exact absurd HA.out (by simp [spec_l4Has.l0])
  | succ k1=>
   have H:=HA.out
   clear HA
   simp only [spec_l4Has.l0] at H
   by_cases c3:x5_1 < (l0.length:Int)
   ·rw [if_pos c3] at H
    have c3b0:decide (x5_1 < (l0.length:Int))=true:=decide_eq_true c3
    clear c3
    obtain ⟨c4,H⟩:=ifs H
    have c4b0:decide (0≤x5_1)=true:=decide_eq_true c4
    clear c4
    by_cases c5:(rd l0 x5_1)=a1
    ·rw [if_pos c5] at H
     have c5b0:((rd l0 x5_1) == a1)=true:=beq_iff_eq.mpr c5
     have c5b1:((rd l0 x5_1) != a1)=false:=bne_eq_false_iff_eq.mpr c5
     clear c5
     obtain rfl:=Option.some.inj H
     have p111:0≤(x5_1:Int):=od
     have q111:x5_1 < (l0.length:Int):=od
     obtain ⟨ad111,e111,hx111_0⟩:=Kd.at_int HR0.out x5_1 p111 q111
     cases e111
     replace p111:=eq_true p111
     replace q111:=eq_true q111
     go_wp2
     go_ret
     exact ⟨by rfl,by repeat (first|exact Drawn0.refl _|apply Drawn0.step)⟩
    ·rw [if_neg c5] at H
     have c5b0:((rd l0 x5_1) == a1)=false:=beq_eq_false_iff_ne.mpr c5
     have c5b1:((rd l0 x5_1) != a1)=true:=bne_iff_ne.mpr c5
     have H':=Aside0.mk H
     clear H
     have p111:0≤(x5_1:Int):=od
     have q111:x5_1 < (l0.length:Int):=od
     obtain ⟨ad111,e111,hx111_0⟩:=Kd.at_int HR0.out x5_1 p111 q111
     cases e111
     replace p111:=eq_true p111
     replace q111:=eq_true q111
     go_wp2
     go_roundg k1
     case measure=>have:=HK1.out;omega
     case rel=>exact ⟨(wrap64 (x5_1+1)),rd_,H',⟨by have:=HK1.out;omega⟩,by repeat (first|exact Drawn0.refl _|apply Drawn0.step)⟩
   ·rw [if_neg c3] at H
    have c3b0:decide (x5_1 < (l0.length:Int))=false:=decide_eq_false c3
    clear c3
    obtain rfl:=Option.some.inj H
    go_wp2
    go_ret
    exact ⟨by rfl,by repeat (first|exact Drawn0.refl _|apply Drawn0.step)⟩
def spec_DevAt.l0:Nat→List (S61)→Int→Int→Option (Int × Int × Int × Bool)
 | 0,_,_,_=>none
 | k+1,x0,x1,x6=>if x6 < (x0.length:Int) then (if 0≤x6 then (if ((rd_T61 x0 x6).f0)=x1 then (some ((rd_T61 x0 x6).f0,(rd_T61 x0 x6).f1,(rd_T61 x0 x6).f2,true)) else (spec_DevAt.l0 k x0 x1 (wrap64 (x6+1)))) else (none)) else (some (0,0,0,false))
def spec_DevAt.f (k:Nat) (l0:List (S61)) (a1:Int):Option (Int × Int × Int × Bool):=spec_DevAt.l0 k l0 a1 0
set_option maxHeartbeats 8000000 in
set_option maxRecDepth 100000 in
theorem spec_DevAt.calls (k:Nat) (A0:Option Addr) (c0:Nat) (l0:List (S61)) (a1:Int) (r1:Int) (r2:Int) (r3:Int) (r4:Bool) (w:World) (hr0:Kd.C k61 w A0 l0.length l0) (hc0:l0.length≤c0) (h:spec_DevAt.f k l0 a1=some (r1,r2,r3,r4)) :
  Calls Try.prog 56 #[.slice A0 l0.length c0,.int .i64 a1] w fun e w'=>e = .returned (.tuple #[.agg #[.int .i64 r1,.int .i64 r2,.int .i64 r3],.bool r4])∧Below w.heap.size w w':=by
 have hu61:=Try.underlying61
 have HR0:=aM hr0
 have HC0:=aM hc0
 clear hr0 hc0
 have HB:=aM (Below.refl w.heap.size w)
 have H:(spec_DevAt.l0 k l0 a1 0)=some (r1,r2,r3,r4):=h
 clear h
 have H':=Aside0.mk H
 clear H
 go_enter Try.func56,Try.ntmps56
 go_wp2_with ((with_reducible refine gate_dst (N:=4) rfl ?_);refine box_event ?hg (N:=4) ?hd (cs:=#[.int .i64 0,.int .i64 0,.int .i64 0]) (t:=61) ?hr ?_;(case hd=>rfl);(case hg=>rfl);(case hr=>(go_simp;done));intro gb112 hg w3 hbox hb;have BK112:=aM (hbox);have GW112:=gS w hg;replace HB:=bs hb;clear hb hbox hg)
 go_loopg [6] k (fun kq v6 w'=>∃ (x6_1:Int) (x113000_1:Int) (x113001_1:Int) (x113002_1:Int),v6 = .int .i64 x6_1∧Aside0 (spec_DevAt.l0 kq l0 a1 x6_1=some (r1,r2,r3,r4))∧Aside0 (kq≤k)∧Aside0 (w'.heap[gb112]?=some (.cells #[.int .i64 x113000_1,.int .i64 x113001_1,.int .i64 x113002_1] 61 (0,0)))∧Aside0 (Below w.heap.size w w'))
 case atStart=>exact ⟨(0),(0),(0),(0),rd_,H',⟨Nat.le_refl _⟩,⟨bk BK112⟩,⟨be⟩⟩
 case round=>
  clear H'
  obtain ⟨x6_1,x113000_1,x113001_1,x113002_1,rfl,HA,HK1,BK112,HB⟩:=hrel
  cases gk with
  | zero=>exact absurd HA.out (by simp [spec_DevAt.l0])
  | succ k1=>
   have H:=HA.out
   clear HA
   simp only [spec_DevAt.l0] at H
   by_cases c4:x6_1 < (l0.length:Int)
   ·rw [if_pos c4] at H
    have c4b0:decide (x6_1 < (l0.length:Int))=true:=decide_eq_true c4
    clear c4
    obtain ⟨c5,H⟩:=ifs H
    have c5b0:decide (0≤x6_1)=true:=decide_eq_true c5
    clear c5
    by_cases c6:((rd_T61 l0 x6_1).f0)=a1
    ·rw [if_pos c6] at H
     have c6b0:(((rd_T61 l0 x6_1).f0) == a1)=true:=beq_iff_eq.mpr c6
     have c6b1:(((rd_T61 l0 x6_1).f0) != a1)=false:=bne_eq_false_iff_eq.mpr c6
     clear c6
     simp only [Option.some.injEq,Prod.mk.injEq] at H
     obtain ⟨rfl,rfl,rfl,rfl⟩:=H
     have p113:0≤(x6_1:Int):=od
     have q113:x6_1 < (l0.length:Int):=od
     obtain ⟨ad113,e113,hx113_0,hx113_1,hx113_2⟩:=at_T61 HR0.out x6_1 p113 q113
     cases e113
     replace hx113_0:=xH HB hx113_0
     replace hx113_1:=xH HB hx113_1
     replace hx113_2:=xH HB hx113_2
     replace p113:=eq_true p113
     replace q113:=eq_true q113
     have p114:0≤(x6_1:Int):=od
     have q114:x6_1 < (l0.length:Int):=od
     obtain ⟨ad114,e114,hx114_0,hx114_1,hx114_2⟩:=at_T61 HR0.out x6_1 p114 q114
     obtain rfl:ad113=ad114:=(by injection e114)
     replace hx114_0:=xH HB hx114_0
     replace hx114_1:=xH HB hx114_1
     replace hx114_2:=xH HB hx114_2
     replace p114:=eq_true p114
     replace q114:=eq_true q114
     obtain ⟨hcz7_0,hcz7_1,hcz7_2,hfz7_0,hfz7_1,hfz7_2⟩:=b3 BK112
     go_wp2
     refine bodyPost_ret (results_ct rfl _ _ gb112 61 #[.int .i64 ((rd_T61 l0 x6_1).f0),.int .i64 ((rd_T61 l0 x6_1).f1),.int .i64 ((rd_T61 l0 x6_1).f2)] (0,0) _ rfl (by refine blk_put (cs:=#[.int .i64 ((rd_T61 l0 x6_1).f0),.int .i64 ((rd_T61 l0 x6_1).f1),.int .i64 x113002_1]) ?_ 2 _ rfl;refine blk_put (cs:=#[.int .i64 ((rd_T61 l0 x6_1).f0),.int .i64 x113001_1,.int .i64 x113002_1]) ?_ 1 _ rfl;refine blk_put (cs:=#[.int .i64 x113000_1,.int .i64 x113001_1,.int .i64 x113002_1]) ?_ 0 _ rfl;exact BK112.out) Try.underlying61 rfl (by kernel_rfl)) rfl ?_
     exact ⟨rz,be⟩
    ·rw [if_neg c6] at H
     have c6b0:(((rd_T61 l0 x6_1).f0) == a1)=false:=beq_eq_false_iff_ne.mpr c6
     have c6b1:(((rd_T61 l0 x6_1).f0) != a1)=true:=bne_iff_ne.mpr c6
     have H':=Aside0.mk H
     clear H
     have p113:0≤(x6_1:Int):=od
     have q113:x6_1 < (l0.length:Int):=od
     obtain ⟨ad113,e113,hx113_0,hx113_1,hx113_2⟩:=at_T61 HR0.out x6_1 p113 q113
     cases e113
     replace hx113_0:=xH HB hx113_0
     replace hx113_1:=xH HB hx113_1
     replace hx113_2:=xH HB hx113_2
     replace p113:=eq_true p113
     replace q113:=eq_true q113
     go_wp2
     go_roundg k1
     case measure=>have:=HK1.out;omega
     case rel=>exact ⟨(wrap64 (x6_1+1)),(x113000_1),(x113001_1),(x113002_1),rd_,H',⟨by have:=HK1.out;omega⟩,⟨bk BK112⟩,⟨be⟩⟩
   ·rw [if_neg c4] at H
    have c4b0:decide (x6_1 < (l0.length:Int))=false:=decide_eq_false c4
    clear c4
    simp only [Option.some.injEq,Prod.mk.injEq] at H
    obtain ⟨rfl,rfl,rfl,rfl⟩:=H
    obtain ⟨hcz8_0,hcz8_1,hcz8_2,hfz8_0,hfz8_1,hfz8_2⟩:=b3 BK112
    go_wp2
    refine bodyPost_ret (results_ct rfl _ _ gb112 61 #[.int .i64 0,.int .i64 0,.int .i64 0] (0,0) _ rfl (by refine blk_put (cs:=#[.int .i64 0,.int .i64 0,.int .i64 x113002_1]) ?_ 2 _ rfl;refine blk_put (cs:=#[.int .i64 0,.int .i64 x113001_1,.int .i64 x113002_1]) ?_ 1 _ rfl;refine blk_put (cs:=#[.int .i64 x113000_1,.int .i64 x113001_1,.int .i64 x113002_1]) ?_ 0 _ rfl;exact BK112.out) Try.underlying61 rfl (by kernel_rfl)) rfl ?_
    exact ⟨rz,be⟩
def spec_l5Zones.l0:Nat→List Int→List (S61)→List Int→Int→Option (List Int)
 | 0,_,_,_,_=>none
 | k+1,x0,x1,x5,x6=>if x6 < (x0.length:Int) then (if 0≤x6 then ((spec_DevAt.f k x1 (rd x0 x6)).bind fun bt119=>(if bt119.2.2.2=true then ((spec_l4Has.f k x5 bt119.2.1).bind fun t124=>(if t124=true then (spec_l5Zones.l0 k x0 x1 x5 (wrap64 (x6+1))) else (if x5.length < 17592186044416 then (spec_l5Zones.l0 k x0 x1 (x5 ++ [bt119.2.1]) (wrap64 (x6+1))) else (none)))) else (spec_l5Zones.l0 k x0 x1 x5 (wrap64 (x6+1))))) else (none)) else (some x5)
def spec_l5Zones.f (k:Nat) (l0:List Int) (l1:List (S61)):Option (List Int):=spec_l5Zones.l0 k l0 l1 (([]:List Int)) 0
set_option maxHeartbeats 8000000 in
set_option maxRecDepth 100000 in
theorem spec_l5Zones.calls (k:Nat) (A0:Option Addr) (c0:Nat) (l0:List Int) (A1:Option Addr) (c1:Nat) (l1:List (S61)) (r:List Int) (w:World) (hr0:Kd.C (Kd.int .i64) w A0 l0.length l0) (hc0:l0.length≤c0) (hr1:Kd.C k61 w A1 l1.length l1) (hc1:l1.length≤c1) (h:spec_l5Zones.f k l0 l1=some r) :
  Calls Try.prog 75 #[.slice A0 l0.length c0,.slice A1 l1.length c1] w fun e w'=>∃ v0_:Value,e = .returned (v0_)∧Kd.R (Kd.int .i64) 3 w' w.heap.size (fun _=>True) v0_ r∧Below w.heap.size w w':=by
 have hu61:=Try.underlying61
 have HR0:=aM hr0
 have HC0:=aM hc0
 clear hr0 hc0
 have HR1:=aM hr1
 have HC1:=aM hc1
 clear hr1 hc1
 have HB:=aM (Below.refl w.heap.size w)
 have H:(spec_l5Zones.l0 k l0 l1 (([]:List Int)) 0)=some r:=h
 clear h
 obtain ⟨y115,hy115⟩ : ∃ y_:List Int,y_=(([]:List Int)):=⟨_,rfl⟩
 replace H:(spec_l5Zones.l0 k l0 l1 y115 0)=some r:=by (rw [hy115];with_reducible exact H)
 have Ny115:=aM hy115
 clear hy115
 have H':=Aside0.mk H
 clear H
 go_enter Try.func75,Try.ntmps75
 go_wp2_with ((with_reducible refine gate_dst (N:=9) rfl ?_);refine Kd.R_lit (Kd.int .i64) _ 3 ?hg (N:=9) ?hd (xs:=([]:List Int)) (inner:=[]) (ok:=fun _=>True) (okp:=fun _=>True) ?hr ?hp (fun _ hk=>hk) trivial (Below.refl _ _) (Nat.le_refl _) (by simp) ?_;(case hd=>rfl);(case hg=>rfl);(case hr=>(go_simp;done));(case hp=>exact (Reps.none _ _));intro v116 w3 ho4 hb hg_ hnew_;clear hg_ hnew_;(rw [← Ny115.out] at ho4);have HO117:=aM (Kd.R_lower ho4 (below_size be));replace HB:=bs hb;clear hb ho4)
 go_loopg [5,6] k (fun kq v5 v6 w'=>∃ (x5_1:List Int) (x6_1:Int),v6 = .int .i64 x6_1∧Aside0 (spec_l5Zones.l0 kq l0 l1 x5_1 x6_1=some r)∧Aside0 (kq≤k)∧Aside0 (Kd.R (Kd.int .i64) 3 w' w.heap.size (fun _=>True) v5 x5_1)∧Aside0 (Below w.heap.size w w'))
 case atStart=>exact ⟨(y115),(0),rd_,H',⟨Nat.le_refl _⟩,⟨rR HO117⟩,⟨be⟩⟩
 case round=>
  clear H'
  obtain ⟨x5_1,x6_1,rfl,HA,HK1,HO_5,HB⟩:=hrel
  cases gk with
  | zero=>exact absurd HA.out (by simp [spec_l5Zones.l0])
  | succ k1=>
   have H:=HA.out
   clear HA
   simp only [spec_l5Zones.l0] at H
   by_cases c5:x6_1 < (l0.length:Int)
   ·rw [if_pos c5] at H
    have c5b0:decide (x6_1 < (l0.length:Int))=true:=decide_eq_true c5
    clear c5
    obtain ⟨c6,H⟩:=ifs H
    have c6b0:decide (0≤x6_1)=true:=decide_eq_true c6
    clear c6
    replace H:=Option.bind_eq_some_iff.mp H
    obtain ⟨⟨t119,t120,t121,t122⟩,A70,H⟩:=H
    try dsimp only at H
    have A7:=aM A70
    clear A70
    by_cases c8:t122=true
    ·subst c8
     rw [if_pos rfl] at H
     replace H:=Option.bind_eq_some_iff.mp H
     obtain ⟨t124,A90,H⟩:=H
     try dsimp only at H
     have A9:=aM A90
     clear A90
     by_cases c10:t124=true
     ·subst c10
      rw [if_pos rfl] at H
      have H':=Aside0.mk H
      clear H
      have p118:0≤(x6_1:Int):=od
      have q118:x6_1 < (l0.length:Int):=od
      obtain ⟨ad118,e118,hx118_0⟩:=Kd.at_int HR0.out x6_1 p118 q118
      cases e118
      replace hx118_0:=xH HB hx118_0
      replace p118:=eq_true p118
      replace q118:=eq_true q118
      go_wp2_with (first|((with_reducible refine gate_callee (f:=56) rfl ?_);refine goesL_ (some 22) rfl rfl Try.func56 (by kernel_rfl) rfl #[.slice A1 l1.length c1,.int .i64 (rd l0 x6_1)] rfl (by (try simp only [List.map_toArray,List.map_cons,List.map_nil]);rfl) ?_;(with_reducible refine (spec_DevAt.calls k1 _ _ l1 (rd l0 x6_1) t119 t120 t121 true _ ?side1 ?side2 A7.out).mono ?_);(case side1=>exact rC HR1);(case side2=>exact HC1.out);rintro e w11 ⟨rfl,hb⟩;refine ⟨_,rfl,?_⟩;replace HO_5:=rB HO_5 hb;replace HB:=bs hb;(try clear hb))|((with_reducible refine gate_dst (N:=7) rfl ?_);refine box_event ?hg (N:=7) ?hd (cs:=#[.int .i64 0,.int .i64 0,.int .i64 0]) (t:=61) ?hr ?_;(case hd=>rfl);(case hg=>rfl);(case hr=>(go_simp;done));intro gb123 hg w12 hbox hb;replace HO_5:=rB HO_5 hb;have BK123:=aM (hbox);have GW123:=gS w hg;have GE123:=gS w hg;replace HB:=bs hb;clear hb hbox hg;obtain ⟨hcz13_0,hcz13_1,hcz13_2,hfz13_0,hfz13_1,hfz13_2⟩:=b3 BK123;obtain ⟨Ao14,co14,eo14⟩:=Kd.R_slice HO_5.out;subst eo14)|(go_at_call 68;(with_reducible refine (spec_l4Has.calls k1 _ _ x5_1 t120 true _ ?side1 ?side2 A9.out).mono ?_);(case side1=>refine (Kd.R_reads' (e:=3) (base:=w.heap.size) (ok:=fun k_=>True) (n:=x5_1.length) (c:=co14) ?_).2.2;exact (by exact (Kd.R_mono (Kd.R_far (p:=⟨gb123,2,none⟩) (Kd.R_far (p:=⟨gb123,1,none⟩) (Kd.R_far (p:=⟨gb123,0,none⟩) (Kd.R_types HO_5.out BK123.out (by decide)) (fun _ hk=>hk.2) (.int .i64 t119)) (fun _ hk=>hk.2) (.int .i64 t120)) (fun _ hk=>hk.2) (.int .i64 t121)) (fun _ h_=>h_.1))));(case side2=>exact (Kd.R_reads' HO_5.out).2.1);rintro e w' ⟨rfl,⟨nd,rfl⟩⟩))
      go_roundg k1
      case measure=>have:=HK1.out;omega
      case rel=>exact ⟨(x5_1),(wrap64 (x6_1+1)),rd_,H',⟨by have:=HK1.out;omega⟩,⟨by (with_reducible repeat (apply Kd.R_drewN));exact Kd.R_mono (Kd.R_far (p:=⟨gb123,2,none⟩) (Kd.R_far (p:=⟨gb123,1,none⟩) (Kd.R_far (p:=⟨gb123,0,none⟩) (Kd.R_types HO_5.out BK123.out (by decide)) (fun _ hk=>hk.2) (.int .i64 t119)) (fun _ hk=>hk.2) (.int .i64 t120)) (fun _ hk=>hk.2) (.int .i64 t121)) (fun _ hk=>trivial)⟩,⟨be⟩⟩
     ·replace c10:=Bool.eq_false_iff.mpr c10
      subst c10
      replace H:=(if_neg (show ¬ (false=true) by decide)).symm.trans H
      obtain ⟨c15,H⟩:=ifs H
      have LMc15:=aM c15
      clear c15
      obtain ⟨y125,hy125⟩ : ∃ y_:List Int,y_=(x5_1 ++ [t120]):=⟨_,rfl⟩
      replace H:(spec_l5Zones.l0 k1 l0 l1 y125 (wrap64 (x6_1+1)))=some r:=by (rw [hy125];with_reducible exact H)
      have Ny125:=aM hy125
      clear hy125
      have H':=Aside0.mk H
      clear H
      have p118:0≤(x6_1:Int):=od
      have q118:x6_1 < (l0.length:Int):=od
      obtain ⟨ad118,e118,hx118_0⟩:=Kd.at_int HR0.out x6_1 p118 q118
      cases e118
      replace hx118_0:=xH HB hx118_0
      replace p118:=eq_true p118
      replace q118:=eq_true q118
      go_wp2_with (first|((with_reducible refine gate_callee (f:=56) rfl ?_);refine goesL_ (some 22) rfl rfl Try.func56 (by kernel_rfl) rfl #[.slice A1 l1.length c1,.int .i64 (rd l0 x6_1)] rfl (by (try simp only [List.map_toArray,List.map_cons,List.map_nil]);rfl) ?_;(with_reducible refine (spec_DevAt.calls k1 _ _ l1 (rd l0 x6_1) t119 t120 t121 true _ ?side1 ?side2 A7.out).mono ?_);(case side1=>exact rC HR1);(case side2=>exact HC1.out);rintro e w16 ⟨rfl,hb⟩;refine ⟨_,rfl,?_⟩;replace HO_5:=rB HO_5 hb;replace HB:=bs hb;(try clear hb))|((with_reducible refine gate_dst (N:=7) rfl ?_);refine box_event ?hg (N:=7) ?hd (cs:=#[.int .i64 0,.int .i64 0,.int .i64 0]) (t:=61) ?hr ?_;(case hd=>rfl);(case hg=>rfl);(case hr=>(go_simp;done));intro gb123 hg w17 hbox hb;replace HO_5:=rB HO_5 hb;have BK123:=aM (hbox);have GW123:=gS w hg;have GE123:=gS w hg;replace HB:=bs hb;clear hb hbox hg;obtain ⟨hcz18_0,hcz18_1,hcz18_2,hfz18_0,hfz18_1,hfz18_2⟩:=b3 BK123;obtain ⟨Ao19,co19,eo19⟩:=Kd.R_slice HO_5.out;subst eo19)|(go_at_call 68;(with_reducible refine (spec_l4Has.calls k1 _ _ x5_1 t120 false _ ?side1 ?side2 A9.out).mono ?_);(case side1=>refine (Kd.R_reads' (e:=3) (base:=w.heap.size) (ok:=fun k_=>True) (n:=x5_1.length) (c:=co19) ?_).2.2;exact (by exact (Kd.R_mono (Kd.R_far (p:=⟨gb123,2,none⟩) (Kd.R_far (p:=⟨gb123,1,none⟩) (Kd.R_far (p:=⟨gb123,0,none⟩) (Kd.R_types HO_5.out BK123.out (by decide)) (fun _ hk=>hk.2) (.int .i64 t119)) (fun _ hk=>hk.2) (.int .i64 t120)) (fun _ hk=>hk.2) (.int .i64 t121)) (fun _ h_=>h_.1))));(case side2=>exact (Kd.R_reads' HO_5.out).2.1);rintro e w' ⟨rfl,⟨nd,rfl⟩⟩)|((with_reducible refine gate_builtin (b:=.append) (xs:=#[.tmp 33,.tmp 36]) rfl ?_);at_builtin;refine Kd.R_append (Kd.int .i64) (w0:=w) w.heap.size rfl (.tmp 33) (.tmp 36) 33 3 (.int .i64 0) 8 rfl Try.underlying33 info3 rfl (by decide) (by omega) (.slice Ao19 x5_1.length co19) x5_1 t120 [.int .i64 t120] (fun _=>True) (fun _=>False) rfl (by (go_simp;done)) ?aP (fun _ hk=>hk.elim) ?aF ?aO ?aB ?aS ?aL ?_;(case aP=>exact rfl);(case aB=>exact be);(case aF=>exact (fun _ _=>trivial));(case aO=>exact (by (with_reducible repeat (apply Kd.R_drewN));exact Kd.R_mono (Kd.R_far (p:=⟨gb123,2,none⟩) (Kd.R_far (p:=⟨gb123,1,none⟩) (Kd.R_far (p:=⟨gb123,0,none⟩) (Kd.R_types HO_5.out BK123.out (by decide)) (fun _ hk=>hk.2) (.int .i64 t119)) (fun _ hk=>hk.2) (.int .i64 t120)) (fun _ hk=>hk.2) (.int .i64 t121)) (fun _ hk=>trivial)));(case aS=>exact (below_size be));(case aL=>have:=LMc15.out;omega);intro v126 w20 ho hb hg hat;rw [← Ny125.out] at ho;replace HB:=aM (hb);have HO127:=aM (ho);clear BK123 HO_5;clear ho hb hg hat))
      go_roundg k1
      case measure=>have:=HK1.out;omega
      case rel=>exact ⟨(y125),(wrap64 (x6_1+1)),rd_,H',⟨by have:=HK1.out;omega⟩,⟨rR HO127⟩,⟨be⟩⟩
    ·replace c8:=Bool.eq_false_iff.mpr c8
     subst c8
     replace H:=(if_neg (show ¬ (false=true) by decide)).symm.trans H
     have H':=Aside0.mk H
     clear H
     have p118:0≤(x6_1:Int):=od
     have q118:x6_1 < (l0.length:Int):=od
     obtain ⟨ad118,e118,hx118_0⟩:=Kd.at_int HR0.out x6_1 p118 q118
     cases e118
     replace hx118_0:=xH HB hx118_0
     replace p118:=eq_true p118
     replace q118:=eq_true q118
     go_wp2_with (first|((with_reducible refine gate_callee (f:=56) rfl ?_);refine goesL_ (some 22) rfl rfl Try.func56 (by kernel_rfl) rfl #[.slice A1 l1.length c1,.int .i64 (rd l0 x6_1)] rfl (by (try simp only [List.map_toArray,List.map_cons,List.map_nil]);rfl) ?_;(with_reducible refine (spec_DevAt.calls k1 _ _ l1 (rd l0 x6_1) t119 t120 t121 false _ ?side1 ?side2 A7.out).mono ?_);(case side1=>exact rC HR1);(case side2=>exact HC1.out);rintro e w21 ⟨rfl,hb⟩;refine ⟨_,rfl,?_⟩;replace HO_5:=rB HO_5 hb;replace HB:=bs hb;(try clear hb))|((with_reducible refine gate_dst (N:=7) rfl ?_);refine box_event ?hg (N:=7) ?hd (cs:=#[.int .i64 0,.int .i64 0,.int .i64 0]) (t:=61) ?hr ?_;(case hd=>rfl);(case hg=>rfl);(case hr=>(go_simp;done));intro gb123 hg w22 hbox hb;replace HO_5:=rB HO_5 hb;have BK123:=aM (hbox);have GW123:=gS w hg;have GE123:=gS w hg;replace HB:=bs hb;clear hb hbox hg;obtain ⟨hcz23_0,hcz23_1,hcz23_2,hfz23_0,hfz23_1,hfz23_2⟩:=b3 BK123))
     go_roundg k1
     case measure=>have:=HK1.out;omega
     case rel=>exact ⟨(x5_1),(wrap64 (x6_1+1)),rd_,H',⟨by have:=HK1.out;omega⟩,⟨by exact Kd.R_mono (Kd.R_far (p:=⟨gb123,2,none⟩) (Kd.R_far (p:=⟨gb123,1,none⟩) (Kd.R_far (p:=⟨gb123,0,none⟩) (Kd.R_types HO_5.out BK123.out (by decide)) (fun _ hk=>hk.2) (.int .i64 t119)) (fun _ hk=>hk.2) (.int .i64 t120)) (fun _ hk=>hk.2) (.int .i64 t121)) (fun _ hk=>trivial)⟩,⟨be⟩⟩
   ·rw [if_neg c5] at H
    have c5b0:decide (x6_1 < (l0.length:Int))=false:=decide_eq_false c5
    clear c5
    obtain rfl:=Option.some.inj H
    go_wp2
    go_ret
    exact ⟨_,rz,rR HO_5,be⟩
mutual
def spec_LoadOf.l0:Nat→Int→Int→Int→Int→List (S35)→Option (Int)
 | 0,_,_,_,_,_=>none
 | k+1,x1,x5,x6,x129000,x129001=>if x6 < (x129001.length:Int) then (spec_LoadOf.l1 k x1 x5 x6 0 x129000 x129001) else (some x5)
def spec_LoadOf.l1:Nat→Int→Int→Int→Int→Int→List (S35)→Option (Int)
 | 0,_,_,_,_,_,_=>none
 | k+1,x1,x5,x6,x7,x129000,x129001=>if 0≤x6 then (if x6 < (x129001.length:Int) then (if x7 < (((rd_T35 x129001 x6).f0).length:Int) then (if 0≤x7 then (if (rd ((rd_T35 x129001 x6).f0) x7)=x1 then (spec_LoadOf.l1 k x1 (wrap64 (x5+1)) x6 (wrap64 (x7+1)) x129000 x129001) else (spec_LoadOf.l1 k x1 x5 x6 (wrap64 (x7+1)) x129000 x129001)) else (none)) else (spec_LoadOf.l0 k x1 x5 (wrap64 (x6+1)) x129000 x129001)) else (none)) else (none)
end
def spec_LoadOf.f (k:Nat) (a0_0:Int) (l0_1:List (S35)) (a1:Int):Option (Int):=spec_LoadOf.l0 k a1 0 0 a0_0 l0_1
set_option maxHeartbeats 8000000 in
set_option maxRecDepth 100000 in
theorem spec_LoadOf.calls (k:Nat) (a0_0:Int) (A0_1:Option Addr) (c0_1:Nat) (l0_1:List (S35)) (a1:Int) (r:Int) (w:World) (hr0_1:Kd.C k35 w A0_1 l0_1.length l0_1) (hc0_1:l0_1.length≤c0_1) (h:spec_LoadOf.f k a0_0 l0_1 a1=some r) :
  Calls Try.prog 76 #[.agg #[.int .i64 a0_0,.slice A0_1 l0_1.length c0_1],.int .i64 a1] w fun e w'=>e = .returned (.int .i64 r)∧Below w.heap.size w w':=by
 have hu26:=Try.underlying26
 have HR0_1:=aM hr0_1
 have HC0_1:=aM hc0_1
 clear hr0_1 hc0_1
 have HB:=aM (Below.refl w.heap.size w)
 have H:(spec_LoadOf.l0 k a1 0 0 a0_0 l0_1)=some r:=h
 clear h
 have H':=Aside0.mk H
 clear H
 go_enter Try.func76,Try.ntmps76
 go_wp2_with ((with_reducible refine gate_dst (N:=2) rfl ?_);refine box_event ?hg (N:=2) ?hd (cs:=#[.int .i64 a0_0,.slice A0_1 l0_1.length c0_1]) (t:=26) ?hr ?_;(case hd=>rfl);(case hg=>rfl);(case hr=>(go_simp;done));intro gb128 hg w3 hbox hb;have BK128:=aM (hbox);have GW128:=gS w hg;replace HB:=bs hb;clear hb hbox hg)
 go_loopg [5,6] k (fun kq v5 v6 w'=>∃ (x5_1:Int) (x6_1:Int),v5 = .int .i64 x5_1∧v6 = .int .i64 x6_1∧Aside0 (spec_LoadOf.l0 kq a1 x5_1 x6_1 a0_0 l0_1=some r)∧Aside0 (kq≤k)∧Aside0 (w'.heap[gb128]?=some (.cells #[.int .i64 a0_0,(.slice A0_1 l0_1.length c0_1)] 26 (0,0)))∧Aside0 (Below w.heap.size w w'))
 case atStart=>exact ⟨(0),(0),rd_,rd_,H',⟨Nat.le_refl _⟩,⟨bk BK128⟩,⟨be⟩⟩
 case round=>
  clear H'
  obtain ⟨x5_1,x6_1,rfl,rfl,HA,HK1,BK128,HB⟩:=hrel
  cases gk with
  | zero=>exact absurd HA.out (by simp [spec_LoadOf.l0])
  | succ k1=>
   have H:=HA.out
   clear HA
   simp only [spec_LoadOf.l0] at H
   by_cases c4:x6_1 < (l0_1.length:Int)
   ·rw [if_pos c4] at H
    have c4b0:decide (x6_1 < (l0_1.length:Int))=true:=decide_eq_true c4
    clear c4
    have H':=Aside0.mk H
    clear H
    obtain ⟨hcz5_0,hcz5_1,hfz5_0,hfz5_1⟩:=b2 BK128
    go_wp2
    go_loopg [5,7] k1 (fun kq v5 v7 w'=>∃ (x5_2:Int) (x7_2:Int),v5 = .int .i64 x5_2∧v7 = .int .i64 x7_2∧Aside0 (spec_LoadOf.l1 kq a1 x5_2 x6_1 x7_2 a0_0 l0_1=some r)∧Aside0 (kq≤k1)∧Aside0 (w'.heap[gb128]?=some (.cells #[.int .i64 a0_0,(.slice A0_1 l0_1.length c0_1)] 26 (0,0)))∧Aside0 (Below w.heap.size w w'))
    case atStart=>exact ⟨(x5_1),(0),rd_,rd_,H',⟨Nat.le_refl _⟩,⟨bk BK128⟩,⟨be⟩⟩
    case round=>
     clear H'
     try clear c4b0
     try clear hcz5_0
     try clear hcz5_1
     try clear hfz5_0
     try clear hfz5_1
     obtain ⟨x5_2,x7_2,rfl,rfl,HA,HK2,BK128,HB⟩:=hrel
     cases gk with
     | zero=>exact absurd HA.out (by simp [spec_LoadOf.l1])
     | succ k2=>
      have H:=HA.out
      clear HA
      simp only [spec_LoadOf.l1] at H
      obtain ⟨c6,H⟩:=ifs H
      have c6b0:decide (0≤x6_1)=true:=decide_eq_true c6
      clear c6
      obtain ⟨c7,H⟩:=ifs H
      have c7b0:decide (x6_1 < (l0_1.length:Int))=true:=decide_eq_true c7
      clear c7
      by_cases c8:x7_2 < (((rd_T35 l0_1 x6_1).f0).length:Int)
      ·rw [if_pos c8] at H
       have c8b0:decide (x7_2 < (((rd_T35 l0_1 x6_1).f0).length:Int))=true:=decide_eq_true c8
       clear c8
       obtain ⟨c9,H⟩:=ifs H
       have c9b0:decide (0≤x7_2)=true:=decide_eq_true c9
       clear c9
       by_cases c10:(rd ((rd_T35 l0_1 x6_1).f0) x7_2)=a1
       ·rw [if_pos c10] at H
        have c10b0:((rd ((rd_T35 l0_1 x6_1).f0) x7_2) == a1)=true:=beq_iff_eq.mpr c10
        have c10b1:((rd ((rd_T35 l0_1 x6_1).f0) x7_2) != a1)=false:=bne_eq_false_iff_eq.mpr c10
        clear c10
        have H':=Aside0.mk H
        clear H
        obtain ⟨hcz11_0,hcz11_1,hfz11_0,hfz11_1⟩:=b2 BK128
        have p129:0≤(x6_1:Int):=od
        have q129:x6_1 < (l0_1.length:Int):=od
        obtain ⟨ad129,A129_0,c129_0,e129,hx129_0,hl129_0,hi129_0⟩:=at_T35 HR0_1.out x6_1 p129 q129
        cases e129
        replace hx129_0:=xH HB hx129_0
        have HR129_0:=aM hi129_0
        have HC129_0:=aM hl129_0
        clear hi129_0 hl129_0
        replace p129:=eq_true p129
        replace q129:=eq_true q129
        have p130:0≤(x6_1:Int):=od
        have q130:x6_1 < (l0_1.length:Int):=od
        obtain ⟨ad130,A130_0,c130_0,e130,hx130_0,hl130_0,hi130_0⟩:=at_T35 HR0_1.out x6_1 p130 q130
        obtain rfl:ad129=ad130:=(by injection e130)
        replace hx130_0:=xH HB hx130_0
        have HR130_0:=aM hi130_0
        have HC130_0:=aM hl130_0
        clear hi130_0 hl130_0
        replace p130:=eq_true p130
        replace q130:=eq_true q130
        have ea_:=Option.some.inj (hx129_0.symm.trans hx130_0)
        injection ea_ with ea_ en_ ec_
        subst ea_
        subst ec_
        clear en_
        have p131:0≤(x7_2:Int):=od
        have q131:x7_2 < (((rd_T35 l0_1 x6_1).f0).length:Int):=od
        obtain ⟨ad131,e131,hx131_0⟩:=Kd.at_int HR130_0.out x7_2 p131 q131
        cases e131
        replace hx131_0:=xH HB hx131_0
        replace p131:=eq_true p131
        replace q131:=eq_true q131
        go_wp2
        go_roundg k2
        case measure=>have:=HK1.out;have:=HK2.out;omega
        case rel=>exact ⟨(wrap64 (x5_2+1)),(wrap64 (x7_2+1)),rd_,rd_,H',⟨by have:=HK1.out;have:=HK2.out;omega⟩,⟨bk BK128⟩,⟨be⟩⟩
       ·rw [if_neg c10] at H
        have c10b0:((rd ((rd_T35 l0_1 x6_1).f0) x7_2) == a1)=false:=beq_eq_false_iff_ne.mpr c10
        have c10b1:((rd ((rd_T35 l0_1 x6_1).f0) x7_2) != a1)=true:=bne_iff_ne.mpr c10
        have H':=Aside0.mk H
        clear H
        obtain ⟨hcz12_0,hcz12_1,hfz12_0,hfz12_1⟩:=b2 BK128
        have p129:0≤(x6_1:Int):=od
        have q129:x6_1 < (l0_1.length:Int):=od
        obtain ⟨ad129,A129_0,c129_0,e129,hx129_0,hl129_0,hi129_0⟩:=at_T35 HR0_1.out x6_1 p129 q129
        cases e129
        replace hx129_0:=xH HB hx129_0
        have HR129_0:=aM hi129_0
        have HC129_0:=aM hl129_0
        clear hi129_0 hl129_0
        replace p129:=eq_true p129
        replace q129:=eq_true q129
        have p130:0≤(x6_1:Int):=od
        have q130:x6_1 < (l0_1.length:Int):=od
        obtain ⟨ad130,A130_0,c130_0,e130,hx130_0,hl130_0,hi130_0⟩:=at_T35 HR0_1.out x6_1 p130 q130
        obtain rfl:ad129=ad130:=(by injection e130)
        replace hx130_0:=xH HB hx130_0
        have HR130_0:=aM hi130_0
        have HC130_0:=aM hl130_0
        clear hi130_0 hl130_0
        replace p130:=eq_true p130
        replace q130:=eq_true q130
        have ea_:=Option.some.inj (hx129_0.symm.trans hx130_0)
        injection ea_ with ea_ en_ ec_
        subst ea_
        subst ec_
        clear en_
        have p131:0≤(x7_2:Int):=od
        have q131:x7_2 < (((rd_T35 l0_1 x6_1).f0).length:Int):=od
        obtain ⟨ad131,e131,hx131_0⟩:=Kd.at_int HR130_0.out x7_2 p131 q131
        cases e131
        replace hx131_0:=xH HB hx131_0
        replace p131:=eq_true p131
        replace q131:=eq_true q131
        go_wp2
        go_roundg k2
        case measure=>have:=HK1.out;have:=HK2.out;omega
        case rel=>exact ⟨(x5_2),(wrap64 (x7_2+1)),rd_,rd_,H',⟨by have:=HK1.out;have:=HK2.out;omega⟩,⟨bk BK128⟩,⟨be⟩⟩
      ·rw [if_neg c8] at H
       have c8b0:decide (x7_2 < (((rd_T35 l0_1 x6_1).f0).length:Int))=false:=decide_eq_false c8
       clear c8
       have H':=Aside0.mk H
       clear H
       obtain ⟨hcz13_0,hcz13_1,hfz13_0,hfz13_1⟩:=b2 BK128
       have p129:0≤(x6_1:Int):=od
       have q129:x6_1 < (l0_1.length:Int):=od
       obtain ⟨ad129,A129_0,c129_0,e129,hx129_0,hl129_0,hi129_0⟩:=at_T35 HR0_1.out x6_1 p129 q129
       cases e129
       replace hx129_0:=xH HB hx129_0
       have HR129_0:=aM hi129_0
       have HC129_0:=aM hl129_0
       clear hi129_0 hl129_0
       replace p129:=eq_true p129
       replace q129:=eq_true q129
       go_wp2
       go_roundg k2
       case measure=>have:=HK1.out;have:=HK2.out;omega
       case rel=>exact ⟨(x5_2),(wrap64 (x6_1+1)),rd_,rd_,H',⟨by have:=HK1.out;have:=HK2.out;omega⟩,⟨bk BK128⟩,⟨be⟩⟩
   ·rw [if_neg c4] at H
    have c4b0:decide (x6_1 < (l0_1.length:Int))=false:=decide_eq_false c4
    clear c4
    obtain rfl:=Option.some.inj H
    obtain ⟨hcz14_0,hcz14_1,hfz14_0,hfz14_1⟩:=b2 BK128
    go_wp2
    go_ret
    exact ⟨rz,be⟩
end Go.Proofs.Ytpbjbfimnfghkaa.PFnRebalanced
