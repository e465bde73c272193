/- Trimmed by a program of this session (trim.py). Not trusted: Lean checks it. -/
import Derived.Test.YtpbjbfimnfghkaaTLRebalancedPFnRebalancedx0
import Derived.Test.YtpbjbfimnfghkaaTLRebalancedPFnRebalancedx9
namespace Go.Proofs.Ytpbjbfimnfghkaa.PFnRebalanced
open Go.RowKit Go.Proofs.YtpbjbfimnfghkaaW.PrintWords Go.Proofs.YtpbjbfimnfghkaaW.PrintLast Go.Proofs.YtpbjbfimnfghkaaW.PrintMore Go.Proofs.Ytpbjbfimnfghkaa.St
attribute [local go_sem] max2_int min2_int max_two min_two max_three min_three max_four min_four
set_option linter.unusedVariables false
set_option linter.unusedSimpArgs false
mutual
def impl_LoadOf.l0:Nat→Int→Int→List (S35)→Int→Int→Option (Int)
 | 0,_,_,_,_,_=>none
 | k+1,x1,x5,x11,x12,x13=>if x13 < x12 then (if 0≤x13 then (if x13 < (x11.length:Int) then (impl_LoadOf.l1 k x1 x5 x11 x12 x13 ((rd_T35 x11 x13).f0) (((rd_T35 x11 x13).f0).length:Int) 0) else (none)) else (none)) else (some x5)
def impl_LoadOf.l1:Nat→Int→Int→List (S35)→Int→Int→List Int→Int→Int→Option (Int)
 | 0,_,_,_,_,_,_,_,_=>none
 | k+1,x1,x5,x11,x12,x13,x18,x19,x20=>if x20 < x19 then (if 0≤x20 then (if x20 < (x18.length:Int) then (if (rd x18 x20)=x1 then (impl_LoadOf.l1 k x1 (wrap64 (x5+1)) x11 x12 x13 x18 x19 (wrap64 (x20+1))) else (impl_LoadOf.l1 k x1 x5 x11 x12 x13 x18 x19 (wrap64 (x20+1)))) else (none)) else (none)) else (impl_LoadOf.l0 k x1 x5 x11 x12 (wrap64 (x13+1)))
end
def impl_LoadOf.f (k:Nat) (a0_0:Int) (l0_1:List (S35)) (a1:Int):Option (Int):=impl_LoadOf.l0 k a1 0 l0_1 (l0_1.length:Int) 0
set_option maxHeartbeats 8000000 in
set_option maxRecDepth 100000 in
theorem impl_LoadOf.calls (k:Nat) (a0_0:Int) (A0_1:Option Addr) (c0_1:Nat) (l0_1:List (S35)) (a1:Int) (r:Int) (w:World) (hr0_1:Kd.C k35 w A0_1 l0_1.length l0_1) (hc0_1:l0_1.length≤c0_1) (h:impl_LoadOf.f k a0_0 l0_1 a1=some r) :
  Calls Try.prog 35 #[.agg #[.int .i64 a0_0,.slice A0_1 l0_1.length c0_1],.int .i64 a1] w fun e w'=>e = .returned (.int .i64 r)∧Below w.heap.size w w':=by
 have hu26:=Try.underlying26
 have hu35:=Try.underlying35
 have HR0_1:=aM hr0_1
 have HC0_1:=aM hc0_1
 clear hr0_1 hc0_1
 have HB:=aM (Below.refl w.heap.size w)
 have H:(impl_LoadOf.l0 k a1 0 l0_1 (l0_1.length:Int) 0)=some r:=h
 clear h
 have H':=Aside0.mk H
 clear H
 go_enter Try.func35,Try.ntmps35
 go_wp2_with ((with_reducible refine gate_dst (N:=2) rfl ?_);refine box_event ?hg (N:=2) ?hd (cs:=#[.int .i64 a0_0,.slice A0_1 l0_1.length c0_1]) (t:=26) ?hr ?_;(case hd=>rfl);(case hg=>rfl);(case hr=>(go_simp;done));intro gb445 hg w3 hbox hb;have BK445:=aM (hbox);have GW445:=gS w hg;replace HB:=bs hb;clear hb hbox hg;obtain ⟨hcz4_0,hcz4_1,hfz4_0,hfz4_1⟩:=b2 BK445)
 go_loopg [5,13] k (fun kq v5 v13 w'=>∃ (x5_1:Int) (x13_1:Int),v5 = .int .i64 x5_1∧v13 = .int .i64 x13_1∧Aside0 (impl_LoadOf.l0 kq a1 x5_1 l0_1 (l0_1.length:Int) x13_1=some r)∧Aside0 (kq≤k)∧Aside0 (w'.heap[gb445]?=some (.cells #[.int .i64 a0_0,(.slice A0_1 l0_1.length c0_1)] 26 (0,0)))∧Aside0 (Below w.heap.size w w'))
 case atStart=>exact ⟨(0),(0),rd_,rd_,H',⟨Nat.le_refl _⟩,⟨bk BK445⟩,⟨be⟩⟩
 case round=>
  clear H'
  try clear hcz4_0
  try clear hcz4_1
  try clear hfz4_0
  try clear hfz4_1
  obtain ⟨x5_1,x13_1,rfl,rfl,HA,HK1,BK445,HB⟩:=hrel
  cases gk with
  | zero=>exact absurd HA.out (by simp [impl_LoadOf.l0])
  | succ k1=>
   have H:=HA.out
   clear HA
   simp only [impl_LoadOf.l0] at H
   by_cases c5:x13_1 < (l0_1.length:Int)
   ·rw [if_pos c5] at H
    have c5b0:decide (x13_1 < (l0_1.length:Int))=true:=decide_eq_true c5
    clear c5
    obtain ⟨c6,H⟩:=ifs H
    have c6b0:decide (0≤x13_1)=true:=decide_eq_true c6
    clear c6
    obtain ⟨c7,H⟩:=ifs H
    have c7b0:decide (x13_1 < (l0_1.length:Int))=true:=decide_eq_true c7
    clear c7
    have H':=Aside0.mk H
    clear H
    have p446:0≤(x13_1:Int):=od
    have q446:x13_1 < (l0_1.length:Int):=od
    obtain ⟨ad446,A446_0,c446_0,e446,hx446_0,hl446_0,hi446_0⟩:=at_T35 HR0_1.out x13_1 p446 q446
    cases e446
    replace hx446_0:=xH HB hx446_0
    have HR446_0:=aM hi446_0
    have HC446_0:=aM hl446_0
    clear hi446_0 hl446_0
    replace p446:=eq_true p446
    replace q446:=eq_true q446
    go_wp2_with ((with_reducible refine gate_dst (N:=7) rfl ?_);refine box_event ?hg (N:=7) ?hd (cs:=#[.slice none 0 0]) (t:=35) ?hr ?_;(case hd=>rfl);(case hg=>rfl);(case hr=>(go_simp;done));intro gb447 hg w8 hbox hb;have BK447:=aM (hbox);have GW447:=gS w hg;replace HB:=bs hb;have NB445_447:=nL hg BK445;have NB447_445:=nG hg BK445;replace BK445:=bB BK445 hb;clear hb hbox hg;have hnb9:=NB447_445.out;have hnc9:=NB445_447.out;obtain ⟨hcz10_0,hfz10_0⟩:=b1 BK447)
    go_loopg [5,20] k1 (fun kq v5 v20 w'=>∃ (x5_2:Int) (x20_2:Int),v5 = .int .i64 x5_2∧v20 = .int .i64 x20_2∧Aside0 (impl_LoadOf.l1 kq a1 x5_2 l0_1 (l0_1.length:Int) x13_1 ((rd_T35 l0_1 x13_1).f0) (((rd_T35 l0_1 x13_1).f0).length:Int) x20_2=some r)∧Aside0 (kq≤k1)∧Aside0 (w'.heap[gb445]?=some (.cells #[.int .i64 a0_0,(.slice (some ad446) l0_1.length c0_1)] 26 (0,0)))∧Aside0 (w'.heap[gb447]?=some (.cells #[(.slice A446_0 ((rd_T35 l0_1 x13_1).f0).length c446_0)] 35 (0,0)))∧Aside0 (Below w.heap.size w w'))
    case atStart=>exact ⟨(x5_1),(0),rd_,rd_,H',⟨Nat.le_refl _⟩,⟨by refine blk_far ?_ NB445_447.out _;exact BK445.out⟩,⟨by refine blk_put (cs:=#[.slice none 0 0]) ?_ 0 _ rfl;exact BK447.out⟩,⟨be⟩⟩
    case round=>
     clear H'
     try clear c5b0
     try clear c6b0
     try clear c7b0
     try clear hcz10_0
     try clear hfz10_0
     try clear hx446_0
     try clear p446
     try clear q446
     obtain ⟨x5_2,x20_2,rfl,rfl,HA,HK2,BK445,BK447,HB⟩:=hrel
     cases gk with
     | zero=>exact absurd HA.out (by simp [impl_LoadOf.l1])
     | succ k2=>
      have H:=HA.out
      clear HA
      simp only [impl_LoadOf.l1] at H
      by_cases c11:x20_2 < (((rd_T35 l0_1 x13_1).f0).length:Int)
      ·rw [if_pos c11] at H
       have c11b0:decide (x20_2 < (((rd_T35 l0_1 x13_1).f0).length:Int))=true:=decide_eq_true c11
       clear c11
       obtain ⟨c12,H⟩:=ifs H
       have c12b0:decide (0≤x20_2)=true:=decide_eq_true c12
       clear c12
       obtain ⟨c13,H⟩:=ifs H
       have c13b0:decide (x20_2 < (((rd_T35 l0_1 x13_1).f0).length:Int))=true:=decide_eq_true c13
       clear c13
       by_cases c14:(rd ((rd_T35 l0_1 x13_1).f0) x20_2)=a1
       ·rw [if_pos c14] at H
        have c14b0:((rd ((rd_T35 l0_1 x13_1).f0) x20_2) == a1)=true:=beq_iff_eq.mpr c14
        have c14b1:((rd ((rd_T35 l0_1 x13_1).f0) x20_2) != a1)=false:=bne_eq_false_iff_eq.mpr c14
        clear c14
        have H':=Aside0.mk H
        clear H
        have p448:0≤(x20_2:Int):=od
        have q448:x20_2 < (((rd_T35 l0_1 x13_1).f0).length:Int):=od
        obtain ⟨ad448,e448,hx448_0⟩:=Kd.at_int HR446_0.out x20_2 p448 q448
        cases e448
        replace hx448_0:=xH HB hx448_0
        replace p448:=eq_true p448
        replace q448:=eq_true q448
        go_wp2
        go_roundg k2
        case measure=>have:=HK1.out;have:=HK2.out;omega
        case rel=>exact ⟨(wrap64 (x5_2+1)),(wrap64 (x20_2+1)),rd_,rd_,H',⟨by have:=HK1.out;have:=HK2.out;omega⟩,⟨bk BK445⟩,⟨bk BK447⟩,⟨be⟩⟩
       ·rw [if_neg c14] at H
        have c14b0:((rd ((rd_T35 l0_1 x13_1).f0) x20_2) == a1)=false:=beq_eq_false_iff_ne.mpr c14
        have c14b1:((rd ((rd_T35 l0_1 x13_1).f0) x20_2) != a1)=true:=bne_iff_ne.mpr c14
        have H':=Aside0.mk H
        clear H
        have p448:0≤(x20_2:Int):=od
        have q448:x20_2 < (((rd_T35 l0_1 x13_1).f0).length:Int):=od
        obtain ⟨ad448,e448,hx448_0⟩:=Kd.at_int HR446_0.out x20_2 p448 q448
        cases e448
        replace hx448_0:=xH HB hx448_0
        replace p448:=eq_true p448
        replace q448:=eq_true q448
        go_wp2
        go_roundg k2
        case measure=>have:=HK1.out;have:=HK2.out;omega
        case rel=>exact ⟨(x5_2),(wrap64 (x20_2+1)),rd_,rd_,H',⟨by have:=HK1.out;have:=HK2.out;omega⟩,⟨bk BK445⟩,⟨bk BK447⟩,⟨be⟩⟩
      ·rw [if_neg c11] at H
       have c11b0:decide (x20_2 < (((rd_T35 l0_1 x13_1).f0).length:Int))=false:=decide_eq_false c11
       clear c11
       have H':=Aside0.mk H
       clear H
       go_wp2
       go_roundg k2
       case measure=>have:=HK1.out;have:=HK2.out;omega
       case rel=>exact ⟨(x5_2),(wrap64 (x13_1+1)),rd_,rd_,H',⟨by have:=HK1.out;have:=HK2.out;omega⟩,⟨bk BK445⟩,⟨be⟩⟩
   ·rw [if_neg c5] at H
    have c5b0:decide (x13_1 < (l0_1.length:Int))=false:=decide_eq_false c5
    clear c5
    obtain rfl:=Option.some.inj H
    go_wp2
    go_ret
    exact ⟨rz,be⟩
def impl_zonesIn.l0:Nat→List (S61)→List Int→List Int→Int→Int→Option (List Int)
 | 0,_,_,_,_,_=>none
 | k+1,x1,x5,x10,x11,x12=>if x12 < x11 then (if 0≤x12 then (if x12 < (x10.length:Int) then ((impl_DevAt.f k x1 (rd x10 x12)).bind fun bt450=>(if bt450.2.2.2=true then ((impl_hasInt.f k x5 bt450.2.1).bind fun t455=>(if t455=true then (impl_zonesIn.l0 k x1 x5 x10 x11 (wrap64 (x12+1))) else (if x5.length < 17592186044416 then (impl_zonesIn.l0 k x1 (x5 ++ [bt450.2.1]) x10 x11 (wrap64 (x12+1))) else (none)))) else (impl_zonesIn.l0 k x1 x5 x10 x11 (wrap64 (x12+1))))) else (none)) else (none)) else (some x5)
def impl_zonesIn.f (k:Nat) (l0:List Int) (l1:List (S61)):Option (List Int):=impl_zonesIn.l0 k l1 ([]:List Int) l0 (l0.length:Int) 0
set_option maxHeartbeats 8000000 in
set_option maxRecDepth 100000 in
theorem impl_zonesIn.calls (k:Nat) (A0:Option Addr) (c0:Nat) (l0:List Int) (A1:Option Addr) (c1:Nat) (l1:List (S61)) (r:List Int) (w:World) (hr0:Kd.C (Kd.int .i64) w A0 l0.length l0) (hc0:l0.length≤c0) (hr1:Kd.C k61 w A1 l1.length l1) (hc1:l1.length≤c1) (h:impl_zonesIn.f k l0 l1=some r) :
  Calls Try.prog 72 #[.slice A0 l0.length c0,.slice A1 l1.length c1] w fun e w'=>∃ v0_:Value,e = .returned (v0_)∧Kd.R (Kd.int .i64) 3 w' w.heap.size (fun _=>True) v0_ r∧Below w.heap.size w w':=by
 have hu61:=Try.underlying61
 have HR0:=aM hr0
 have HC0:=aM hc0
 clear hr0 hc0
 have HR1:=aM hr1
 have HC1:=aM hc1
 clear hr1 hc1
 have HB:=aM (Below.refl w.heap.size w)
 have H:(impl_zonesIn.l0 k l1 ([]:List Int) l0 (l0.length:Int) 0)=some r:=h
 clear h
 have H':=Aside0.mk H
 clear H
 go_enter Try.func72,Try.ntmps72
 go_wp2
 go_loopg [5,12] k (fun kq v5 v12 w'=>∃ (x5_1:List Int) (x12_1:Int),v12 = .int .i64 x12_1∧Aside0 (impl_zonesIn.l0 kq l1 x5_1 l0 (l0.length:Int) x12_1=some r)∧Aside0 (kq≤k)∧Aside0 (Kd.R (Kd.int .i64) 3 w' w.heap.size (fun _=>True) v5 x5_1)∧Aside0 (Below w.heap.size w w'))
 case atStart=>exact ⟨(([]:List Int)),(0),rd_,H',⟨Nat.le_refl _⟩,⟨by exact Kd.R_nil _ _ _ _ _⟩,⟨be⟩⟩
 case round=>
  clear H'
  obtain ⟨x5_1,x12_1,rfl,HA,HK1,HO_5,HB⟩:=hrel
  cases gk with
  | zero=>exact absurd HA.out (by simp [impl_zonesIn.l0])
  | succ k1=>
   have H:=HA.out
   clear HA
   simp only [impl_zonesIn.l0] at H
   by_cases c3:x12_1 < (l0.length:Int)
   ·rw [if_pos c3] at H
    have c3b0:decide (x12_1 < (l0.length:Int))=true:=decide_eq_true c3
    clear c3
    obtain ⟨c4,H⟩:=ifs H
    have c4b0:decide (0≤x12_1)=true:=decide_eq_true c4
    clear c4
    obtain ⟨c5,H⟩:=ifs H
    have c5b0:decide (x12_1 < (l0.length:Int))=true:=decide_eq_true c5
    clear c5
    replace H:=Option.bind_eq_some_iff.mp H
    obtain ⟨⟨t450,t451,t452,t453⟩,A60,H⟩:=H
    try dsimp only at H
    have A6:=aM A60
    clear A60
    by_cases c7:t453=true
    ·subst c7
     rw [if_pos rfl] at H
     replace H:=Option.bind_eq_some_iff.mp H
     obtain ⟨t455,A80,H⟩:=H
     try dsimp only at H
     have A8:=aM A80
     clear A80
     by_cases c9:t455=true
     ·subst c9
      rw [if_pos rfl] at H
      have H':=Aside0.mk H
      clear H
      have p449:0≤(x12_1:Int):=od
      have q449:x12_1 < (l0.length:Int):=od
      obtain ⟨ad449,e449,hx449_0⟩:=Kd.at_int HR0.out x12_1 p449 q449
      cases e449
      replace hx449_0:=xH HB hx449_0
      replace p449:=eq_true p449
      replace q449:=eq_true q449
      go_wp2_with (first|((with_reducible refine gate_callee (f:=60) rfl ?_);refine goesL_ (some 19) rfl rfl Try.func60 (by kernel_rfl) rfl #[.slice A1 l1.length c1,.int .i64 (rd l0 x12_1)] rfl (by (try simp only [List.map_toArray,List.map_cons,List.map_nil]);rfl) ?_;(with_reducible refine (impl_DevAt.calls k1 _ _ l1 (rd l0 x12_1) t450 t451 t452 true _ ?side1 ?side2 A6.out).mono ?_);(case side1=>exact rC HR1);(case side2=>exact HC1.out);rintro e w10 ⟨rfl,hb⟩;refine ⟨_,rfl,?_⟩;replace HO_5:=rB HO_5 hb;replace HB:=bs hb;(try clear hb))|((with_reducible refine gate_dst (N:=8) rfl ?_);refine box_event ?hg (N:=8) ?hd (cs:=#[.int .i64 0,.int .i64 0,.int .i64 0]) (t:=61) ?hr ?_;(case hd=>rfl);(case hg=>rfl);(case hr=>(go_simp;done));intro gb454 hg w11 hbox hb;replace HO_5:=rB HO_5 hb;have BK454:=aM (hbox);have GW454:=gS w hg;have GE454:=gS w hg;replace HB:=bs hb;clear hb hbox hg;obtain ⟨hcz12_0,hcz12_1,hcz12_2,hfz12_0,hfz12_1,hfz12_2⟩:=b3 BK454;obtain ⟨Ao13,co13,eo13⟩:=Kd.R_slice HO_5.out;subst eo13)|(go_at_call 52;(with_reducible refine (impl_hasInt.calls k1 _ _ x5_1 t451 true _ ?side1 ?side2 A8.out).mono ?_);(case side1=>refine (Kd.R_reads' (e:=3) (base:=w.heap.size) (ok:=fun k_=>True) (n:=x5_1.length) (c:=co13) ?_).2.2;exact (by exact (Kd.R_mono (Kd.R_far (p:=⟨gb454,2,none⟩) (Kd.R_far (p:=⟨gb454,1,none⟩) (Kd.R_far (p:=⟨gb454,0,none⟩) (Kd.R_types HO_5.out BK454.out (by decide)) (fun _ hk=>hk.2) (.int .i64 t450)) (fun _ hk=>hk.2) (.int .i64 t451)) (fun _ hk=>hk.2) (.int .i64 t452)) (fun _ h_=>h_.1))));(case side2=>exact (Kd.R_reads' HO_5.out).2.1);rintro e w' ⟨rfl,⟨nd,rfl⟩⟩))
      go_roundg k1
      case measure=>have:=HK1.out;omega
      case rel=>exact ⟨(x5_1),(wrap64 (x12_1+1)),rd_,H',⟨by have:=HK1.out;omega⟩,⟨by (with_reducible repeat (apply Kd.R_drewN));exact Kd.R_mono (Kd.R_far (p:=⟨gb454,2,none⟩) (Kd.R_far (p:=⟨gb454,1,none⟩) (Kd.R_far (p:=⟨gb454,0,none⟩) (Kd.R_types HO_5.out BK454.out (by decide)) (fun _ hk=>hk.2) (.int .i64 t450)) (fun _ hk=>hk.2) (.int .i64 t451)) (fun _ hk=>hk.2) (.int .i64 t452)) (fun _ hk=>trivial)⟩,⟨be⟩⟩
     ·replace c9:=Bool.eq_false_iff.mpr c9
      subst c9
      replace H:=(if_neg (show ¬ (false=true) by decide)).symm.trans H
      obtain ⟨c14,H⟩:=ifs H
      have LMc14:=aM c14
      clear c14
      obtain ⟨y456,hy456⟩ : ∃ y_:List Int,y_=(x5_1 ++ [t451]):=⟨_,rfl⟩
      replace H:(impl_zonesIn.l0 k1 l1 y456 l0 (l0.length:Int) (wrap64 (x12_1+1)))=some r:=by (rw [hy456];with_reducible exact H)
      have Ny456:=aM hy456
      clear hy456
      have H':=Aside0.mk H
      clear H
      have p449:0≤(x12_1:Int):=od
      have q449:x12_1 < (l0.length:Int):=od
      obtain ⟨ad449,e449,hx449_0⟩:=Kd.at_int HR0.out x12_1 p449 q449
      cases e449
      replace hx449_0:=xH HB hx449_0
      replace p449:=eq_true p449
      replace q449:=eq_true q449
      go_wp2_with (first|((with_reducible refine gate_callee (f:=60) rfl ?_);refine goesL_ (some 19) rfl rfl Try.func60 (by kernel_rfl) rfl #[.slice A1 l1.length c1,.int .i64 (rd l0 x12_1)] rfl (by (try simp only [List.map_toArray,List.map_cons,List.map_nil]);rfl) ?_;(with_reducible refine (impl_DevAt.calls k1 _ _ l1 (rd l0 x12_1) t450 t451 t452 true _ ?side1 ?side2 A6.out).mono ?_);(case side1=>exact rC HR1);(case side2=>exact HC1.out);rintro e w15 ⟨rfl,hb⟩;refine ⟨_,rfl,?_⟩;replace HO_5:=rB HO_5 hb;replace HB:=bs hb;(try clear hb))|((with_reducible refine gate_dst (N:=8) rfl ?_);refine box_event ?hg (N:=8) ?hd (cs:=#[.int .i64 0,.int .i64 0,.int .i64 0]) (t:=61) ?hr ?_;(case hd=>rfl);(case hg=>rfl);(case hr=>(go_simp;done));intro gb454 hg w16 hbox hb;replace HO_5:=rB HO_5 hb;have BK454:=aM (hbox);have GW454:=gS w hg;have GE454:=gS w hg;replace HB:=bs hb;clear hb hbox hg;obtain ⟨hcz17_0,hcz17_1,hcz17_2,hfz17_0,hfz17_1,hfz17_2⟩:=b3 BK454;obtain ⟨Ao18,co18,eo18⟩:=Kd.R_slice HO_5.out;subst eo18)|(go_at_call 52;(with_reducible refine (impl_hasInt.calls k1 _ _ x5_1 t451 false _ ?side1 ?side2 A8.out).mono ?_);(case side1=>refine (Kd.R_reads' (e:=3) (base:=w.heap.size) (ok:=fun k_=>True) (n:=x5_1.length) (c:=co18) ?_).2.2;exact (by exact (Kd.R_mono (Kd.R_far (p:=⟨gb454,2,none⟩) (Kd.R_far (p:=⟨gb454,1,none⟩) (Kd.R_far (p:=⟨gb454,0,none⟩) (Kd.R_types HO_5.out BK454.out (by decide)) (fun _ hk=>hk.2) (.int .i64 t450)) (fun _ hk=>hk.2) (.int .i64 t451)) (fun _ hk=>hk.2) (.int .i64 t452)) (fun _ h_=>h_.1))));(case side2=>exact (Kd.R_reads' HO_5.out).2.1);rintro e w' ⟨rfl,⟨nd,rfl⟩⟩)|((with_reducible refine gate_builtin (b:=.append) (xs:=#[.tmp 30,.tmp 33]) rfl ?_);at_builtin;refine Kd.R_append (Kd.int .i64) (w0:=w) w.heap.size rfl (.tmp 30) (.tmp 33) 33 3 (.int .i64 0) 8 rfl Try.underlying33 info3 rfl (by decide) (by omega) (.slice Ao18 x5_1.length co18) x5_1 t451 [.int .i64 t451] (fun _=>True) (fun _=>False) rfl (by (go_simp;done)) ?aP (fun _ hk=>hk.elim) ?aF ?aO ?aB ?aS ?aL ?_;(case aP=>exact rfl);(case aB=>exact be);(case aF=>exact (fun _ _=>trivial));(case aO=>exact (by (with_reducible repeat (apply Kd.R_drewN));exact Kd.R_mono (Kd.R_far (p:=⟨gb454,2,none⟩) (Kd.R_far (p:=⟨gb454,1,none⟩) (Kd.R_far (p:=⟨gb454,0,none⟩) (Kd.R_types HO_5.out BK454.out (by decide)) (fun _ hk=>hk.2) (.int .i64 t450)) (fun _ hk=>hk.2) (.int .i64 t451)) (fun _ hk=>hk.2) (.int .i64 t452)) (fun _ hk=>trivial)));(case aS=>exact (below_size be));(case aL=>have:=LMc14.out;omega);intro v457 w19 ho hb hg hat;rw [← Ny456.out] at ho;replace HB:=aM (hb);have HO458:=aM (ho);clear BK454 HO_5;clear ho hb hg hat))
      go_roundg k1
      case measure=>have:=HK1.out;omega
      case rel=>exact ⟨(y456),(wrap64 (x12_1+1)),rd_,H',⟨by have:=HK1.out;omega⟩,⟨rR HO458⟩,⟨be⟩⟩
    ·replace c7:=Bool.eq_false_iff.mpr c7
     subst c7
     replace H:=(if_neg (show ¬ (false=true) by decide)).symm.trans H
     have H':=Aside0.mk H
     clear H
     have p449:0≤(x12_1:Int):=od
     have q449:x12_1 < (l0.length:Int):=od
     obtain ⟨ad449,e449,hx449_0⟩:=Kd.at_int HR0.out x12_1 p449 q449
     cases e449
     replace hx449_0:=xH HB hx449_0
     replace p449:=eq_true p449
     replace q449:=eq_true q449
     go_wp2_with (first|((with_reducible refine gate_callee (f:=60) rfl ?_);refine goesL_ (some 19) rfl rfl Try.func60 (by kernel_rfl) rfl #[.slice A1 l1.length c1,.int .i64 (rd l0 x12_1)] rfl (by (try simp only [List.map_toArray,List.map_cons,List.map_nil]);rfl) ?_;(with_reducible refine (impl_DevAt.calls k1 _ _ l1 (rd l0 x12_1) t450 t451 t452 false _ ?side1 ?side2 A6.out).mono ?_);(case side1=>exact rC HR1);(case side2=>exact HC1.out);rintro e w20 ⟨rfl,hb⟩;refine ⟨_,rfl,?_⟩;replace HO_5:=rB HO_5 hb;replace HB:=bs hb;(try clear hb))|((with_reducible refine gate_dst (N:=8) rfl ?_);refine box_event ?hg (N:=8) ?hd (cs:=#[.int .i64 0,.int .i64 0,.int .i64 0]) (t:=61) ?hr ?_;(case hd=>rfl);(case hg=>rfl);(case hr=>(go_simp;done));intro gb454 hg w21 hbox hb;replace HO_5:=rB HO_5 hb;have BK454:=aM (hbox);have GW454:=gS w hg;have GE454:=gS w hg;replace HB:=bs hb;clear hb hbox hg;obtain ⟨hcz22_0,hcz22_1,hcz22_2,hfz22_0,hfz22_1,hfz22_2⟩:=b3 BK454))
     go_roundg k1
     case measure=>have:=HK1.out;omega
     case rel=>exact ⟨(x5_1),(wrap64 (x12_1+1)),rd_,H',⟨by have:=HK1.out;omega⟩,⟨by exact Kd.R_mono (Kd.R_far (p:=⟨gb454,2,none⟩) (Kd.R_far (p:=⟨gb454,1,none⟩) (Kd.R_far (p:=⟨gb454,0,none⟩) (Kd.R_types HO_5.out BK454.out (by decide)) (fun _ hk=>hk.2) (.int .i64 t450)) (fun _ hk=>hk.2) (.int .i64 t451)) (fun _ hk=>hk.2) (.int .i64 t452)) (fun _ hk=>trivial)⟩,⟨be⟩⟩
   ·rw [if_neg c3] at H
    have c3b0:decide (x12_1 < (l0.length:Int))=false:=decide_eq_false c3
    clear c3
    obtain rfl:=Option.some.inj H
    go_wp2
    go_ret
    exact ⟨_,rz,rR HO_5,be⟩
end Go.Proofs.Ytpbjbfimnfghkaa.PFnRebalanced
