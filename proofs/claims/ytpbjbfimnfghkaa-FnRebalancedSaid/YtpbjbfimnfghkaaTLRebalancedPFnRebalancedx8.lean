/- Trimmed by a program of this session (trim.py). Not trusted: Lean checks it. -/
import Derived.Test.YtpbjbfimnfghkaaTLRebalancedPFnRebalancedx0
import Derived.Test.YtpbjbfimnfghkaaTLRebalancedPFnRebalancedx7
namespace Go.Proofs.Ytpbjbfimnfghkaa.PFnRebalanced
open Go.RowKit Go.Proofs.YtpbjbfimnfghkaaW.PrintWords Go.Proofs.YtpbjbfimnfghkaaW.PrintLast Go.Proofs.YtpbjbfimnfghkaaW.PrintMore Go.Proofs.Ytpbjbfimnfghkaa.St
attribute [local go_sem] max2_int min2_int max_two min_two max_three min_three max_four min_four
set_option linter.unusedVariables false
set_option linter.unusedSimpArgs false
def impl_copyRing.l0:Nat→List (S35)→Int→Int→Int→List (S35)→Option (Int × (List (S35)))
 | 0,_,_,_,_,_=>none
 | k+1,x10,x11,x12,x409000,x409001=>if x12 < x11 then (if 0≤x12 then (if x12 < (x10.length:Int) then ((impl_copyInts.f ((rd_T35 x10 x12).f0)).bind fun t411=>(if x409001.length < 5864062014805 then (impl_copyRing.l0 k x10 x11 (wrap64 (x12+1)) x409000 (x409001 ++ [(⟨t411⟩:S35)])) else (none))) else (none)) else (none)) else (some (x409000,x409001))
def impl_copyRing.f (k:Nat) (a0_0:Int) (l0_1:List (S35)):Option (Int × (List (S35))):=impl_copyRing.l0 k l0_1 (l0_1.length:Int) 0 a0_0 ([]:List (S35))
def impl_copyRing.T5:Bool × List (List Nat × List Nat):=(true,[([],[]),([0],[0]),([],[]),([2],[2]),([3],[3]),([4],[4]),([5],[5]),([1,6,4],[1,6]),([0,1,2,3,4,5,6,7],[]),([8,7,7,0,1,2,3,4,5,6,7],[7,8])])
def impl_copyRing.B5:List Nat:=[0,1,0,4,12,28,60,127,255,511]
theorem impl_copyRing.tab5:rtab .any (opsOf Try.f41 5)=impl_copyRing.T5:=by kernel_rfl
theorem impl_copyRing.bits5:waitsOk impl_copyRing.T5.2 impl_copyRing.B5=true:=by kernel_rfl
set_option maxHeartbeats 8000000 in
set_option maxRecDepth 100000 in
theorem impl_copyRing.calls (k:Nat) (a0_0:Int) (A0_1:Option Addr) (c0_1:Nat) (l0_1:List (S35)) (r1:Int) (r2:List (S35)) (w:World) (hr0_1:Kd.C k35 w A0_1 l0_1.length l0_1) (hc0_1:l0_1.length≤c0_1) (h:impl_copyRing.f k a0_0 l0_1=some (r1,r2)) :
  Calls Try.prog 41 #[.agg #[.int .i64 a0_0,.slice A0_1 l0_1.length c0_1]] w fun e w'=>∃ v1_:Value,e = .returned (.agg #[.int .i64 r1,v1_])∧Kd.S k35 35 w' w.heap.size (fun _=>True) v1_ r2∧Below w.heap.size w w':=by
 have hu26:=Try.underlying26
 have hu35:=Try.underlying35
 have HR0_1:=aM hr0_1
 have HC0_1:=aM hc0_1
 clear hr0_1 hc0_1
 have HB:=aM (Below.refl w.heap.size w)
 have H:(impl_copyRing.l0 k l0_1 (l0_1.length:Int) 0 a0_0 ([]:List (S35)))=some (r1,r2):=h
 clear h
 have H':=Aside0.mk H
 clear H
 go_enter Try.func41,Try.ntmps41
 go_wp2_with (first|((with_reducible refine gate_dst (N:=1) rfl ?_);refine box_event ?hg (N:=1) ?hd (cs:=#[.int .i64 a0_0,.slice A0_1 l0_1.length c0_1]) (t:=26) ?hr ?_;(case hd=>rfl);(case hg=>rfl);(case hr=>(go_simp;done));intro gb406 hg w2 hbox hb;have BK406:=aM (hbox);have GW406:=gS w hg;replace HB:=bs hb;clear hb hbox hg)|((with_reducible refine gate_dst (N:=2) rfl ?_);refine box_event ?hg (N:=2) ?hd (cs:=#[.int .i64 0,.slice none 0 0]) (t:=26) ?hr ?_;(case hd=>rfl);(case hg=>rfl);(case hr=>(go_simp;done));intro gb407 hg w3 hbox hb;have BK407:=aM (hbox);have GW407:=gS w hg;replace HB:=bs hb;have NB406_407:=nL hg BK406;have NB407_406:=nG hg BK406;replace BK406:=bB BK406 hb;clear hb hbox hg;have hnb4:=NB406_407.out;have hnc4:=NB407_406.out;obtain ⟨hcz5_0,hcz5_1,hfz5_0,hfz5_1⟩:=b2 BK406)|((with_reducible refine gate_dst (N:=3) rfl ?_);refine box_event ?hg (N:=3) ?hd (cs:=#[.int .i64 0,.slice none 0 0]) (t:=26) ?hr ?_;(case hd=>rfl);(case hg=>rfl);(case hr=>(go_simp;done));intro gb408 hg w6 hbox hb;have BK408:=aM (hbox);have GW408:=gS w hg;replace HB:=bs hb;have NB406_408:=nL hg BK406;have NB408_406:=nG hg BK406;replace BK406:=bB BK406 hb;have NB407_408:=nL hg BK407;have NB408_407:=nG hg BK407;replace BK407:=bB BK407 hb;clear hb hbox hg;have hnb7:=NB408_406.out;have hnc7:=NB406_408.out;have hnb8:=NB408_407.out;have hnc8:=NB407_408.out;obtain ⟨hcz9_0,hcz9_1,hfz9_0,hfz9_1⟩:=b2 BK408;obtain ⟨hcz10_0,hcz10_1,hfz10_0,hfz10_1⟩:=b2 BK406))
 go_loopg [12] k (fun kq v12 w'=>∃ (x12_1:Int) (x409001_1:List (S35)) (u409001:Value),v12 = .int .i64 x12_1∧Aside0 (impl_copyRing.l0 kq l0_1 (l0_1.length:Int) x12_1 a0_0 x409001_1=some (r1,r2))∧Aside0 (kq≤k)∧Aside0 (Kd.S k35 35 w' w.heap.size (fun _=>True) u409001 x409001_1)∧Aside0 (w'.heap[gb406]?=some (.cells #[.int .i64 a0_0,(.slice A0_1 l0_1.length c0_1)] 26 (0,0)))∧Aside0 (w'.heap[gb407]?=some (.cells #[.int .i64 0,(.slice none 0 0)] 26 (0,0)))∧Aside0 (w'.heap[gb408]?=some (.cells #[.int .i64 a0_0,u409001] 26 (0,0)))∧Aside0 (Below w.heap.size w w'))
 case atStart=>exact ⟨(0),(([]:List (S35))),(.slice none 0 0),rd_,H',⟨Nat.le_refl _⟩,⟨by exact Kd.S_nil _ _ _ _ _⟩,⟨by refine blk_far ?_ NB406_408.out _;refine blk_far ?_ NB406_408.out _;exact BK406.out⟩,⟨by refine blk_far ?_ NB407_408.out _;refine blk_far ?_ NB407_408.out _;exact BK407.out⟩,⟨by refine blk_put (cs:=#[.int .i64 a0_0,.slice none 0 0]) ?_ 1 _ rfl;refine blk_put (cs:=#[.int .i64 0,.slice none 0 0]) ?_ 0 _ rfl;exact BK408.out⟩,⟨be⟩⟩
 case round=>
  clear H'
  try clear hcz10_0
  try clear hcz10_1
  try clear hcz5_0
  try clear hcz5_1
  try clear hcz9_0
  try clear hcz9_1
  try clear hfz10_0
  try clear hfz10_1
  try clear hfz5_0
  try clear hfz5_1
  try clear hfz9_0
  try clear hfz9_1
  obtain ⟨x12_1,x409001_1,u409001,rfl,HA,HK1,HO_409001,BK406,BK407,BK408,HB⟩:=hrel
  cases gk with
  | zero=>exact absurd HA.out (by simp [impl_copyRing.l0])
  | succ k1=>
   have H:=HA.out
   clear HA
   simp only [impl_copyRing.l0] at H
   by_cases c11:x12_1 < (l0_1.length:Int)
   ·rw [if_pos c11] at H
    have c11b0:decide (x12_1 < (l0_1.length:Int))=true:=decide_eq_true c11
    clear c11
    obtain ⟨c12,H⟩:=ifs H
    have c12b0:decide (0≤x12_1)=true:=decide_eq_true c12
    clear c12
    obtain ⟨c13,H⟩:=ifs H
    have c13b0:decide (x12_1 < (l0_1.length:Int))=true:=decide_eq_true c13
    clear c13
    replace H:=Option.bind_eq_some_iff.mp H
    obtain ⟨t411,A140,H⟩:=H
    try dsimp only at H
    have A14:=aM A140
    clear A140
    obtain ⟨c15,H⟩:=ifs H
    have LMc15:=aM c15
    clear c15
    obtain ⟨y414,hy414⟩ : ∃ y_:List (S35),y_=(x409001_1 ++ [(⟨t411⟩:S35)]):=⟨_,rfl⟩
    replace H:(impl_copyRing.l0 k1 l0_1 (l0_1.length:Int) (wrap64 (x12_1+1)) a0_0 y414)=some (r1,r2):=by (rw [hy414];with_reducible exact H)
    have Ny414:=aM hy414
    clear hy414
    have H':=Aside0.mk H
    clear H
    have p409:0≤(x12_1:Int):=od
    have q409:x12_1 < (l0_1.length:Int):=od
    obtain ⟨ad409,A409_0,c409_0,e409,hx409_0,hl409_0,hi409_0⟩:=at_T35 HR0_1.out x12_1 p409 q409
    cases e409
    replace hx409_0:=xH HB hx409_0
    have HR409_0:=aM hi409_0
    have HC409_0:=aM hl409_0
    clear hi409_0 hl409_0
    replace p409:=eq_true p409
    replace q409:=eq_true q409
    try go_wp2_with ((with_reducible refine gate_dst (N:=5) rfl ?_);refine box_event ?hg (N:=5) ?hd (cs:=#[.slice none 0 0]) (t:=35) ?hr ?_;(case hd=>rfl);(case hg=>rfl);(case hr=>(go_simp;done));intro gb410 hg w16 hbox hb;replace HO_409001:=aM (Kd.S_below (Kd.S_elderB (rS HO_409001) gb410 (Nat.le_of_eq hg.symm)) hb);have BK410:=aM (hbox);have GW410:=gS w hg;replace HB:=bs hb;have NB406_410:=nL hg BK406;have NB410_406:=nG hg BK406;replace BK406:=bB BK406 hb;have NB407_410:=nL hg BK407;have NB410_407:=nG hg BK407;replace BK407:=bB BK407 hb;have NB408_410:=nL hg BK408;have NB410_408:=nG hg BK408;replace BK408:=bB BK408 hb;clear hb hbox hg;have hnb17:=NB410_406.out;have hnc17:=NB406_410.out;have hnb18:=NB410_407.out;have hnc18:=NB407_410.out;have hnb19:=NB410_408.out;have hnc19:=NB408_410.out;obtain ⟨hcz20_0,hfz20_0⟩:=b1 BK410)
    obtain ⟨w21,hW_⟩ : ∃ W_:World,W_=(w16.setCell ⟨gb410,0,none⟩ (.slice A409_0 ((rd_T35 l0_1 x12_1).f0).length c409_0)):=⟨_,rfl⟩
    have n0_:Aside0 (Kd.S k35 35 w21 w.heap.size (fun k_=>k_ ≠ gb410) u409001 x409001_1):=⟨by rw [hW_];exact Kd.S_mono (Kd.S_far (p:=⟨gb410,0,none⟩) (Kd.S_mono HO_409001.out (fun k_ hk=>(⟨hk,hk.2⟩:_∧k_ ≠ gb410))) (fun _ hk=>hk.2) (.slice A409_0 ((rd_T35 l0_1 x12_1).f0).length c409_0)) (fun _ hk=>hk.1.2)⟩
    have n1_:Aside0 (w21.heap[gb406]?=some (.cells #[.int .i64 a0_0,.slice (some ad409) l0_1.length c0_1] 26 (0,0))):=⟨by rw [hW_];refine blk_far ?_ NB406_410.out _;exact BK406.out⟩
    have n2_:Aside0 (w21.heap[gb407]?=some (.cells #[.int .i64 0,.slice none 0 0] 26 (0,0))):=⟨by rw [hW_];refine blk_far ?_ NB407_410.out _;exact BK407.out⟩
    have n3_:Aside0 (w21.heap[gb408]?=some (.cells #[.int .i64 a0_0,u409001] 26 (0,0))):=⟨by rw [hW_];refine blk_far ?_ NB408_410.out _;exact BK408.out⟩
    have n4_:Aside0 (w21.heap[gb410]?=some (.cells #[.slice A409_0 ((rd_T35 l0_1 x12_1).f0).length c409_0] 35 (0,0))):=⟨by rw [hW_];refine blk_put (cs:=#[.slice none 0 0]) ?_ 0 _ rfl;exact BK410.out⟩
    have n5_:Aside0 (Below w.heap.size w w21):=⟨by rw [hW_];exact be⟩
    (try clear HO_409001)
    (try clear BK406)
    (try clear BK407)
    (try clear BK408)
    (try clear BK410)
    (try clear HB)
    rw [← hW_];clear hW_
    have HO_409001:=n0_;have BK406:=n1_;have BK407:=n2_;have BK408:=n3_;have BK410:=n4_;have HB:=n5_;clear n0_ n1_ n2_ n3_ n4_ n5_;replace HO_409001:=aM (Kd.S_drew HO_409001.out);replace BK406:=aM (blk_drew BK406.out);replace BK407:=aM (blk_drew BK407.out);replace BK408:=aM (blk_drew BK408.out);replace BK410:=aM (blk_drew BK410.out);replace HB:=aM (below_drew1 HB.out)
    refine start_ (n:=10) (S:=fun w'=>w'.cell? ⟨gb408,0,none⟩=some (.int .i64 a0_0)∧w'.cell? ⟨gb408,1,none⟩=some (u409001)∧w'.cell? ⟨gb410,0,none⟩=some (.slice A409_0 ((rd_T35 l0_1 x12_1).f0).length c409_0)) (ds:=[9]) (fl 10 0) (by kernel_rfl) rfl rfl ⟨bq BK408 0,bq BK408 1,bq BK410 0⟩ (fun hHeld=>?_);refine with_tabW impl_copyRing.tab5 impl_copyRing.bits5 (fun HT_ HW_=>?_)
    generalize w21.drew=w22 at HO_409001 BK406 BK407 BK408 BK410 HB hHeld ⊢
    refine pt 0 16 (fl 10 1) HT_ ?_
    refine pt 2 18 (fl 10 5) HT_ ?_
    refine tt 1 17 (fl 10 7) HT_ HW_ hHeld ?_
    refine tt 3 19 (fl 10 15) HT_ HW_ hHeld ?_
    refine ot 4 (some 20) (fl 10 31) HT_ (fun K hK=>?_)
    refine goes_ Try.func44 (by kernel_rfl) rfl #[.slice A409_0 ((rd_T35 l0_1 x12_1).f0).length c409_0] (by rfl) rfl rfl (by (try simp only [List.map_toArray,List.map_cons,List.map_nil]);rfl) ?_
    with_reducible refine (impl_copyInts.calls _ _ ((rd_T35 l0_1 x12_1).f0) t411 _ ?side1 ?side2 A14.out).mono ?_
    (case side1=>exact rC HR409_0)
    (case side2=>exact HC409_0.out)
    rintro e w23 ⟨v412,rfl,ho0,hb⟩
    refine ⟨_,rfl,?_⟩
    replace HO_409001:=aM (Kd.S_elder' (rS HO_409001) (Kd.R_base ho0) hb);have HO413:=aM (Kd.R_lower ho0 (below_size be));replace BK406:=bB BK406 hb;replace BK407:=bB BK407 hb;replace BK408:=bB BK408 hb;replace BK410:=bB BK410 hb;replace HB:=bs hb;(try clear hb);(try clear ho0)
    obtain ⟨Ao24,co24,eo24⟩:=Kd.R_slice HO413.out
    (subst eo24)
    refine hK.out _ _ ⟨bq BK408 0,bq BK408 1,bq BK410 0⟩ (fun hHeld=>?_)
    clear hK K
    refine no 20 ?_
    refine pt 5 21 (fl 10 63) HT_ ?_
    refine ot 6 (some 22) (fl 10 127) HT_ (fun K hK=>?_)
    refine value_ (w1:=?_) (v:=?_) (by rfl) rfl ?_ ?_
    rotate_left 2
    ·go_simp
     constructor
     ·rfl
     ·rfl
    refine hK.out _ _ ⟨(blk_cell (blk_alloc BK408.out _) 0).trans rfl,(blk_cell (blk_alloc BK408.out _) 1).trans rfl,(blk_cell (blk_alloc BK410.out _) 0).trans rfl⟩ (fun hHeld=>?_)
    clear hK K
    refine no 22 ?_
    refine ot 7 (some 23) (fl 10 255) HT_ (fun K hK=>?_)
    refine Kd.S_append_step k35 (w0:=w) w.heap.size (by rfl) (.tmp 17) (.tmp 22) 24 35 (.agg #[(.slice none 0 0)]) 24 rfl Try.underlying24 info35 rfl (by decide) (by omega) u409001 x409001_1 (⟨t411⟩:S35) [.slice Ao24 t411.length co24] (fun k_=>k_ ≠ gb410) (fun k_=>some k_=(.slice Ao24 t411.length co24:Value).ownBlock) rfl rfl ?aP (fun k_ hk_=>((Kd.R_mono (ok':=fun k_=>((fun k_=>k_ ≠ gb410)) k_∧some k_ ≠ (u409001:Value).ownBlock) (Kd.R_types (Kd.R_apart' (HO413.out) (Kd.S_typed HO_409001.out) (by decide)) BK410.out (by decide)) (fun k_ hk=>⟨hk.2,hk.1.2⟩))).1 k_ hk_.symm) ?aF ?aO ?aB ?aS ?aL ?_
    (case aP=>exact k35_mkM _ _ _ (⟨t411⟩:S35) (Kd.R_mono (Kd.R_tight rfl (Kd.R_mono (ok':=fun k_=>((fun k_=>k_ ≠ gb410)) k_∧some k_ ≠ (u409001:Value).ownBlock) (Kd.R_types (Kd.R_apart' (HO413.out) (Kd.S_typed HO_409001.out) (by decide)) BK410.out (by decide)) (fun k_ hk=>⟨hk.2,hk.1.2⟩))) (fun _ h_=>h_)))
    (case aB=>exact be)
    (case aF=>exact (fun k_ hk=>Kd.freshB (g:=gb410) (o:=.cells #[.slice A409_0 ((rd_T35 l0_1 x12_1).f0).length c409_0] 35 (0,0)) (bk BK410) k_ hk))
    (case aO=>exact (by exact Kd.S_mono HO_409001.out (fun k_ hk=>⟨hk.1,fun e_=>hk.2 e_⟩)))
    (case aS=>exact (below_size be))
    (case aL=>have:=LMc15.out;omega)
    intro v415 w25 ho hb hg hat
    rw [← Ny414.out] at ho
    replace BK406:=bG BK406 hg (Kd.S_ne HO_409001.out BK406.out (by decide));replace BK407:=bG BK407 hg (Kd.S_ne HO_409001.out BK407.out (by decide));replace BK408:=bG BK408 hg (Kd.S_ne HO_409001.out BK408.out (by decide));replace BK410:=bG BK410 hg (Kd.S_away HO_409001.out (fun _ hk=>hk.1));replace HB:=aM (hb);have HO416:=aM (ho);clear HO_409001 HO413;clear ho hb hg hat
    obtain ⟨Ao26,co26,eo26⟩:=Kd.S_slice HO416.out
    (subst eo26)
    refine hK.out _ _ ⟨bq BK408 0,bq BK408 1,bq BK410 0⟩ (fun hHeld=>?_)
    clear hK K
    refine no 23 ?_
    refine pt 8 24 (fl 10 511) HT_ ?_
    refine last_ (i:=9) (N:=none) (fl 10 1023) rfl rfl (one_of HT_.out (by kernel_rfl)) (by decide) (fun K hK=>?_)
    have hs27:w25.cell? ⟨gb408,1,none⟩=some (u409001):=(blk_cell BK408.out 1).trans rfl
    have hfs27:=blk_frozen BK408.out 1
    have hns27_0:=NB406_408.out
    have hns27_1:=NB407_408.out
    have hns27_3:=NB410_408.out
    have hms27_0:=NB408_406.out
    have hms27_1:=NB408_407.out
    have hms27_3:=NB408_410.out
    refine skip_ (w1:=?_) (by rfl) rfl ?_ ?_
    rotate_left
    ·go_simp
     rfl
    refine hK.out _ _ ?_
    clear hK K
    refine done_ (done_of HT_.out (by kernel_rfl)) ?_
    try go_wp2
    go_roundg k1
    case measure=>have:=HK1.out;omega
    case rel=>exact ⟨(wrap64 (x12_1+1)),(y414),(.slice Ao26 y414.length co26),rd_,H',⟨by have:=HK1.out;omega⟩,⟨by exact Kd.S_mono (Kd.S_far (p:=⟨gb408,1,none⟩) (Kd.S_types HO416.out BK408.out (by decide)) (fun _ hk=>hk.2) (.slice Ao26 y414.length co26)) (fun _ hk=>trivial)⟩,⟨by refine blk_far ?_ NB406_408.out _;exact BK406.out⟩,⟨by refine blk_far ?_ NB407_408.out _;exact BK407.out⟩,⟨by refine blk_put (cs:=#[.int .i64 a0_0,u409001]) ?_ 1 _ rfl;exact BK408.out⟩,⟨be⟩⟩
   ·rw [if_neg c11] at H
    have c11b0:decide (x12_1 < (l0_1.length:Int))=false:=decide_eq_false c11
    clear c11
    simp only [Option.some.injEq,Prod.mk.injEq] at H
    obtain ⟨rfl,rfl⟩:=H
    have hnb28:=NB408_406.out
    have hnc28:=NB406_408.out
    have hnb29:=NB408_407.out
    have hnc29:=NB407_408.out
    obtain ⟨hcz30_0,hcz30_1,hfz30_0,hfz30_1⟩:=b2 BK408
    have hnb31:=NB407_406.out
    have hnc31:=NB406_407.out
    obtain ⟨hcz32_0,hcz32_1,hfz32_0,hfz32_1⟩:=b2 BK407
    obtain ⟨Ao33,co33,eo33⟩:=Kd.S_slice HO_409001.out
    subst eo33
    go_wp2
    refine bodyPost_ret (results_cell_row rfl _ _ gb407 26 #[.int .i64 a0_0,.slice Ao33 x409001_1.length co33] (0,0) _ rfl (by refine blk_put (cs:=#[.int .i64 a0_0,.slice none 0 0]) ?_ 1 _ rfl;refine blk_put (cs:=#[.int .i64 0,.slice none 0 0]) ?_ 0 _ rfl;exact BK407.out) Try.underlying26 rfl (by kernel_rfl)) rfl ?_
    exact ⟨_,rz,by exact Kd.S_mono (Kd.S_far (p:=⟨gb407,1,none⟩) (Kd.S_far (p:=⟨gb407,0,none⟩) (Kd.S_types HO_409001.out BK407.out (by decide)) (fun _ hk=>hk.2) (.int .i64 a0_0)) (fun _ hk=>hk.2) (.slice Ao33 x409001_1.length co33)) (fun _ hk=>trivial),be⟩
def impl_in.f (a0:Int) (a1:Int) (a2:Int):Option (Bool):=if a0 ≥ a1 then (some (decide (a0≤a2))) else (some false)
set_option maxHeartbeats 8000000 in
set_option maxRecDepth 100000 in
theorem impl_in.calls (a0:Int) (a1:Int) (a2:Int) (r:Bool) (w:World) (h:impl_in.f a0 a1 a2=some r) :
  Calls Try.prog 58 #[.int .i64 a0,.int .i64 a1,.int .i64 a2] w fun e w'=>e = .returned (.bool r)∧Drawn0 w w':=by
 have H:(if a0 ≥ a1 then (some (decide (a0≤a2))) else (some false))=some r:=h
 clear h
 by_cases c4:a0 ≥ a1
 ·rw [if_pos c4] at H
  have c4b0:decide (a1≤a0)=true:=decide_eq_true c4
  clear c4
  obtain rfl:=Option.some.inj H
  go_enter Try.func58,Try.ntmps58
  go_wp2
  go_ret
  exact ⟨by rfl,by repeat (exact Drawn0.refl _)⟩
 ·rw [if_neg c4] at H
  have c4b0:decide (a1≤a0)=false:=decide_eq_false c4
  clear c4
  obtain rfl:=Option.some.inj H
  go_enter Try.func58,Try.ntmps58
  go_wp2
  go_ret
  exact ⟨by rfl,by repeat (exact Drawn0.refl _)⟩
def impl_DevsOk.l0:Nat→List (S61)→List (S61)→Int→Int→Option (Bool)
 | 0,_,_,_,_=>none
 | k+1,x0,x5,x6,x7=>if x7 < x6 then (if 0≤x7 then (if x7 < (x5.length:Int) then ((impl_in.f ((rd_T61 x5 x7).f0) 0 20).bind fun t420=>(if t420=true then ((impl_in.f ((rd_T61 x5 x7).f1) 0 20).bind fun t421=>(if t421=true then ((impl_in.f ((rd_T61 x5 x7).f2) 1 1000).bind fun t422=>(if t422=true then (if x7 > 0 then (if 0≤(wrap64 (x7 - 1)) then (if (wrap64 (x7 - 1)) < (x0.length:Int) then (if ((rd_T61 x0 (wrap64 (x7 - 1))).f0) ≥ ((rd_T61 x5 x7).f0) then (some false) else (impl_DevsOk.l0 k x0 x5 x6 (wrap64 (x7+1)))) else (none)) else (none)) else (impl_DevsOk.l0 k x0 x5 x6 (wrap64 (x7+1)))) else (some false))) else (some false))) else (some false))) else (none)) else (none)) else ((impl_in.f (x0.length:Int) 1 12).bind fun t417=>(some t417))
def impl_DevsOk.f (k:Nat) (l0:List (S61)):Option (Bool):=impl_DevsOk.l0 k l0 l0 (l0.length:Int) 0
def impl_DevsOk.T4:Bool × List (List Nat × List Nat):=(true,[([],[]),([0],[0]),([1],[1]),([2],[2]),([3,2],[3]),([4],[4]),([5,4],[4,5]),([6,4,4],[4,6]),([7,4],[4,7]),([4,8],[4,8]),([9,7],[9]),([10],[10]),([11,10],[10,11]),([12,10,10],[10,12]),([13,10],[10,13]),([10,14],[10,14]),([15,13],[15]),([16],[16]),([17,16],[16,17]),([18,16,16],[16,18]),([19],[19]),([19],[19]),([21,19],[19,21]),([20,22,19],[19,20,22]),([23,19],[19,23]),([24,19],[19,24]),([19],[19]),([26,19],[19,26]),([25,27,19],[19,25,27]),([19,28,16],[16,19,28]),([16,29],[16,29])])
def impl_DevsOk.B4:List Nat:=[0,1,3,7,15,31,63,127,255,511,1023,2047,4095,8191,16383,32767,65535,131071,262143,524287,1048575,1048575,3145727,8388607,16777215,33554431,1048575,68157439,268435455,536870911,1073741823]
theorem impl_DevsOk.tab4:rtab .any (opsOf Try.f57 4)=impl_DevsOk.T4:=by kernel_rfl
theorem impl_DevsOk.bits4:waitsOk impl_DevsOk.T4.2 impl_DevsOk.B4=true:=by kernel_rfl
set_option maxHeartbeats 8000000 in
set_option maxRecDepth 100000 in
theorem impl_DevsOk.calls (k:Nat) (A0:Option Addr) (c0:Nat) (l0:List (S61)) (r:Bool) (w:World) (hr0:Kd.C k61 w A0 l0.length l0) (hc0:l0.length≤c0) (h:impl_DevsOk.f k l0=some r) :
  Calls Try.prog 57 #[.slice A0 l0.length c0] w fun e w'=>e = .returned (.bool r)∧Below w.heap.size w w':=by
 have hu61:=Try.underlying61
 have HR0:=aM hr0
 have HC0:=aM hc0
 clear hr0 hc0
 have HB:=aM (Below.refl w.heap.size w)
 have H:(impl_DevsOk.l0 k l0 l0 (l0.length:Int) 0)=some r:=h
 clear h
 have H':=Aside0.mk H
 clear H
 go_enter Try.func57,Try.ntmps57
 go_wp2
 go_loopg [7] k (fun kq v7 w'=>∃ (x7_1:Int),v7 = .int .i64 x7_1∧Aside0 (impl_DevsOk.l0 kq l0 l0 (l0.length:Int) x7_1=some r)∧Aside0 (kq≤k)∧Aside0 (Below w.heap.size w w'))
 case atStart=>exact ⟨(0),rd_,H',⟨Nat.le_refl _⟩,⟨be⟩⟩
 case round=>
  clear H'
  obtain ⟨x7_1,rfl,HA,HK1,HB⟩:=hrel
  cases gk with
  | zero=>exact absurd HA.out (by simp [impl_DevsOk.l0])
  | succ k1=>
   have H:=HA.out
   clear HA
   simp only [impl_DevsOk.l0] at H
   by_cases c2:x7_1 < (l0.length:Int)
   ·rw [if_pos c2] at H
    have c2b0:decide (x7_1 < (l0.length:Int))=true:=decide_eq_true c2
    clear c2
    obtain ⟨c3,H⟩:=ifs H
    have c3b0:decide (0≤x7_1)=true:=decide_eq_true c3
    clear c3
    obtain ⟨c4,H⟩:=ifs H
    have c4b0:decide (x7_1 < (l0.length:Int))=true:=decide_eq_true c4
    clear c4
    replace H:=Option.bind_eq_some_iff.mp H
    obtain ⟨t420,A50,H⟩:=H
    try dsimp only at H
    have A5:=aM A50
    clear A50
    by_cases c6:t420=true
    ·subst c6
     rw [if_pos rfl] at H
     replace H:=Option.bind_eq_some_iff.mp H
     obtain ⟨t421,A70,H⟩:=H
     try dsimp only at H
     have A7:=aM A70
     clear A70
     by_cases c8:t421=true
     ·subst c8
      rw [if_pos rfl] at H
      replace H:=Option.bind_eq_some_iff.mp H
      obtain ⟨t422,A90,H⟩:=H
      try dsimp only at H
      have A9:=aM A90
      clear A90
      by_cases c10:t422=true
      ·subst c10
       rw [if_pos rfl] at H
       by_cases c11:x7_1 > 0
       ·rw [if_pos c11] at H
        have c11b0:decide (0 < x7_1)=true:=decide_eq_true c11
        clear c11
        obtain ⟨ji12,hji12⟩ : ∃ j_:Int,(wrap64 (x7_1 - 1))=j_:=⟨_,rfl⟩
        replace H:(if 0≤(ji12) then (if (ji12) < (l0.length:Int) then (if ((rd_T61 l0 (ji12)).f0) ≥ ((rd_T61 l0 x7_1).f0) then (some false) else (impl_DevsOk.l0 k1 l0 l0 (l0.length:Int) (wrap64 (x7_1+1)))) else (none)) else (none))=some r:=by (rw [hji12] at H;exact H)
        skip
        skip
        skip
        have hji12w:(IntKind.i64.wrap (x7_1 - 1))=ji12:=(i64_w _).trans hji12
        obtain ⟨c13,H⟩:=ifs H
        have c13b0:decide (0≤(ji12))=true:=decide_eq_true c13
        clear c13
        obtain ⟨c14,H⟩:=ifs H
        have c14b0:decide ((ji12) < (l0.length:Int))=true:=decide_eq_true c14
        clear c14
        by_cases c15:((rd_T61 l0 (ji12)).f0) ≥ ((rd_T61 l0 x7_1).f0)
        ·rw [if_pos c15] at H
         have c15b0:decide (((rd_T61 l0 x7_1).f0)≤((rd_T61 l0 (ji12)).f0))=true:=decide_eq_true c15
         clear c15
         obtain rfl:=Option.some.inj H
         have p418:0≤(x7_1:Int):=od
         have q418:x7_1 < (l0.length:Int):=od
         obtain ⟨ad418,e418,hx418_0,hx418_1,hx418_2⟩:=at_T61 HR0.out x7_1 p418 q418
         cases e418
         replace hx418_0:=xH HB hx418_0
         replace hx418_1:=xH HB hx418_1
         replace hx418_2:=xH HB hx418_2
         replace p418:=eq_true p418
         replace q418:=eq_true q418
         try go_wp2_with ((with_reducible refine gate_dst (N:=4) rfl ?_);refine box_event ?hg (N:=4) ?hd (cs:=#[.int .i64 0,.int .i64 0,.int .i64 0]) (t:=61) ?hr ?_;(case hd=>rfl);(case hg=>rfl);(case hr=>(go_simp;done));intro gb419 hg w16 hbox hb;have BK419:=aM (hbox);have GW419:=gS w hg;have GE419:=gS w hg;replace HB:=bs hb;clear hb hbox hg;obtain ⟨hcz17_0,hcz17_1,hcz17_2,hfz17_0,hfz17_1,hfz17_2⟩:=b3 BK419)
         obtain ⟨w18,hW_⟩ : ∃ W_:World,W_=(((w16.setCell ⟨gb419,0,none⟩ (.int .i64 ((rd_T61 l0 x7_1).f0))).setCell ⟨gb419,1,none⟩ (.int .i64 ((rd_T61 l0 x7_1).f1))).setCell ⟨gb419,2,none⟩ (.int .i64 ((rd_T61 l0 x7_1).f2))):=⟨_,rfl⟩
         have n0_:Aside0 (w18.heap[gb419]?=some (.cells #[.int .i64 ((rd_T61 l0 x7_1).f0),.int .i64 ((rd_T61 l0 x7_1).f1),.int .i64 ((rd_T61 l0 x7_1).f2)] 61 (0,0))):=⟨by rw [hW_];refine blk_put (cs:=#[.int .i64 ((rd_T61 l0 x7_1).f0),.int .i64 ((rd_T61 l0 x7_1).f1),.int .i64 0]) ?_ 2 _ rfl;refine blk_put (cs:=#[.int .i64 ((rd_T61 l0 x7_1).f0),.int .i64 0,.int .i64 0]) ?_ 1 _ rfl;refine blk_put (cs:=#[.int .i64 0,.int .i64 0,.int .i64 0]) ?_ 0 _ rfl;exact BK419.out⟩
         have n1_:Aside0 (Below w.heap.size w w18):=⟨by rw [hW_];exact be⟩
         (try clear BK419)
         (try clear HB)
         rw [← hW_];clear hW_
         have BK419:=n0_;have HB:=n1_;clear n0_ n1_;replace BK419:=aM (blk_drew BK419.out);replace HB:=aM (below_drew1 HB.out)
         have p423:0≤((ji12):Int):=od
         have q423:(ji12) < (l0.length:Int):=od
         obtain ⟨ad423,e423,hx423_0,hx423_1,hx423_2⟩:=at_T61 HR0.out (ji12) p423 q423
         have hw423_2:=hx423_2;have hw423_1:=hx423_1;have hw423_0:=hx423_0
         obtain rfl:ad418=ad423:=(by injection e423)
         replace hx423_0:=xH HB hx423_0
         replace hx423_1:=xH HB hx423_1
         replace hx423_2:=xH HB hx423_2
         replace p423:=eq_true p423
         replace q423:=eq_true q423
         refine start_ (n:=31) (S:=fun w'=>w'.cell? ⟨gb419,0,none⟩=some (.int .i64 ((rd_T61 l0 x7_1).f0))∧w'.cell? ⟨gb419,1,none⟩=some (.int .i64 ((rd_T61 l0 x7_1).f1))∧w'.cell? ⟨gb419,2,none⟩=some (.int .i64 ((rd_T61 l0 x7_1).f2))∧w'.cell? (ad418.add (((ji12)).toNat * 3))=some (.int .i64 ((rd_T61 l0 (ji12)).f0))∧w'.cell? ⟨(ad418.add (((ji12)).toNat * 3)).block,(ad418.add (((ji12)).toNat * 3)).off+1,none⟩=some (.int .i64 ((rd_T61 l0 (ji12)).f1))∧w'.cell? ⟨(ad418.add (((ji12)).toNat * 3)).block,(ad418.add (((ji12)).toNat * 3)).off+2,none⟩=some (.int .i64 ((rd_T61 l0 (ji12)).f2))) (ds:=[]) (fl 31 0) (by kernel_rfl) rfl rfl ⟨bq BK419 0,bq BK419 1,bq BK419 2,(xH HB hw423_0),(xH HB hw423_1),(xH HB hw423_2)⟩ (fun hHeld=>?_);refine with_tabW impl_DevsOk.tab4 impl_DevsOk.bits4 (fun HT_ HW_=>?_)
         generalize w18.drew=w19 at BK419 HB hx423_0 hx423_1 hx423_2 hHeld ⊢
         refine pt 0 12 (fl 31 1) HT_ ?_
         refine tt 1 13 (fl 31 3) HT_ HW_ hHeld ?_
         refine ot 2 (some 14) (fl 31 7) HT_ (fun K hK=>?_)
         refine goes_ Try.func58 (by kernel_rfl) rfl #[.int .i64 ((rd_T61 l0 x7_1).f0),.int .i64 0,.int .i64 20] (by rfl) rfl rfl (by (try simp only [List.map_toArray,List.map_cons,List.map_nil]);rfl) ?_
         with_reducible refine (impl_in.calls ((rd_T61 l0 x7_1).f0) 0 20 true _ A5.out).mono ?_
         rintro e w' ⟨rfl,⟨nd,rfl⟩⟩
         refine ⟨_,rfl,?_⟩
         refine hK.out _ _ ⟨bq BK419 0,bq BK419 1,bq BK419 2,(xH HB hw423_0),(xH HB hw423_1),(xH HB hw423_2)⟩ (fun hHeld=>?_)
         clear hK K
         refine no 14 ?_
         refine pt 3 15 (fl 31 15) HT_ ?_
         refine pt 4 16 (fl 31 31) HT_ ?_
         refine pt 5 17 (fl 31 63) HT_ ?_
         refine tt 6 18 (fl 31 127) HT_ HW_ hHeld ?_
         refine ot 7 (some 19) (fl 31 255) HT_ (fun K hK=>?_)
         refine goes_ Try.func58 (by kernel_rfl) rfl #[.int .i64 ((rd_T61 l0 x7_1).f1),.int .i64 0,.int .i64 20] (by rfl) rfl rfl (by (try simp only [List.map_toArray,List.map_cons,List.map_nil]);rfl) ?_
         with_reducible refine (impl_in.calls ((rd_T61 l0 x7_1).f1) 0 20 true _ A7.out).mono ?_
         rintro e w' ⟨rfl,⟨nd,rfl⟩⟩
         refine ⟨_,rfl,?_⟩
         refine hK.out _ _ ⟨bq BK419 0,bq BK419 1,bq BK419 2,(xH HB hw423_0),(xH HB hw423_1),(xH HB hw423_2)⟩ (fun hHeld=>?_)
         clear hK K
         refine no 19 ?_
         refine pt 8 20 (fl 31 511) HT_ ?_
         refine pt 9 21 (fl 31 1023) HT_ ?_
         refine pt 10 22 (fl 31 2047) HT_ ?_
         refine pt 11 23 (fl 31 4095) HT_ ?_
         refine tt 12 24 (fl 31 8191) HT_ HW_ hHeld ?_
         refine ot 13 (some 25) (fl 31 16383) HT_ (fun K hK=>?_)
         refine goes_ Try.func58 (by kernel_rfl) rfl #[.int .i64 ((rd_T61 l0 x7_1).f2),.int .i64 1,.int .i64 1000] (by rfl) rfl rfl (by (try simp only [List.map_toArray,List.map_cons,List.map_nil]);rfl) ?_
         with_reducible refine (impl_in.calls ((rd_T61 l0 x7_1).f2) 1 1000 true _ A9.out).mono ?_
         rintro e w' ⟨rfl,⟨nd,rfl⟩⟩
         refine ⟨_,rfl,?_⟩
         refine hK.out _ _ ⟨bq BK419 0,bq BK419 1,bq BK419 2,(xH HB hw423_0),(xH HB hw423_1),(xH HB hw423_2)⟩ (fun hHeld=>?_)
         clear hK K
         refine no 25 ?_
         refine pt 14 26 (fl 31 32767) HT_ ?_
         refine pt 15 27 (fl 31 65535) HT_ ?_
         refine pt 16 28 (fl 31 131071) HT_ ?_
         refine pt 17 29 (fl 31 262143) HT_ ?_
         refine pt 18 30 (fl 31 524287) HT_ ?_
         refine pt 19 31 (fl 31 1048575) HT_ ?_
         refine pt 20 32 (fl 31 2097151) HT_ ?_
         refine pt 21 33 (fl 31 4194303) HT_ ?_
         refine pt 22 34 (fl 31 8388607) HT_ ?_
         refine pt 23 35 (fl 31 16777215) HT_ ?_
         refine pt 24 36 (fl 31 33554431) HT_ ?_
         refine pt 26 38 (fl 31 100663295) HT_ ?_
         refine tt 25 37 (fl 31 134217727) HT_ HW_ hHeld ?_
         refine tt 27 39 (fl 31 268435455) HT_ HW_ hHeld ?_
         refine pt 28 40 (fl 31 536870911) HT_ ?_
         refine pt 29 41 (fl 31 1073741823) HT_ ?_
         refine pt 30 42 (fl 31 2147483647) HT_ ?_
         refine done_ (done_of HT_.out (by kernel_rfl)) ?_
         try go_wp2
         go_ret
         exact ⟨by rfl,be⟩
        ·rw [if_neg c15] at H
         have c15b0:decide (((rd_T61 l0 x7_1).f0)≤((rd_T61 l0 (ji12)).f0))=false:=decide_eq_false c15
         clear c15
         have H':=Aside0.mk H
         clear H
         have p418:0≤(x7_1:Int):=od
         have q418:x7_1 < (l0.length:Int):=od
         obtain ⟨ad418,e418,hx418_0,hx418_1,hx418_2⟩:=at_T61 HR0.out x7_1 p418 q418
         cases e418
         replace hx418_0:=xH HB hx418_0
         replace hx418_1:=xH HB hx418_1
         replace hx418_2:=xH HB hx418_2
         replace p418:=eq_true p418
         replace q418:=eq_true q418
         try go_wp2_with ((with_reducible refine gate_dst (N:=4) rfl ?_);refine box_event ?hg (N:=4) ?hd (cs:=#[.int .i64 0,.int .i64 0,.int .i64 0]) (t:=61) ?hr ?_;(case hd=>rfl);(case hg=>rfl);(case hr=>(go_simp;done));intro gb419 hg w20 hbox hb;have BK419:=aM (hbox);have GW419:=gS w hg;have GE419:=gS w hg;replace HB:=bs hb;clear hb hbox hg;obtain ⟨hcz21_0,hcz21_1,hcz21_2,hfz21_0,hfz21_1,hfz21_2⟩:=b3 BK419)
         obtain ⟨w22,hW_⟩ : ∃ W_:World,W_=(((w20.setCell ⟨gb419,0,none⟩ (.int .i64 ((rd_T61 l0 x7_1).f0))).setCell ⟨gb419,1,none⟩ (.int .i64 ((rd_T61 l0 x7_1).f1))).setCell ⟨gb419,2,none⟩ (.int .i64 ((rd_T61 l0 x7_1).f2))):=⟨_,rfl⟩
         have n0_:Aside0 (w22.heap[gb419]?=some (.cells #[.int .i64 ((rd_T61 l0 x7_1).f0),.int .i64 ((rd_T61 l0 x7_1).f1),.int .i64 ((rd_T61 l0 x7_1).f2)] 61 (0,0))):=⟨by rw [hW_];refine blk_put (cs:=#[.int .i64 ((rd_T61 l0 x7_1).f0),.int .i64 ((rd_T61 l0 x7_1).f1),.int .i64 0]) ?_ 2 _ rfl;refine blk_put (cs:=#[.int .i64 ((rd_T61 l0 x7_1).f0),.int .i64 0,.int .i64 0]) ?_ 1 _ rfl;refine blk_put (cs:=#[.int .i64 0,.int .i64 0,.int .i64 0]) ?_ 0 _ rfl;exact BK419.out⟩
         have n1_:Aside0 (Below w.heap.size w w22):=⟨by rw [hW_];exact be⟩
         (try clear BK419)
         (try clear HB)
         rw [← hW_];clear hW_
         have BK419:=n0_;have HB:=n1_;clear n0_ n1_;replace BK419:=aM (blk_drew BK419.out);replace HB:=aM (below_drew1 HB.out)
         have p423:0≤((ji12):Int):=od
         have q423:(ji12) < (l0.length:Int):=od
         obtain ⟨ad423,e423,hx423_0,hx423_1,hx423_2⟩:=at_T61 HR0.out (ji12) p423 q423
         have hw423_2:=hx423_2;have hw423_1:=hx423_1;have hw423_0:=hx423_0
         obtain rfl:ad418=ad423:=(by injection e423)
         replace hx423_0:=xH HB hx423_0
         replace hx423_1:=xH HB hx423_1
         replace hx423_2:=xH HB hx423_2
         replace p423:=eq_true p423
         replace q423:=eq_true q423
         refine start_ (n:=31) (S:=fun w'=>w'.cell? ⟨gb419,0,none⟩=some (.int .i64 ((rd_T61 l0 x7_1).f0))∧w'.cell? ⟨gb419,1,none⟩=some (.int .i64 ((rd_T61 l0 x7_1).f1))∧w'.cell? ⟨gb419,2,none⟩=some (.int .i64 ((rd_T61 l0 x7_1).f2))∧w'.cell? (ad418.add (((ji12)).toNat * 3))=some (.int .i64 ((rd_T61 l0 (ji12)).f0))∧w'.cell? ⟨(ad418.add (((ji12)).toNat * 3)).block,(ad418.add (((ji12)).toNat * 3)).off+1,none⟩=some (.int .i64 ((rd_T61 l0 (ji12)).f1))∧w'.cell? ⟨(ad418.add (((ji12)).toNat * 3)).block,(ad418.add (((ji12)).toNat * 3)).off+2,none⟩=some (.int .i64 ((rd_T61 l0 (ji12)).f2))) (ds:=[]) (fl 31 0) (by kernel_rfl) rfl rfl ⟨bq BK419 0,bq BK419 1,bq BK419 2,(xH HB hw423_0),(xH HB hw423_1),(xH HB hw423_2)⟩ (fun hHeld=>?_);refine with_tabW impl_DevsOk.tab4 impl_DevsOk.bits4 (fun HT_ HW_=>?_)
         generalize w22.drew=w23 at BK419 HB hx423_0 hx423_1 hx423_2 hHeld ⊢
         refine pt 0 12 (fl 31 1) HT_ ?_
         refine tt 1 13 (fl 31 3) HT_ HW_ hHeld ?_
         refine ot 2 (some 14) (fl 31 7) HT_ (fun K hK=>?_)
         refine goes_ Try.func58 (by kernel_rfl) rfl #[.int .i64 ((rd_T61 l0 x7_1).f0),.int .i64 0,.int .i64 20] (by rfl) rfl rfl (by (try simp only [List.map_toArray,List.map_cons,List.map_nil]);rfl) ?_
         with_reducible refine (impl_in.calls ((rd_T61 l0 x7_1).f0) 0 20 true _ A5.out).mono ?_
         rintro e w' ⟨rfl,⟨nd,rfl⟩⟩
         refine ⟨_,rfl,?_⟩
         refine hK.out _ _ ⟨bq BK419 0,bq BK419 1,bq BK419 2,(xH HB hw423_0),(xH HB hw423_1),(xH HB hw423_2)⟩ (fun hHeld=>?_)
         clear hK K
         refine no 14 ?_
         refine pt 3 15 (fl 31 15) HT_ ?_
         refine pt 4 16 (fl 31 31) HT_ ?_
         refine pt 5 17 (fl 31 63) HT_ ?_
         refine tt 6 18 (fl 31 127) HT_ HW_ hHeld ?_
         refine ot 7 (some 19) (fl 31 255) HT_ (fun K hK=>?_)
         refine goes_ Try.func58 (by kernel_rfl) rfl #[.int .i64 ((rd_T61 l0 x7_1).f1),.int .i64 0,.int .i64 20] (by rfl) rfl rfl (by (try simp only [List.map_toArray,List.map_cons,List.map_nil]);rfl) ?_
         with_reducible refine (impl_in.calls ((rd_T61 l0 x7_1).f1) 0 20 true _ A7.out).mono ?_
         rintro e w' ⟨rfl,⟨nd,rfl⟩⟩
         refine ⟨_,rfl,?_⟩
         refine hK.out _ _ ⟨bq BK419 0,bq BK419 1,bq BK419 2,(xH HB hw423_0),(xH HB hw423_1),(xH HB hw423_2)⟩ (fun hHeld=>?_)
         clear hK K
         refine no 19 ?_
         refine pt 8 20 (fl 31 511) HT_ ?_
         refine pt 9 21 (fl 31 1023) HT_ ?_
         refine pt 10 22 (fl 31 2047) HT_ ?_
         refine pt 11 23 (fl 31 4095) HT_ ?_
         refine tt 12 24 (fl 31 8191) HT_ HW_ hHeld ?_
         refine ot 13 (some 25) (fl 31 16383) HT_ (fun K hK=>?_)
         refine goes_ Try.func58 (by kernel_rfl) rfl #[.int .i64 ((rd_T61 l0 x7_1).f2),.int .i64 1,.int .i64 1000] (by rfl) rfl rfl (by (try simp only [List.map_toArray,List.map_cons,List.map_nil]);rfl) ?_
         with_reducible refine (impl_in.calls ((rd_T61 l0 x7_1).f2) 1 1000 true _ A9.out).mono ?_
         rintro e w' ⟨rfl,⟨nd,rfl⟩⟩
         refine ⟨_,rfl,?_⟩
         refine hK.out _ _ ⟨bq BK419 0,bq BK419 1,bq BK419 2,(xH HB hw423_0),(xH HB hw423_1),(xH HB hw423_2)⟩ (fun hHeld=>?_)
         clear hK K
         refine no 25 ?_
         refine pt 14 26 (fl 31 32767) HT_ ?_
         refine pt 15 27 (fl 31 65535) HT_ ?_
         refine pt 16 28 (fl 31 131071) HT_ ?_
         refine pt 17 29 (fl 31 262143) HT_ ?_
         refine pt 18 30 (fl 31 524287) HT_ ?_
         refine pt 19 31 (fl 31 1048575) HT_ ?_
         refine pt 20 32 (fl 31 2097151) HT_ ?_
         refine pt 21 33 (fl 31 4194303) HT_ ?_
         refine pt 22 34 (fl 31 8388607) HT_ ?_
         refine pt 23 35 (fl 31 16777215) HT_ ?_
         refine pt 24 36 (fl 31 33554431) HT_ ?_
         refine pt 26 38 (fl 31 100663295) HT_ ?_
         refine tt 25 37 (fl 31 134217727) HT_ HW_ hHeld ?_
         refine tt 27 39 (fl 31 268435455) HT_ HW_ hHeld ?_
         refine pt 28 40 (fl 31 536870911) HT_ ?_
         refine pt 29 41 (fl 31 1073741823) HT_ ?_
         refine pt 30 42 (fl 31 2147483647) HT_ ?_
         refine done_ (done_of HT_.out (by kernel_rfl)) ?_
         try go_wp2
         go_roundg k1
         case measure=>have:=HK1.out;omega
         case rel=>exact ⟨(wrap64 (x7_1+1)),rd_,H',⟨by have:=HK1.out;omega⟩,⟨be⟩⟩
       ·rw [if_neg c11] at H
        have c11b0:decide (0 < x7_1)=false:=decide_eq_false c11
        clear c11
        have H':=Aside0.mk H
        clear H
        have p418:0≤(x7_1:Int):=od
        have q418:x7_1 < (l0.length:Int):=od
        obtain ⟨ad418,e418,hx418_0,hx418_1,hx418_2⟩:=at_T61 HR0.out x7_1 p418 q418
        cases e418
        replace hx418_0:=xH HB hx418_0
        replace hx418_1:=xH HB hx418_1
        replace hx418_2:=xH HB hx418_2
        replace p418:=eq_true p418
        replace q418:=eq_true q418
        try go_wp2_with ((with_reducible refine gate_dst (N:=4) rfl ?_);refine box_event ?hg (N:=4) ?hd (cs:=#[.int .i64 0,.int .i64 0,.int .i64 0]) (t:=61) ?hr ?_;(case hd=>rfl);(case hg=>rfl);(case hr=>(go_simp;done));intro gb419 hg w24 hbox hb;have BK419:=aM (hbox);have GW419:=gS w hg;have GE419:=gS w hg;replace HB:=bs hb;clear hb hbox hg;obtain ⟨hcz25_0,hcz25_1,hcz25_2,hfz25_0,hfz25_1,hfz25_2⟩:=b3 BK419)
        obtain ⟨w26,hW_⟩ : ∃ W_:World,W_=(((w24.setCell ⟨gb419,0,none⟩ (.int .i64 ((rd_T61 l0 x7_1).f0))).setCell ⟨gb419,1,none⟩ (.int .i64 ((rd_T61 l0 x7_1).f1))).setCell ⟨gb419,2,none⟩ (.int .i64 ((rd_T61 l0 x7_1).f2))):=⟨_,rfl⟩
        have n0_:Aside0 (w26.heap[gb419]?=some (.cells #[.int .i64 ((rd_T61 l0 x7_1).f0),.int .i64 ((rd_T61 l0 x7_1).f1),.int .i64 ((rd_T61 l0 x7_1).f2)] 61 (0,0))):=⟨by rw [hW_];refine blk_put (cs:=#[.int .i64 ((rd_T61 l0 x7_1).f0),.int .i64 ((rd_T61 l0 x7_1).f1),.int .i64 0]) ?_ 2 _ rfl;refine blk_put (cs:=#[.int .i64 ((rd_T61 l0 x7_1).f0),.int .i64 0,.int .i64 0]) ?_ 1 _ rfl;refine blk_put (cs:=#[.int .i64 0,.int .i64 0,.int .i64 0]) ?_ 0 _ rfl;exact BK419.out⟩
        have n1_:Aside0 (Below w.heap.size w w26):=⟨by rw [hW_];exact be⟩
        (try clear BK419)
        (try clear HB)
        rw [← hW_];clear hW_
        have BK419:=n0_;have HB:=n1_;clear n0_ n1_;replace BK419:=aM (blk_drew BK419.out);replace HB:=aM (below_drew1 HB.out)
        refine start_ (n:=31) (S:=fun w'=>w'.cell? ⟨gb419,0,none⟩=some (.int .i64 ((rd_T61 l0 x7_1).f0))∧w'.cell? ⟨gb419,1,none⟩=some (.int .i64 ((rd_T61 l0 x7_1).f1))∧w'.cell? ⟨gb419,2,none⟩=some (.int .i64 ((rd_T61 l0 x7_1).f2))) (ds:=[]) (fl 31 0) (by kernel_rfl) rfl rfl ⟨bq BK419 0,bq BK419 1,bq BK419 2⟩ (fun hHeld=>?_);refine with_tabW impl_DevsOk.tab4 impl_DevsOk.bits4 (fun HT_ HW_=>?_)
        generalize w26.drew=w27 at BK419 HB hHeld ⊢
        refine pt 0 12 (fl 31 1) HT_ ?_
        refine tt 1 13 (fl 31 3) HT_ HW_ hHeld ?_
        refine ot 2 (some 14) (fl 31 7) HT_ (fun K hK=>?_)
        refine goes_ Try.func58 (by kernel_rfl) rfl #[.int .i64 ((rd_T61 l0 x7_1).f0),.int .i64 0,.int .i64 20] (by rfl) rfl rfl (by (try simp only [List.map_toArray,List.map_cons,List.map_nil]);rfl) ?_
        with_reducible refine (impl_in.calls ((rd_T61 l0 x7_1).f0) 0 20 true _ A5.out).mono ?_
        rintro e w' ⟨rfl,⟨nd,rfl⟩⟩
        refine ⟨_,rfl,?_⟩
        refine hK.out _ _ ⟨bq BK419 0,bq BK419 1,bq BK419 2⟩ (fun hHeld=>?_)
        clear hK K
        refine no 14 ?_
        refine pt 3 15 (fl 31 15) HT_ ?_
        refine pt 4 16 (fl 31 31) HT_ ?_
        refine pt 5 17 (fl 31 63) HT_ ?_
        refine tt 6 18 (fl 31 127) HT_ HW_ hHeld ?_
        refine ot 7 (some 19) (fl 31 255) HT_ (fun K hK=>?_)
        refine goes_ Try.func58 (by kernel_rfl) rfl #[.int .i64 ((rd_T61 l0 x7_1).f1),.int .i64 0,.int .i64 20] (by rfl) rfl rfl (by (try simp only [List.map_toArray,List.map_cons,List.map_nil]);rfl) ?_
        with_reducible refine (impl_in.calls ((rd_T61 l0 x7_1).f1) 0 20 true _ A7.out).mono ?_
        rintro e w' ⟨rfl,⟨nd,rfl⟩⟩
        refine ⟨_,rfl,?_⟩
        refine hK.out _ _ ⟨bq BK419 0,bq BK419 1,bq BK419 2⟩ (fun hHeld=>?_)
        clear hK K
        refine no 19 ?_
        refine pt 8 20 (fl 31 511) HT_ ?_
        refine pt 9 21 (fl 31 1023) HT_ ?_
        refine pt 10 22 (fl 31 2047) HT_ ?_
        refine pt 11 23 (fl 31 4095) HT_ ?_
        refine tt 12 24 (fl 31 8191) HT_ HW_ hHeld ?_
        refine ot 13 (some 25) (fl 31 16383) HT_ (fun K hK=>?_)
        refine goes_ Try.func58 (by kernel_rfl) rfl #[.int .i64 ((rd_T61 l0 x7_1).f2),.int .i64 1,.int .i64 1000] (by rfl) rfl rfl (by (try simp only [List.map_toArray,List.map_cons,List.map_nil]);rfl) ?_
        with_reducible refine (impl_in.calls ((rd_T61 l0 x7_1).f2) 1 1000 true _ A9.out).mono ?_
        rintro e w' ⟨rfl,⟨nd,rfl⟩⟩
        refine ⟨_,rfl,?_⟩
        refine hK.out _ _ ⟨bq BK419 0,bq BK419 1,bq BK419 2⟩ (fun hHeld=>?_)
        clear hK K
        refine no 25 ?_
        refine pt 14 26 (fl 31 32767) HT_ ?_
        refine pt 15 27 (fl 31 65535) HT_ ?_
        refine pt 16 28 (fl 31 131071) HT_ ?_
        refine pt 17 29 (fl 31 262143) HT_ ?_
        refine pt 18 30 (fl 31 524287) HT_ ?_
        refine pt 19 31 (fl 31 1048575) HT_ ?_
        refine ut 20 32 (fl 31 2097151) HT_ ?_
        refine ut 21 33 (fl 31 4194303) HT_ ?_
        refine ut 22 34 (fl 31 8388607) HT_ ?_
        refine ut 23 35 (fl 31 16777215) HT_ ?_
        refine ut 24 36 (fl 31 33554431) HT_ ?_
        refine ut 25 37 (fl 31 67108863) HT_ ?_
        refine ut 26 38 (fl 31 134217727) HT_ ?_
        refine ut 27 39 (fl 31 268435455) HT_ ?_
        refine ut 28 40 (fl 31 536870911) HT_ ?_
        refine pt 29 41 (fl 31 1073741823) HT_ ?_
        refine pt 30 42 (fl 31 2147483647) HT_ ?_
        refine done_ (done_of HT_.out (by kernel_rfl)) ?_
        try go_wp2
        go_roundg k1
        case measure=>have:=HK1.out;omega
        case rel=>exact ⟨(wrap64 (x7_1+1)),rd_,H',⟨by have:=HK1.out;omega⟩,⟨be⟩⟩
      ·replace c10:=Bool.eq_false_iff.mpr c10
       subst c10
       replace H:=(if_neg (show ¬ (false=true) by decide)).symm.trans H
       obtain rfl:=Option.some.inj H
       have p418:0≤(x7_1:Int):=od
       have q418:x7_1 < (l0.length:Int):=od
       obtain ⟨ad418,e418,hx418_0,hx418_1,hx418_2⟩:=at_T61 HR0.out x7_1 p418 q418
       cases e418
       replace hx418_0:=xH HB hx418_0
       replace hx418_1:=xH HB hx418_1
       replace hx418_2:=xH HB hx418_2
       replace p418:=eq_true p418
       replace q418:=eq_true q418
       try go_wp2_with ((with_reducible refine gate_dst (N:=4) rfl ?_);refine box_event ?hg (N:=4) ?hd (cs:=#[.int .i64 0,.int .i64 0,.int .i64 0]) (t:=61) ?hr ?_;(case hd=>rfl);(case hg=>rfl);(case hr=>(go_simp;done));intro gb419 hg w28 hbox hb;have BK419:=aM (hbox);have GW419:=gS w hg;have GE419:=gS w hg;replace HB:=bs hb;clear hb hbox hg;obtain ⟨hcz29_0,hcz29_1,hcz29_2,hfz29_0,hfz29_1,hfz29_2⟩:=b3 BK419)
       obtain ⟨w30,hW_⟩ : ∃ W_:World,W_=(((w28.setCell ⟨gb419,0,none⟩ (.int .i64 ((rd_T61 l0 x7_1).f0))).setCell ⟨gb419,1,none⟩ (.int .i64 ((rd_T61 l0 x7_1).f1))).setCell ⟨gb419,2,none⟩ (.int .i64 ((rd_T61 l0 x7_1).f2))):=⟨_,rfl⟩
       have n0_:Aside0 (w30.heap[gb419]?=some (.cells #[.int .i64 ((rd_T61 l0 x7_1).f0),.int .i64 ((rd_T61 l0 x7_1).f1),.int .i64 ((rd_T61 l0 x7_1).f2)] 61 (0,0))):=⟨by rw [hW_];refine blk_put (cs:=#[.int .i64 ((rd_T61 l0 x7_1).f0),.int .i64 ((rd_T61 l0 x7_1).f1),.int .i64 0]) ?_ 2 _ rfl;refine blk_put (cs:=#[.int .i64 ((rd_T61 l0 x7_1).f0),.int .i64 0,.int .i64 0]) ?_ 1 _ rfl;refine blk_put (cs:=#[.int .i64 0,.int .i64 0,.int .i64 0]) ?_ 0 _ rfl;exact BK419.out⟩
       have n1_:Aside0 (Below w.heap.size w w30):=⟨by rw [hW_];exact be⟩
       (try clear BK419)
       (try clear HB)
       rw [← hW_];clear hW_
       have BK419:=n0_;have HB:=n1_;clear n0_ n1_;replace BK419:=aM (blk_drew BK419.out);replace HB:=aM (below_drew1 HB.out)
       refine start_ (n:=31) (S:=fun w'=>w'.cell? ⟨gb419,0,none⟩=some (.int .i64 ((rd_T61 l0 x7_1).f0))∧w'.cell? ⟨gb419,1,none⟩=some (.int .i64 ((rd_T61 l0 x7_1).f1))∧w'.cell? ⟨gb419,2,none⟩=some (.int .i64 ((rd_T61 l0 x7_1).f2))) (ds:=[]) (fl 31 0) (by kernel_rfl) rfl rfl ⟨bq BK419 0,bq BK419 1,bq BK419 2⟩ (fun hHeld=>?_);refine with_tabW impl_DevsOk.tab4 impl_DevsOk.bits4 (fun HT_ HW_=>?_)
       generalize w30.drew=w31 at BK419 HB hHeld ⊢
       refine pt 0 12 (fl 31 1) HT_ ?_
       refine tt 1 13 (fl 31 3) HT_ HW_ hHeld ?_
       refine ot 2 (some 14) (fl 31 7) HT_ (fun K hK=>?_)
       refine goes_ Try.func58 (by kernel_rfl) rfl #[.int .i64 ((rd_T61 l0 x7_1).f0),.int .i64 0,.int .i64 20] (by rfl) rfl rfl (by (try simp only [List.map_toArray,List.map_cons,List.map_nil]);rfl) ?_
       with_reducible refine (impl_in.calls ((rd_T61 l0 x7_1).f0) 0 20 true _ A5.out).mono ?_
       rintro e w' ⟨rfl,⟨nd,rfl⟩⟩
       refine ⟨_,rfl,?_⟩
       refine hK.out _ _ ⟨bq BK419 0,bq BK419 1,bq BK419 2⟩ (fun hHeld=>?_)
       clear hK K
       refine no 14 ?_
       refine pt 3 15 (fl 31 15) HT_ ?_
       refine pt 4 16 (fl 31 31) HT_ ?_
       refine pt 5 17 (fl 31 63) HT_ ?_
       refine tt 6 18 (fl 31 127) HT_ HW_ hHeld ?_
       refine ot 7 (some 19) (fl 31 255) HT_ (fun K hK=>?_)
       refine goes_ Try.func58 (by kernel_rfl) rfl #[.int .i64 ((rd_T61 l0 x7_1).f1),.int .i64 0,.int .i64 20] (by rfl) rfl rfl (by (try simp only [List.map_toArray,List.map_cons,List.map_nil]);rfl) ?_
       with_reducible refine (impl_in.calls ((rd_T61 l0 x7_1).f1) 0 20 true _ A7.out).mono ?_
       rintro e w' ⟨rfl,⟨nd,rfl⟩⟩
       refine ⟨_,rfl,?_⟩
       refine hK.out _ _ ⟨bq BK419 0,bq BK419 1,bq BK419 2⟩ (fun hHeld=>?_)
       clear hK K
       refine no 19 ?_
       refine pt 8 20 (fl 31 511) HT_ ?_
       refine pt 9 21 (fl 31 1023) HT_ ?_
       refine pt 10 22 (fl 31 2047) HT_ ?_
       refine pt 11 23 (fl 31 4095) HT_ ?_
       refine tt 12 24 (fl 31 8191) HT_ HW_ hHeld ?_
       refine ot 13 (some 25) (fl 31 16383) HT_ (fun K hK=>?_)
       refine goes_ Try.func58 (by kernel_rfl) rfl #[.int .i64 ((rd_T61 l0 x7_1).f2),.int .i64 1,.int .i64 1000] (by rfl) rfl rfl (by (try simp only [List.map_toArray,List.map_cons,List.map_nil]);rfl) ?_
       with_reducible refine (impl_in.calls ((rd_T61 l0 x7_1).f2) 1 1000 false _ A9.out).mono ?_
       rintro e w' ⟨rfl,⟨nd,rfl⟩⟩
       refine ⟨_,rfl,?_⟩
       refine hK.out _ _ ⟨bq BK419 0,bq BK419 1,bq BK419 2⟩ (fun hHeld=>?_)
       clear hK K
       refine no 25 ?_
       refine pt 14 26 (fl 31 32767) HT_ ?_
       refine pt 15 27 (fl 31 65535) HT_ ?_
       refine pt 16 28 (fl 31 131071) HT_ ?_
       refine ut 17 29 (fl 31 262143) HT_ ?_
       refine ut 18 30 (fl 31 524287) HT_ ?_
       refine ut 19 31 (fl 31 1048575) HT_ ?_
       refine ut 20 32 (fl 31 2097151) HT_ ?_
       refine ut 21 33 (fl 31 4194303) HT_ ?_
       refine ut 22 34 (fl 31 8388607) HT_ ?_
       refine ut 23 35 (fl 31 16777215) HT_ ?_
       refine ut 24 36 (fl 31 33554431) HT_ ?_
       refine ut 25 37 (fl 31 67108863) HT_ ?_
       refine ut 26 38 (fl 31 134217727) HT_ ?_
       refine ut 27 39 (fl 31 268435455) HT_ ?_
       refine ut 28 40 (fl 31 536870911) HT_ ?_
       refine ut 29 41 (fl 31 1073741823) HT_ ?_
       refine pt 30 42 (fl 31 2147483647) HT_ ?_
       refine done_ (done_of HT_.out (by kernel_rfl)) ?_
       try go_wp2
       go_ret
       exact ⟨by rfl,be⟩
     ·replace c8:=Bool.eq_false_iff.mpr c8
      subst c8
      replace H:=(if_neg (show ¬ (false=true) by decide)).symm.trans H
      obtain rfl:=Option.some.inj H
      have p418:0≤(x7_1:Int):=od
      have q418:x7_1 < (l0.length:Int):=od
      obtain ⟨ad418,e418,hx418_0,hx418_1,hx418_2⟩:=at_T61 HR0.out x7_1 p418 q418
      cases e418
      replace hx418_0:=xH HB hx418_0
      replace hx418_1:=xH HB hx418_1
      replace hx418_2:=xH HB hx418_2
      replace p418:=eq_true p418
      replace q418:=eq_true q418
      try go_wp2_with ((with_reducible refine gate_dst (N:=4) rfl ?_);refine box_event ?hg (N:=4) ?hd (cs:=#[.int .i64 0,.int .i64 0,.int .i64 0]) (t:=61) ?hr ?_;(case hd=>rfl);(case hg=>rfl);(case hr=>(go_simp;done));intro gb419 hg w32 hbox hb;have BK419:=aM (hbox);have GW419:=gS w hg;have GE419:=gS w hg;replace HB:=bs hb;clear hb hbox hg;obtain ⟨hcz33_0,hcz33_1,hcz33_2,hfz33_0,hfz33_1,hfz33_2⟩:=b3 BK419)
      obtain ⟨w34,hW_⟩ : ∃ W_:World,W_=(((w32.setCell ⟨gb419,0,none⟩ (.int .i64 ((rd_T61 l0 x7_1).f0))).setCell ⟨gb419,1,none⟩ (.int .i64 ((rd_T61 l0 x7_1).f1))).setCell ⟨gb419,2,none⟩ (.int .i64 ((rd_T61 l0 x7_1).f2))):=⟨_,rfl⟩
      have n0_:Aside0 (w34.heap[gb419]?=some (.cells #[.int .i64 ((rd_T61 l0 x7_1).f0),.int .i64 ((rd_T61 l0 x7_1).f1),.int .i64 ((rd_T61 l0 x7_1).f2)] 61 (0,0))):=⟨by rw [hW_];refine blk_put (cs:=#[.int .i64 ((rd_T61 l0 x7_1).f0),.int .i64 ((rd_T61 l0 x7_1).f1),.int .i64 0]) ?_ 2 _ rfl;refine blk_put (cs:=#[.int .i64 ((rd_T61 l0 x7_1).f0),.int .i64 0,.int .i64 0]) ?_ 1 _ rfl;refine blk_put (cs:=#[.int .i64 0,.int .i64 0,.int .i64 0]) ?_ 0 _ rfl;exact BK419.out⟩
      have n1_:Aside0 (Below w.heap.size w w34):=⟨by rw [hW_];exact be⟩
      (try clear BK419)
      (try clear HB)
      rw [← hW_];clear hW_
      have BK419:=n0_;have HB:=n1_;clear n0_ n1_;replace BK419:=aM (blk_drew BK419.out);replace HB:=aM (below_drew1 HB.out)
      refine start_ (n:=31) (S:=fun w'=>w'.cell? ⟨gb419,0,none⟩=some (.int .i64 ((rd_T61 l0 x7_1).f0))∧w'.cell? ⟨gb419,1,none⟩=some (.int .i64 ((rd_T61 l0 x7_1).f1))∧w'.cell? ⟨gb419,2,none⟩=some (.int .i64 ((rd_T61 l0 x7_1).f2))) (ds:=[]) (fl 31 0) (by kernel_rfl) rfl rfl ⟨bq BK419 0,bq BK419 1,bq BK419 2⟩ (fun hHeld=>?_);refine with_tabW impl_DevsOk.tab4 impl_DevsOk.bits4 (fun HT_ HW_=>?_)
      generalize w34.drew=w35 at BK419 HB hHeld ⊢
      refine pt 0 12 (fl 31 1) HT_ ?_
      refine tt 1 13 (fl 31 3) HT_ HW_ hHeld ?_
      refine ot 2 (some 14) (fl 31 7) HT_ (fun K hK=>?_)
      refine goes_ Try.func58 (by kernel_rfl) rfl #[.int .i64 ((rd_T61 l0 x7_1).f0),.int .i64 0,.int .i64 20] (by rfl) rfl rfl (by (try simp only [List.map_toArray,List.map_cons,List.map_nil]);rfl) ?_
      with_reducible refine (impl_in.calls ((rd_T61 l0 x7_1).f0) 0 20 true _ A5.out).mono ?_
      rintro e w' ⟨rfl,⟨nd,rfl⟩⟩
      refine ⟨_,rfl,?_⟩
      refine hK.out _ _ ⟨bq BK419 0,bq BK419 1,bq BK419 2⟩ (fun hHeld=>?_)
      clear hK K
      refine no 14 ?_
      refine pt 3 15 (fl 31 15) HT_ ?_
      refine pt 4 16 (fl 31 31) HT_ ?_
      refine pt 5 17 (fl 31 63) HT_ ?_
      refine tt 6 18 (fl 31 127) HT_ HW_ hHeld ?_
      refine ot 7 (some 19) (fl 31 255) HT_ (fun K hK=>?_)
      refine goes_ Try.func58 (by kernel_rfl) rfl #[.int .i64 ((rd_T61 l0 x7_1).f1),.int .i64 0,.int .i64 20] (by rfl) rfl rfl (by (try simp only [List.map_toArray,List.map_cons,List.map_nil]);rfl) ?_
      with_reducible refine (impl_in.calls ((rd_T61 l0 x7_1).f1) 0 20 false _ A7.out).mono ?_
      rintro e w' ⟨rfl,⟨nd,rfl⟩⟩
      refine ⟨_,rfl,?_⟩
      refine hK.out _ _ ⟨bq BK419 0,bq BK419 1,bq BK419 2⟩ (fun hHeld=>?_)
      clear hK K
      refine no 19 ?_
      refine pt 8 20 (fl 31 511) HT_ ?_
      refine pt 9 21 (fl 31 1023) HT_ ?_
      refine pt 10 22 (fl 31 2047) HT_ ?_
      refine ut 11 23 (fl 31 4095) HT_ ?_
      refine ut 12 24 (fl 31 8191) HT_ ?_
      refine ut 13 25 (fl 31 16383) HT_ ?_
      refine ut 14 26 (fl 31 32767) HT_ ?_
      refine pt 15 27 (fl 31 65535) HT_ ?_
      refine pt 16 28 (fl 31 131071) HT_ ?_
      refine ut 17 29 (fl 31 262143) HT_ ?_
      refine ut 18 30 (fl 31 524287) HT_ ?_
      refine ut 19 31 (fl 31 1048575) HT_ ?_
      refine ut 20 32 (fl 31 2097151) HT_ ?_
      refine ut 21 33 (fl 31 4194303) HT_ ?_
      refine ut 22 34 (fl 31 8388607) HT_ ?_
      refine ut 23 35 (fl 31 16777215) HT_ ?_
      refine ut 24 36 (fl 31 33554431) HT_ ?_
      refine ut 25 37 (fl 31 67108863) HT_ ?_
      refine ut 26 38 (fl 31 134217727) HT_ ?_
      refine ut 27 39 (fl 31 268435455) HT_ ?_
      refine ut 28 40 (fl 31 536870911) HT_ ?_
      refine ut 29 41 (fl 31 1073741823) HT_ ?_
      refine pt 30 42 (fl 31 2147483647) HT_ ?_
      refine done_ (done_of HT_.out (by kernel_rfl)) ?_
      try go_wp2
      go_ret
      exact ⟨by rfl,be⟩
    ·replace c6:=Bool.eq_false_iff.mpr c6
     subst c6
     replace H:=(if_neg (show ¬ (false=true) by decide)).symm.trans H
     obtain rfl:=Option.some.inj H
     have p418:0≤(x7_1:Int):=od
     have q418:x7_1 < (l0.length:Int):=od
     obtain ⟨ad418,e418,hx418_0,hx418_1,hx418_2⟩:=at_T61 HR0.out x7_1 p418 q418
     cases e418
     replace hx418_0:=xH HB hx418_0
     replace hx418_1:=xH HB hx418_1
     replace hx418_2:=xH HB hx418_2
     replace p418:=eq_true p418
     replace q418:=eq_true q418
     try go_wp2_with ((with_reducible refine gate_dst (N:=4) rfl ?_);refine box_event ?hg (N:=4) ?hd (cs:=#[.int .i64 0,.int .i64 0,.int .i64 0]) (t:=61) ?hr ?_;(case hd=>rfl);(case hg=>rfl);(case hr=>(go_simp;done));intro gb419 hg w36 hbox hb;have BK419:=aM (hbox);have GW419:=gS w hg;have GE419:=gS w hg;replace HB:=bs hb;clear hb hbox hg;obtain ⟨hcz37_0,hcz37_1,hcz37_2,hfz37_0,hfz37_1,hfz37_2⟩:=b3 BK419)
     obtain ⟨w38,hW_⟩ : ∃ W_:World,W_=(((w36.setCell ⟨gb419,0,none⟩ (.int .i64 ((rd_T61 l0 x7_1).f0))).setCell ⟨gb419,1,none⟩ (.int .i64 ((rd_T61 l0 x7_1).f1))).setCell ⟨gb419,2,none⟩ (.int .i64 ((rd_T61 l0 x7_1).f2))):=⟨_,rfl⟩
     have n0_:Aside0 (w38.heap[gb419]?=some (.cells #[.int .i64 ((rd_T61 l0 x7_1).f0),.int .i64 ((rd_T61 l0 x7_1).f1),.int .i64 ((rd_T61 l0 x7_1).f2)] 61 (0,0))):=⟨by rw [hW_];refine blk_put (cs:=#[.int .i64 ((rd_T61 l0 x7_1).f0),.int .i64 ((rd_T61 l0 x7_1).f1),.int .i64 0]) ?_ 2 _ rfl;refine blk_put (cs:=#[.int .i64 ((rd_T61 l0 x7_1).f0),.int .i64 0,.int .i64 0]) ?_ 1 _ rfl;refine blk_put (cs:=#[.int .i64 0,.int .i64 0,.int .i64 0]) ?_ 0 _ rfl;exact BK419.out⟩
     have n1_:Aside0 (Below w.heap.size w w38):=⟨by rw [hW_];exact be⟩
     (try clear BK419)
     (try clear HB)
     rw [← hW_];clear hW_
     have BK419:=n0_;have HB:=n1_;clear n0_ n1_;replace BK419:=aM (blk_drew BK419.out);replace HB:=aM (below_drew1 HB.out)
     refine start_ (n:=31) (S:=fun w'=>w'.cell? ⟨gb419,0,none⟩=some (.int .i64 ((rd_T61 l0 x7_1).f0))∧w'.cell? ⟨gb419,1,none⟩=some (.int .i64 ((rd_T61 l0 x7_1).f1))∧w'.cell? ⟨gb419,2,none⟩=some (.int .i64 ((rd_T61 l0 x7_1).f2))) (ds:=[]) (fl 31 0) (by kernel_rfl) rfl rfl ⟨bq BK419 0,bq BK419 1,bq BK419 2⟩ (fun hHeld=>?_);refine with_tabW impl_DevsOk.tab4 impl_DevsOk.bits4 (fun HT_ HW_=>?_)
     generalize w38.drew=w39 at BK419 HB hHeld ⊢
     refine pt 0 12 (fl 31 1) HT_ ?_
     refine tt 1 13 (fl 31 3) HT_ HW_ hHeld ?_
     refine ot 2 (some 14) (fl 31 7) HT_ (fun K hK=>?_)
     refine goes_ Try.func58 (by kernel_rfl) rfl #[.int .i64 ((rd_T61 l0 x7_1).f0),.int .i64 0,.int .i64 20] (by rfl) rfl rfl (by (try simp only [List.map_toArray,List.map_cons,List.map_nil]);rfl) ?_
     with_reducible refine (impl_in.calls ((rd_T61 l0 x7_1).f0) 0 20 false _ A5.out).mono ?_
     rintro e w' ⟨rfl,⟨nd,rfl⟩⟩
     refine ⟨_,rfl,?_⟩
     refine hK.out _ _ ⟨bq BK419 0,bq BK419 1,bq BK419 2⟩ (fun hHeld=>?_)
     clear hK K
     refine no 14 ?_
     refine pt 3 15 (fl 31 15) HT_ ?_
     refine pt 4 16 (fl 31 31) HT_ ?_
     refine ut 5 17 (fl 31 63) HT_ ?_
     refine ut 6 18 (fl 31 127) HT_ ?_
     refine ut 7 19 (fl 31 255) HT_ ?_
     refine ut 8 20 (fl 31 511) HT_ ?_
     refine pt 9 21 (fl 31 1023) HT_ ?_
     refine pt 10 22 (fl 31 2047) HT_ ?_
     refine ut 11 23 (fl 31 4095) HT_ ?_
     refine ut 12 24 (fl 31 8191) HT_ ?_
     refine ut 13 25 (fl 31 16383) HT_ ?_
     refine ut 14 26 (fl 31 32767) HT_ ?_
     refine pt 15 27 (fl 31 65535) HT_ ?_
     refine pt 16 28 (fl 31 131071) HT_ ?_
     refine ut 17 29 (fl 31 262143) HT_ ?_
     refine ut 18 30 (fl 31 524287) HT_ ?_
     refine ut 19 31 (fl 31 1048575) HT_ ?_
     refine ut 20 32 (fl 31 2097151) HT_ ?_
     refine ut 21 33 (fl 31 4194303) HT_ ?_
     refine ut 22 34 (fl 31 8388607) HT_ ?_
     refine ut 23 35 (fl 31 16777215) HT_ ?_
     refine ut 24 36 (fl 31 33554431) HT_ ?_
     refine ut 25 37 (fl 31 67108863) HT_ ?_
     refine ut 26 38 (fl 31 134217727) HT_ ?_
     refine ut 27 39 (fl 31 268435455) HT_ ?_
     refine ut 28 40 (fl 31 536870911) HT_ ?_
     refine ut 29 41 (fl 31 1073741823) HT_ ?_
     refine pt 30 42 (fl 31 2147483647) HT_ ?_
     refine done_ (done_of HT_.out (by kernel_rfl)) ?_
     try go_wp2
     go_ret
     exact ⟨by rfl,be⟩
   ·rw [if_neg c2] at H
    have c2b0:decide (x7_1 < (l0.length:Int))=false:=decide_eq_false c2
    clear c2
    replace H:=Option.bind_eq_some_iff.mp H
    obtain ⟨t417,A400,H⟩:=H
    try dsimp only at H
    have A40:=aM A400
    clear A400
    obtain rfl:=Option.some.inj H
    go_wp2_with ((with_reducible refine gate_callee (f:=58) rfl ?_);refine goesL_ (some 46) rfl rfl Try.func58 (by kernel_rfl) rfl #[.int .i64 (l0.length:Int),.int .i64 1,.int .i64 12] rfl (by (try simp only [List.map_toArray,List.map_cons,List.map_nil]);rfl) ?_;(with_reducible refine (impl_in.calls (l0.length:Int) 1 12 t417 _ A40.out).mono ?_);rintro e w' ⟨rfl,⟨nd,rfl⟩⟩;refine ⟨_,rfl,?_⟩)
    go_ret
    exact ⟨by rfl,be⟩
end Go.Proofs.Ytpbjbfimnfghkaa.PFnRebalanced
