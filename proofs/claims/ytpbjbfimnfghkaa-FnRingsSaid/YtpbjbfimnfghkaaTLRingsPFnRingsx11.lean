/- Trimmed by a program of this session (trim.py). Not trusted: Lean checks it. -/
import Derived.Test.YtpbjbfimnfghkaaTLRingsPFnRingsx0
import Derived.Test.YtpbjbfimnfghkaaTLRingsPFnRingsx1
import Derived.Test.YtpbjbfimnfghkaaTLRingsPFnRingsx2
import Derived.Test.YtpbjbfimnfghkaaTLRingsPFnRingsx3
import Derived.Test.YtpbjbfimnfghkaaTLRingsPFnRingsx6
import Derived.Test.YtpbjbfimnfghkaaTLRingsPFnRingsx10
namespace Go.Proofs.Ytpbjbfimnfghkaa.PFnRings
open Go.RowKit Go.Proofs.YtpbjbfimnfghkaaW.PrintWords Go.Proofs.YtpbjbfimnfghkaaW.PrintLast Go.Proofs.YtpbjbfimnfghkaaW.PrintMore Go.Proofs.Ytpbjbfimnfghkaa.St
attribute [local go_sem] max2_int min2_int max_two min_two max_three min_three max_four min_four
set_option linter.unusedVariables false
set_option linter.unusedSimpArgs false
mutual
def laws_FnRings.j0:Nat→List (S61)→Int→Int→Bool→Bool→Bool→Int→List (S35)→Option (Bool)
 | 0,_,_,_,_,_,_,_,_=>none
 | k+1,x3,x4,x5,x7,x9,x40,x354000,x354001=>if x40=true then (if (x7 == x9)=true then (some ((x354001.length:Int) == 0)) else (some false)) else ((impl_ZonesOf.f k x3).bind fun t360=>(if (t360.length:Int) > x5 then (laws_FnRings.j1 k x3 x4 x5 x5 x354000 x354001) else (laws_FnRings.j1 k x3 x4 x5 (t360.length:Int) x354000 x354001)))
def laws_FnRings.j1:Nat→List (S61)→Int→Int→Int→Int→List (S35)→Option (Bool)
 | 0,_,_,_,_,_,_=>none
 | k+1,x3,x4,x5,x10,x354000,x354001=>laws_FnRings.l0 k x3 x4 x5 x10 0 x354000 x354001
def laws_FnRings.l0:Nat→List (S61)→Int→Int→Int→Int→Int→List (S35)→Option (Bool)
 | 0,_,_,_,_,_,_,_=>none
 | k+1,x3,x4,x5,x10,x11,x354000,x354001=>if x11 < (x354001.length:Int) then (if 0≤x11 then ((impl_SpreadOf.f k ((rd_T35 x354001 x11).f0) x3).bind fun t364=>(if t364=x10 then (laws_FnRings.l0 k x3 x4 x5 x10 (wrap64 (x11+1)) x354000 x354001) else (some false))) else (none)) else ((impl_RingOk.f k x354000 x354001 x3).bind fun t365=>(if t365=true then (if (x354001.length:Int)=x4 then (some (x354000 == x5)) else (some false)) else (some false)))
end
def laws_FnRings.f (k:Nat) (l0:List Int):Option (Bool):=(laws_big.f l0).bind fun t342=>(if t342=true then (some true) else ((spec_DrawBuild.f k l0).bind fun bt343=>((impl_Build.f k bt343.1 bt343.2.1 bt343.2.2).bind fun bt348=>((spec_Build.f k bt343.1 bt343.2.1 bt343.2.2).bind fun bt354=>(if (bt348.2.2 != bt354.2.2)=true then (laws_FnRings.j0 k bt343.1 bt343.2.1 bt343.2.2 bt348.2.2 bt354.2.2 true bt348.1 bt348.2.1) else (laws_FnRings.j0 k bt343.1 bt343.2.1 bt343.2.2 bt348.2.2 bt354.2.2 (!bt348.2.2) bt348.1 bt348.2.1))))))
set_option maxHeartbeats 8000000 in
set_option maxRecDepth 100000 in
theorem laws_FnRings.calls (k:Nat) (A0:Option Addr) (c0:Nat) (l0:List Int) (r:Bool) (w:World) (hr0:Kd.C (Kd.int .u8) w A0 l0.length l0) (hc0:l0.length≤c0) (h:laws_FnRings.f k l0=some r) (hr_:Aside0 (r=true)) :
  Calls Try.prog 6 #[.slice A0 l0.length c0] w fun e w'=>e = .returned (.bool r)∧Below w.heap.size w w':=by
 have hu26:=Try.underlying26
 have hu35:=Try.underlying35
 have HR0:=Aside0.mk hr0
 have HC0:=Aside0.mk hc0
 clear hr0 hc0
 have HB:=Aside0.mk (Below.refl w.heap.size w)
 have H:((laws_big.f l0).bind fun t342=>(if t342=true then (some true) else ((spec_DrawBuild.f k l0).bind fun bt343=>((impl_Build.f k bt343.1 bt343.2.1 bt343.2.2).bind fun bt348=>((spec_Build.f k bt343.1 bt343.2.1 bt343.2.2).bind fun bt354=>(if (bt348.2.2 != bt354.2.2)=true then (laws_FnRings.j0 k bt343.1 bt343.2.1 bt343.2.2 bt348.2.2 bt354.2.2 true bt348.1 bt348.2.1) else (laws_FnRings.j0 k bt343.1 bt343.2.1 bt343.2.2 bt348.2.2 bt354.2.2 (!bt348.2.2) bt348.1 bt348.2.1)))))))=some r:=h
 clear h
 replace H:=Option.bind_eq_some_iff.mp H
 obtain ⟨t342,A20,H⟩:=H
 try dsimp only at H
 have A2:=Aside0.mk A20
 clear A20
 by_cases c3:t342=true
 ·subst c3
  rw [if_pos rfl] at H
  obtain rfl:=Option.some.inj H
  go_enter Try.func6,Try.ntmps6
  go_wp2_with (first|((with_reducible refine gate_callee (f:=8) rfl ?_);refine goesL_ (some 13) rfl rfl Try.func8 (by kernel_rfl) rfl #[.slice A0 l0.length c0] rfl (by (try simp only [List.map_toArray,List.map_cons,List.map_nil]);first|done|rfl|(simp only [List.length_drop,List.length_take];rfl)) ?_;(with_reducible refine (laws_big.calls _ _ l0 true _ ?side1 ?side2 A2.out).mono ?_);(case side1=>exact sC HR0);(case side2=>exact HC0.out);rintro e w' ⟨rfl,⟨nd,rfl⟩⟩;refine ⟨_,rfl,?_⟩))
  go_ret
  exact ⟨rz,be⟩
 ·replace c3:=Bool.eq_false_iff.mpr c3
  subst c3
  have H1:((spec_DrawBuild.f k l0).bind fun bt343=>((impl_Build.f k bt343.1 bt343.2.1 bt343.2.2).bind fun bt348=>((spec_Build.f k bt343.1 bt343.2.1 bt343.2.2).bind fun bt354=>(if (bt348.2.2 != bt354.2.2)=true then (laws_FnRings.j0 k bt343.1 bt343.2.1 bt343.2.2 bt348.2.2 bt354.2.2 true bt348.1 bt348.2.1) else (laws_FnRings.j0 k bt343.1 bt343.2.1 bt343.2.2 bt348.2.2 bt354.2.2 (!bt348.2.2) bt348.1 bt348.2.1)))))=some r:=by rw [if_neg (show ¬ (false=true) by decide)] at H;exact H
  clear H
  have H:=H1
  clear H1
  replace H:=Option.bind_eq_some_iff.mp H
  obtain ⟨⟨t343,t344,t345⟩,A40,H⟩:=H
  try dsimp only at H
  have A4:=Aside0.mk A40
  clear A40
  replace H:=Option.bind_eq_some_iff.mp H
  obtain ⟨⟨t348,t349,t352⟩,A50,H⟩:=H
  try dsimp only at H
  have A5:=Aside0.mk A50
  clear A50
  replace H:=Option.bind_eq_some_iff.mp H
  obtain ⟨⟨t354,t355,t358⟩,A60,H⟩:=H
  try dsimp only at H
  have A6:=Aside0.mk A60
  clear A60
  have HC7:=Aside0.mk H
  clear H
  go_enter Try.func6,Try.ntmps6
  go_upto_region 6 with (first|((with_reducible refine gate_callee (f:=8) rfl ?_);refine goesL_ (some 13) rfl rfl Try.func8 (by kernel_rfl) rfl #[.slice A0 l0.length c0] rfl (by (try simp only [List.map_toArray,List.map_cons,List.map_nil]);first|done|rfl|(simp only [List.length_drop,List.length_take];rfl)) ?_;(with_reducible refine (laws_big.calls _ _ l0 false _ ?side1 ?side2 A2.out).mono ?_);(case side1=>exact sC HR0);(case side2=>exact HC0.out);rintro e w' ⟨rfl,⟨nd,rfl⟩⟩;refine ⟨_,rfl,?_⟩)|((with_reducible refine gate_callee (f:=30) rfl ?_);refine goesL_ (some 16) rfl rfl Try.func30 (by kernel_rfl) rfl #[.slice A0 l0.length c0] rfl (by (try simp only [List.map_toArray,List.map_cons,List.map_nil]);first|done|rfl|(simp only [List.length_drop,List.length_take];rfl)) ?_;(with_reducible refine (spec_DrawBuild.calls k _ _ l0 t343 t344 t345 _ ?side1 ?side2 A4.out).mono ?_);(case side1=>exact sC HR0);(case side2=>exact HC0.out);rintro e w8 ⟨v346,rfl,ho0,hb⟩;refine ⟨_,rfl,?_⟩;have n0_:=Aside0.mk (Kd.R_lower ho0 (below_size be));have n1_:=bs hb;clear HB;have HO347:=n0_;have HB:=n1_;clear n0_ n1_;(try clear hb);(try clear hb2);(try clear hk);(try clear hi);(try clear ho0);obtain ⟨Ao9,co9,eo9⟩:=Kd.R_slice HO347.out;subst eo9)|((with_reducible refine gate_callee (f:=31) rfl ?_);refine goesL_ (some 24) rfl rfl Try.func31 (by kernel_rfl) rfl #[.slice Ao9 t343.length co9,.int .i64 t344,.int .i64 t345] rfl (by (try simp only [List.map_toArray,List.map_cons,List.map_nil]);first|done|rfl|(simp only [List.length_drop,List.length_take];rfl)) ?_;(with_reducible refine (impl_Build.calls k _ _ t343 t344 t345 t348 t349 t352 _ ?side1 ?side2 A5.out).mono ?_);(case side1=>exact sR HO347);(case side2=>exact (Kd.R_reads' HO347.out).2.1);rintro e w10 ⟨v350,rfl,ho0,hb⟩;refine ⟨_,rfl,?_⟩;have n0_:=Aside0.mk (Kd.R_below ((rR HO347)) hb);have n1_:=Aside0.mk (Kd.S_lower ho0 (below_size be));have n2_:=bs hb;clear HO347;clear HB;have HO347:=n0_;have HO351:=n1_;have HB:=n2_;clear n0_ n1_ n2_;(try clear hb);(try clear hb2);(try clear hk);(try clear hi);(try clear ho0))|((with_reducible refine gate_dst (N:=6) rfl ?_);(try (refine gate_guard (by rfl) ?_;dsimp only));refine box_event ?hg (N:=6) ?hd (cs:=#[.int .i64 0,.slice none 0 0]) (t:=26) ?hr ?_;(case hd=>rfl);(case hg=>rfl);(case hr=>first|(go_simp;done)|(go_simp;rfl));intro gb353 hg w11 hbox hb;have n0_:=Aside0.mk (Kd.R_below (rR HO347) hb);have n1_:=Aside0.mk (Kd.S_below (rS HO351) hb);have n2_:=bs hb;have n3_:=Aside0.mk (hbox);have n4_:=Aside0.mk ((by rw [hg];exact (below_size be):w.heap.size≤gb353));have n5_:=Aside0.mk ((by rw [hg];exact (below_size be):w.heap.size≤gb353));clear HO347;clear HO351;clear HB;have HO347:=n0_;have HO351:=n1_;have HB:=n2_;have BK353:=n3_;have GW353:=n4_;have GE353:=n5_;clear n0_ n1_ n2_ n3_ n4_ n5_;clear hb hbox hg;have hcz12_0:w11.cell? ⟨gb353,0,none⟩=some (.int .i64 0):=(blk_cell BK353.out 0).trans rfl;have hcz12_1:w11.cell? ⟨gb353,1,none⟩=some (.slice none 0 0):=(blk_cell BK353.out 1).trans rfl;have hfz12_0:=blk_frozen BK353.out 0;have hfz12_1:=blk_frozen BK353.out 1;obtain ⟨Ao13,co13,eo13⟩:=Kd.S_slice HO351.out;subst eo13)|((with_reducible refine gate_callee (f:=32) rfl ?_);refine goesL_ (some 31) rfl rfl Try.func32 (by kernel_rfl) rfl #[.slice Ao9 t343.length co9,.int .i64 t344,.int .i64 t345] rfl (by (try simp only [List.map_toArray,List.map_cons,List.map_nil]);first|done|rfl|(simp only [List.length_drop,List.length_take];rfl)) ?_;(with_reducible refine (spec_Build.calls k _ _ t343 t344 t345 t354 t355 t358 _ ?side1 ?side2 A6.out).mono ?_);(case side1=>refine (Kd.R_reads' (e:=61) (base:=w.heap.size) (ok:=fun k_=>True) (n:=t343.length) (c:=co9) ?_).2.2;exact (by (with_reducible repeat (first|apply Kd.R_alloc|apply Kd.R_drewN|apply Kd.R_drew));exact (Kd.R_mono (Kd.R_far (p:=⟨gb353,1,none⟩) (Kd.R_far (p:=⟨gb353,0,none⟩) (Kd.R_types HO347.out BK353.out (by decide)) (fun _ hk=>hk.2) (.int .i64 t348)) (fun _ hk=>hk.2) (.slice Ao13 t349.length co13)) (fun _ h_=>h_.1))));(case side2=>exact (Kd.R_reads' HO347.out).2.1);rintro e w14 ⟨v356,rfl,ho0,hb⟩;refine ⟨_,rfl,?_⟩;have n0_:=Aside0.mk (Kd.R_below ((by (with_reducible repeat (first|apply Kd.R_alloc|apply Kd.R_drewN|apply Kd.R_drew));exact (Kd.R_mono (Kd.R_far (p:=⟨gb353,1,none⟩) (Kd.R_far (p:=⟨gb353,0,none⟩) (Kd.R_types HO347.out BK353.out (by decide)) (fun _ hk=>hk.2) (.int .i64 t348)) (fun _ hk=>hk.2) (.slice Ao13 t349.length co13)) (fun _ h_=>h_.1)))) hb);have n1_:=Aside0.mk (Kd.S_elder' (by (with_reducible repeat (first|apply Kd.S_alloc|apply Kd.S_drewN|apply Kd.S_drew));exact (Kd.S_mono (Kd.S_far (p:=⟨gb353,1,none⟩) (Kd.S_far (p:=⟨gb353,0,none⟩) (Kd.S_types HO351.out BK353.out (by decide)) (fun _ hk=>hk.2) (.int .i64 t348)) (fun _ hk=>hk.2) (.slice Ao13 t349.length co13)) (fun _ h_=>h_.1))) (Kd.S_base ho0) hb);have n2_:=Aside0.mk (Kd.S_lower (Kd.S_new' ho0 (Kd.S_lt (by (with_reducible repeat (first|apply Kd.S_alloc|apply Kd.S_drewN|apply Kd.S_drew));exact (Kd.S_mono (Kd.S_far (p:=⟨gb353,1,none⟩) (Kd.S_far (p:=⟨gb353,0,none⟩) (Kd.S_types HO351.out BK353.out (by decide)) (fun _ hk=>hk.2) (.int .i64 t348)) (fun _ hk=>hk.2) (.slice Ao13 t349.length co13)) (fun _ h_=>h_.1))))) (below_size be));have n3_:=Aside0.mk (blk_below (g:=gb353) (o:=.cells #[.int .i64 t348,.slice Ao13 t349.length co13] 26 (0,0)) (by (with_reducible repeat (first|refine blk_drewN ?_ _|refine blk_drew ?_|refine blk_alloc ?_ _));refine blk_put (cs:=#[.int .i64 t348,.slice none 0 0]) ?_ 1 _ rfl;(with_reducible repeat (first|refine blk_drewN ?_ _|refine blk_drew ?_|refine blk_alloc ?_ _));refine blk_put (cs:=#[.int .i64 0,.slice none 0 0]) ?_ 0 _ rfl;(with_reducible repeat (first|refine blk_drewN ?_ _|refine blk_drew ?_|refine blk_alloc ?_ _));exact BK353.out) hb);have n4_:=bs hb;clear HO347;clear HO351;clear BK353;clear HB;have HO347:=n0_;have HO351:=n1_;have HO357:=n2_;have BK353:=n3_;have HB:=n4_;clear n0_ n1_ n2_ n3_ n4_;(try clear hb);(try clear hb2);(try clear hk);(try clear hi);(try clear ho0))|((with_reducible refine gate_dst (N:=8) rfl ?_);(try (refine gate_guard (by rfl) ?_;dsimp only));refine box_event ?hg (N:=8) ?hd (cs:=#[.int .i64 0,.slice none 0 0]) (t:=26) ?hr ?_;(case hd=>rfl);(case hg=>rfl);(case hr=>first|(go_simp;done)|(go_simp;rfl));intro gb359 hg w15 hbox hb;have n0_:=Aside0.mk (Kd.R_below (rR HO347) hb);have n1_:=Aside0.mk (Kd.S_below (rS HO351) hb);have n2_:=Aside0.mk (Kd.S_below (rS HO357) hb);have n3_:=Aside0.mk (blk_below (g:=gb353) (o:=.cells #[.int .i64 t348,.slice Ao13 t349.length co13] 26 (0,0)) (bk BK353) hb);have n4_:=bs hb;have n5_:=Aside0.mk (hbox);have n6_:=Aside0.mk ((by rw [hg];exact (below_size be):w.heap.size≤gb359));have n7_:=Aside0.mk ((by rw [hg];exact (below_size be):w.heap.size≤gb359));have n8_:=Aside0.mk ((by rw [hg];exact Nat.ne_of_lt (blk_lt (g:=gb353) (o:=.cells #[.int .i64 t348,.slice Ao13 t349.length co13] 26 (0,0)) (bk BK353)):gb353 ≠ gb359));have n9_:=Aside0.mk ((by rw [hg];exact Nat.ne_of_gt (blk_lt (g:=gb353) (o:=.cells #[.int .i64 t348,.slice Ao13 t349.length co13] 26 (0,0)) (bk BK353)):gb359 ≠ gb353));clear HO347;clear HO351;clear HO357;clear BK353;clear HB;have HO347:=n0_;have HO351:=n1_;have HO357:=n2_;have BK353:=n3_;have HB:=n4_;have BK359:=n5_;have GW359:=n6_;have GE359:=n7_;have NB353_359:=n8_;have NB359_353:=n9_;clear n0_ n1_ n2_ n3_ n4_ n5_ n6_ n7_ n8_ n9_;clear hb hbox hg;have hnb16:=NB359_353.out;have hnc16:=NB353_359.out;have hcz17_0:w15.cell? ⟨gb359,0,none⟩=some (.int .i64 0):=(blk_cell BK359.out 0).trans rfl;have hcz17_1:w15.cell? ⟨gb359,1,none⟩=some (.slice none 0 0):=(blk_cell BK359.out 1).trans rfl;have hfz17_0:=blk_frozen BK359.out 0;have hfz17_1:=blk_frozen BK359.out 1;obtain ⟨Ao18,co18,eo18⟩:=Kd.S_slice HO357.out;subst eo18))
  (try simp only [Act.put,List.setIfInBounds_toArray,List.set_cons_zero,List.set_cons_succ])
  go_cut [40] (fun v40 wc=>∃ (kq:Nat) (x40_6:Bool),v40 = .bool x40_6∧Aside0 (laws_FnRings.j0 kq t343 t344 t345 t352 t358 x40_6 t348 t349=some r)∧Aside0 (kq≤k)∧Aside0 (Kd.R k61 61 wc w.heap.size (fun _=>True) (.slice Ao9 t343.length co9) t343)∧Aside0 (Kd.S k35 35 wc w.heap.size (fun k_=>some k_ ≠ ((.slice Ao18 t355.length co18):Value).ownBlock) (.slice Ao13 t349.length co13) t349)∧Aside0 (Kd.S k35 35 wc w.heap.size (fun k_=>some k_ ≠ ((.slice Ao13 t349.length co13):Value).ownBlock) (.slice Ao18 t355.length co18) t355)∧Aside0 (wc.heap[gb353]?=some (.cells #[.int .i64 t348,(.slice Ao13 t349.length co13)] 26 (0,0)))∧Aside0 (wc.heap[gb359]?=some (.cells #[.int .i64 t354,(.slice Ao18 t355.length co18)] 26 (0,0)))∧Aside0 (Below w.heap.size w wc))
  case first=>
   have H:=HC7.out
   clear HC7
   by_cases c19:(t352 != t358)=true
   ·rw [if_pos c19] at H
    have c19b0:(t352 != t358)=true:=c19
    (try (have c19b1:decide (t352=t358)=false:=by simpa using c19))
    (try (have c19b2:(t352 == t358)=false:=by simpa using c19))
    (try (have c19b3 : ¬ (t352=t358):=by simpa using c19))
    clear c19
    (first|rw [c19b0]|(simp only [i64_w,i32_w];rw [c19b0])|skip)
    have H':=Aside0.mk H
    clear H
    go_wp2
    go_meet
    case rel=>exact ⟨_,(true),rd_,H',⟨by first|omega|exact Nat.le_refl _⟩,⟨by (with_reducible repeat (first|apply Kd.R_alloc|apply Kd.R_drewN|apply Kd.R_drew));exact Kd.R_mono (Kd.R_far (p:=⟨gb359,1,none⟩) (Kd.R_far (p:=⟨gb359,0,none⟩) (Kd.R_types HO347.out BK359.out (by decide)) (fun _ hk=>hk.2) (.int .i64 t354)) (fun _ hk=>hk.2) (.slice Ao18 t355.length co18)) (fun _ hk=>trivial)⟩,⟨by (with_reducible repeat (first|apply Kd.S_alloc|apply Kd.S_drewN|apply Kd.S_drew));exact Kd.S_mono (Kd.S_far (p:=⟨gb359,1,none⟩) (Kd.S_far (p:=⟨gb359,0,none⟩) (Kd.S_types HO351.out BK359.out (by decide)) (fun _ hk=>hk.2) (.int .i64 t354)) (fun _ hk=>hk.2) (.slice Ao18 t355.length co18)) (fun _ hk=>hk.1.2)⟩,⟨by (with_reducible repeat (first|apply Kd.S_alloc|apply Kd.S_drewN|apply Kd.S_drew));exact Kd.S_mono (Kd.S_far (p:=⟨gb359,1,none⟩) (Kd.S_far (p:=⟨gb359,0,none⟩) (Kd.S_types HO357.out BK359.out (by decide)) (fun _ hk=>hk.2) (.int .i64 t354)) (fun _ hk=>hk.2) (.slice Ao18 t355.length co18)) (fun _ hk=>hk.1.2)⟩,⟨by (with_reducible repeat (first|refine blk_drewN ?_ _|refine blk_drew ?_|refine blk_alloc ?_ _));refine blk_far ?_ NB353_359.out _;(with_reducible repeat (first|refine blk_drewN ?_ _|refine blk_drew ?_|refine blk_alloc ?_ _));refine blk_far ?_ NB353_359.out _;(with_reducible repeat (first|refine blk_drewN ?_ _|refine blk_drew ?_|refine blk_alloc ?_ _));exact BK353.out⟩,⟨by (with_reducible repeat (first|refine blk_drewN ?_ _|refine blk_drew ?_|refine blk_alloc ?_ _));refine blk_put (cs:=#[.int .i64 t354,.slice none 0 0]) ?_ 1 _ rfl;(with_reducible repeat (first|refine blk_drewN ?_ _|refine blk_drew ?_|refine blk_alloc ?_ _));refine blk_put (cs:=#[.int .i64 0,.slice none 0 0]) ?_ 0 _ rfl;(with_reducible repeat (first|refine blk_drewN ?_ _|refine blk_drew ?_|refine blk_alloc ?_ _));exact BK359.out⟩,⟨be⟩⟩
   ·rw [if_neg c19] at H
    have c19b0:(t352 != t358)=false:=by simpa using c19
    (try (have c19b1:decide (t352=t358)=true:=by simpa using c19))
    (try (have c19b2:(t352 == t358)=true:=by simpa using c19))
    clear c19
    (first|rw [c19b0]|(simp only [i64_w,i32_w];rw [c19b0])|skip)
    have H':=Aside0.mk H
    clear H
    go_wp2
    go_meet
    case rel=>exact ⟨_,(!t352),rd_,H',⟨by first|omega|exact Nat.le_refl _⟩,⟨by (with_reducible repeat (first|apply Kd.R_alloc|apply Kd.R_drewN|apply Kd.R_drew));exact Kd.R_mono (Kd.R_far (p:=⟨gb359,1,none⟩) (Kd.R_far (p:=⟨gb359,0,none⟩) (Kd.R_types HO347.out BK359.out (by decide)) (fun _ hk=>hk.2) (.int .i64 t354)) (fun _ hk=>hk.2) (.slice Ao18 t355.length co18)) (fun _ hk=>trivial)⟩,⟨by (with_reducible repeat (first|apply Kd.S_alloc|apply Kd.S_drewN|apply Kd.S_drew));exact Kd.S_mono (Kd.S_far (p:=⟨gb359,1,none⟩) (Kd.S_far (p:=⟨gb359,0,none⟩) (Kd.S_types HO351.out BK359.out (by decide)) (fun _ hk=>hk.2) (.int .i64 t354)) (fun _ hk=>hk.2) (.slice Ao18 t355.length co18)) (fun _ hk=>hk.1.2)⟩,⟨by (with_reducible repeat (first|apply Kd.S_alloc|apply Kd.S_drewN|apply Kd.S_drew));exact Kd.S_mono (Kd.S_far (p:=⟨gb359,1,none⟩) (Kd.S_far (p:=⟨gb359,0,none⟩) (Kd.S_types HO357.out BK359.out (by decide)) (fun _ hk=>hk.2) (.int .i64 t354)) (fun _ hk=>hk.2) (.slice Ao18 t355.length co18)) (fun _ hk=>hk.1.2)⟩,⟨by (with_reducible repeat (first|refine blk_drewN ?_ _|refine blk_drew ?_|refine blk_alloc ?_ _));refine blk_far ?_ NB353_359.out _;(with_reducible repeat (first|refine blk_drewN ?_ _|refine blk_drew ?_|refine blk_alloc ?_ _));refine blk_far ?_ NB353_359.out _;(with_reducible repeat (first|refine blk_drewN ?_ _|refine blk_drew ?_|refine blk_alloc ?_ _));exact BK353.out⟩,⟨by (with_reducible repeat (first|refine blk_drewN ?_ _|refine blk_drew ?_|refine blk_alloc ?_ _));refine blk_put (cs:=#[.int .i64 t354,.slice none 0 0]) ?_ 1 _ rfl;(with_reducible repeat (first|refine blk_drewN ?_ _|refine blk_drew ?_|refine blk_alloc ?_ _));refine blk_put (cs:=#[.int .i64 0,.slice none 0 0]) ?_ 0 _ rfl;(with_reducible repeat (first|refine blk_drewN ?_ _|refine blk_drew ?_|refine blk_alloc ?_ _));exact BK359.out⟩,⟨be⟩⟩
  case rest=>
   clear HC7
   try clear c1
   try clear p2
   try clear c3
   try clear c6
   try clear c8
   try clear c16
   try clear c19
   try clear c19b0
   try clear c19b1
   try clear c19b2
   try clear hcz12_0
   try clear hcz12_1
   try clear hcz17_0
   try clear hcz17_1
   try clear hfz12_0
   try clear hfz12_1
   try clear hfz17_0
   try clear hfz17_1
   obtain ⟨kq,x40_6,rfl,HA,HJ6,HO_3,HO_354001,HO_360001,BK353,BK359,HB⟩:=hcut
   cases kq with
   | zero=>exact absurd HA.out (by simp [laws_FnRings.j0])
   | succ kj6=>
    have H:=HA.out
    clear HA
    simp only [laws_FnRings.j0] at H
    by_cases c20:x40_6=true
    ·subst c20
     rw [if_pos rfl] at H
     by_cases c21:(t352 == t358)=true
     ·rw [if_pos c21] at H
      have c21b0:(t352 == t358)=true:=c21
      (try (have c21b1:decide (t352=t358)=true:=by simpa using c21))
      (try (have c21b2:(t352 == t358)=true:=by simpa using c21))
      clear c21
      obtain rfl:=Option.some.inj H
      have hnb22:=NB353_359.out
      have hnc22:=NB359_353.out
      have hcz23_0:wc.cell? ⟨gb353,0,none⟩=some (.int .i64 t348):=(blk_cell BK353.out 0).trans rfl
      have hcz23_1:wc.cell? ⟨gb353,1,none⟩=some (.slice Ao13 t349.length co13):=(blk_cell BK353.out 1).trans rfl
      have hfz23_0:=blk_frozen BK353.out 0
      have hfz23_1:=blk_frozen BK353.out 1
      go_wp2
      go_ret
      exact ⟨rz,be⟩
     ·rw [if_neg c21] at H
      have c21b0:(t352 == t358)=false:=by simpa using c21
      (try (have c21b1:decide (t352=t358)=false:=by simpa using c21))
      (try (have c21b2:(t352 == t358)=false:=by simpa using c21))
      (try (have c21b3 : ¬ (t352=t358):=by simpa using c21))
      clear c21
      exact absurd ((Option.some.inj H).trans hr_.out) (by decide)
    ·replace c20:=Bool.eq_false_iff.mpr c20
     subst c20
     have H1:((impl_ZonesOf.f kj6 t343).bind fun t360=>(if (t360.length:Int) > t345 then (laws_FnRings.j1 kj6 t343 t344 t345 t345 t348 t349) else (laws_FnRings.j1 kj6 t343 t344 t345 (t360.length:Int) t348 t349)))=some r:=by rw [if_neg (show ¬ (false=true) by decide)] at H;exact H
     clear H
     have H:=H1
     clear H1
     replace H:=Option.bind_eq_some_iff.mp H
     obtain ⟨t360,A240,H⟩:=H
     try dsimp only at H
     have A24:=Aside0.mk A240
     clear A240
     have HC25:=Aside0.mk H
     clear H
     go_upto_if 55 with (first|((with_reducible refine gate_callee (f:=26) rfl ?_);refine goesL_ (some 51) rfl rfl Try.func26 (by kernel_rfl) rfl #[.slice Ao9 t343.length co9] rfl (by (try simp only [List.map_toArray,List.map_cons,List.map_nil]);first|done|rfl|(simp only [List.length_drop,List.length_take];rfl)) ?_;(with_reducible refine (impl_ZonesOf.calls kj6 _ _ t343 t360 _ ?side1 ?side2 A24.out).mono ?_);(case side1=>exact sR HO_3);(case side2=>exact (Kd.R_reads' HO_3.out).2.1);rintro e w26 ⟨v361,rfl,ho0,hb⟩;refine ⟨_,rfl,?_⟩;have n0_:=Aside0.mk (Kd.R_below ((rR HO_3)) hb);have n1_:=Aside0.mk (Kd.S_elder' (rS HO_354001) (Kd.R_base ho0) hb);have n2_:=Aside0.mk (Kd.S_elder' (rS HO_360001) (Kd.R_base ho0) hb);have n3_:=Aside0.mk (Kd.R_lower ho0 (below_size be));have n4_:=Aside0.mk (blk_below (g:=gb353) (o:=.cells #[.int .i64 t348,.slice Ao13 t349.length co13] 26 (0,0)) (bk BK353) hb);have n5_:=Aside0.mk (blk_below (g:=gb359) (o:=.cells #[.int .i64 t354,.slice Ao18 t355.length co18] 26 (0,0)) (bk BK359) hb);have n6_:=bs hb;clear HO_3;clear HO_354001;clear HO_360001;clear BK353;clear BK359;clear HB;have HO_3:=n0_;have HO_354001:=n1_;have HO_360001:=n2_;have HO362:=n3_;have BK353:=n4_;have BK359:=n5_;have HB:=n6_;clear n0_ n1_ n2_ n3_ n4_ n5_ n6_;(try clear hb);(try clear hb2);(try clear hk);(try clear hi);(try clear ho0);obtain ⟨Ao27,co27,eo27⟩:=Kd.R_slice HO362.out;subst eo27))
     (try simp only [Act.put,List.setIfInBounds_toArray,List.set_cons_zero,List.set_cons_succ])
     go_cut [10] (fun v10 wc=>∃ (kq:Nat) (x10_24:Int),v10 = .int .i64 x10_24∧Aside0 (laws_FnRings.j1 kq t343 t344 t345 x10_24 t348 t349=some r)∧Aside0 (kq≤kj6)∧Aside0 (Kd.R k61 61 wc w.heap.size (fun _=>True) (.slice Ao9 t343.length co9) t343)∧Aside0 (Kd.S k35 35 wc w.heap.size (fun k_=>some k_ ≠ ((.slice Ao18 t355.length co18):Value).ownBlock) (.slice Ao13 t349.length co13) t349)∧Aside0 (Kd.S k35 35 wc w.heap.size (fun k_=>some k_ ≠ ((.slice Ao13 t349.length co13):Value).ownBlock) (.slice Ao18 t355.length co18) t355)∧Aside0 (wc.heap[gb353]?=some (.cells #[.int .i64 t348,(.slice Ao13 t349.length co13)] 26 (0,0)))∧Aside0 (wc.heap[gb359]?=some (.cells #[.int .i64 t354,(.slice Ao18 t355.length co18)] 26 (0,0)))∧Aside0 (Below w.heap.size w wc))
     case first=>
      have H:=HC25.out
      clear HC25
      by_cases c28:(t360.length:Int) > t345
      ·rw [if_pos c28] at H
       have c28b0:decide (t345 < (t360.length:Int))=true:=decide_eq_true c28
       clear c28
       (first|rw [c28b0]|(simp only [i64_w,i32_w];rw [c28b0])|skip)
       have H':=Aside0.mk H
       clear H
       go_wp2
       go_meet
       case rel=>exact ⟨_,(t345),rd_,H',⟨by have:=HJ6.out;first|omega|exact Nat.le_refl _⟩,⟨rR HO_3⟩,⟨by (with_reducible repeat (first|apply Kd.S_alloc|apply Kd.S_drewN|apply Kd.S_drew));exact Kd.S_mono HO_354001.out (fun _ hk=>hk.1)⟩,⟨by (with_reducible repeat (first|apply Kd.S_alloc|apply Kd.S_drewN|apply Kd.S_drew));exact Kd.S_mono HO_360001.out (fun _ hk=>hk.1)⟩,⟨bk BK353⟩,⟨bk BK359⟩,⟨be⟩⟩
      ·rw [if_neg c28] at H
       have c28b0:decide (t345 < (t360.length:Int))=false:=decide_eq_false c28
       clear c28
       (first|rw [c28b0]|(simp only [i64_w,i32_w];rw [c28b0])|skip)
       have H':=Aside0.mk H
       clear H
       go_wp2
       go_meet
       case rel=>exact ⟨_,((t360.length:Int)),rd_,H',⟨by have:=HJ6.out;first|omega|exact Nat.le_refl _⟩,⟨rR HO_3⟩,⟨by (with_reducible repeat (first|apply Kd.S_alloc|apply Kd.S_drewN|apply Kd.S_drew));exact Kd.S_mono HO_354001.out (fun _ hk=>hk.1)⟩,⟨by (with_reducible repeat (first|apply Kd.S_alloc|apply Kd.S_drewN|apply Kd.S_drew));exact Kd.S_mono HO_360001.out (fun _ hk=>hk.1)⟩,⟨bk BK353⟩,⟨bk BK359⟩,⟨be⟩⟩
     case rest=>
      clear HC25
      try clear c1
      try clear c2
      try clear p2
      try clear c3
      try clear c6
      try clear c8
      try clear c16
      try clear c19
      try clear c19b0
      try clear c19b1
      try clear c19b2
      try clear c20
      try clear c21
      try clear c21b0
      try clear c21b1
      try clear c21b2
      try clear c22
      try clear c26
      try clear c28
      try clear c28b0
      try clear hcz12_0
      try clear hcz12_1
      try clear hcz17_0
      try clear hcz17_1
      try clear hcz23_0
      try clear hcz23_1
      try clear hfz12_0
      try clear hfz12_1
      try clear hfz17_0
      try clear hfz17_1
      try clear hfz23_0
      try clear hfz23_1
      try clear p2
      obtain ⟨kq,x10_24,rfl,HA,HJ24,HO_3,HO_354001,HO_360001,BK353,BK359,HB⟩:=hcut
      cases kq with
      | zero=>exact absurd HA.out (by simp [laws_FnRings.j1])
      | succ kj24=>
       have H:=HA.out
       clear HA
       simp only [laws_FnRings.j1] at H
       have H':=Aside0.mk H
       clear H
       go_wp2
       go_loopg [11] kj24 (fun kq v11 w'=>∃ (x11_3:Int),v11 = .int .i64 x11_3∧Aside0 (laws_FnRings.l0 kq t343 t344 t345 x10_24 x11_3 t348 t349=some r)∧Aside0 (kq≤kj24)∧Aside0 (Kd.R k61 61 w' w.heap.size (fun _=>True) (.slice Ao9 t343.length co9) t343)∧Aside0 (Kd.S k35 35 w' w.heap.size (fun k_=>some k_ ≠ ((.slice Ao18 t355.length co18):Value).ownBlock) (.slice Ao13 t349.length co13) t349)∧Aside0 (Kd.S k35 35 w' w.heap.size (fun k_=>some k_ ≠ ((.slice Ao13 t349.length co13):Value).ownBlock) (.slice Ao18 t355.length co18) t355)∧Aside0 (w'.heap[gb353]?=some (.cells #[.int .i64 t348,(.slice Ao13 t349.length co13)] 26 (0,0)))∧Aside0 (w'.heap[gb359]?=some (.cells #[.int .i64 t354,(.slice Ao18 t355.length co18)] 26 (0,0)))∧Aside0 (Below w.heap.size w w'))
       case atStart=>exact ⟨(0),rd_,H',⟨Nat.le_refl _⟩,⟨rR HO_3⟩,⟨rS HO_354001⟩,⟨rS HO_360001⟩,⟨bk BK353⟩,⟨bk BK359⟩,⟨be⟩⟩
       case round=>
        clear H'
        try clear c1
        try clear c2
        try clear p2
        try clear c3
        try clear c6
        try clear c8
        try clear c16
        try clear c19
        try clear c19b0
        try clear c19b1
        try clear c19b2
        try clear c20
        try clear c21
        try clear c21b0
        try clear c21b1
        try clear c21b2
        try clear c22
        try clear c26
        try clear c28
        try clear c28b0
        try clear hcz12_0
        try clear hcz12_1
        try clear hcz17_0
        try clear hcz17_1
        try clear hcz23_0
        try clear hcz23_1
        try clear hfz12_0
        try clear hfz12_1
        try clear hfz17_0
        try clear hfz17_1
        try clear hfz23_0
        try clear hfz23_1
        try clear p2
        obtain ⟨x11_3,rfl,HA,HK3,HO_3,HO_354001,HO_360001,BK353,BK359,HB⟩:=hrel
        cases gk with
        | zero=>exact absurd HA.out (by simp [laws_FnRings.l0])
        | succ k3=>
         have H:=HA.out
         clear HA
         simp only [laws_FnRings.l0] at H
         by_cases c29:x11_3 < (t349.length:Int)
         ·rw [if_pos c29] at H
          have c29b0:decide (x11_3 < (t349.length:Int))=true:=decide_eq_true c29
          clear c29
          by_cases c30:0≤x11_3
          ·rw [if_pos c30] at H
           have c30b0:decide (0≤x11_3)=true:=decide_eq_true c30
           clear c30
           replace H:=Option.bind_eq_some_iff.mp H
           obtain ⟨t364,A310,H⟩:=H
           try dsimp only at H
           have A31:=Aside0.mk A310
           clear A310
           by_cases c32:t364=x10_24
           ·rw [if_pos c32] at H
            have c32b0:(t364 == x10_24)=true:=beq_iff_eq.mpr c32
            have c32b1:(t364 != x10_24)=false:=bne_eq_false_iff_eq.mpr c32
            clear c32
            have H':=Aside0.mk H
            clear H
            have hnb33:=NB353_359.out
            have hnc33:=NB359_353.out
            have hcz34_0:wr.cell? ⟨gb353,0,none⟩=some (.int .i64 t348):=(blk_cell BK353.out 0).trans rfl
            have hcz34_1:wr.cell? ⟨gb353,1,none⟩=some (.slice Ao13 t349.length co13):=(blk_cell BK353.out 1).trans rfl
            have hfz34_0:=blk_frozen BK353.out 0
            have hfz34_1:=blk_frozen BK353.out 1
            have p363:0≤(x11_3:Int):=of_decide_eq_true (by first|(with_reducible assumption)|assumption)
            have q363:x11_3 < (t349.length:Int):=of_decide_eq_true (by first|(with_reducible assumption)|assumption)
            obtain ⟨ad363,A363_0,c363_0,e363,hx363_0,hl363_0,hi363_0⟩:=at_T35 (Kd.S_reads' HO_354001.out).2.2 x11_3 p363 q363
            cases e363
            obtain ⟨ce363,hce363,hMe363,hcc363⟩:=Kd.S_get HO_354001.out z35 x11_3 p363 (by first|exact q363|exact of_decide_eq_true (by first|(with_reducible assumption)|assumption)|(have e_:=(Kd.S_reads' HO_354001.out).1;omega))
            obtain ⟨ve363_0,rfl,ge363_0⟩:=k35_openM hMe363
            have hv363_0:=hcc363 0 _ rfl
            rw [Nat.add_zero,show (k35).sz=1 from rfl,Nat.mul_one] at hv363_0
            replace hv363_0:=Option.some.inj (hv363_0.symm.trans hx363_0)
            rw [hv363_0] at ge363_0
            have HL363_0:=Aside0.mk (show Kd.R (Kd.int .i64) 3 _ _ _ _ ((rd_T35 t349 x11_3).f0) from ge363_0)
            clear hv363_0 ge363_0
            clear hcc363 hce363
            have HR363_0:=Aside0.mk hi363_0
            have HC363_0:=Aside0.mk hl363_0
            clear hi363_0 hl363_0
            replace p363:=eq_true p363
            replace q363:=eq_true q363
            go_wp2_with (first|((with_reducible refine gate_callee (f:=33) rfl ?_);refine goesL_ (some 70) rfl rfl Try.func33 (by kernel_rfl) rfl #[.agg #[.slice A363_0 ((rd_T35 t349 x11_3).f0).length c363_0],.slice Ao9 t343.length co9] rfl (by (try simp only [List.map_toArray,List.map_cons,List.map_nil]);first|done|rfl|(simp only [List.length_drop,List.length_take];rfl)) ?_;(with_reducible refine (impl_SpreadOf.calls k3 _ _ ((rd_T35 t349 x11_3).f0) _ _ t343 t364 _ ?side1 ?side2 ?side3 ?side4 A31.out).mono ?_);(case side1=>repeat (first|exact (by repeat (first|(with_reducible exact HR363_0.out)|(with_reducible refine Kd.C_alloc ?_ _)|(with_reducible refine Kd.C_drewN ?_ _)|(with_reducible refine Kd.C_drew ?_)|exact HR363_0.out))|(with_reducible refine Kd.C_alloc ?_ _)|(with_reducible refine Kd.C_drewN ?_ _)|(with_reducible refine Kd.C_drew ?_)));(case side2=>exact HC363_0.out);(case side3=>exact sR HO_3);(case side4=>exact (Kd.R_reads' HO_3.out).2.1);rintro e w35 ⟨rfl,hb⟩;refine ⟨_,rfl,?_⟩;have n0_:=Aside0.mk (Kd.R_below ((rR HO_3)) hb);have n1_:=Aside0.mk (Kd.S_below ((rS HO_354001)) hb);have n2_:=Aside0.mk (Kd.S_below ((rS HO_360001)) hb);have n3_:=Aside0.mk (Kd.R_below ((by (with_reducible repeat (first|apply Kd.R_alloc|apply Kd.R_drewN|apply Kd.R_drew));exact HL363_0.out)) hb);have n4_:=Aside0.mk (blk_below (g:=gb353) (o:=.cells #[.int .i64 t348,.slice (some ad363) t349.length co13] 26 (0,0)) (bk BK353) hb);have n5_:=Aside0.mk (blk_below (g:=gb359) (o:=.cells #[.int .i64 t354,.slice Ao18 t355.length co18] 26 (0,0)) (bk BK359) hb);have n6_:=Aside0.mk (Kd.C_below (by repeat (first|(with_reducible exact HR363_0.out)|(with_reducible refine Kd.C_alloc ?_ _)|(with_reducible refine Kd.C_drewN ?_ _)|(with_reducible refine Kd.C_drew ?_)|exact HR363_0.out)) hb);have n7_:=bs hb;clear HO_3;clear HO_354001;clear HO_360001;clear HL363_0;clear BK353;clear BK359;clear HR363_0;clear HB;have HO_3:=n0_;have HO_354001:=n1_;have HO_360001:=n2_;have HL363_0:=n3_;have BK353:=n4_;have BK359:=n5_;have HR363_0:=n6_;have HB:=n7_;clear n0_ n1_ n2_ n3_ n4_ n5_ n6_ n7_;(try clear hb);(try clear hb2);(try clear hk);(try clear hi)))
            go_roundg k3
            case measure=>have:=HJ6.out;have:=HJ24.out;have:=HK3.out;omega
            case rel=>exact ⟨(wrap64 (x11_3+1)),rd_,H',⟨by have:=HJ6.out;have:=HJ24.out;have:=HK3.out;omega⟩,⟨rR HO_3⟩,⟨rS HO_354001⟩,⟨rS HO_360001⟩,⟨bk BK353⟩,⟨bk BK359⟩,⟨be⟩⟩
           ·rw [if_neg c32] at H
            have c32b0:(t364 == x10_24)=false:=beq_eq_false_iff_ne.mpr c32
            have c32b1:(t364 != x10_24)=true:=bne_iff_ne.mpr c32
            exact absurd ((Option.some.inj H).trans hr_.out) (by decide)
          ·rw [if_neg c30] at H
           exact absurd H (by simp)
         ·rw [if_neg c29] at H
          have c29b0:decide (x11_3 < (t349.length:Int))=false:=decide_eq_false c29
          clear c29
          replace H:=Option.bind_eq_some_iff.mp H
          obtain ⟨t365,A360,H⟩:=H
          try dsimp only at H
          have A36:=Aside0.mk A360
          clear A360
          by_cases c37:t365=true
          ·subst c37
           rw [if_pos rfl] at H
           by_cases c38:(t349.length:Int)=t344
           ·rw [if_pos c38] at H
            have c38b0:((t349.length:Int) == t344)=true:=beq_iff_eq.mpr c38
            have c38b1:((t349.length:Int) != t344)=false:=bne_eq_false_iff_eq.mpr c38
            clear c38
            obtain rfl:=Option.some.inj H
            have hnb39:=NB353_359.out
            have hnc39:=NB359_353.out
            have hcz40_0:wr.cell? ⟨gb353,0,none⟩=some (.int .i64 t348):=(blk_cell BK353.out 0).trans rfl
            have hcz40_1:wr.cell? ⟨gb353,1,none⟩=some (.slice Ao13 t349.length co13):=(blk_cell BK353.out 1).trans rfl
            have hfz40_0:=blk_frozen BK353.out 0
            have hfz40_1:=blk_frozen BK353.out 1
            go_wp2_with (first|((with_reducible refine gate_callee (f:=15) rfl ?_);refine goesL_ (some 75) rfl rfl Try.func15 (by kernel_rfl) rfl #[.agg #[.int .i64 t348,.slice Ao13 t349.length co13],.slice Ao9 t343.length co9] rfl (by (try simp only [List.map_toArray,List.map_cons,List.map_nil]);first|done|rfl|(simp only [List.length_drop,List.length_take];rfl)) ?_;(with_reducible refine (impl_RingOk.calls k3 t348 _ _ t349 _ _ t343 true _ ?side1 ?side2 ?side3 ?side4 A36.out).mono ?_);(case side1=>exact sS HO_354001);(case side2=>exact (Kd.S_reads' HO_354001.out).2.1);(case side3=>exact sR HO_3);(case side4=>exact (Kd.R_reads' HO_3.out).2.1);rintro e w41 ⟨rfl,hb⟩;refine ⟨_,rfl,?_⟩;have n0_:=Aside0.mk (Kd.R_below ((rR HO_3)) hb);have n1_:=Aside0.mk (Kd.S_below ((rS HO_354001)) hb);have n2_:=Aside0.mk (Kd.S_below ((rS HO_360001)) hb);have n3_:=Aside0.mk (blk_below (g:=gb353) (o:=.cells #[.int .i64 t348,.slice Ao13 t349.length co13] 26 (0,0)) (bk BK353) hb);have n4_:=Aside0.mk (blk_below (g:=gb359) (o:=.cells #[.int .i64 t354,.slice Ao18 t355.length co18] 26 (0,0)) (bk BK359) hb);have n5_:=bs hb;clear HO_3;clear HO_354001;clear HO_360001;clear BK353;clear BK359;clear HB;have HO_3:=n0_;have HO_354001:=n1_;have HO_360001:=n2_;have BK353:=n3_;have BK359:=n4_;have HB:=n5_;clear n0_ n1_ n2_ n3_ n4_ n5_;(try clear hb);(try clear hb2);(try clear hk);(try clear hi);have hcz42_0:w41.cell? ⟨gb353,0,none⟩=some (.int .i64 t348):=(blk_cell BK353.out 0).trans rfl;have hcz42_1:w41.cell? ⟨gb353,1,none⟩=some (.slice Ao13 t349.length co13):=(blk_cell BK353.out 1).trans rfl;have hfz42_0:=blk_frozen BK353.out 0;have hfz42_1:=blk_frozen BK353.out 1))
            go_ret
            exact ⟨rz,be⟩
           ·rw [if_neg c38] at H
            have c38b0:((t349.length:Int) == t344)=false:=beq_eq_false_iff_ne.mpr c38
            have c38b1:((t349.length:Int) != t344)=true:=bne_iff_ne.mpr c38
            exact absurd ((Option.some.inj H).trans hr_.out) (by decide)
          ·replace c37:=Bool.eq_false_iff.mpr c37
           subst c37
           have H1:(some false)=some r:=by rw [if_neg (show ¬ (false=true) by decide)] at H;exact H
           clear H
           have H:=H1
           clear H1
           exact absurd ((Option.some.inj H).trans hr_.out) (by decide)
end Go.Proofs.Ytpbjbfimnfghkaa.PFnRings
