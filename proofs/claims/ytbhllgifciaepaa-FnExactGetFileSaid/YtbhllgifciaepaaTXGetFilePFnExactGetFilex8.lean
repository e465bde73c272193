/- Trimmed by a program of this session (trim.py). Not trusted: Lean checks it. -/
import Derived.Test.YtbhllgifciaepaaTXGetFilePFnExactGetFilex0
import Derived.Test.YtbhllgifciaepaaTXGetFilePFnExactGetFilex1
import Derived.Test.YtbhllgifciaepaaTXGetFilePFnExactGetFilex4
import Derived.Test.YtbhllgifciaepaaTXGetFilePFnExactGetFilex5
import Derived.Test.YtbhllgifciaepaaTXGetFilePFnExactGetFilex6
import Derived.Test.YtbhllgifciaepaaTXGetFilePFnExactGetFilex7
namespace Go.Proofs.Ytbhllgifciaepaa.PFnExactGetFile
open Go.RowKit Go.Proofs.YtbhllgifciaepaaW.PrintWords Go.Proofs.YtbhllgifciaepaaW.PrintLast Go.Proofs.YtbhllgifciaepaaW.PrintMore Go.Proofs.Ytbhllgifciaepaa.St
attribute [local go_sem] max2_int min2_int max_two min_two max_three min_three max_four min_four
set_option linter.unusedVariables false
set_option linter.unusedSimpArgs false
mutual
def laws_FnExactGetFile.j0:Nat→List Int→Bool→List Int→Bool→Bool→Int→Int→Int→Bool→List Int→Int→Int→Int→Bool→List Int→Option (Bool)
 | 0,_,_,_,_,_,_,_,_,_,_,_,_,_,_,_=>none
 | k+1,x0,x4,x5,x7,x37,x305000,x305001,x305002,x305003,x305004,x317000,x317001,x317002,x317003,x317004=>if x37=true then (some false) else ((laws_toByteS.f k x0).bind fun t318=>((laws_eqByteS.f k x5 t318).bind fun t321=>(if t321=true then ((laws_markByteS.f k x5 1).bind fun bt322=>(if bt322.1 < 0 then (laws_FnExactGetFile.j1 k x0 x4 true x305000 x305001 x305002 x305003 x305004 x317000 x317001 x317002 x317003 x317004) else ((laws_eqFile.f k x317000 x317001 x317002 x317003 x317004 x305000 x305001 x305002 x305003 x305004).bind fun t324=>(if t324=true then (laws_FnExactGetFile.j1 k x0 x4 (x7 != x4) x305000 x305001 x305002 x305003 x305004 x317000 x317001 x317002 x317003 x317004) else (laws_FnExactGetFile.j1 k x0 x4 true x305000 x305001 x305002 x305003 x305004 x317000 x317001 x317002 x317003 x317004))))) else (some false))))
def laws_FnExactGetFile.j1:Nat→List Int→Bool→Bool→Int→Int→Int→Bool→List Int→Int→Int→Int→Bool→List Int→Option (Bool)
 | 0,_,_,_,_,_,_,_,_,_,_,_,_,_=>none
 | k+1,x0,x4,x58,x305000,x305001,x305002,x305003,x305004,x317000,x317001,x317002,x317003,x317004=>if x58=true then (some false) else ((laws_markFile.f k x317000 x317001 x317002 x317003 x317004 1).bind fun bt325=>((laws_heldFile.f k x317000 x317001 x317002 x317003 bt325.2 1).bind fun t327=>(if t327 < 0 then (some false) else (if t327=bt325.1 then ((laws_toByteS.f k x0).bind fun t328=>((impl_GetFile.f k t328).bind fun bt331=>((laws_eqFile.f k bt331.1 bt331.2.1 bt331.2.2.1 bt331.2.2.2.1 bt331.2.2.2.2.1 x305000 x305001 x305002 x305003 x305004).bind fun t340=>(if t340=true then (laws_FnExactGetFile.j2 k bt325.1 (bt331.2.2.2.2.2 != x4) x317000 x317001 x317002 x317003 bt325.2) else (laws_FnExactGetFile.j2 k bt325.1 true x317000 x317001 x317002 x317003 bt325.2))))) else (some false)))))
def laws_FnExactGetFile.j2:Nat→Int→Bool→Int→Int→Int→Bool→List Int→Option (Bool)
 | 0,_,_,_,_,_,_,_=>none
 | k+1,x9,x84,x317000,x317001,x317002,x317003,x317004=>if x84=true then (some false) else ((laws_heldFile.f k x317000 x317001 x317002 x317003 x317004 1).bind fun t341=>(if t341 < 0 then (some false) else (if t341=x9 then (some true) else (some false))))
end
def laws_FnExactGetFile.f (k:Nat) (l0:List Int):Option (Bool):=if (l0.length:Int) > 1048576 then (some true) else ((laws_toByteS.f k l0).bind fun t293=>((spec_GetFile.f k t293).bind fun bt296=>((laws_toByteS.f k l0).bind fun t305=>((impl_GetFile.f k t305).bind fun bt308=>((laws_eqFile.f k bt308.1 bt308.2.1 bt308.2.2.1 bt308.2.2.2.1 bt308.2.2.2.2.1 bt296.1 bt296.2.1 bt296.2.2.1 bt296.2.2.2.1 bt296.2.2.2.2.1).bind fun t317=>(if t317=true then (laws_FnExactGetFile.j0 k l0 bt296.2.2.2.2.2 t305 bt308.2.2.2.2.2 (bt308.2.2.2.2.2 != bt296.2.2.2.2.2) bt296.1 bt296.2.1 bt296.2.2.1 bt296.2.2.2.1 bt296.2.2.2.2.1 bt308.1 bt308.2.1 bt308.2.2.1 bt308.2.2.2.1 bt308.2.2.2.2.1) else (laws_FnExactGetFile.j0 k l0 bt296.2.2.2.2.2 t305 bt308.2.2.2.2.2 true bt296.1 bt296.2.1 bt296.2.2.1 bt296.2.2.2.1 bt296.2.2.2.2.1 bt308.1 bt308.2.1 bt308.2.2.1 bt308.2.2.2.1 bt308.2.2.2.2.1)))))))
theorem impl_GetFile.callsX (k:Nat) (A0:Option Addr) (c0:Nat) (l0:List Int) (r1:Int) (r2:Int) (r3:Int) (r4:Bool) (r5:List Int) (r6:Bool) (w:World) (hr0:Kd.C (Kd.int .u8) w A0 l0.length l0) (hc0:l0.length≤c0) (h:impl_GetFile.f k l0=some (r1,r2,r3,r4,r5,r6)) :
  Calls Try.prog 55 #[.slice A0 l0.length c0] w fun e w'=>∃ v0_:Value,e = .returned (.tuple #[.agg #[.int .i64 r1,.int .i64 r2,.int .i64 r3,.bool r4,v0_],.bool r6])∧Kd.X (Kd.int .u8) 5 w' w.heap.size (fun _=>True) v0_ r5∧Below w.heap.size w w':=by
 refine (impl_GetFile.calls k A0 c0 l0 r1 r2 r3 r4 r5 r6 w hr0 hc0 h).mono ?_
 rintro e w' ⟨A,c,rfl,hv,hb⟩
 exact ⟨_,rfl,⟨fun _ _=>trivial,A,c,rfl,hv⟩,hb⟩
set_option maxHeartbeats 8000000 in
set_option maxRecDepth 100000 in
theorem laws_FnExactGetFile.calls (k:Nat) (A0:Option Addr) (c0:Nat) (l0:List Int) (r:Bool) (w:World) (hr0:Kd.C (Kd.int .u8) w A0 l0.length l0) (hc0:l0.length≤c0) (h:laws_FnExactGetFile.f k l0=some r) (hr_:Aside0 (r=true)) :
  Calls Try.prog 9 #[.slice A0 l0.length c0] w fun e w'=>e = .returned (.bool r)∧Below w.heap.size w w':=by
 have hu61:=Try.underlying61
 have HR0:=Aside0.mk hr0
 have HC0:=Aside0.mk hc0
 clear hr0 hc0
 have HB:=Aside0.mk (Below.refl w.heap.size w)
 have H:(if (l0.length:Int) > 1048576 then (some true) else ((laws_toByteS.f k l0).bind fun t293=>((spec_GetFile.f k t293).bind fun bt296=>((laws_toByteS.f k l0).bind fun t305=>((impl_GetFile.f k t305).bind fun bt308=>((laws_eqFile.f k bt308.1 bt308.2.1 bt308.2.2.1 bt308.2.2.2.1 bt308.2.2.2.2.1 bt296.1 bt296.2.1 bt296.2.2.1 bt296.2.2.2.1 bt296.2.2.2.2.1).bind fun t317=>(if t317=true then (laws_FnExactGetFile.j0 k l0 bt296.2.2.2.2.2 t305 bt308.2.2.2.2.2 (bt308.2.2.2.2.2 != bt296.2.2.2.2.2) bt296.1 bt296.2.1 bt296.2.2.1 bt296.2.2.2.1 bt296.2.2.2.2.1 bt308.1 bt308.2.1 bt308.2.2.1 bt308.2.2.2.1 bt308.2.2.2.2.1) else (laws_FnExactGetFile.j0 k l0 bt296.2.2.2.2.2 t305 bt308.2.2.2.2.2 true bt296.1 bt296.2.1 bt296.2.2.1 bt296.2.2.2.1 bt296.2.2.2.2.1 bt308.1 bt308.2.1 bt308.2.2.1 bt308.2.2.2.1 bt308.2.2.2.2.1))))))))=some r:=h
 clear h
 by_cases c2:(l0.length:Int) > 1048576
 ·rw [if_pos c2] at H
  have c2b0:decide (1048576 < (l0.length:Int))=true:=decide_eq_true c2
  have c2b1:decide (1048576 < l0.length)=true:=decide_eq_true (by omega)
  clear c2
  obtain rfl:=Option.some.inj H
  go_enter Try.func9,Try.ntmps9
  go_wp2
  go_ret
  exact ⟨rz,be⟩
 ·rw [if_neg c2] at H
  have c2b0:decide (1048576 < (l0.length:Int))=false:=decide_eq_false c2
  have c2b1:decide (1048576 < l0.length)=false:=decide_eq_false (by omega)
  clear c2
  replace H:=Option.bind_eq_some_iff.mp H
  obtain ⟨t293,A30,H⟩:=H
  try dsimp only at H
  have A3:=Aside0.mk A30
  clear A30
  replace H:=Option.bind_eq_some_iff.mp H
  obtain ⟨⟨t296,t297,t298,t299,t300,t303⟩,A40,H⟩:=H
  try dsimp only at H
  have A4:=Aside0.mk A40
  clear A40
  replace H:=Option.bind_eq_some_iff.mp H
  obtain ⟨t305,A50,H⟩:=H
  try dsimp only at H
  have A5:=Aside0.mk A50
  clear A50
  replace H:=Option.bind_eq_some_iff.mp H
  obtain ⟨⟨t308,t309,t310,t311,t312,t315⟩,A60,H⟩:=H
  try dsimp only at H
  have A6:=Aside0.mk A60
  clear A60
  have HC7:=Aside0.mk H
  clear H
  go_enter Try.func9,Try.ntmps9
  go_upto_region 6 with (first|((with_reducible refine gate_callee (f:=54) rfl ?_);refine goesL_ (some 18) rfl rfl Try.func54 (by kernel_rfl) rfl #[.slice A0 l0.length c0] rfl (by (try simp only [List.map_toArray,List.map_cons,List.map_nil]);first|done|rfl|(simp only [List.length_drop,List.length_take];rfl)) ?_;(with_reducible refine (laws_toByteS.calls k _ _ l0 t293 _ ?side1 ?side2 A3.out).mono ?_);(case side1=>exact sC HR0);(case side2=>exact HC0.out);rintro e w8 ⟨v294,rfl,ho0,hb⟩;refine ⟨_,rfl,?_⟩;have n0_:=Aside0.mk (Kd.R_lower ho0 (below_size be));have n1_:=bs hb;clear HB;have HO295:=n0_;have HB:=n1_;clear n0_ n1_;(try clear hb);(try clear hb2);(try clear hk);(try clear hi);(try clear ho0);obtain ⟨Ao9,co9,eo9⟩:=Kd.R_slice HO295.out;subst eo9)|((with_reducible refine gate_callee (f:=53) rfl ?_);refine goesL_ (some 19) rfl rfl Try.func53 (by kernel_rfl) rfl #[.slice Ao9 t293.length co9] rfl (by (try simp only [List.map_toArray,List.map_cons,List.map_nil]);first|done|rfl|(simp only [List.length_drop,List.length_take];rfl)) ?_;(with_reducible refine (spec_GetFile.calls k _ _ t293 t296 t297 t298 t299 t300 t303 _ ?side1 ?side2 A4.out).mono ?_);(case side1=>exact sR HO295);(case side2=>exact (Kd.R_reads' HO295.out).2.1);rintro e w10 ⟨v301,rfl,ho0,hb⟩;refine ⟨_,rfl,?_⟩;have n0_:=Aside0.mk (Kd.R_elder' (rR HO295) (Kd.R_base ho0) hb);have n1_:=Aside0.mk (Kd.R_lower (Kd.R_new' ho0 (Kd.R_lt (rR HO295))) (below_size be));have n2_:=bs hb;clear HO295;clear HB;have HO295:=n0_;have HO302:=n1_;have HB:=n2_;clear n0_ n1_ n2_;(try clear hb);(try clear hb2);(try clear hk);(try clear hi);(try clear ho0))|((with_reducible refine gate_dst (N:=3) rfl ?_);refine box_event ?hg (N:=3) ?hd (cs:=#[.int .i64 0,.int .i64 0,.int .i64 0,.bool false,.slice none 0 0]) (t:=61) ?hr ?_;(case hd=>rfl);(case hg=>rfl);(case hr=>first|(go_simp;done)|(go_simp;rfl));intro gb304 hg w11 hbox hb;have n0_:=Aside0.mk (Kd.R_below (rR HO295) hb);have n1_:=Aside0.mk (Kd.R_below (rR HO302) hb);have n2_:=bs hb;have n3_:=Aside0.mk (hbox);have n4_:=Aside0.mk ((by rw [hg];exact (below_size be):w.heap.size≤gb304));have n5_:=Aside0.mk ((by rw [hg];exact (below_size be):w.heap.size≤gb304));clear HO295;clear HO302;clear HB;have HO295:=n0_;have HO302:=n1_;have HB:=n2_;have BK304:=n3_;have GW304:=n4_;have GE304:=n5_;clear n0_ n1_ n2_ n3_ n4_ n5_;clear hb hbox hg;have hcz12_0:w11.cell? ⟨gb304,0,none⟩=some (.int .i64 0):=(blk_cell BK304.out 0).trans rfl;have hcz12_1:w11.cell? ⟨gb304,1,none⟩=some (.int .i64 0):=(blk_cell BK304.out 1).trans rfl;have hcz12_2:w11.cell? ⟨gb304,2,none⟩=some (.int .i64 0):=(blk_cell BK304.out 2).trans rfl;have hcz12_3:w11.cell? ⟨gb304,3,none⟩=some (.bool false):=(blk_cell BK304.out 3).trans rfl;have hcz12_4:w11.cell? ⟨gb304,4,none⟩=some (.slice none 0 0):=(blk_cell BK304.out 4).trans rfl;have hfz12_0:=blk_frozen BK304.out 0;have hfz12_1:=blk_frozen BK304.out 1;have hfz12_2:=blk_frozen BK304.out 2;have hfz12_3:=blk_frozen BK304.out 3;have hfz12_4:=blk_frozen BK304.out 4;obtain ⟨Ao13,co13,eo13⟩:=Kd.R_slice HO302.out;subst eo13)|((with_reducible refine gate_callee (f:=54) rfl ?_);refine goesL_ (some 23) rfl rfl Try.func54 (by kernel_rfl) rfl #[.slice A0 l0.length c0] rfl (by (try simp only [List.map_toArray,List.map_cons,List.map_nil]);first|done|rfl|(simp only [List.length_drop,List.length_take];rfl)) ?_;(with_reducible refine (laws_toByteS.calls k _ _ l0 t305 _ ?side1 ?side2 A5.out).mono ?_);(case side1=>exact Kd.C_below HR0.out be);(case side2=>exact HC0.out);rintro e w14 ⟨v306,rfl,ho0,hb⟩;refine ⟨_,rfl,?_⟩;have n0_:=Aside0.mk (Kd.R_elder' (by (with_reducible repeat (first|apply Kd.R_alloc|apply Kd.R_drewN|apply Kd.R_drew));exact (Kd.R_mono (Kd.R_far (p:=⟨gb304,4,none⟩) (Kd.R_far (p:=⟨gb304,3,none⟩) (Kd.R_far (p:=⟨gb304,2,none⟩) (Kd.R_far (p:=⟨gb304,1,none⟩) (Kd.R_far (p:=⟨gb304,0,none⟩) (Kd.R_types HO295.out BK304.out (by decide)) (fun _ hk=>hk.2) (.int .i64 t296)) (fun _ hk=>hk.2) (.int .i64 t297)) (fun _ hk=>hk.2) (.int .i64 t298)) (fun _ hk=>hk.2) (.bool t299)) (fun _ hk=>hk.2) (.slice Ao13 t300.length co13)) (fun _ h_=>h_.1))) (Kd.R_base ho0) hb);have n1_:=Aside0.mk (Kd.R_elder' (by (with_reducible repeat (first|apply Kd.R_alloc|apply Kd.R_drewN|apply Kd.R_drew));exact (Kd.R_mono (Kd.R_far (p:=⟨gb304,4,none⟩) (Kd.R_far (p:=⟨gb304,3,none⟩) (Kd.R_far (p:=⟨gb304,2,none⟩) (Kd.R_far (p:=⟨gb304,1,none⟩) (Kd.R_far (p:=⟨gb304,0,none⟩) (Kd.R_types HO302.out BK304.out (by decide)) (fun _ hk=>hk.2) (.int .i64 t296)) (fun _ hk=>hk.2) (.int .i64 t297)) (fun _ hk=>hk.2) (.int .i64 t298)) (fun _ hk=>hk.2) (.bool t299)) (fun _ hk=>hk.2) (.slice Ao13 t300.length co13)) (fun _ h_=>h_.1))) (Kd.R_base ho0) hb);have n2_:=Aside0.mk (Kd.R_lower (Kd.R_new' (Kd.R_new' ho0 (Kd.R_lt (by (with_reducible repeat (first|apply Kd.R_alloc|apply Kd.R_drewN|apply Kd.R_drew));exact (Kd.R_mono (Kd.R_far (p:=⟨gb304,4,none⟩) (Kd.R_far (p:=⟨gb304,3,none⟩) (Kd.R_far (p:=⟨gb304,2,none⟩) (Kd.R_far (p:=⟨gb304,1,none⟩) (Kd.R_far (p:=⟨gb304,0,none⟩) (Kd.R_types HO295.out BK304.out (by decide)) (fun _ hk=>hk.2) (.int .i64 t296)) (fun _ hk=>hk.2) (.int .i64 t297)) (fun _ hk=>hk.2) (.int .i64 t298)) (fun _ hk=>hk.2) (.bool t299)) (fun _ hk=>hk.2) (.slice Ao13 t300.length co13)) (fun _ h_=>h_.1))))) (Kd.R_lt (by (with_reducible repeat (first|apply Kd.R_alloc|apply Kd.R_drewN|apply Kd.R_drew));exact (Kd.R_mono (Kd.R_far (p:=⟨gb304,4,none⟩) (Kd.R_far (p:=⟨gb304,3,none⟩) (Kd.R_far (p:=⟨gb304,2,none⟩) (Kd.R_far (p:=⟨gb304,1,none⟩) (Kd.R_far (p:=⟨gb304,0,none⟩) (Kd.R_types HO302.out BK304.out (by decide)) (fun _ hk=>hk.2) (.int .i64 t296)) (fun _ hk=>hk.2) (.int .i64 t297)) (fun _ hk=>hk.2) (.int .i64 t298)) (fun _ hk=>hk.2) (.bool t299)) (fun _ hk=>hk.2) (.slice Ao13 t300.length co13)) (fun _ h_=>h_.1))))) (below_size be));have n3_:=Aside0.mk (blk_below (g:=gb304) (o:=.cells #[.int .i64 t296,.int .i64 t297,.int .i64 t298,.bool t299,.slice Ao13 t300.length co13] 61 (0,0)) (by (with_reducible repeat (first|refine blk_drewN ?_ _|refine blk_drew ?_|refine blk_alloc ?_ _));refine blk_put (cs:=#[.int .i64 t296,.int .i64 t297,.int .i64 t298,.bool t299,.slice none 0 0]) ?_ 4 _ rfl;(with_reducible repeat (first|refine blk_drewN ?_ _|refine blk_drew ?_|refine blk_alloc ?_ _));refine blk_put (cs:=#[.int .i64 t296,.int .i64 t297,.int .i64 t298,.bool false,.slice none 0 0]) ?_ 3 _ rfl;(with_reducible repeat (first|refine blk_drewN ?_ _|refine blk_drew ?_|refine blk_alloc ?_ _));refine blk_put (cs:=#[.int .i64 t296,.int .i64 t297,.int .i64 0,.bool false,.slice none 0 0]) ?_ 2 _ rfl;(with_reducible repeat (first|refine blk_drewN ?_ _|refine blk_drew ?_|refine blk_alloc ?_ _));refine blk_put (cs:=#[.int .i64 t296,.int .i64 0,.int .i64 0,.bool false,.slice none 0 0]) ?_ 1 _ rfl;(with_reducible repeat (first|refine blk_drewN ?_ _|refine blk_drew ?_|refine blk_alloc ?_ _));refine blk_put (cs:=#[.int .i64 0,.int .i64 0,.int .i64 0,.bool false,.slice none 0 0]) ?_ 0 _ rfl;(with_reducible repeat (first|refine blk_drewN ?_ _|refine blk_drew ?_|refine blk_alloc ?_ _));exact BK304.out) hb);have n4_:=bs hb;clear HO295;clear HO302;clear BK304;clear HB;have HO295:=n0_;have HO302:=n1_;have HO307:=n2_;have BK304:=n3_;have HB:=n4_;clear n0_ n1_ n2_ n3_ n4_;(try clear hb);(try clear hb2);(try clear hk);(try clear hi);(try clear ho0);obtain ⟨Ao15,co15,eo15⟩:=Kd.R_slice HO307.out;subst eo15)|((with_reducible refine gate_callee (f:=55) rfl ?_);refine goesL_ (some 26) rfl rfl Try.func55 (by kernel_rfl) rfl #[.slice Ao15 t305.length co15] rfl (by (try simp only [List.map_toArray,List.map_cons,List.map_nil]);first|done|rfl|(simp only [List.length_drop,List.length_take];rfl)) ?_;(with_reducible refine (impl_GetFile.callsX k _ _ t305 t308 t309 t310 t311 t312 t315 _ ?side1 ?side2 A6.out).mono ?_);(case side1=>exact sR HO307);(case side2=>exact (Kd.R_reads' HO307.out).2.1);rintro e w16 ⟨v313,rfl,ho0,hb⟩;refine ⟨_,rfl,?_⟩;have n0_:=Aside0.mk (Kd.R_elder' (rR HO295) (Kd.X_base ho0) hb);have n1_:=Aside0.mk (Kd.R_elder' (rR HO302) (Kd.X_base ho0) hb);have n2_:=Aside0.mk (Kd.R_elder' (rR HO307) (Kd.X_base ho0) hb);have n3_:=Aside0.mk (Kd.X_lower (Kd.X_new' (Kd.X_new' (Kd.X_new' ho0 (Kd.R_lt (rR HO295))) (Kd.R_lt (rR HO302))) (Kd.R_lt (rR HO307))) (below_size be));have n4_:=Aside0.mk (blk_below (g:=gb304) (o:=.cells #[.int .i64 t296,.int .i64 t297,.int .i64 t298,.bool t299,.slice Ao13 t300.length co13] 61 (0,0)) (bk BK304) hb);have n5_:=bs hb;clear HO295;clear HO302;clear HO307;clear BK304;clear HB;have HO295:=n0_;have HO302:=n1_;have HO307:=n2_;have HO314:=n3_;have BK304:=n4_;have HB:=n5_;clear n0_ n1_ n2_ n3_ n4_ n5_;(try clear hb);(try clear hb2);(try clear hk);(try clear hi);(try clear ho0))|((with_reducible refine gate_dst (N:=6) rfl ?_);refine box_event ?hg (N:=6) ?hd (cs:=#[.int .i64 0,.int .i64 0,.int .i64 0,.bool false,.slice none 0 0]) (t:=61) ?hr ?_;(case hd=>rfl);(case hg=>rfl);(case hr=>first|(go_simp;done)|(go_simp;rfl));intro gb316 hg w17 hbox hb;have n0_:=Aside0.mk (Kd.R_below (rR HO295) hb);have n1_:=Aside0.mk (Kd.R_below (rR HO302) hb);have n2_:=Aside0.mk (Kd.R_below (rR HO307) hb);have n3_:=Aside0.mk (Kd.X_below (by (with_reducible repeat (first|apply Kd.X_alloc|apply Kd.X_drewN|apply Kd.X_drew));exact HO314.out) hb);have n4_:=Aside0.mk (blk_below (g:=gb304) (o:=.cells #[.int .i64 t296,.int .i64 t297,.int .i64 t298,.bool t299,.slice Ao13 t300.length co13] 61 (0,0)) (bk BK304) hb);have n5_:=bs hb;have n6_:=Aside0.mk (hbox);have n7_:=Aside0.mk ((by rw [hg];exact (below_size be):w.heap.size≤gb316));have n8_:=Aside0.mk ((by rw [hg];exact (below_size be):w.heap.size≤gb316));have n9_:=Aside0.mk ((by rw [hg];exact Nat.ne_of_lt (blk_lt (g:=gb304) (o:=.cells #[.int .i64 t296,.int .i64 t297,.int .i64 t298,.bool t299,.slice Ao13 t300.length co13] 61 (0,0)) (bk BK304)):gb304 ≠ gb316));have n10_:=Aside0.mk ((by rw [hg];exact Nat.ne_of_gt (blk_lt (g:=gb304) (o:=.cells #[.int .i64 t296,.int .i64 t297,.int .i64 t298,.bool t299,.slice Ao13 t300.length co13] 61 (0,0)) (bk BK304)):gb316 ≠ gb304));clear HO295;clear HO302;clear HO307;clear HO314;clear BK304;clear HB;have HO295:=n0_;have HO302:=n1_;have HO307:=n2_;have HO314:=n3_;have BK304:=n4_;have HB:=n5_;have BK316:=n6_;have GW316:=n7_;have GE316:=n8_;have NB304_316:=n9_;have NB316_304:=n10_;clear n0_ n1_ n2_ n3_ n4_ n5_ n6_ n7_ n8_ n9_ n10_;clear hb hbox hg;have hnb18:=NB316_304.out;have hnc18:=NB304_316.out;have hcz19_0:w17.cell? ⟨gb316,0,none⟩=some (.int .i64 0):=(blk_cell BK316.out 0).trans rfl;have hcz19_1:w17.cell? ⟨gb316,1,none⟩=some (.int .i64 0):=(blk_cell BK316.out 1).trans rfl;have hcz19_2:w17.cell? ⟨gb316,2,none⟩=some (.int .i64 0):=(blk_cell BK316.out 2).trans rfl;have hcz19_3:w17.cell? ⟨gb316,3,none⟩=some (.bool false):=(blk_cell BK316.out 3).trans rfl;have hcz19_4:w17.cell? ⟨gb316,4,none⟩=some (.slice none 0 0):=(blk_cell BK316.out 4).trans rfl;have hfz19_0:=blk_frozen BK316.out 0;have hfz19_1:=blk_frozen BK316.out 1;have hfz19_2:=blk_frozen BK316.out 2;have hfz19_3:=blk_frozen BK316.out 3;have hfz19_4:=blk_frozen BK316.out 4;obtain ⟨Ao20,co20,eo20⟩:=Kd.X_slice HO314.out;subst eo20))
  (try simp only [Act.put,List.setIfInBounds_toArray,List.set_cons_zero,List.set_cons_succ])
  go_cut [37] (fun v37 wc=>∃ (kq:Nat) (x37_6:Bool),v37 = .bool x37_6∧Aside0 (laws_FnExactGetFile.j0 kq l0 t303 t305 t315 x37_6 t296 t297 t298 t299 t300 t308 t309 t310 t311 t312=some r)∧Aside0 (kq≤k)∧Aside0 (Kd.R (Kd.int .u8) 5 wc w.heap.size (fun k_=>some k_ ≠ ((.slice Ao13 t300.length co13):Value).ownBlock∧some k_ ≠ ((.slice Ao20 t312.length co20):Value).ownBlock) (.slice Ao15 t305.length co15) t305)∧Aside0 (Kd.R (Kd.int .u8) 5 wc w.heap.size (fun k_=>some k_ ≠ ((.slice Ao15 t305.length co15):Value).ownBlock∧some k_ ≠ ((.slice Ao20 t312.length co20):Value).ownBlock) (.slice Ao13 t300.length co13) t300)∧Aside0 (Kd.X (Kd.int .u8) 5 wc w.heap.size (fun k_=>some k_ ≠ ((.slice Ao15 t305.length co15):Value).ownBlock∧some k_ ≠ ((.slice Ao13 t300.length co13):Value).ownBlock) (.slice Ao20 t312.length co20) t312)∧Aside0 (wc.heap[gb304]?=some (.cells #[.int .i64 t296,.int .i64 t297,.int .i64 t298,.bool t299,(.slice Ao13 t300.length co13)] 61 (0,0)))∧Aside0 (wc.heap[gb316]?=some (.cells #[.int .i64 t308,.int .i64 t309,.int .i64 t310,.bool t311,(.slice Ao20 t312.length co20)] 61 (0,0)))∧Aside0 (Below w.heap.size w wc))
  case first=>
   have H:=HC7.out
   clear HC7
   replace H:=Option.bind_eq_some_iff.mp H
   obtain ⟨t317,A210,H⟩:=H
   try dsimp only at H
   have A21:=Aside0.mk A210
   clear A210
   by_cases c22:t317=true
   ·subst c22
    rw [if_pos rfl] at H
    have H':=Aside0.mk H
    clear H
    have hnb23:=NB316_304.out
    have hnc23:=NB304_316.out
    have hcz24_0:w17.cell? ⟨gb316,0,none⟩=some (.int .i64 0):=(blk_cell BK316.out 0).trans rfl
    have hcz24_1:w17.cell? ⟨gb316,1,none⟩=some (.int .i64 0):=(blk_cell BK316.out 1).trans rfl
    have hcz24_2:w17.cell? ⟨gb316,2,none⟩=some (.int .i64 0):=(blk_cell BK316.out 2).trans rfl
    have hcz24_3:w17.cell? ⟨gb316,3,none⟩=some (.bool false):=(blk_cell BK316.out 3).trans rfl
    have hcz24_4:w17.cell? ⟨gb316,4,none⟩=some (.slice none 0 0):=(blk_cell BK316.out 4).trans rfl
    have hfz24_0:=blk_frozen BK316.out 0
    have hfz24_1:=blk_frozen BK316.out 1
    have hfz24_2:=blk_frozen BK316.out 2
    have hfz24_3:=blk_frozen BK316.out 3
    have hfz24_4:=blk_frozen BK316.out 4
    have hcz25_0:w17.cell? ⟨gb304,0,none⟩=some (.int .i64 t296):=(blk_cell BK304.out 0).trans rfl
    have hcz25_1:w17.cell? ⟨gb304,1,none⟩=some (.int .i64 t297):=(blk_cell BK304.out 1).trans rfl
    have hcz25_2:w17.cell? ⟨gb304,2,none⟩=some (.int .i64 t298):=(blk_cell BK304.out 2).trans rfl
    have hcz25_3:w17.cell? ⟨gb304,3,none⟩=some (.bool t299):=(blk_cell BK304.out 3).trans rfl
    have hcz25_4:w17.cell? ⟨gb304,4,none⟩=some (.slice Ao13 t300.length co13):=(blk_cell BK304.out 4).trans rfl
    have hfz25_0:=blk_frozen BK304.out 0
    have hfz25_1:=blk_frozen BK304.out 1
    have hfz25_2:=blk_frozen BK304.out 2
    have hfz25_3:=blk_frozen BK304.out 3
    have hfz25_4:=blk_frozen BK304.out 4
    go_wp2_with (first|((with_reducible refine gate_callee (f:=39) rfl ?_);refine goesL_ (some 31) rfl rfl Try.func39 (by kernel_rfl) rfl #[.agg #[.int .i64 t308,.int .i64 t309,.int .i64 t310,.bool t311,.slice Ao20 t312.length co20],.agg #[.int .i64 t296,.int .i64 t297,.int .i64 t298,.bool t299,.slice Ao13 t300.length co13]] rfl (by (try simp only [List.map_toArray,List.map_cons,List.map_nil]);first|done|rfl|(simp only [List.length_drop,List.length_take];rfl)) ?_;(with_reducible refine (laws_eqFile.calls k t308 t309 t310 t311 _ _ t312 t296 t297 t298 t299 _ _ t300 true _ ?side1 ?side2 ?side3 ?side4 A21.out).mono ?_);(case side1=>refine (Kd.X_reads' (e:=5) (base:=w.heap.size) (ok:=fun k_=>(((True∧some k_ ≠ (.slice Ao9 t293.length co9:Value).ownBlock)∧some k_ ≠ (.slice Ao13 t300.length co13:Value).ownBlock)∧some k_ ≠ (.slice Ao15 t305.length co15:Value).ownBlock)) (n:=t312.length) (c:=co20) ?_).2.2;exact (by (with_reducible repeat (first|apply Kd.X_alloc|apply Kd.X_drewN|apply Kd.X_drew));exact (Kd.X_mono (Kd.X_far (p:=⟨gb316,4,none⟩) (Kd.X_far (p:=⟨gb316,3,none⟩) (Kd.X_far (p:=⟨gb316,2,none⟩) (Kd.X_far (p:=⟨gb316,1,none⟩) (Kd.X_far (p:=⟨gb316,0,none⟩) (Kd.X_types HO314.out BK316.out (by decide)) (fun _ hk=>hk.2) (.int .i64 t308)) (fun _ hk=>hk.2) (.int .i64 t309)) (fun _ hk=>hk.2) (.int .i64 t310)) (fun _ hk=>hk.2) (.bool t311)) (fun _ hk=>hk.2) (.slice Ao20 t312.length co20)) (fun _ h_=>h_.1))));(case side2=>exact (Kd.X_reads' HO314.out).2.1);(case side3=>refine (Kd.R_reads' (e:=5) (base:=w.heap.size) (ok:=fun k_=>(((True∧some k_ ≠ (.slice Ao9 t293.length co9:Value).ownBlock)∧some k_ ≠ (.slice Ao15 t305.length co15:Value).ownBlock)∧some k_ ≠ (.slice Ao20 t312.length co20:Value).ownBlock)) (n:=t300.length) (c:=co13) ?_).2.2;exact (by (with_reducible repeat (first|apply Kd.R_alloc|apply Kd.R_drewN|apply Kd.R_drew));exact (Kd.R_mono (Kd.R_far (p:=⟨gb316,4,none⟩) (Kd.R_far (p:=⟨gb316,3,none⟩) (Kd.R_far (p:=⟨gb316,2,none⟩) (Kd.R_far (p:=⟨gb316,1,none⟩) (Kd.R_far (p:=⟨gb316,0,none⟩) (Kd.R_types HO302.out BK316.out (by decide)) (fun _ hk=>hk.2) (.int .i64 t308)) (fun _ hk=>hk.2) (.int .i64 t309)) (fun _ hk=>hk.2) (.int .i64 t310)) (fun _ hk=>hk.2) (.bool t311)) (fun _ hk=>hk.2) (.slice Ao20 t312.length co20)) (fun _ h_=>h_.1))));(case side4=>exact (Kd.R_reads' HO302.out).2.1);rintro e w26 ⟨rfl,hb⟩;refine ⟨_,rfl,?_⟩;have n0_:=Aside0.mk (Kd.R_below ((by (with_reducible repeat (first|apply Kd.R_alloc|apply Kd.R_drewN|apply Kd.R_drew));exact (Kd.R_mono (Kd.R_far (p:=⟨gb316,4,none⟩) (Kd.R_far (p:=⟨gb316,3,none⟩) (Kd.R_far (p:=⟨gb316,2,none⟩) (Kd.R_far (p:=⟨gb316,1,none⟩) (Kd.R_far (p:=⟨gb316,0,none⟩) (Kd.R_types HO295.out BK316.out (by decide)) (fun _ hk=>hk.2) (.int .i64 t308)) (fun _ hk=>hk.2) (.int .i64 t309)) (fun _ hk=>hk.2) (.int .i64 t310)) (fun _ hk=>hk.2) (.bool t311)) (fun _ hk=>hk.2) (.slice Ao20 t312.length co20)) (fun _ h_=>h_.1)))) hb);have n1_:=Aside0.mk (Kd.R_below ((by (with_reducible repeat (first|apply Kd.R_alloc|apply Kd.R_drewN|apply Kd.R_drew));exact (Kd.R_mono (Kd.R_far (p:=⟨gb316,4,none⟩) (Kd.R_far (p:=⟨gb316,3,none⟩) (Kd.R_far (p:=⟨gb316,2,none⟩) (Kd.R_far (p:=⟨gb316,1,none⟩) (Kd.R_far (p:=⟨gb316,0,none⟩) (Kd.R_types HO302.out BK316.out (by decide)) (fun _ hk=>hk.2) (.int .i64 t308)) (fun _ hk=>hk.2) (.int .i64 t309)) (fun _ hk=>hk.2) (.int .i64 t310)) (fun _ hk=>hk.2) (.bool t311)) (fun _ hk=>hk.2) (.slice Ao20 t312.length co20)) (fun _ h_=>h_.1)))) hb);have n2_:=Aside0.mk (Kd.R_below ((by (with_reducible repeat (first|apply Kd.R_alloc|apply Kd.R_drewN|apply Kd.R_drew));exact (Kd.R_mono (Kd.R_far (p:=⟨gb316,4,none⟩) (Kd.R_far (p:=⟨gb316,3,none⟩) (Kd.R_far (p:=⟨gb316,2,none⟩) (Kd.R_far (p:=⟨gb316,1,none⟩) (Kd.R_far (p:=⟨gb316,0,none⟩) (Kd.R_types HO307.out BK316.out (by decide)) (fun _ hk=>hk.2) (.int .i64 t308)) (fun _ hk=>hk.2) (.int .i64 t309)) (fun _ hk=>hk.2) (.int .i64 t310)) (fun _ hk=>hk.2) (.bool t311)) (fun _ hk=>hk.2) (.slice Ao20 t312.length co20)) (fun _ h_=>h_.1)))) hb);have n3_:=Aside0.mk (Kd.X_below ((by (with_reducible repeat (first|apply Kd.X_alloc|apply Kd.X_drewN|apply Kd.X_drew));exact (Kd.X_mono (Kd.X_far (p:=⟨gb316,4,none⟩) (Kd.X_far (p:=⟨gb316,3,none⟩) (Kd.X_far (p:=⟨gb316,2,none⟩) (Kd.X_far (p:=⟨gb316,1,none⟩) (Kd.X_far (p:=⟨gb316,0,none⟩) (Kd.X_types HO314.out BK316.out (by decide)) (fun _ hk=>hk.2) (.int .i64 t308)) (fun _ hk=>hk.2) (.int .i64 t309)) (fun _ hk=>hk.2) (.int .i64 t310)) (fun _ hk=>hk.2) (.bool t311)) (fun _ hk=>hk.2) (.slice Ao20 t312.length co20)) (fun _ h_=>h_.1)))) hb);have n4_:=Aside0.mk (blk_below (g:=gb304) (o:=.cells #[.int .i64 t296,.int .i64 t297,.int .i64 t298,.bool t299,.slice Ao13 t300.length co13] 61 (0,0)) (by (with_reducible repeat (first|refine blk_drewN ?_ _|refine blk_drew ?_|refine blk_alloc ?_ _));refine blk_far ?_ NB304_316.out _;(with_reducible repeat (first|refine blk_drewN ?_ _|refine blk_drew ?_|refine blk_alloc ?_ _));refine blk_far ?_ NB304_316.out _;(with_reducible repeat (first|refine blk_drewN ?_ _|refine blk_drew ?_|refine blk_alloc ?_ _));refine blk_far ?_ NB304_316.out _;(with_reducible repeat (first|refine blk_drewN ?_ _|refine blk_drew ?_|refine blk_alloc ?_ _));refine blk_far ?_ NB304_316.out _;(with_reducible repeat (first|refine blk_drewN ?_ _|refine blk_drew ?_|refine blk_alloc ?_ _));refine blk_far ?_ NB304_316.out _;(with_reducible repeat (first|refine blk_drewN ?_ _|refine blk_drew ?_|refine blk_alloc ?_ _));exact BK304.out) hb);have n5_:=Aside0.mk (blk_below (g:=gb316) (o:=.cells #[.int .i64 t308,.int .i64 t309,.int .i64 t310,.bool t311,.slice Ao20 t312.length co20] 61 (0,0)) (by (with_reducible repeat (first|refine blk_drewN ?_ _|refine blk_drew ?_|refine blk_alloc ?_ _));refine blk_put (cs:=#[.int .i64 t308,.int .i64 t309,.int .i64 t310,.bool t311,.slice none 0 0]) ?_ 4 _ rfl;(with_reducible repeat (first|refine blk_drewN ?_ _|refine blk_drew ?_|refine blk_alloc ?_ _));refine blk_put (cs:=#[.int .i64 t308,.int .i64 t309,.int .i64 t310,.bool false,.slice none 0 0]) ?_ 3 _ rfl;(with_reducible repeat (first|refine blk_drewN ?_ _|refine blk_drew ?_|refine blk_alloc ?_ _));refine blk_put (cs:=#[.int .i64 t308,.int .i64 t309,.int .i64 0,.bool false,.slice none 0 0]) ?_ 2 _ rfl;(with_reducible repeat (first|refine blk_drewN ?_ _|refine blk_drew ?_|refine blk_alloc ?_ _));refine blk_put (cs:=#[.int .i64 t308,.int .i64 0,.int .i64 0,.bool false,.slice none 0 0]) ?_ 1 _ rfl;(with_reducible repeat (first|refine blk_drewN ?_ _|refine blk_drew ?_|refine blk_alloc ?_ _));refine blk_put (cs:=#[.int .i64 0,.int .i64 0,.int .i64 0,.bool false,.slice none 0 0]) ?_ 0 _ rfl;(with_reducible repeat (first|refine blk_drewN ?_ _|refine blk_drew ?_|refine blk_alloc ?_ _));exact BK316.out) hb);have n6_:=bs hb;clear HO295;clear HO302;clear HO307;clear HO314;clear BK304;clear BK316;clear HB;have HO295:=n0_;have HO302:=n1_;have HO307:=n2_;have HO314:=n3_;have BK304:=n4_;have BK316:=n5_;have HB:=n6_;clear n0_ n1_ n2_ n3_ n4_ n5_ n6_;(try clear hb);(try clear hb2);(try clear hk);(try clear hi)))
    go_meet
    case rel=>exact ⟨_,((t315 != t303)),rd_,H',⟨by first|omega|exact Nat.le_refl _⟩,⟨by (with_reducible repeat (first|apply Kd.R_alloc|apply Kd.R_drewN|apply Kd.R_drew));exact Kd.R_mono HO307.out (fun _ hk=>⟨hk.1.2,hk.2⟩)⟩,⟨by (with_reducible repeat (first|apply Kd.R_alloc|apply Kd.R_drewN|apply Kd.R_drew));exact Kd.R_mono HO302.out (fun _ hk=>⟨hk.1.2,hk.2⟩)⟩,⟨by (with_reducible repeat (first|apply Kd.X_alloc|apply Kd.X_drewN|apply Kd.X_drew));exact Kd.X_mono HO314.out (fun _ hk=>⟨hk.2,hk.1.2⟩)⟩,⟨bk BK304⟩,⟨bk BK316⟩,⟨be⟩⟩
   ·replace c22:=Bool.eq_false_iff.mpr c22
    subst c22
    replace H:=(if_neg (show ¬ (false=true) by decide)).symm.trans H
    have H':=Aside0.mk H
    clear H
    have hnb27:=NB316_304.out
    have hnc27:=NB304_316.out
    have hcz28_0:w17.cell? ⟨gb316,0,none⟩=some (.int .i64 0):=(blk_cell BK316.out 0).trans rfl
    have hcz28_1:w17.cell? ⟨gb316,1,none⟩=some (.int .i64 0):=(blk_cell BK316.out 1).trans rfl
    have hcz28_2:w17.cell? ⟨gb316,2,none⟩=some (.int .i64 0):=(blk_cell BK316.out 2).trans rfl
    have hcz28_3:w17.cell? ⟨gb316,3,none⟩=some (.bool false):=(blk_cell BK316.out 3).trans rfl
    have hcz28_4:w17.cell? ⟨gb316,4,none⟩=some (.slice none 0 0):=(blk_cell BK316.out 4).trans rfl
    have hfz28_0:=blk_frozen BK316.out 0
    have hfz28_1:=blk_frozen BK316.out 1
    have hfz28_2:=blk_frozen BK316.out 2
    have hfz28_3:=blk_frozen BK316.out 3
    have hfz28_4:=blk_frozen BK316.out 4
    have hcz29_0:w17.cell? ⟨gb304,0,none⟩=some (.int .i64 t296):=(blk_cell BK304.out 0).trans rfl
    have hcz29_1:w17.cell? ⟨gb304,1,none⟩=some (.int .i64 t297):=(blk_cell BK304.out 1).trans rfl
    have hcz29_2:w17.cell? ⟨gb304,2,none⟩=some (.int .i64 t298):=(blk_cell BK304.out 2).trans rfl
    have hcz29_3:w17.cell? ⟨gb304,3,none⟩=some (.bool t299):=(blk_cell BK304.out 3).trans rfl
    have hcz29_4:w17.cell? ⟨gb304,4,none⟩=some (.slice Ao13 t300.length co13):=(blk_cell BK304.out 4).trans rfl
    have hfz29_0:=blk_frozen BK304.out 0
    have hfz29_1:=blk_frozen BK304.out 1
    have hfz29_2:=blk_frozen BK304.out 2
    have hfz29_3:=blk_frozen BK304.out 3
    have hfz29_4:=blk_frozen BK304.out 4
    go_wp2_with (first|((with_reducible refine gate_callee (f:=39) rfl ?_);refine goesL_ (some 31) rfl rfl Try.func39 (by kernel_rfl) rfl #[.agg #[.int .i64 t308,.int .i64 t309,.int .i64 t310,.bool t311,.slice Ao20 t312.length co20],.agg #[.int .i64 t296,.int .i64 t297,.int .i64 t298,.bool t299,.slice Ao13 t300.length co13]] rfl (by (try simp only [List.map_toArray,List.map_cons,List.map_nil]);first|done|rfl|(simp only [List.length_drop,List.length_take];rfl)) ?_;(with_reducible refine (laws_eqFile.calls k t308 t309 t310 t311 _ _ t312 t296 t297 t298 t299 _ _ t300 false _ ?side1 ?side2 ?side3 ?side4 A21.out).mono ?_);(case side1=>refine (Kd.X_reads' (e:=5) (base:=w.heap.size) (ok:=fun k_=>(((True∧some k_ ≠ (.slice Ao9 t293.length co9:Value).ownBlock)∧some k_ ≠ (.slice Ao13 t300.length co13:Value).ownBlock)∧some k_ ≠ (.slice Ao15 t305.length co15:Value).ownBlock)) (n:=t312.length) (c:=co20) ?_).2.2;exact (by (with_reducible repeat (first|apply Kd.X_alloc|apply Kd.X_drewN|apply Kd.X_drew));exact (Kd.X_mono (Kd.X_far (p:=⟨gb316,4,none⟩) (Kd.X_far (p:=⟨gb316,3,none⟩) (Kd.X_far (p:=⟨gb316,2,none⟩) (Kd.X_far (p:=⟨gb316,1,none⟩) (Kd.X_far (p:=⟨gb316,0,none⟩) (Kd.X_types HO314.out BK316.out (by decide)) (fun _ hk=>hk.2) (.int .i64 t308)) (fun _ hk=>hk.2) (.int .i64 t309)) (fun _ hk=>hk.2) (.int .i64 t310)) (fun _ hk=>hk.2) (.bool t311)) (fun _ hk=>hk.2) (.slice Ao20 t312.length co20)) (fun _ h_=>h_.1))));(case side2=>exact (Kd.X_reads' HO314.out).2.1);(case side3=>refine (Kd.R_reads' (e:=5) (base:=w.heap.size) (ok:=fun k_=>(((True∧some k_ ≠ (.slice Ao9 t293.length co9:Value).ownBlock)∧some k_ ≠ (.slice Ao15 t305.length co15:Value).ownBlock)∧some k_ ≠ (.slice Ao20 t312.length co20:Value).ownBlock)) (n:=t300.length) (c:=co13) ?_).2.2;exact (by (with_reducible repeat (first|apply Kd.R_alloc|apply Kd.R_drewN|apply Kd.R_drew));exact (Kd.R_mono (Kd.R_far (p:=⟨gb316,4,none⟩) (Kd.R_far (p:=⟨gb316,3,none⟩) (Kd.R_far (p:=⟨gb316,2,none⟩) (Kd.R_far (p:=⟨gb316,1,none⟩) (Kd.R_far (p:=⟨gb316,0,none⟩) (Kd.R_types HO302.out BK316.out (by decide)) (fun _ hk=>hk.2) (.int .i64 t308)) (fun _ hk=>hk.2) (.int .i64 t309)) (fun _ hk=>hk.2) (.int .i64 t310)) (fun _ hk=>hk.2) (.bool t311)) (fun _ hk=>hk.2) (.slice Ao20 t312.length co20)) (fun _ h_=>h_.1))));(case side4=>exact (Kd.R_reads' HO302.out).2.1);rintro e w30 ⟨rfl,hb⟩;refine ⟨_,rfl,?_⟩;have n0_:=Aside0.mk (Kd.R_below ((by (with_reducible repeat (first|apply Kd.R_alloc|apply Kd.R_drewN|apply Kd.R_drew));exact (Kd.R_mono (Kd.R_far (p:=⟨gb316,4,none⟩) (Kd.R_far (p:=⟨gb316,3,none⟩) (Kd.R_far (p:=⟨gb316,2,none⟩) (Kd.R_far (p:=⟨gb316,1,none⟩) (Kd.R_far (p:=⟨gb316,0,none⟩) (Kd.R_types HO295.out BK316.out (by decide)) (fun _ hk=>hk.2) (.int .i64 t308)) (fun _ hk=>hk.2) (.int .i64 t309)) (fun _ hk=>hk.2) (.int .i64 t310)) (fun _ hk=>hk.2) (.bool t311)) (fun _ hk=>hk.2) (.slice Ao20 t312.length co20)) (fun _ h_=>h_.1)))) hb);have n1_:=Aside0.mk (Kd.R_below ((by (with_reducible repeat (first|apply Kd.R_alloc|apply Kd.R_drewN|apply Kd.R_drew));exact (Kd.R_mono (Kd.R_far (p:=⟨gb316,4,none⟩) (Kd.R_far (p:=⟨gb316,3,none⟩) (Kd.R_far (p:=⟨gb316,2,none⟩) (Kd.R_far (p:=⟨gb316,1,none⟩) (Kd.R_far (p:=⟨gb316,0,none⟩) (Kd.R_types HO302.out BK316.out (by decide)) (fun _ hk=>hk.2) (.int .i64 t308)) (fun _ hk=>hk.2) (.int .i64 t309)) (fun _ hk=>hk.2) (.int .i64 t310)) (fun _ hk=>hk.2) (.bool t311)) (fun _ hk=>hk.2) (.slice Ao20 t312.length co20)) (fun _ h_=>h_.1)))) hb);have n2_:=Aside0.mk (Kd.R_below ((by (with_reducible repeat (first|apply Kd.R_alloc|apply Kd.R_drewN|apply Kd.R_drew));exact (Kd.R_mono (Kd.R_far (p:=⟨gb316,4,none⟩) (Kd.R_far (p:=⟨gb316,3,none⟩) (Kd.R_far (p:=⟨gb316,2,none⟩) (Kd.R_far (p:=⟨gb316,1,none⟩) (Kd.R_far (p:=⟨gb316,0,none⟩) (Kd.R_types HO307.out BK316.out (by decide)) (fun _ hk=>hk.2) (.int .i64 t308)) (fun _ hk=>hk.2) (.int .i64 t309)) (fun _ hk=>hk.2) (.int .i64 t310)) (fun _ hk=>hk.2) (.bool t311)) (fun _ hk=>hk.2) (.slice Ao20 t312.length co20)) (fun _ h_=>h_.1)))) hb);have n3_:=Aside0.mk (Kd.X_below ((by (with_reducible repeat (first|apply Kd.X_alloc|apply Kd.X_drewN|apply Kd.X_drew));exact (Kd.X_mono (Kd.X_far (p:=⟨gb316,4,none⟩) (Kd.X_far (p:=⟨gb316,3,none⟩) (Kd.X_far (p:=⟨gb316,2,none⟩) (Kd.X_far (p:=⟨gb316,1,none⟩) (Kd.X_far (p:=⟨gb316,0,none⟩) (Kd.X_types HO314.out BK316.out (by decide)) (fun _ hk=>hk.2) (.int .i64 t308)) (fun _ hk=>hk.2) (.int .i64 t309)) (fun _ hk=>hk.2) (.int .i64 t310)) (fun _ hk=>hk.2) (.bool t311)) (fun _ hk=>hk.2) (.slice Ao20 t312.length co20)) (fun _ h_=>h_.1)))) hb);have n4_:=Aside0.mk (blk_below (g:=gb304) (o:=.cells #[.int .i64 t296,.int .i64 t297,.int .i64 t298,.bool t299,.slice Ao13 t300.length co13] 61 (0,0)) (by (with_reducible repeat (first|refine blk_drewN ?_ _|refine blk_drew ?_|refine blk_alloc ?_ _));refine blk_far ?_ NB304_316.out _;(with_reducible repeat (first|refine blk_drewN ?_ _|refine blk_drew ?_|refine blk_alloc ?_ _));refine blk_far ?_ NB304_316.out _;(with_reducible repeat (first|refine blk_drewN ?_ _|refine blk_drew ?_|refine blk_alloc ?_ _));refine blk_far ?_ NB304_316.out _;(with_reducible repeat (first|refine blk_drewN ?_ _|refine blk_drew ?_|refine blk_alloc ?_ _));refine blk_far ?_ NB304_316.out _;(with_reducible repeat (first|refine blk_drewN ?_ _|refine blk_drew ?_|refine blk_alloc ?_ _));refine blk_far ?_ NB304_316.out _;(with_reducible repeat (first|refine blk_drewN ?_ _|refine blk_drew ?_|refine blk_alloc ?_ _));exact BK304.out) hb);have n5_:=Aside0.mk (blk_below (g:=gb316) (o:=.cells #[.int .i64 t308,.int .i64 t309,.int .i64 t310,.bool t311,.slice Ao20 t312.length co20] 61 (0,0)) (by (with_reducible repeat (first|refine blk_drewN ?_ _|refine blk_drew ?_|refine blk_alloc ?_ _));refine blk_put (cs:=#[.int .i64 t308,.int .i64 t309,.int .i64 t310,.bool t311,.slice none 0 0]) ?_ 4 _ rfl;(with_reducible repeat (first|refine blk_drewN ?_ _|refine blk_drew ?_|refine blk_alloc ?_ _));refine blk_put (cs:=#[.int .i64 t308,.int .i64 t309,.int .i64 t310,.bool false,.slice none 0 0]) ?_ 3 _ rfl;(with_reducible repeat (first|refine blk_drewN ?_ _|refine blk_drew ?_|refine blk_alloc ?_ _));refine blk_put (cs:=#[.int .i64 t308,.int .i64 t309,.int .i64 0,.bool false,.slice none 0 0]) ?_ 2 _ rfl;(with_reducible repeat (first|refine blk_drewN ?_ _|refine blk_drew ?_|refine blk_alloc ?_ _));refine blk_put (cs:=#[.int .i64 t308,.int .i64 0,.int .i64 0,.bool false,.slice none 0 0]) ?_ 1 _ rfl;(with_reducible repeat (first|refine blk_drewN ?_ _|refine blk_drew ?_|refine blk_alloc ?_ _));refine blk_put (cs:=#[.int .i64 0,.int .i64 0,.int .i64 0,.bool false,.slice none 0 0]) ?_ 0 _ rfl;(with_reducible repeat (first|refine blk_drewN ?_ _|refine blk_drew ?_|refine blk_alloc ?_ _));exact BK316.out) hb);have n6_:=bs hb;clear HO295;clear HO302;clear HO307;clear HO314;clear BK304;clear BK316;clear HB;have HO295:=n0_;have HO302:=n1_;have HO307:=n2_;have HO314:=n3_;have BK304:=n4_;have BK316:=n5_;have HB:=n6_;clear n0_ n1_ n2_ n3_ n4_ n5_ n6_;(try clear hb);(try clear hb2);(try clear hk);(try clear hi)))
    go_meet
    case rel=>exact ⟨_,(true),rd_,H',⟨by first|omega|exact Nat.le_refl _⟩,⟨by (with_reducible repeat (first|apply Kd.R_alloc|apply Kd.R_drewN|apply Kd.R_drew));exact Kd.R_mono HO307.out (fun _ hk=>⟨hk.1.2,hk.2⟩)⟩,⟨by (with_reducible repeat (first|apply Kd.R_alloc|apply Kd.R_drewN|apply Kd.R_drew));exact Kd.R_mono HO302.out (fun _ hk=>⟨hk.1.2,hk.2⟩)⟩,⟨by (with_reducible repeat (first|apply Kd.X_alloc|apply Kd.X_drewN|apply Kd.X_drew));exact Kd.X_mono HO314.out (fun _ hk=>⟨hk.2,hk.1.2⟩)⟩,⟨bk BK304⟩,⟨bk BK316⟩,⟨be⟩⟩
  case rest=>
   clear HC7
   try clear c1
   try clear c2
   try clear c2b0
   try clear c2b1
   try clear p2
   try clear c3
   try clear c5
   try clear c9
   try clear c18
   try clear c22
   try clear c23
   try clear c27
   try clear hcz12_0
   try clear hcz12_1
   try clear hcz12_2
   try clear hcz12_3
   try clear hcz12_4
   try clear hcz19_0
   try clear hcz19_1
   try clear hcz19_2
   try clear hcz19_3
   try clear hcz19_4
   try clear hcz24_0
   try clear hcz24_1
   try clear hcz24_2
   try clear hcz24_3
   try clear hcz24_4
   try clear hcz25_0
   try clear hcz25_1
   try clear hcz25_2
   try clear hcz25_3
   try clear hcz25_4
   try clear hcz28_0
   try clear hcz28_1
   try clear hcz28_2
   try clear hcz28_3
   try clear hcz28_4
   try clear hcz29_0
   try clear hcz29_1
   try clear hcz29_2
   try clear hcz29_3
   try clear hcz29_4
   try clear hfz12_0
   try clear hfz12_1
   try clear hfz12_2
   try clear hfz12_3
   try clear hfz12_4
   try clear hfz19_0
   try clear hfz19_1
   try clear hfz19_2
   try clear hfz19_3
   try clear hfz19_4
   try clear hfz24_0
   try clear hfz24_1
   try clear hfz24_2
   try clear hfz24_3
   try clear hfz24_4
   try clear hfz25_0
   try clear hfz25_1
   try clear hfz25_2
   try clear hfz25_3
   try clear hfz25_4
   try clear hfz28_0
   try clear hfz28_1
   try clear hfz28_2
   try clear hfz28_3
   try clear hfz28_4
   try clear hfz29_0
   try clear hfz29_1
   try clear hfz29_2
   try clear hfz29_3
   try clear hfz29_4
   obtain ⟨kq,x37_6,rfl,HA,HJ6,HO_5,HO_305004,HO_317004,BK304,BK316,HB⟩:=hcut
   cases kq with
   | zero=>exact absurd HA.out (by simp [laws_FnExactGetFile.j0])
   | succ kj6=>
    have H:=HA.out
    clear HA
    simp only [laws_FnExactGetFile.j0] at H
    by_cases c31:x37_6=true
    ·subst c31
     rw [if_pos rfl] at H
     exact absurd ((Option.some.inj H).trans hr_.out) (by decide)
    ·replace c31:=Bool.eq_false_iff.mpr c31
     subst c31
     replace H:=(if_neg (show ¬ (false=true) by decide)).symm.trans H
     replace H:=Option.bind_eq_some_iff.mp H
     obtain ⟨t318,A320,H⟩:=H
     try dsimp only at H
     have A32:=Aside0.mk A320
     clear A320
     replace H:=Option.bind_eq_some_iff.mp H
     obtain ⟨t321,A330,H⟩:=H
     try dsimp only at H
     have A33:=Aside0.mk A330
     clear A330
     by_cases c34:t321=true
     ·subst c34
      rw [if_pos rfl] at H
      replace H:=Option.bind_eq_some_iff.mp H
      obtain ⟨⟨t322,t323⟩,A350,H⟩:=H
      try dsimp only at H
      have A35:=Aside0.mk A350
      clear A350
      have HC36:=Aside0.mk H
      clear H
      go_upto_region 12 with (first|((with_reducible refine gate_callee (f:=54) rfl ?_);refine goesL_ (some 40) rfl rfl Try.func54 (by kernel_rfl) rfl #[.slice A0 l0.length c0] rfl (by (try simp only [List.map_toArray,List.map_cons,List.map_nil]);first|done|rfl|(simp only [List.length_drop,List.length_take];rfl)) ?_;(with_reducible refine (laws_toByteS.calls kj6 _ _ l0 t318 _ ?side1 ?side2 A32.out).mono ?_);(case side1=>exact rC HR0);(case side2=>exact HC0.out);rintro e w37 ⟨v319,rfl,ho0,hb⟩;refine ⟨_,rfl,?_⟩;have n0_:=Aside0.mk (Kd.R_elder' (rR HO_5) (Kd.R_base ho0) hb);have n1_:=Aside0.mk (Kd.R_elder' (rR HO_305004) (Kd.R_base ho0) hb);have n2_:=Aside0.mk (Kd.X_elder' (by (with_reducible repeat (first|apply Kd.X_alloc|apply Kd.X_drewN|apply Kd.X_drew));exact HO_317004.out) (Kd.R_base ho0) hb);have n3_:=Aside0.mk (Kd.R_lower (Kd.R_new' (Kd.R_new' (Kd.R_new' ho0 (Kd.R_lt (rR HO_5))) (Kd.R_lt (rR HO_305004))) (Kd.X_lt (by (with_reducible repeat (first|apply Kd.X_alloc|apply Kd.X_drewN|apply Kd.X_drew));exact HO_317004.out))) (below_size be));have n4_:=Aside0.mk (blk_below (g:=gb304) (o:=.cells #[.int .i64 t296,.int .i64 t297,.int .i64 t298,.bool t299,.slice Ao13 t300.length co13] 61 (0,0)) (bk BK304) hb);have n5_:=Aside0.mk (blk_below (g:=gb316) (o:=.cells #[.int .i64 t308,.int .i64 t309,.int .i64 t310,.bool t311,.slice Ao20 t312.length co20] 61 (0,0)) (bk BK316) hb);have n6_:=bs hb;clear HO_5;clear HO_305004;clear HO_317004;clear BK304;clear BK316;clear HB;have HO_5:=n0_;have HO_305004:=n1_;have HO_317004:=n2_;have HO320:=n3_;have BK304:=n4_;have BK316:=n5_;have HB:=n6_;clear n0_ n1_ n2_ n3_ n4_ n5_ n6_;(try clear hb);(try clear hb2);(try clear hk);(try clear hi);(try clear ho0);obtain ⟨Ao38,co38,eo38⟩:=Kd.R_slice HO320.out;subst eo38)|((with_reducible refine gate_callee (f:=38) rfl ?_);refine goesL_ (some 41) rfl rfl Try.func38 (by kernel_rfl) rfl #[.slice Ao15 t305.length co15,.slice Ao38 t318.length co38] rfl (by (try simp only [List.map_toArray,List.map_cons,List.map_nil]);first|done|rfl|(simp only [List.length_drop,List.length_take];rfl)) ?_;(with_reducible refine (laws_eqByteS.calls kj6 _ _ t305 _ _ t318 true _ ?side1 ?side2 ?side3 ?side4 A33.out).mono ?_);(case side1=>exact sR HO_5);(case side2=>exact (Kd.R_reads' HO_5.out).2.1);(case side3=>exact sR HO320);(case side4=>exact (Kd.R_reads' HO320.out).2.1);rintro e w' ⟨rfl,⟨nd,rfl⟩⟩;refine ⟨_,rfl,?_⟩)|((with_reducible refine gate_callee (f:=41) rfl ?_);refine goesL_ (some 45) rfl rfl Try.func41 (by kernel_rfl) rfl #[.slice Ao15 t305.length co15,.int .i64 1] rfl (by (try simp only [List.map_toArray,List.map_cons,List.map_nil]);first|done|rfl|(simp only [List.length_drop,List.length_take];rfl)) ?_;(with_reducible refine (laws_markByteS.calls kj6 (fun k_=>some k_=(.slice Ao15 t305.length co15:Value).ownBlock) (.slice Ao15 t305.length co15) t305 1 t322 t323 w _ ?side1 ?side2 A35.out).mono ?_);(case side1=>exact be);(case side2=>exact Kd.R_tight rfl HO_5.out);rintro e w39 ⟨rfl,hy0,hb,hkp⟩;refine ⟨_,rfl,?_⟩;have n0_:=Aside0.mk (Kd.R_reok rfl hy0 (fun k_ e_=>HO_5.out.1 k_ e_));have n1_:=Aside0.mk (Kd.R_mono (ok':=fun k_=>some k_ ≠ (.slice Ao15 t305.length co15:Value).ownBlock∧some k_ ≠ (.slice Ao20 t312.length co20:Value).ownBlock∧some k_ ≠ (.slice Ao38 t318.length co38:Value).ownBlock) (Kd.R_keptB (HO_305004.out) hkp (fun k_ hk_ hs_=>(hk_.1.1) hs_)) (fun k_ hk_=>⟨hk_.1.1.1,hk_.1.1.2,hk_.1.2⟩));have n2_:=Aside0.mk (Kd.X_mono (ok':=fun k_=>some k_ ≠ (.slice Ao15 t305.length co15:Value).ownBlock∧some k_ ≠ (.slice Ao13 t300.length co13:Value).ownBlock∧some k_ ≠ (.slice Ao38 t318.length co38:Value).ownBlock) (Kd.X_keptB (HO_317004.out) hkp (fun k_ hk_ hs_=>(hk_.1.1) hs_)) (fun k_ hk_=>⟨hk_.1.1.1,hk_.1.1.2,hk_.1.2⟩));have n3_:=Aside0.mk (blk_kept (bk BK304) hkp (fun hs_=>(fun e_=>(Kd.R_ne HO_5.out BK304.out (by decide)) e_) hs_));have n4_:=Aside0.mk (blk_kept (bk BK316) hkp (fun hs_=>(fun e_=>(Kd.R_ne HO_5.out BK316.out (by decide)) e_) hs_));have n5_:=Aside0.mk (Kd.R_mono (ok':=fun k_=>some k_ ≠ (.slice Ao15 t305.length co15:Value).ownBlock∧some k_ ≠ (.slice Ao13 t300.length co13:Value).ownBlock∧some k_ ≠ (.slice Ao20 t312.length co20:Value).ownBlock) (Kd.R_keptB (HO320.out) hkp (fun k_ hk_ hs_=>(hk_.1.1.2) hs_)) (fun k_ hk_=>⟨hk_.1.1.1.2,hk_.1.1.2,hk_.1.2⟩));have n6_:=Aside0.mk (hb);clear HO_5;clear HO_305004;clear HO_317004;clear BK304;clear BK316;clear HO320;clear HB;have HO_5:=n0_;have HO_305004:=n1_;have HO_317004:=n2_;have BK304:=n3_;have BK316:=n4_;have HO320:=n5_;have HB:=n6_;clear n0_ n1_ n2_ n3_ n4_ n5_ n6_;(try clear hb);(try clear hkp);(try clear hy0)))
      (try simp only [Act.put,List.setIfInBounds_toArray,List.set_cons_zero,List.set_cons_succ])
      go_cut [58] (fun v58 wc=>∃ (kq:Nat) (x58_35:Bool),v58 = .bool x58_35∧Aside0 (laws_FnExactGetFile.j1 kq l0 t303 x58_35 t296 t297 t298 t299 t300 t308 t309 t310 t311 t312=some r)∧Aside0 (kq≤kj6)∧Aside0 (Kd.R (Kd.int .u8) 5 wc w.heap.size (fun k_=>some k_ ≠ ((.slice Ao20 t312.length co20):Value).ownBlock) (.slice Ao13 t300.length co13) t300)∧Aside0 (Kd.X (Kd.int .u8) 5 wc w.heap.size (fun k_=>some k_ ≠ ((.slice Ao13 t300.length co13):Value).ownBlock) (.slice Ao20 t312.length co20) t312)∧Aside0 (wc.heap[gb304]?=some (.cells #[.int .i64 t296,.int .i64 t297,.int .i64 t298,.bool t299,(.slice Ao13 t300.length co13)] 61 (0,0)))∧Aside0 (wc.heap[gb316]?=some (.cells #[.int .i64 t308,.int .i64 t309,.int .i64 t310,.bool t311,(.slice Ao20 t312.length co20)] 61 (0,0)))∧Aside0 (Below w.heap.size w wc))
      case first=>
       have H:=HC36.out
       clear HC36
       by_cases c40:t322 < 0
       ·rw [if_pos c40] at H
        have c40b0:decide (t322 < 0)=true:=decide_eq_true c40
        clear c40
        (first|rw [c40b0]|(simp only [i64_w,i32_w];rw [c40b0])|skip)
        have H':=Aside0.mk H
        clear H
        go_wp2
        go_meet
        case rel=>exact ⟨_,(true),rd_,H',⟨by have:=HJ6.out;first|omega|exact Nat.le_refl _⟩,⟨by (with_reducible repeat (first|apply Kd.R_alloc|apply Kd.R_drewN|apply Kd.R_drew));exact Kd.R_mono HO_305004.out (fun _ hk=>hk.2.1)⟩,⟨by (with_reducible repeat (first|apply Kd.X_alloc|apply Kd.X_drewN|apply Kd.X_drew));exact Kd.X_mono HO_317004.out (fun _ hk=>hk.2.1)⟩,⟨bk BK304⟩,⟨bk BK316⟩,⟨be⟩⟩
       ·rw [if_neg c40] at H
        have c40b0:decide (t322 < 0)=false:=decide_eq_false c40
        clear c40
        (first|rw [c40b0]|(simp only [i64_w,i32_w];rw [c40b0])|skip)
        replace H:=Option.bind_eq_some_iff.mp H
        obtain ⟨t324,A410,H⟩:=H
        try dsimp only at H
        have A41:=Aside0.mk A410
        clear A410
        by_cases c42:t324=true
        ·subst c42
         rw [if_pos rfl] at H
         have H':=Aside0.mk H
         clear H
         have hnb43:=NB316_304.out
         have hnc43:=NB304_316.out
         have hcz44_0:w39.cell? ⟨gb316,0,none⟩=some (.int .i64 t308):=(blk_cell BK316.out 0).trans rfl
         have hcz44_1:w39.cell? ⟨gb316,1,none⟩=some (.int .i64 t309):=(blk_cell BK316.out 1).trans rfl
         have hcz44_2:w39.cell? ⟨gb316,2,none⟩=some (.int .i64 t310):=(blk_cell BK316.out 2).trans rfl
         have hcz44_3:w39.cell? ⟨gb316,3,none⟩=some (.bool t311):=(blk_cell BK316.out 3).trans rfl
         have hcz44_4:w39.cell? ⟨gb316,4,none⟩=some (.slice Ao20 t312.length co20):=(blk_cell BK316.out 4).trans rfl
         have hfz44_0:=blk_frozen BK316.out 0
         have hfz44_1:=blk_frozen BK316.out 1
         have hfz44_2:=blk_frozen BK316.out 2
         have hfz44_3:=blk_frozen BK316.out 3
         have hfz44_4:=blk_frozen BK316.out 4
         have hcz45_0:w39.cell? ⟨gb304,0,none⟩=some (.int .i64 t296):=(blk_cell BK304.out 0).trans rfl
         have hcz45_1:w39.cell? ⟨gb304,1,none⟩=some (.int .i64 t297):=(blk_cell BK304.out 1).trans rfl
         have hcz45_2:w39.cell? ⟨gb304,2,none⟩=some (.int .i64 t298):=(blk_cell BK304.out 2).trans rfl
         have hcz45_3:w39.cell? ⟨gb304,3,none⟩=some (.bool t299):=(blk_cell BK304.out 3).trans rfl
         have hcz45_4:w39.cell? ⟨gb304,4,none⟩=some (.slice Ao13 t300.length co13):=(blk_cell BK304.out 4).trans rfl
         have hfz45_0:=blk_frozen BK304.out 0
         have hfz45_1:=blk_frozen BK304.out 1
         have hfz45_2:=blk_frozen BK304.out 2
         have hfz45_3:=blk_frozen BK304.out 3
         have hfz45_4:=blk_frozen BK304.out 4
         go_wp2_with (first|(go_at_call 39;(with_reducible refine (laws_eqFile.calls kj6 t308 t309 t310 t311 _ _ t312 t296 t297 t298 t299 _ _ t300 true _ ?side1 ?side2 ?side3 ?side4 A41.out).mono ?_);(case side1=>repeat (first|exact (Kd.X_reads' HO_317004.out).2.2|(with_reducible refine Kd.C_alloc ?_ _)|(with_reducible refine Kd.C_drewN ?_ _)|(with_reducible refine Kd.C_drew ?_)));(case side2=>exact (Kd.X_reads' HO_317004.out).2.1);(case side3=>exact sR HO_305004);(case side4=>exact (Kd.R_reads' HO_305004.out).2.1);rintro e w46 ⟨rfl,hb⟩;have n0_:=Aside0.mk (Kd.R_below ((rR HO_5)) hb);have n1_:=Aside0.mk (Kd.R_below ((rR HO_305004)) hb);have n2_:=Aside0.mk (Kd.X_below ((by (with_reducible repeat (first|apply Kd.X_alloc|apply Kd.X_drewN|apply Kd.X_drew));exact HO_317004.out)) hb);have n3_:=Aside0.mk (Kd.R_below ((rR HO320)) hb);have n4_:=Aside0.mk (blk_below (g:=gb304) (o:=.cells #[.int .i64 t296,.int .i64 t297,.int .i64 t298,.bool t299,.slice Ao13 t300.length co13] 61 (0,0)) (bk BK304) hb);have n5_:=Aside0.mk (blk_below (g:=gb316) (o:=.cells #[.int .i64 t308,.int .i64 t309,.int .i64 t310,.bool t311,.slice Ao20 t312.length co20] 61 (0,0)) (bk BK316) hb);have n6_:=bs hb;clear HO_5;clear HO_305004;clear HO_317004;clear HO320;clear BK304;clear BK316;clear HB;have HO_5:=n0_;have HO_305004:=n1_;have HO_317004:=n2_;have HO320:=n3_;have BK304:=n4_;have BK316:=n5_;have HB:=n6_;clear n0_ n1_ n2_ n3_ n4_ n5_ n6_;(try clear hb);(try clear hb2);(try clear hk);(try clear hi)))
         go_meet
         case rel=>exact ⟨_,((t315 != t303)),rd_,H',⟨by have:=HJ6.out;first|omega|exact Nat.le_refl _⟩,⟨by (with_reducible repeat (first|apply Kd.R_alloc|apply Kd.R_drewN|apply Kd.R_drew));exact Kd.R_mono HO_305004.out (fun _ hk=>hk.2.1)⟩,⟨by (with_reducible repeat (first|apply Kd.X_alloc|apply Kd.X_drewN|apply Kd.X_drew));exact Kd.X_mono HO_317004.out (fun _ hk=>hk.2.1)⟩,⟨bk BK304⟩,⟨bk BK316⟩,⟨be⟩⟩
        ·replace c42:=Bool.eq_false_iff.mpr c42
         subst c42
         replace H:=(if_neg (show ¬ (false=true) by decide)).symm.trans H
         have H':=Aside0.mk H
         clear H
         have hnb47:=NB316_304.out
         have hnc47:=NB304_316.out
         have hcz48_0:w39.cell? ⟨gb316,0,none⟩=some (.int .i64 t308):=(blk_cell BK316.out 0).trans rfl
         have hcz48_1:w39.cell? ⟨gb316,1,none⟩=some (.int .i64 t309):=(blk_cell BK316.out 1).trans rfl
         have hcz48_2:w39.cell? ⟨gb316,2,none⟩=some (.int .i64 t310):=(blk_cell BK316.out 2).trans rfl
         have hcz48_3:w39.cell? ⟨gb316,3,none⟩=some (.bool t311):=(blk_cell BK316.out 3).trans rfl
         have hcz48_4:w39.cell? ⟨gb316,4,none⟩=some (.slice Ao20 t312.length co20):=(blk_cell BK316.out 4).trans rfl
         have hfz48_0:=blk_frozen BK316.out 0
         have hfz48_1:=blk_frozen BK316.out 1
         have hfz48_2:=blk_frozen BK316.out 2
         have hfz48_3:=blk_frozen BK316.out 3
         have hfz48_4:=blk_frozen BK316.out 4
         have hcz49_0:w39.cell? ⟨gb304,0,none⟩=some (.int .i64 t296):=(blk_cell BK304.out 0).trans rfl
         have hcz49_1:w39.cell? ⟨gb304,1,none⟩=some (.int .i64 t297):=(blk_cell BK304.out 1).trans rfl
         have hcz49_2:w39.cell? ⟨gb304,2,none⟩=some (.int .i64 t298):=(blk_cell BK304.out 2).trans rfl
         have hcz49_3:w39.cell? ⟨gb304,3,none⟩=some (.bool t299):=(blk_cell BK304.out 3).trans rfl
         have hcz49_4:w39.cell? ⟨gb304,4,none⟩=some (.slice Ao13 t300.length co13):=(blk_cell BK304.out 4).trans rfl
         have hfz49_0:=blk_frozen BK304.out 0
         have hfz49_1:=blk_frozen BK304.out 1
         have hfz49_2:=blk_frozen BK304.out 2
         have hfz49_3:=blk_frozen BK304.out 3
         have hfz49_4:=blk_frozen BK304.out 4
         go_wp2_with (first|(go_at_call 39;(with_reducible refine (laws_eqFile.calls kj6 t308 t309 t310 t311 _ _ t312 t296 t297 t298 t299 _ _ t300 false _ ?side1 ?side2 ?side3 ?side4 A41.out).mono ?_);(case side1=>repeat (first|exact (Kd.X_reads' HO_317004.out).2.2|(with_reducible refine Kd.C_alloc ?_ _)|(with_reducible refine Kd.C_drewN ?_ _)|(with_reducible refine Kd.C_drew ?_)));(case side2=>exact (Kd.X_reads' HO_317004.out).2.1);(case side3=>exact sR HO_305004);(case side4=>exact (Kd.R_reads' HO_305004.out).2.1);rintro e w50 ⟨rfl,hb⟩;have n0_:=Aside0.mk (Kd.R_below ((rR HO_5)) hb);have n1_:=Aside0.mk (Kd.R_below ((rR HO_305004)) hb);have n2_:=Aside0.mk (Kd.X_below ((by (with_reducible repeat (first|apply Kd.X_alloc|apply Kd.X_drewN|apply Kd.X_drew));exact HO_317004.out)) hb);have n3_:=Aside0.mk (Kd.R_below ((rR HO320)) hb);have n4_:=Aside0.mk (blk_below (g:=gb304) (o:=.cells #[.int .i64 t296,.int .i64 t297,.int .i64 t298,.bool t299,.slice Ao13 t300.length co13] 61 (0,0)) (bk BK304) hb);have n5_:=Aside0.mk (blk_below (g:=gb316) (o:=.cells #[.int .i64 t308,.int .i64 t309,.int .i64 t310,.bool t311,.slice Ao20 t312.length co20] 61 (0,0)) (bk BK316) hb);have n6_:=bs hb;clear HO_5;clear HO_305004;clear HO_317004;clear HO320;clear BK304;clear BK316;clear HB;have HO_5:=n0_;have HO_305004:=n1_;have HO_317004:=n2_;have HO320:=n3_;have BK304:=n4_;have BK316:=n5_;have HB:=n6_;clear n0_ n1_ n2_ n3_ n4_ n5_ n6_;(try clear hb);(try clear hb2);(try clear hk);(try clear hi)))
         go_meet
         case rel=>exact ⟨_,(true),rd_,H',⟨by have:=HJ6.out;first|omega|exact Nat.le_refl _⟩,⟨by (with_reducible repeat (first|apply Kd.R_alloc|apply Kd.R_drewN|apply Kd.R_drew));exact Kd.R_mono HO_305004.out (fun _ hk=>hk.2.1)⟩,⟨by (with_reducible repeat (first|apply Kd.X_alloc|apply Kd.X_drewN|apply Kd.X_drew));exact Kd.X_mono HO_317004.out (fun _ hk=>hk.2.1)⟩,⟨bk BK304⟩,⟨bk BK316⟩,⟨be⟩⟩
      case rest=>
       clear HC36
       try clear c1
       try clear c2
       try clear c2b0
       try clear c2b1
       try clear p2
       try clear c3
       try clear c4
       try clear c5
       try clear c9
       try clear c18
       try clear c22
       try clear c23
       try clear c27
       try clear c31
       try clear c34
       try clear c38
       try clear c39
       try clear c40
       try clear c40b0
       try clear c41
       try clear c42
       try clear c43
       try clear c47
       try clear hcz12_0
       try clear hcz12_1
       try clear hcz12_2
       try clear hcz12_3
       try clear hcz12_4
       try clear hcz19_0
       try clear hcz19_1
       try clear hcz19_2
       try clear hcz19_3
       try clear hcz19_4
       try clear hcz24_0
       try clear hcz24_1
       try clear hcz24_2
       try clear hcz24_3
       try clear hcz24_4
       try clear hcz25_0
       try clear hcz25_1
       try clear hcz25_2
       try clear hcz25_3
       try clear hcz25_4
       try clear hcz28_0
       try clear hcz28_1
       try clear hcz28_2
       try clear hcz28_3
       try clear hcz28_4
       try clear hcz29_0
       try clear hcz29_1
       try clear hcz29_2
       try clear hcz29_3
       try clear hcz29_4
       try clear hcz44_0
       try clear hcz44_1
       try clear hcz44_2
       try clear hcz44_3
       try clear hcz44_4
       try clear hcz45_0
       try clear hcz45_1
       try clear hcz45_2
       try clear hcz45_3
       try clear hcz45_4
       try clear hcz48_0
       try clear hcz48_1
       try clear hcz48_2
       try clear hcz48_3
       try clear hcz48_4
       try clear hcz49_0
       try clear hcz49_1
       try clear hcz49_2
       try clear hcz49_3
       try clear hcz49_4
       try clear hfz12_0
       try clear hfz12_1
       try clear hfz12_2
       try clear hfz12_3
       try clear hfz12_4
       try clear hfz19_0
       try clear hfz19_1
       try clear hfz19_2
       try clear hfz19_3
       try clear hfz19_4
       try clear hfz24_0
       try clear hfz24_1
       try clear hfz24_2
       try clear hfz24_3
       try clear hfz24_4
       try clear hfz25_0
       try clear hfz25_1
       try clear hfz25_2
       try clear hfz25_3
       try clear hfz25_4
       try clear hfz28_0
       try clear hfz28_1
       try clear hfz28_2
       try clear hfz28_3
       try clear hfz28_4
       try clear hfz29_0
       try clear hfz29_1
       try clear hfz29_2
       try clear hfz29_3
       try clear hfz29_4
       try clear hfz44_0
       try clear hfz44_1
       try clear hfz44_2
       try clear hfz44_3
       try clear hfz44_4
       try clear hfz45_0
       try clear hfz45_1
       try clear hfz45_2
       try clear hfz45_3
       try clear hfz45_4
       try clear hfz48_0
       try clear hfz48_1
       try clear hfz48_2
       try clear hfz48_3
       try clear hfz48_4
       try clear hfz49_0
       try clear hfz49_1
       try clear hfz49_2
       try clear hfz49_3
       try clear hfz49_4
       try clear p2
       obtain ⟨kq,x58_35,rfl,HA,HJ35,HO_305004,HO_317004,BK304,BK316,HB⟩:=hcut
       cases kq with
       | zero=>exact absurd HA.out (by simp [laws_FnExactGetFile.j1])
       | succ kj35=>
        have H:=HA.out
        clear HA
        simp only [laws_FnExactGetFile.j1] at H
        by_cases c51:x58_35=true
        ·subst c51
         rw [if_pos rfl] at H
         exact absurd ((Option.some.inj H).trans hr_.out) (by decide)
        ·replace c51:=Bool.eq_false_iff.mpr c51
         subst c51
         replace H:=(if_neg (show ¬ (false=true) by decide)).symm.trans H
         replace H:=Option.bind_eq_some_iff.mp H
         obtain ⟨⟨t325,t326⟩,A520,H⟩:=H
         try dsimp only at H
         have A52:=Aside0.mk A520
         clear A520
         replace H:=Option.bind_eq_some_iff.mp H
         obtain ⟨t327,A530,H⟩:=H
         try dsimp only at H
         have A53:=Aside0.mk A530
         clear A530
         by_cases c54:t327 < 0
         ·rw [if_pos c54] at H
          have c54b0:decide (t327 < 0)=true:=decide_eq_true c54
          clear c54
          exact absurd ((Option.some.inj H).trans hr_.out) (by decide)
         ·rw [if_neg c54] at H
          have c54b0:decide (t327 < 0)=false:=decide_eq_false c54
          clear c54
          by_cases c55:t327=t325
          ·rw [if_pos c55] at H
           have c55b0:(t327 == t325)=true:=beq_iff_eq.mpr c55
           have c55b1:(t327 != t325)=false:=bne_eq_false_iff_eq.mpr c55
           clear c55
           replace H:=Option.bind_eq_some_iff.mp H
           obtain ⟨t328,A560,H⟩:=H
           try dsimp only at H
           have A56:=Aside0.mk A560
           clear A560
           replace H:=Option.bind_eq_some_iff.mp H
           obtain ⟨⟨t331,t332,t333,t334,t335,t338⟩,A570,H⟩:=H
           try dsimp only at H
           have A57:=Aside0.mk A570
           clear A570
           have HC58:=Aside0.mk H
           clear H
           have hnb59:=NB316_304.out
           have hnc59:=NB304_316.out
           have hcz60_0:wc.cell? ⟨gb316,0,none⟩=some (.int .i64 t308):=(blk_cell BK316.out 0).trans rfl
           have hcz60_1:wc.cell? ⟨gb316,1,none⟩=some (.int .i64 t309):=(blk_cell BK316.out 1).trans rfl
           have hcz60_2:wc.cell? ⟨gb316,2,none⟩=some (.int .i64 t310):=(blk_cell BK316.out 2).trans rfl
           have hcz60_3:wc.cell? ⟨gb316,3,none⟩=some (.bool t311):=(blk_cell BK316.out 3).trans rfl
           have hcz60_4:wc.cell? ⟨gb316,4,none⟩=some (.slice Ao20 t312.length co20):=(blk_cell BK316.out 4).trans rfl
           have hfz60_0:=blk_frozen BK316.out 0
           have hfz60_1:=blk_frozen BK316.out 1
           have hfz60_2:=blk_frozen BK316.out 2
           have hfz60_3:=blk_frozen BK316.out 3
           have hfz60_4:=blk_frozen BK316.out 4
           go_upto_region 23 with (first|((with_reducible refine gate_callee (f:=40) rfl ?_);refine goesL_ (some 61) rfl rfl Try.func40 (by kernel_rfl) rfl #[.agg #[.int .i64 t308,.int .i64 t309,.int .i64 t310,.bool t311,.slice Ao20 t312.length co20],.int .i64 1] rfl (by (try simp only [List.map_toArray,List.map_cons,List.map_nil]);first|done|rfl|(simp only [List.length_drop,List.length_take];rfl)) ?_;(with_reducible refine (laws_markFile.callsX kj35 t308 t309 t310 t311 (fun k_=>some k_=(.slice Ao20 t312.length co20:Value).ownBlock) (.slice Ao20 t312.length co20) t312 1 t325 t326 w _ ?side1 ?side2 A52.out).mono ?_);(case side1=>exact be);(case side2=>exact Kd.X_tight rfl HO_317004.out);rintro e w61 ⟨rfl,hy0,hb,hkp⟩;refine ⟨_,rfl,?_⟩;have n0_:=Aside0.mk (Kd.R_mono (ok':=fun k_=>some k_ ≠ (.slice Ao20 t312.length co20:Value).ownBlock) (Kd.R_keptB (HO_305004.out) hkp (fun k_ hk_ hs_=>(hk_) hs_)) (fun k_ hk_=>hk_.1));have n1_:=Aside0.mk (Kd.X_reok rfl hy0 (fun k_ e_=>HO_317004.out.1 k_ e_));have n2_:=Aside0.mk (blk_kept (bk BK304) hkp (fun hs_=>(fun e_=>(Kd.X_ne HO_317004.out BK304.out (by decide)) e_) hs_));have n3_:=Aside0.mk (blk_kept (bk BK316) hkp (fun hs_=>(fun e_=>(Kd.X_ne HO_317004.out BK316.out (by decide)) e_) hs_));have n4_:=Aside0.mk (hb);clear HO_305004;clear HO_317004;clear BK304;clear BK316;clear HB;have HO_305004:=n0_;have HO_317004:=n1_;have BK304:=n2_;have BK316:=n3_;have HB:=n4_;clear n0_ n1_ n2_ n3_ n4_;(try clear hb);(try clear hkp);(try clear hy0);have hcz62_0:w61.cell? ⟨gb316,0,none⟩=some (.int .i64 t308):=(blk_cell BK316.out 0).trans rfl;have hcz62_1:w61.cell? ⟨gb316,1,none⟩=some (.int .i64 t309):=(blk_cell BK316.out 1).trans rfl;have hcz62_2:w61.cell? ⟨gb316,2,none⟩=some (.int .i64 t310):=(blk_cell BK316.out 2).trans rfl;have hcz62_3:w61.cell? ⟨gb316,3,none⟩=some (.bool t311):=(blk_cell BK316.out 3).trans rfl;have hcz62_4:w61.cell? ⟨gb316,4,none⟩=some (.slice Ao20 t312.length co20):=(blk_cell BK316.out 4).trans rfl;have hfz62_0:=blk_frozen BK316.out 0;have hfz62_1:=blk_frozen BK316.out 1;have hfz62_2:=blk_frozen BK316.out 2;have hfz62_3:=blk_frozen BK316.out 3;have hfz62_4:=blk_frozen BK316.out 4)|((with_reducible refine gate_callee (f:=56) rfl ?_);refine goesL_ (some 64) rfl rfl Try.func56 (by kernel_rfl) rfl #[.agg #[.int .i64 t308,.int .i64 t309,.int .i64 t310,.bool t311,.slice Ao20 t326.length co20],.int .i64 1] rfl (by (try simp only [List.map_toArray,List.map_cons,List.map_nil]);first|done|(rw [show t326.length=t312.length from (Kd.X_reads' HO_317004.out).1.symm] <;> rfl)|rfl|(simp only [List.length_drop,List.length_take];rfl)) ?_;(with_reducible refine (laws_heldFile.calls kj35 t308 t309 t310 t311 _ _ t326 1 t327 _ ?side1 ?side2 A53.out).mono ?_);(case side1=>repeat (first|exact (Kd.X_reads' HO_317004.out).2.2|(with_reducible refine Kd.C_alloc ?_ _)|(with_reducible refine Kd.C_drewN ?_ _)|(with_reducible refine Kd.C_drew ?_)));(case side2=>rw [show t326.length=t312.length from (Kd.X_reads' HO_317004.out).1.symm];exact (Kd.X_reads' HO_317004.out).2.1);rintro e w63 ⟨rfl,hb⟩;refine ⟨_,rfl,?_⟩;have n0_:=Aside0.mk (Kd.R_below ((rR HO_305004)) hb);have n1_:=Aside0.mk (Kd.X_below ((by (with_reducible repeat (first|apply Kd.X_alloc|apply Kd.X_drewN|apply Kd.X_drew));exact HO_317004.out)) hb);have n2_:=Aside0.mk (blk_below (g:=gb304) (o:=.cells #[.int .i64 t296,.int .i64 t297,.int .i64 t298,.bool t299,.slice Ao13 t300.length co13] 61 (0,0)) (bk BK304) hb);have n3_:=Aside0.mk (blk_below (g:=gb316) (o:=.cells #[.int .i64 t308,.int .i64 t309,.int .i64 t310,.bool t311,.slice Ao20 t312.length co20] 61 (0,0)) (bk BK316) hb);have n4_:=bs hb;clear HO_305004;clear HO_317004;clear BK304;clear BK316;clear HB;have HO_305004:=n0_;have HO_317004:=n1_;have BK304:=n2_;have BK316:=n3_;have HB:=n4_;clear n0_ n1_ n2_ n3_ n4_;(try clear hb);(try clear hb2);(try clear hk);(try clear hi))|((with_reducible refine gate_callee (f:=54) rfl ?_);refine goesL_ (some 72) rfl rfl Try.func54 (by kernel_rfl) rfl #[.slice A0 l0.length c0] rfl (by (try simp only [List.map_toArray,List.map_cons,List.map_nil]);first|done|rfl|(simp only [List.length_drop,List.length_take];rfl)) ?_;(with_reducible refine (laws_toByteS.calls kj35 _ _ l0 t328 _ ?side1 ?side2 A56.out).mono ?_);(case side1=>exact rC HR0);(case side2=>exact HC0.out);rintro e w64 ⟨v329,rfl,ho0,hb⟩;refine ⟨_,rfl,?_⟩;have n0_:=Aside0.mk (Kd.R_elder' (rR HO_305004) (Kd.R_base ho0) hb);have n1_:=Aside0.mk (Kd.X_elder' (by (with_reducible repeat (first|apply Kd.X_alloc|apply Kd.X_drewN|apply Kd.X_drew));exact HO_317004.out) (Kd.R_base ho0) hb);have n2_:=Aside0.mk (Kd.R_lower (Kd.R_new' (Kd.R_new' ho0 (Kd.R_lt (rR HO_305004))) (Kd.X_lt (by (with_reducible repeat (first|apply Kd.X_alloc|apply Kd.X_drewN|apply Kd.X_drew));exact HO_317004.out))) (below_size be));have n3_:=Aside0.mk (blk_below (g:=gb304) (o:=.cells #[.int .i64 t296,.int .i64 t297,.int .i64 t298,.bool t299,.slice Ao13 t300.length co13] 61 (0,0)) (bk BK304) hb);have n4_:=Aside0.mk (blk_below (g:=gb316) (o:=.cells #[.int .i64 t308,.int .i64 t309,.int .i64 t310,.bool t311,.slice Ao20 t312.length co20] 61 (0,0)) (bk BK316) hb);have n5_:=bs hb;clear HO_305004;clear HO_317004;clear BK304;clear BK316;clear HB;have HO_305004:=n0_;have HO_317004:=n1_;have HO330:=n2_;have BK304:=n3_;have BK316:=n4_;have HB:=n5_;clear n0_ n1_ n2_ n3_ n4_ n5_;(try clear hb);(try clear hb2);(try clear hk);(try clear hi);(try clear ho0);obtain ⟨Ao65,co65,eo65⟩:=Kd.R_slice HO330.out;subst eo65)|((with_reducible refine gate_callee (f:=55) rfl ?_);refine goesL_ (some 73) rfl rfl Try.func55 (by kernel_rfl) rfl #[.slice Ao65 t328.length co65] rfl (by (try simp only [List.map_toArray,List.map_cons,List.map_nil]);first|done|rfl|(simp only [List.length_drop,List.length_take];rfl)) ?_;(with_reducible refine (impl_GetFile.callsX kj35 _ _ t328 t331 t332 t333 t334 t335 t338 _ ?side1 ?side2 A57.out).mono ?_);(case side1=>exact sR HO330);(case side2=>exact (Kd.R_reads' HO330.out).2.1);rintro e w66 ⟨v336,rfl,ho0,hb⟩;refine ⟨_,rfl,?_⟩;have n0_:=Aside0.mk (Kd.R_elder' (rR HO_305004) (Kd.X_base ho0) hb);have n1_:=Aside0.mk (Kd.X_elder' (by (with_reducible repeat (first|apply Kd.X_alloc|apply Kd.X_drewN|apply Kd.X_drew));exact HO_317004.out) (Kd.X_base ho0) hb);have n2_:=Aside0.mk (Kd.R_elder' (rR HO330) (Kd.X_base ho0) hb);have n3_:=Aside0.mk (Kd.X_lower (Kd.X_new' (Kd.X_new' (Kd.X_new' ho0 (Kd.R_lt (rR HO_305004))) (Kd.X_lt (by (with_reducible repeat (first|apply Kd.X_alloc|apply Kd.X_drewN|apply Kd.X_drew));exact HO_317004.out))) (Kd.R_lt (rR HO330))) (below_size be));have n4_:=Aside0.mk (blk_below (g:=gb304) (o:=.cells #[.int .i64 t296,.int .i64 t297,.int .i64 t298,.bool t299,.slice Ao13 t300.length co13] 61 (0,0)) (bk BK304) hb);have n5_:=Aside0.mk (blk_below (g:=gb316) (o:=.cells #[.int .i64 t308,.int .i64 t309,.int .i64 t310,.bool t311,.slice Ao20 t312.length co20] 61 (0,0)) (bk BK316) hb);have n6_:=bs hb;clear HO_305004;clear HO_317004;clear HO330;clear BK304;clear BK316;clear HB;have HO_305004:=n0_;have HO_317004:=n1_;have HO330:=n2_;have HO337:=n3_;have BK304:=n4_;have BK316:=n5_;have HB:=n6_;clear n0_ n1_ n2_ n3_ n4_ n5_ n6_;(try clear hb);(try clear hb2);(try clear hk);(try clear hi);(try clear ho0))|((with_reducible refine gate_dst (N:=11) rfl ?_);refine box_event ?hg (N:=11) ?hd (cs:=#[.int .i64 0,.int .i64 0,.int .i64 0,.bool false,.slice none 0 0]) (t:=61) ?hr ?_;(case hd=>rfl);(case hg=>rfl);(case hr=>first|(go_simp;done)|(go_simp;rfl));intro gb339 hg w67 hbox hb;have n0_:=Aside0.mk (Kd.R_below (rR HO_305004) hb);have n1_:=Aside0.mk (Kd.X_below (by (with_reducible repeat (first|apply Kd.X_alloc|apply Kd.X_drewN|apply Kd.X_drew));exact HO_317004.out) hb);have n2_:=Aside0.mk (Kd.R_below (rR HO330) hb);have n3_:=Aside0.mk (Kd.X_below (by (with_reducible repeat (first|apply Kd.X_alloc|apply Kd.X_drewN|apply Kd.X_drew));exact HO337.out) hb);have n4_:=Aside0.mk (blk_below (g:=gb304) (o:=.cells #[.int .i64 t296,.int .i64 t297,.int .i64 t298,.bool t299,.slice Ao13 t300.length co13] 61 (0,0)) (bk BK304) hb);have n5_:=Aside0.mk (blk_below (g:=gb316) (o:=.cells #[.int .i64 t308,.int .i64 t309,.int .i64 t310,.bool t311,.slice Ao20 t312.length co20] 61 (0,0)) (bk BK316) hb);have n6_:=bs hb;have n7_:=Aside0.mk (hbox);have n8_:=Aside0.mk ((by rw [hg];exact (below_size be):w.heap.size≤gb339));have n9_:=Aside0.mk ((by rw [hg];exact (below_size be):w.heap.size≤gb339));have n10_:=Aside0.mk ((by rw [hg];exact Nat.ne_of_lt (blk_lt (g:=gb304) (o:=.cells #[.int .i64 t296,.int .i64 t297,.int .i64 t298,.bool t299,.slice Ao13 t300.length co13] 61 (0,0)) (bk BK304)):gb304 ≠ gb339));have n11_:=Aside0.mk ((by rw [hg];exact Nat.ne_of_gt (blk_lt (g:=gb304) (o:=.cells #[.int .i64 t296,.int .i64 t297,.int .i64 t298,.bool t299,.slice Ao13 t300.length co13] 61 (0,0)) (bk BK304)):gb339 ≠ gb304));have n12_:=Aside0.mk ((by rw [hg];exact Nat.ne_of_lt (blk_lt (g:=gb316) (o:=.cells #[.int .i64 t308,.int .i64 t309,.int .i64 t310,.bool t311,.slice Ao20 t312.length co20] 61 (0,0)) (bk BK316)):gb316 ≠ gb339));have n13_:=Aside0.mk ((by rw [hg];exact Nat.ne_of_gt (blk_lt (g:=gb316) (o:=.cells #[.int .i64 t308,.int .i64 t309,.int .i64 t310,.bool t311,.slice Ao20 t312.length co20] 61 (0,0)) (bk BK316)):gb339 ≠ gb316));clear HO_305004;clear HO_317004;clear HO330;clear HO337;clear BK304;clear BK316;clear HB;have HO_305004:=n0_;have HO_317004:=n1_;have HO330:=n2_;have HO337:=n3_;have BK304:=n4_;have BK316:=n5_;have HB:=n6_;have BK339:=n7_;have GW339:=n8_;have GE339:=n9_;have NB304_339:=n10_;have NB339_304:=n11_;have NB316_339:=n12_;have NB339_316:=n13_;clear n0_ n1_ n2_ n3_ n4_ n5_ n6_ n7_ n8_ n9_ n10_ n11_ n12_ n13_;clear hb hbox hg;have hnb68:=NB339_304.out;have hnc68:=NB304_339.out;have hnb69:=NB339_316.out;have hnc69:=NB316_339.out;have hcz70_0:w67.cell? ⟨gb339,0,none⟩=some (.int .i64 0):=(blk_cell BK339.out 0).trans rfl;have hcz70_1:w67.cell? ⟨gb339,1,none⟩=some (.int .i64 0):=(blk_cell BK339.out 1).trans rfl;have hcz70_2:w67.cell? ⟨gb339,2,none⟩=some (.int .i64 0):=(blk_cell BK339.out 2).trans rfl;have hcz70_3:w67.cell? ⟨gb339,3,none⟩=some (.bool false):=(blk_cell BK339.out 3).trans rfl;have hcz70_4:w67.cell? ⟨gb339,4,none⟩=some (.slice none 0 0):=(blk_cell BK339.out 4).trans rfl;have hfz70_0:=blk_frozen BK339.out 0;have hfz70_1:=blk_frozen BK339.out 1;have hfz70_2:=blk_frozen BK339.out 2;have hfz70_3:=blk_frozen BK339.out 3;have hfz70_4:=blk_frozen BK339.out 4;obtain ⟨Ao71,co71,eo71⟩:=Kd.X_slice HO337.out;subst eo71))
           (try simp only [Act.put,List.setIfInBounds_toArray,List.set_cons_zero,List.set_cons_succ])
           go_cut [84] (fun v84 wc=>∃ (kq:Nat) (x84_57:Bool),v84 = .bool x84_57∧Aside0 (laws_FnExactGetFile.j2 kq t325 x84_57 t308 t309 t310 t311 t326=some r)∧Aside0 (kq≤kj35)∧Aside0 (Kd.R (Kd.int .u8) 5 wc w.heap.size (fun k_=>some k_ ≠ ((.slice Ao20 t312.length co20):Value).ownBlock∧some k_ ≠ ((.slice Ao71 t335.length co71):Value).ownBlock) (.slice Ao13 t300.length co13) t300)∧Aside0 (Kd.X (Kd.int .u8) 5 wc w.heap.size (fun k_=>some k_ ≠ ((.slice Ao13 t300.length co13):Value).ownBlock∧some k_ ≠ ((.slice Ao71 t335.length co71):Value).ownBlock) (.slice Ao20 t312.length co20) t326)∧Aside0 (Kd.X (Kd.int .u8) 5 wc w.heap.size (fun k_=>some k_ ≠ ((.slice Ao13 t300.length co13):Value).ownBlock∧some k_ ≠ ((.slice Ao20 t312.length co20):Value).ownBlock) (.slice Ao71 t335.length co71) t335)∧Aside0 (wc.heap[gb304]?=some (.cells #[.int .i64 t296,.int .i64 t297,.int .i64 t298,.bool t299,(.slice Ao13 t300.length co13)] 61 (0,0)))∧Aside0 (wc.heap[gb316]?=some (.cells #[.int .i64 t308,.int .i64 t309,.int .i64 t310,.bool t311,(.slice Ao20 t312.length co20)] 61 (0,0)))∧Aside0 (wc.heap[gb339]?=some (.cells #[.int .i64 t331,.int .i64 t332,.int .i64 t333,.bool t334,(.slice Ao71 t335.length co71)] 61 (0,0)))∧Aside0 (Below w.heap.size w wc))
           case first=>
            have H:=HC58.out
            clear HC58
            replace H:=Option.bind_eq_some_iff.mp H
            obtain ⟨t340,A720,H⟩:=H
            try dsimp only at H
            have A72:=Aside0.mk A720
            clear A720
            by_cases c73:t340=true
            ·subst c73
             rw [if_pos rfl] at H
             have H':=Aside0.mk H
             clear H
             have hnb74:=NB339_304.out
             have hnc74:=NB304_339.out
             have hnb75:=NB339_316.out
             have hnc75:=NB316_339.out
             have hcz76_0:w67.cell? ⟨gb339,0,none⟩=some (.int .i64 0):=(blk_cell BK339.out 0).trans rfl
             have hcz76_1:w67.cell? ⟨gb339,1,none⟩=some (.int .i64 0):=(blk_cell BK339.out 1).trans rfl
             have hcz76_2:w67.cell? ⟨gb339,2,none⟩=some (.int .i64 0):=(blk_cell BK339.out 2).trans rfl
             have hcz76_3:w67.cell? ⟨gb339,3,none⟩=some (.bool false):=(blk_cell BK339.out 3).trans rfl
             have hcz76_4:w67.cell? ⟨gb339,4,none⟩=some (.slice none 0 0):=(blk_cell BK339.out 4).trans rfl
             have hfz76_0:=blk_frozen BK339.out 0
             have hfz76_1:=blk_frozen BK339.out 1
             have hfz76_2:=blk_frozen BK339.out 2
             have hfz76_3:=blk_frozen BK339.out 3
             have hfz76_4:=blk_frozen BK339.out 4
             have hnb77:=NB304_316.out
             have hnc77:=NB316_304.out
             have hcz78_0:w67.cell? ⟨gb304,0,none⟩=some (.int .i64 t296):=(blk_cell BK304.out 0).trans rfl
             have hcz78_1:w67.cell? ⟨gb304,1,none⟩=some (.int .i64 t297):=(blk_cell BK304.out 1).trans rfl
             have hcz78_2:w67.cell? ⟨gb304,2,none⟩=some (.int .i64 t298):=(blk_cell BK304.out 2).trans rfl
             have hcz78_3:w67.cell? ⟨gb304,3,none⟩=some (.bool t299):=(blk_cell BK304.out 3).trans rfl
             have hcz78_4:w67.cell? ⟨gb304,4,none⟩=some (.slice Ao13 t300.length co13):=(blk_cell BK304.out 4).trans rfl
             have hfz78_0:=blk_frozen BK304.out 0
             have hfz78_1:=blk_frozen BK304.out 1
             have hfz78_2:=blk_frozen BK304.out 2
             have hfz78_3:=blk_frozen BK304.out 3
             have hfz78_4:=blk_frozen BK304.out 4
             go_wp2_with (first|((with_reducible refine gate_callee (f:=39) rfl ?_);refine goesL_ (some 78) rfl rfl Try.func39 (by kernel_rfl) rfl #[.agg #[.int .i64 t331,.int .i64 t332,.int .i64 t333,.bool t334,.slice Ao71 t335.length co71],.agg #[.int .i64 t296,.int .i64 t297,.int .i64 t298,.bool t299,.slice Ao13 t300.length co13]] rfl (by (try simp only [List.map_toArray,List.map_cons,List.map_nil]);first|done|rfl|(simp only [List.length_drop,List.length_take];rfl)) ?_;(with_reducible refine (laws_eqFile.calls kj35 t331 t332 t333 t334 _ _ t335 t296 t297 t298 t299 _ _ t300 true _ ?side1 ?side2 ?side3 ?side4 A72.out).mono ?_);(case side1=>refine (Kd.X_reads' (e:=5) (base:=w.heap.size) (ok:=fun k_=>(((True∧some k_ ≠ (.slice Ao13 t300.length co13:Value).ownBlock)∧some k_ ≠ (.slice Ao20 t312.length co20:Value).ownBlock)∧some k_ ≠ (.slice Ao65 t328.length co65:Value).ownBlock)) (n:=t335.length) (c:=co71) ?_).2.2;exact (by (with_reducible repeat (first|apply Kd.X_alloc|apply Kd.X_drewN|apply Kd.X_drew));exact (Kd.X_mono (Kd.X_far (p:=⟨gb339,4,none⟩) (Kd.X_far (p:=⟨gb339,3,none⟩) (Kd.X_far (p:=⟨gb339,2,none⟩) (Kd.X_far (p:=⟨gb339,1,none⟩) (Kd.X_far (p:=⟨gb339,0,none⟩) (Kd.X_types HO337.out BK339.out (by decide)) (fun _ hk=>hk.2) (.int .i64 t331)) (fun _ hk=>hk.2) (.int .i64 t332)) (fun _ hk=>hk.2) (.int .i64 t333)) (fun _ hk=>hk.2) (.bool t334)) (fun _ hk=>hk.2) (.slice Ao71 t335.length co71)) (fun _ h_=>h_.1))));(case side2=>exact (Kd.X_reads' HO337.out).2.1);(case side3=>refine (Kd.R_reads' (e:=5) (base:=w.heap.size) (ok:=fun k_=>((some k_ ≠ (.slice Ao20 t312.length co20:Value).ownBlock∧some k_ ≠ (.slice Ao65 t328.length co65:Value).ownBlock)∧some k_ ≠ (.slice Ao71 t335.length co71:Value).ownBlock)) (n:=t300.length) (c:=co13) ?_).2.2;exact (by (with_reducible repeat (first|apply Kd.R_alloc|apply Kd.R_drewN|apply Kd.R_drew));exact (Kd.R_mono (Kd.R_far (p:=⟨gb339,4,none⟩) (Kd.R_far (p:=⟨gb339,3,none⟩) (Kd.R_far (p:=⟨gb339,2,none⟩) (Kd.R_far (p:=⟨gb339,1,none⟩) (Kd.R_far (p:=⟨gb339,0,none⟩) (Kd.R_types HO_305004.out BK339.out (by decide)) (fun _ hk=>hk.2) (.int .i64 t331)) (fun _ hk=>hk.2) (.int .i64 t332)) (fun _ hk=>hk.2) (.int .i64 t333)) (fun _ hk=>hk.2) (.bool t334)) (fun _ hk=>hk.2) (.slice Ao71 t335.length co71)) (fun _ h_=>h_.1))));(case side4=>exact (Kd.R_reads' HO_305004.out).2.1);rintro e w79 ⟨rfl,hb⟩;refine ⟨_,rfl,?_⟩;have n0_:=Aside0.mk (Kd.R_below ((by (with_reducible repeat (first|apply Kd.R_alloc|apply Kd.R_drewN|apply Kd.R_drew));exact (Kd.R_mono (Kd.R_far (p:=⟨gb339,4,none⟩) (Kd.R_far (p:=⟨gb339,3,none⟩) (Kd.R_far (p:=⟨gb339,2,none⟩) (Kd.R_far (p:=⟨gb339,1,none⟩) (Kd.R_far (p:=⟨gb339,0,none⟩) (Kd.R_types HO_305004.out BK339.out (by decide)) (fun _ hk=>hk.2) (.int .i64 t331)) (fun _ hk=>hk.2) (.int .i64 t332)) (fun _ hk=>hk.2) (.int .i64 t333)) (fun _ hk=>hk.2) (.bool t334)) (fun _ hk=>hk.2) (.slice Ao71 t335.length co71)) (fun _ h_=>h_.1)))) hb);have n1_:=Aside0.mk (Kd.X_below ((by (with_reducible repeat (first|apply Kd.X_alloc|apply Kd.X_drewN|apply Kd.X_drew));exact (Kd.X_mono (Kd.X_far (p:=⟨gb339,4,none⟩) (Kd.X_far (p:=⟨gb339,3,none⟩) (Kd.X_far (p:=⟨gb339,2,none⟩) (Kd.X_far (p:=⟨gb339,1,none⟩) (Kd.X_far (p:=⟨gb339,0,none⟩) (Kd.X_types HO_317004.out BK339.out (by decide)) (fun _ hk=>hk.2) (.int .i64 t331)) (fun _ hk=>hk.2) (.int .i64 t332)) (fun _ hk=>hk.2) (.int .i64 t333)) (fun _ hk=>hk.2) (.bool t334)) (fun _ hk=>hk.2) (.slice Ao71 t335.length co71)) (fun _ h_=>h_.1)))) hb);have n2_:=Aside0.mk (Kd.R_below ((by (with_reducible repeat (first|apply Kd.R_alloc|apply Kd.R_drewN|apply Kd.R_drew));exact (Kd.R_mono (Kd.R_far (p:=⟨gb339,4,none⟩) (Kd.R_far (p:=⟨gb339,3,none⟩) (Kd.R_far (p:=⟨gb339,2,none⟩) (Kd.R_far (p:=⟨gb339,1,none⟩) (Kd.R_far (p:=⟨gb339,0,none⟩) (Kd.R_types HO330.out BK339.out (by decide)) (fun _ hk=>hk.2) (.int .i64 t331)) (fun _ hk=>hk.2) (.int .i64 t332)) (fun _ hk=>hk.2) (.int .i64 t333)) (fun _ hk=>hk.2) (.bool t334)) (fun _ hk=>hk.2) (.slice Ao71 t335.length co71)) (fun _ h_=>h_.1)))) hb);have n3_:=Aside0.mk (Kd.X_below ((by (with_reducible repeat (first|apply Kd.X_alloc|apply Kd.X_drewN|apply Kd.X_drew));exact (Kd.X_mono (Kd.X_far (p:=⟨gb339,4,none⟩) (Kd.X_far (p:=⟨gb339,3,none⟩) (Kd.X_far (p:=⟨gb339,2,none⟩) (Kd.X_far (p:=⟨gb339,1,none⟩) (Kd.X_far (p:=⟨gb339,0,none⟩) (Kd.X_types HO337.out BK339.out (by decide)) (fun _ hk=>hk.2) (.int .i64 t331)) (fun _ hk=>hk.2) (.int .i64 t332)) (fun _ hk=>hk.2) (.int .i64 t333)) (fun _ hk=>hk.2) (.bool t334)) (fun _ hk=>hk.2) (.slice Ao71 t335.length co71)) (fun _ h_=>h_.1)))) hb);have n4_:=Aside0.mk (blk_below (g:=gb304) (o:=.cells #[.int .i64 t296,.int .i64 t297,.int .i64 t298,.bool t299,.slice Ao13 t300.length co13] 61 (0,0)) (by (with_reducible repeat (first|refine blk_drewN ?_ _|refine blk_drew ?_|refine blk_alloc ?_ _));refine blk_far ?_ NB304_339.out _;(with_reducible repeat (first|refine blk_drewN ?_ _|refine blk_drew ?_|refine blk_alloc ?_ _));refine blk_far ?_ NB304_339.out _;(with_reducible repeat (first|refine blk_drewN ?_ _|refine blk_drew ?_|refine blk_alloc ?_ _));refine blk_far ?_ NB304_339.out _;(with_reducible repeat (first|refine blk_drewN ?_ _|refine blk_drew ?_|refine blk_alloc ?_ _));refine blk_far ?_ NB304_339.out _;(with_reducible repeat (first|refine blk_drewN ?_ _|refine blk_drew ?_|refine blk_alloc ?_ _));refine blk_far ?_ NB304_339.out _;(with_reducible repeat (first|refine blk_drewN ?_ _|refine blk_drew ?_|refine blk_alloc ?_ _));exact BK304.out) hb);have n5_:=Aside0.mk (blk_below (g:=gb316) (o:=.cells #[.int .i64 t308,.int .i64 t309,.int .i64 t310,.bool t311,.slice Ao20 t312.length co20] 61 (0,0)) (by (with_reducible repeat (first|refine blk_drewN ?_ _|refine blk_drew ?_|refine blk_alloc ?_ _));refine blk_far ?_ NB316_339.out _;(with_reducible repeat (first|refine blk_drewN ?_ _|refine blk_drew ?_|refine blk_alloc ?_ _));refine blk_far ?_ NB316_339.out _;(with_reducible repeat (first|refine blk_drewN ?_ _|refine blk_drew ?_|refine blk_alloc ?_ _));refine blk_far ?_ NB316_339.out _;(with_reducible repeat (first|refine blk_drewN ?_ _|refine blk_drew ?_|refine blk_alloc ?_ _));refine blk_far ?_ NB316_339.out _;(with_reducible repeat (first|refine blk_drewN ?_ _|refine blk_drew ?_|refine blk_alloc ?_ _));refine blk_far ?_ NB316_339.out _;(with_reducible repeat (first|refine blk_drewN ?_ _|refine blk_drew ?_|refine blk_alloc ?_ _));exact BK316.out) hb);have n6_:=Aside0.mk (blk_below (g:=gb339) (o:=.cells #[.int .i64 t331,.int .i64 t332,.int .i64 t333,.bool t334,.slice Ao71 t335.length co71] 61 (0,0)) (by (with_reducible repeat (first|refine blk_drewN ?_ _|refine blk_drew ?_|refine blk_alloc ?_ _));refine blk_put (cs:=#[.int .i64 t331,.int .i64 t332,.int .i64 t333,.bool t334,.slice none 0 0]) ?_ 4 _ rfl;(with_reducible repeat (first|refine blk_drewN ?_ _|refine blk_drew ?_|refine blk_alloc ?_ _));refine blk_put (cs:=#[.int .i64 t331,.int .i64 t332,.int .i64 t333,.bool false,.slice none 0 0]) ?_ 3 _ rfl;(with_reducible repeat (first|refine blk_drewN ?_ _|refine blk_drew ?_|refine blk_alloc ?_ _));refine blk_put (cs:=#[.int .i64 t331,.int .i64 t332,.int .i64 0,.bool false,.slice none 0 0]) ?_ 2 _ rfl;(with_reducible repeat (first|refine blk_drewN ?_ _|refine blk_drew ?_|refine blk_alloc ?_ _));refine blk_put (cs:=#[.int .i64 t331,.int .i64 0,.int .i64 0,.bool false,.slice none 0 0]) ?_ 1 _ rfl;(with_reducible repeat (first|refine blk_drewN ?_ _|refine blk_drew ?_|refine blk_alloc ?_ _));refine blk_put (cs:=#[.int .i64 0,.int .i64 0,.int .i64 0,.bool false,.slice none 0 0]) ?_ 0 _ rfl;(with_reducible repeat (first|refine blk_drewN ?_ _|refine blk_drew ?_|refine blk_alloc ?_ _));exact BK339.out) hb);have n7_:=bs hb;clear HO_305004;clear HO_317004;clear HO330;clear HO337;clear BK304;clear BK316;clear BK339;clear HB;have HO_305004:=n0_;have HO_317004:=n1_;have HO330:=n2_;have HO337:=n3_;have BK304:=n4_;have BK316:=n5_;have BK339:=n6_;have HB:=n7_;clear n0_ n1_ n2_ n3_ n4_ n5_ n6_ n7_;(try clear hb);(try clear hb2);(try clear hk);(try clear hi)))
             go_meet
             case rel=>exact ⟨_,((t338 != t303)),rd_,H',⟨by have:=HJ6.out;have:=HJ35.out;first|omega|exact Nat.le_refl _⟩,⟨by (with_reducible repeat (first|apply Kd.R_alloc|apply Kd.R_drewN|apply Kd.R_drew));exact Kd.R_mono HO_305004.out (fun _ hk=>⟨hk.1.1,hk.2⟩)⟩,⟨by (with_reducible repeat (first|apply Kd.X_alloc|apply Kd.X_drewN|apply Kd.X_drew));exact Kd.X_mono HO_317004.out (fun _ hk=>⟨hk.1.1,hk.2⟩)⟩,⟨by (with_reducible repeat (first|apply Kd.X_alloc|apply Kd.X_drewN|apply Kd.X_drew));exact Kd.X_mono HO337.out (fun _ hk=>⟨hk.1.1.2,hk.1.2⟩)⟩,⟨bk BK304⟩,⟨bk BK316⟩,⟨bk BK339⟩,⟨be⟩⟩
            ·replace c73:=Bool.eq_false_iff.mpr c73
             subst c73
             replace H:=(if_neg (show ¬ (false=true) by decide)).symm.trans H
             have H':=Aside0.mk H
             clear H
             have hnb80:=NB339_304.out
             have hnc80:=NB304_339.out
             have hnb81:=NB339_316.out
             have hnc81:=NB316_339.out
             have hcz82_0:w67.cell? ⟨gb339,0,none⟩=some (.int .i64 0):=(blk_cell BK339.out 0).trans rfl
             have hcz82_1:w67.cell? ⟨gb339,1,none⟩=some (.int .i64 0):=(blk_cell BK339.out 1).trans rfl
             have hcz82_2:w67.cell? ⟨gb339,2,none⟩=some (.int .i64 0):=(blk_cell BK339.out 2).trans rfl
             have hcz82_3:w67.cell? ⟨gb339,3,none⟩=some (.bool false):=(blk_cell BK339.out 3).trans rfl
             have hcz82_4:w67.cell? ⟨gb339,4,none⟩=some (.slice none 0 0):=(blk_cell BK339.out 4).trans rfl
             have hfz82_0:=blk_frozen BK339.out 0
             have hfz82_1:=blk_frozen BK339.out 1
             have hfz82_2:=blk_frozen BK339.out 2
             have hfz82_3:=blk_frozen BK339.out 3
             have hfz82_4:=blk_frozen BK339.out 4
             have hnb83:=NB304_316.out
             have hnc83:=NB316_304.out
             have hcz84_0:w67.cell? ⟨gb304,0,none⟩=some (.int .i64 t296):=(blk_cell BK304.out 0).trans rfl
             have hcz84_1:w67.cell? ⟨gb304,1,none⟩=some (.int .i64 t297):=(blk_cell BK304.out 1).trans rfl
             have hcz84_2:w67.cell? ⟨gb304,2,none⟩=some (.int .i64 t298):=(blk_cell BK304.out 2).trans rfl
             have hcz84_3:w67.cell? ⟨gb304,3,none⟩=some (.bool t299):=(blk_cell BK304.out 3).trans rfl
             have hcz84_4:w67.cell? ⟨gb304,4,none⟩=some (.slice Ao13 t300.length co13):=(blk_cell BK304.out 4).trans rfl
             have hfz84_0:=blk_frozen BK304.out 0
             have hfz84_1:=blk_frozen BK304.out 1
             have hfz84_2:=blk_frozen BK304.out 2
             have hfz84_3:=blk_frozen BK304.out 3
             have hfz84_4:=blk_frozen BK304.out 4
             go_wp2_with (first|((with_reducible refine gate_callee (f:=39) rfl ?_);refine goesL_ (some 78) rfl rfl Try.func39 (by kernel_rfl) rfl #[.agg #[.int .i64 t331,.int .i64 t332,.int .i64 t333,.bool t334,.slice Ao71 t335.length co71],.agg #[.int .i64 t296,.int .i64 t297,.int .i64 t298,.bool t299,.slice Ao13 t300.length co13]] rfl (by (try simp only [List.map_toArray,List.map_cons,List.map_nil]);first|done|rfl|(simp only [List.length_drop,List.length_take];rfl)) ?_;(with_reducible refine (laws_eqFile.calls kj35 t331 t332 t333 t334 _ _ t335 t296 t297 t298 t299 _ _ t300 false _ ?side1 ?side2 ?side3 ?side4 A72.out).mono ?_);(case side1=>refine (Kd.X_reads' (e:=5) (base:=w.heap.size) (ok:=fun k_=>(((True∧some k_ ≠ (.slice Ao13 t300.length co13:Value).ownBlock)∧some k_ ≠ (.slice Ao20 t312.length co20:Value).ownBlock)∧some k_ ≠ (.slice Ao65 t328.length co65:Value).ownBlock)) (n:=t335.length) (c:=co71) ?_).2.2;exact (by (with_reducible repeat (first|apply Kd.X_alloc|apply Kd.X_drewN|apply Kd.X_drew));exact (Kd.X_mono (Kd.X_far (p:=⟨gb339,4,none⟩) (Kd.X_far (p:=⟨gb339,3,none⟩) (Kd.X_far (p:=⟨gb339,2,none⟩) (Kd.X_far (p:=⟨gb339,1,none⟩) (Kd.X_far (p:=⟨gb339,0,none⟩) (Kd.X_types HO337.out BK339.out (by decide)) (fun _ hk=>hk.2) (.int .i64 t331)) (fun _ hk=>hk.2) (.int .i64 t332)) (fun _ hk=>hk.2) (.int .i64 t333)) (fun _ hk=>hk.2) (.bool t334)) (fun _ hk=>hk.2) (.slice Ao71 t335.length co71)) (fun _ h_=>h_.1))));(case side2=>exact (Kd.X_reads' HO337.out).2.1);(case side3=>refine (Kd.R_reads' (e:=5) (base:=w.heap.size) (ok:=fun k_=>((some k_ ≠ (.slice Ao20 t312.length co20:Value).ownBlock∧some k_ ≠ (.slice Ao65 t328.length co65:Value).ownBlock)∧some k_ ≠ (.slice Ao71 t335.length co71:Value).ownBlock)) (n:=t300.length) (c:=co13) ?_).2.2;exact (by (with_reducible repeat (first|apply Kd.R_alloc|apply Kd.R_drewN|apply Kd.R_drew));exact (Kd.R_mono (Kd.R_far (p:=⟨gb339,4,none⟩) (Kd.R_far (p:=⟨gb339,3,none⟩) (Kd.R_far (p:=⟨gb339,2,none⟩) (Kd.R_far (p:=⟨gb339,1,none⟩) (Kd.R_far (p:=⟨gb339,0,none⟩) (Kd.R_types HO_305004.out BK339.out (by decide)) (fun _ hk=>hk.2) (.int .i64 t331)) (fun _ hk=>hk.2) (.int .i64 t332)) (fun _ hk=>hk.2) (.int .i64 t333)) (fun _ hk=>hk.2) (.bool t334)) (fun _ hk=>hk.2) (.slice Ao71 t335.length co71)) (fun _ h_=>h_.1))));(case side4=>exact (Kd.R_reads' HO_305004.out).2.1);rintro e w85 ⟨rfl,hb⟩;refine ⟨_,rfl,?_⟩;have n0_:=Aside0.mk (Kd.R_below ((by (with_reducible repeat (first|apply Kd.R_alloc|apply Kd.R_drewN|apply Kd.R_drew));exact (Kd.R_mono (Kd.R_far (p:=⟨gb339,4,none⟩) (Kd.R_far (p:=⟨gb339,3,none⟩) (Kd.R_far (p:=⟨gb339,2,none⟩) (Kd.R_far (p:=⟨gb339,1,none⟩) (Kd.R_far (p:=⟨gb339,0,none⟩) (Kd.R_types HO_305004.out BK339.out (by decide)) (fun _ hk=>hk.2) (.int .i64 t331)) (fun _ hk=>hk.2) (.int .i64 t332)) (fun _ hk=>hk.2) (.int .i64 t333)) (fun _ hk=>hk.2) (.bool t334)) (fun _ hk=>hk.2) (.slice Ao71 t335.length co71)) (fun _ h_=>h_.1)))) hb);have n1_:=Aside0.mk (Kd.X_below ((by (with_reducible repeat (first|apply Kd.X_alloc|apply Kd.X_drewN|apply Kd.X_drew));exact (Kd.X_mono (Kd.X_far (p:=⟨gb339,4,none⟩) (Kd.X_far (p:=⟨gb339,3,none⟩) (Kd.X_far (p:=⟨gb339,2,none⟩) (Kd.X_far (p:=⟨gb339,1,none⟩) (Kd.X_far (p:=⟨gb339,0,none⟩) (Kd.X_types HO_317004.out BK339.out (by decide)) (fun _ hk=>hk.2) (.int .i64 t331)) (fun _ hk=>hk.2) (.int .i64 t332)) (fun _ hk=>hk.2) (.int .i64 t333)) (fun _ hk=>hk.2) (.bool t334)) (fun _ hk=>hk.2) (.slice Ao71 t335.length co71)) (fun _ h_=>h_.1)))) hb);have n2_:=Aside0.mk (Kd.R_below ((by (with_reducible repeat (first|apply Kd.R_alloc|apply Kd.R_drewN|apply Kd.R_drew));exact (Kd.R_mono (Kd.R_far (p:=⟨gb339,4,none⟩) (Kd.R_far (p:=⟨gb339,3,none⟩) (Kd.R_far (p:=⟨gb339,2,none⟩) (Kd.R_far (p:=⟨gb339,1,none⟩) (Kd.R_far (p:=⟨gb339,0,none⟩) (Kd.R_types HO330.out BK339.out (by decide)) (fun _ hk=>hk.2) (.int .i64 t331)) (fun _ hk=>hk.2) (.int .i64 t332)) (fun _ hk=>hk.2) (.int .i64 t333)) (fun _ hk=>hk.2) (.bool t334)) (fun _ hk=>hk.2) (.slice Ao71 t335.length co71)) (fun _ h_=>h_.1)))) hb);have n3_:=Aside0.mk (Kd.X_below ((by (with_reducible repeat (first|apply Kd.X_alloc|apply Kd.X_drewN|apply Kd.X_drew));exact (Kd.X_mono (Kd.X_far (p:=⟨gb339,4,none⟩) (Kd.X_far (p:=⟨gb339,3,none⟩) (Kd.X_far (p:=⟨gb339,2,none⟩) (Kd.X_far (p:=⟨gb339,1,none⟩) (Kd.X_far (p:=⟨gb339,0,none⟩) (Kd.X_types HO337.out BK339.out (by decide)) (fun _ hk=>hk.2) (.int .i64 t331)) (fun _ hk=>hk.2) (.int .i64 t332)) (fun _ hk=>hk.2) (.int .i64 t333)) (fun _ hk=>hk.2) (.bool t334)) (fun _ hk=>hk.2) (.slice Ao71 t335.length co71)) (fun _ h_=>h_.1)))) hb);have n4_:=Aside0.mk (blk_below (g:=gb304) (o:=.cells #[.int .i64 t296,.int .i64 t297,.int .i64 t298,.bool t299,.slice Ao13 t300.length co13] 61 (0,0)) (by (with_reducible repeat (first|refine blk_drewN ?_ _|refine blk_drew ?_|refine blk_alloc ?_ _));refine blk_far ?_ NB304_339.out _;(with_reducible repeat (first|refine blk_drewN ?_ _|refine blk_drew ?_|refine blk_alloc ?_ _));refine blk_far ?_ NB304_339.out _;(with_reducible repeat (first|refine blk_drewN ?_ _|refine blk_drew ?_|refine blk_alloc ?_ _));refine blk_far ?_ NB304_339.out _;(with_reducible repeat (first|refine blk_drewN ?_ _|refine blk_drew ?_|refine blk_alloc ?_ _));refine blk_far ?_ NB304_339.out _;(with_reducible repeat (first|refine blk_drewN ?_ _|refine blk_drew ?_|refine blk_alloc ?_ _));refine blk_far ?_ NB304_339.out _;(with_reducible repeat (first|refine blk_drewN ?_ _|refine blk_drew ?_|refine blk_alloc ?_ _));exact BK304.out) hb);have n5_:=Aside0.mk (blk_below (g:=gb316) (o:=.cells #[.int .i64 t308,.int .i64 t309,.int .i64 t310,.bool t311,.slice Ao20 t312.length co20] 61 (0,0)) (by (with_reducible repeat (first|refine blk_drewN ?_ _|refine blk_drew ?_|refine blk_alloc ?_ _));refine blk_far ?_ NB316_339.out _;(with_reducible repeat (first|refine blk_drewN ?_ _|refine blk_drew ?_|refine blk_alloc ?_ _));refine blk_far ?_ NB316_339.out _;(with_reducible repeat (first|refine blk_drewN ?_ _|refine blk_drew ?_|refine blk_alloc ?_ _));refine blk_far ?_ NB316_339.out _;(with_reducible repeat (first|refine blk_drewN ?_ _|refine blk_drew ?_|refine blk_alloc ?_ _));refine blk_far ?_ NB316_339.out _;(with_reducible repeat (first|refine blk_drewN ?_ _|refine blk_drew ?_|refine blk_alloc ?_ _));refine blk_far ?_ NB316_339.out _;(with_reducible repeat (first|refine blk_drewN ?_ _|refine blk_drew ?_|refine blk_alloc ?_ _));exact BK316.out) hb);have n6_:=Aside0.mk (blk_below (g:=gb339) (o:=.cells #[.int .i64 t331,.int .i64 t332,.int .i64 t333,.bool t334,.slice Ao71 t335.length co71] 61 (0,0)) (by (with_reducible repeat (first|refine blk_drewN ?_ _|refine blk_drew ?_|refine blk_alloc ?_ _));refine blk_put (cs:=#[.int .i64 t331,.int .i64 t332,.int .i64 t333,.bool t334,.slice none 0 0]) ?_ 4 _ rfl;(with_reducible repeat (first|refine blk_drewN ?_ _|refine blk_drew ?_|refine blk_alloc ?_ _));refine blk_put (cs:=#[.int .i64 t331,.int .i64 t332,.int .i64 t333,.bool false,.slice none 0 0]) ?_ 3 _ rfl;(with_reducible repeat (first|refine blk_drewN ?_ _|refine blk_drew ?_|refine blk_alloc ?_ _));refine blk_put (cs:=#[.int .i64 t331,.int .i64 t332,.int .i64 0,.bool false,.slice none 0 0]) ?_ 2 _ rfl;(with_reducible repeat (first|refine blk_drewN ?_ _|refine blk_drew ?_|refine blk_alloc ?_ _));refine blk_put (cs:=#[.int .i64 t331,.int .i64 0,.int .i64 0,.bool false,.slice none 0 0]) ?_ 1 _ rfl;(with_reducible repeat (first|refine blk_drewN ?_ _|refine blk_drew ?_|refine blk_alloc ?_ _));refine blk_put (cs:=#[.int .i64 0,.int .i64 0,.int .i64 0,.bool false,.slice none 0 0]) ?_ 0 _ rfl;(with_reducible repeat (first|refine blk_drewN ?_ _|refine blk_drew ?_|refine blk_alloc ?_ _));exact BK339.out) hb);have n7_:=bs hb;clear HO_305004;clear HO_317004;clear HO330;clear HO337;clear BK304;clear BK316;clear BK339;clear HB;have HO_305004:=n0_;have HO_317004:=n1_;have HO330:=n2_;have HO337:=n3_;have BK304:=n4_;have BK316:=n5_;have BK339:=n6_;have HB:=n7_;clear n0_ n1_ n2_ n3_ n4_ n5_ n6_ n7_;(try clear hb);(try clear hb2);(try clear hk);(try clear hi)))
             go_meet
             case rel=>exact ⟨_,(true),rd_,H',⟨by have:=HJ6.out;have:=HJ35.out;first|omega|exact Nat.le_refl _⟩,⟨by (with_reducible repeat (first|apply Kd.R_alloc|apply Kd.R_drewN|apply Kd.R_drew));exact Kd.R_mono HO_305004.out (fun _ hk=>⟨hk.1.1,hk.2⟩)⟩,⟨by (with_reducible repeat (first|apply Kd.X_alloc|apply Kd.X_drewN|apply Kd.X_drew));exact Kd.X_mono HO_317004.out (fun _ hk=>⟨hk.1.1,hk.2⟩)⟩,⟨by (with_reducible repeat (first|apply Kd.X_alloc|apply Kd.X_drewN|apply Kd.X_drew));exact Kd.X_mono HO337.out (fun _ hk=>⟨hk.1.1.2,hk.1.2⟩)⟩,⟨bk BK304⟩,⟨bk BK316⟩,⟨bk BK339⟩,⟨be⟩⟩
           case rest=>
            clear HC58
            try clear c1
            try clear c2
            try clear c2b0
            try clear c2b1
            try clear p2
            try clear c3
            try clear c4
            try clear c5
            try clear c6
            try clear c7
            try clear c8
            try clear c9
            try clear c18
            try clear c22
            try clear c23
            try clear c27
            try clear c31
            try clear c34
            try clear c38
            try clear c39
            try clear c40
            try clear c40b0
            try clear c41
            try clear c42
            try clear c43
            try clear c47
            try clear c51
            try clear c53
            try clear c54
            try clear c54b0
            try clear c55
            try clear c55b0
            try clear c55b1
            try clear c56
            try clear c59
            try clear c68
            try clear c69
            try clear c73
            try clear c74
            try clear c75
            try clear c77
            try clear c80
            try clear c81
            try clear c83
            try clear hcz12_0
            try clear hcz12_1
            try clear hcz12_2
            try clear hcz12_3
            try clear hcz12_4
            try clear hcz19_0
            try clear hcz19_1
            try clear hcz19_2
            try clear hcz19_3
            try clear hcz19_4
            try clear hcz24_0
            try clear hcz24_1
            try clear hcz24_2
            try clear hcz24_3
            try clear hcz24_4
            try clear hcz25_0
            try clear hcz25_1
            try clear hcz25_2
            try clear hcz25_3
            try clear hcz25_4
            try clear hcz28_0
            try clear hcz28_1
            try clear hcz28_2
            try clear hcz28_3
            try clear hcz28_4
            try clear hcz29_0
            try clear hcz29_1
            try clear hcz29_2
            try clear hcz29_3
            try clear hcz29_4
            try clear hcz44_0
            try clear hcz44_1
            try clear hcz44_2
            try clear hcz44_3
            try clear hcz44_4
            try clear hcz45_0
            try clear hcz45_1
            try clear hcz45_2
            try clear hcz45_3
            try clear hcz45_4
            try clear hcz48_0
            try clear hcz48_1
            try clear hcz48_2
            try clear hcz48_3
            try clear hcz48_4
            try clear hcz49_0
            try clear hcz49_1
            try clear hcz49_2
            try clear hcz49_3
            try clear hcz49_4
            try clear hcz60_0
            try clear hcz60_1
            try clear hcz60_2
            try clear hcz60_3
            try clear hcz60_4
            try clear hcz62_0
            try clear hcz62_1
            try clear hcz62_2
            try clear hcz62_3
            try clear hcz62_4
            try clear hcz70_0
            try clear hcz70_1
            try clear hcz70_2
            try clear hcz70_3
            try clear hcz70_4
            try clear hcz76_0
            try clear hcz76_1
            try clear hcz76_2
            try clear hcz76_3
            try clear hcz76_4
            try clear hcz78_0
            try clear hcz78_1
            try clear hcz78_2
            try clear hcz78_3
            try clear hcz78_4
            try clear hcz82_0
            try clear hcz82_1
            try clear hcz82_2
            try clear hcz82_3
            try clear hcz82_4
            try clear hcz84_0
            try clear hcz84_1
            try clear hcz84_2
            try clear hcz84_3
            try clear hcz84_4
            try clear hfz12_0
            try clear hfz12_1
            try clear hfz12_2
            try clear hfz12_3
            try clear hfz12_4
            try clear hfz19_0
            try clear hfz19_1
            try clear hfz19_2
            try clear hfz19_3
            try clear hfz19_4
            try clear hfz24_0
            try clear hfz24_1
            try clear hfz24_2
            try clear hfz24_3
            try clear hfz24_4
            try clear hfz25_0
            try clear hfz25_1
            try clear hfz25_2
            try clear hfz25_3
            try clear hfz25_4
            try clear hfz28_0
            try clear hfz28_1
            try clear hfz28_2
            try clear hfz28_3
            try clear hfz28_4
            try clear hfz29_0
            try clear hfz29_1
            try clear hfz29_2
            try clear hfz29_3
            try clear hfz29_4
            try clear hfz44_0
            try clear hfz44_1
            try clear hfz44_2
            try clear hfz44_3
            try clear hfz44_4
            try clear hfz45_0
            try clear hfz45_1
            try clear hfz45_2
            try clear hfz45_3
            try clear hfz45_4
            try clear hfz48_0
            try clear hfz48_1
            try clear hfz48_2
            try clear hfz48_3
            try clear hfz48_4
            try clear hfz49_0
            try clear hfz49_1
            try clear hfz49_2
            try clear hfz49_3
            try clear hfz49_4
            try clear hfz60_0
            try clear hfz60_1
            try clear hfz60_2
            try clear hfz60_3
            try clear hfz60_4
            try clear hfz62_0
            try clear hfz62_1
            try clear hfz62_2
            try clear hfz62_3
            try clear hfz62_4
            try clear hfz70_0
            try clear hfz70_1
            try clear hfz70_2
            try clear hfz70_3
            try clear hfz70_4
            try clear hfz76_0
            try clear hfz76_1
            try clear hfz76_2
            try clear hfz76_3
            try clear hfz76_4
            try clear hfz78_0
            try clear hfz78_1
            try clear hfz78_2
            try clear hfz78_3
            try clear hfz78_4
            try clear hfz82_0
            try clear hfz82_1
            try clear hfz82_2
            try clear hfz82_3
            try clear hfz82_4
            try clear hfz84_0
            try clear hfz84_1
            try clear hfz84_2
            try clear hfz84_3
            try clear hfz84_4
            try clear p2
            obtain ⟨kq,x84_57,rfl,HA,HJ57,HO_305004,HO_317004,HO_340004,BK304,BK316,BK339,HB⟩:=hcut
            have hl317004_57:=(Kd.X_reads' HO_317004.out).1
            rw [hl317004_57] at HO_317004
            (try simp only [hl317004_57])
            (try simp only [hl317004_57] at BK304)
            (try simp only [hl317004_57] at BK316)
            (try simp only [hl317004_57] at BK339)
            (try simp only [hl317004_57] at HO_305004)
            (try simp only [hl317004_57] at HO_340004)
            cases kq with
            | zero=>exact absurd HA.out (by simp [laws_FnExactGetFile.j2])
            | succ kj57=>
             have H:=HA.out
             clear HA
             simp only [laws_FnExactGetFile.j2] at H
             by_cases c86:x84_57=true
             ·subst c86
              rw [if_pos rfl] at H
              exact absurd ((Option.some.inj H).trans hr_.out) (by decide)
             ·replace c86:=Bool.eq_false_iff.mpr c86
              subst c86
              replace H:=(if_neg (show ¬ (false=true) by decide)).symm.trans H
              replace H:=Option.bind_eq_some_iff.mp H
              obtain ⟨t341,A870,H⟩:=H
              try dsimp only at H
              have A87:=Aside0.mk A870
              clear A870
              by_cases c88:t341 < 0
              ·rw [if_pos c88] at H
               have c88b0:decide (t341 < 0)=true:=decide_eq_true c88
               clear c88
               exact absurd ((Option.some.inj H).trans hr_.out) (by decide)
              ·rw [if_neg c88] at H
               have c88b0:decide (t341 < 0)=false:=decide_eq_false c88
               clear c88
               by_cases c89:t341=t325
               ·rw [if_pos c89] at H
                have c89b0:(t341 == t325)=true:=beq_iff_eq.mpr c89
                have c89b1:(t341 != t325)=false:=bne_eq_false_iff_eq.mpr c89
                clear c89
                obtain rfl:=Option.some.inj H
                have hnb90:=NB316_304.out
                have hnc90:=NB304_316.out
                have hnb91:=NB316_339.out
                have hnc91:=NB339_316.out
                have hcz92_0:wc.cell? ⟨gb316,0,none⟩=some (.int .i64 t308):=(blk_cell BK316.out 0).trans rfl
                have hcz92_1:wc.cell? ⟨gb316,1,none⟩=some (.int .i64 t309):=(blk_cell BK316.out 1).trans rfl
                have hcz92_2:wc.cell? ⟨gb316,2,none⟩=some (.int .i64 t310):=(blk_cell BK316.out 2).trans rfl
                have hcz92_3:wc.cell? ⟨gb316,3,none⟩=some (.bool t311):=(blk_cell BK316.out 3).trans rfl
                have hcz92_4:wc.cell? ⟨gb316,4,none⟩=some (.slice Ao20 t326.length co20):=(blk_cell BK316.out 4).trans rfl
                have hfz92_0:=blk_frozen BK316.out 0
                have hfz92_1:=blk_frozen BK316.out 1
                have hfz92_2:=blk_frozen BK316.out 2
                have hfz92_3:=blk_frozen BK316.out 3
                have hfz92_4:=blk_frozen BK316.out 4
                go_wp2_with (first|((with_reducible refine gate_callee (f:=56) rfl ?_);refine goesL_ (some 87) rfl rfl Try.func56 (by kernel_rfl) rfl #[.agg #[.int .i64 t308,.int .i64 t309,.int .i64 t310,.bool t311,.slice Ao20 t326.length co20],.int .i64 1] rfl (by (try simp only [List.map_toArray,List.map_cons,List.map_nil]);first|done|rfl|(simp only [List.length_drop,List.length_take];rfl)) ?_;(with_reducible refine (laws_heldFile.calls kj57 t308 t309 t310 t311 _ _ t326 1 t341 _ ?side1 ?side2 A87.out).mono ?_);(case side1=>repeat (first|exact (Kd.X_reads' HO_317004.out).2.2|(with_reducible refine Kd.C_alloc ?_ _)|(with_reducible refine Kd.C_drewN ?_ _)|(with_reducible refine Kd.C_drew ?_)));(case side2=>exact (Kd.X_reads' HO_317004.out).2.1);rintro e w93 ⟨rfl,hb⟩;refine ⟨_,rfl,?_⟩;have n0_:=Aside0.mk (Kd.R_below ((rR HO_305004)) hb);have n1_:=Aside0.mk (Kd.X_below ((by (with_reducible repeat (first|apply Kd.X_alloc|apply Kd.X_drewN|apply Kd.X_drew));exact HO_317004.out)) hb);have n2_:=Aside0.mk (Kd.X_below ((by (with_reducible repeat (first|apply Kd.X_alloc|apply Kd.X_drewN|apply Kd.X_drew));exact HO_340004.out)) hb);have n3_:=Aside0.mk (blk_below (g:=gb304) (o:=.cells #[.int .i64 t296,.int .i64 t297,.int .i64 t298,.bool t299,.slice Ao13 t300.length co13] 61 (0,0)) (bk BK304) hb);have n4_:=Aside0.mk (blk_below (g:=gb316) (o:=.cells #[.int .i64 t308,.int .i64 t309,.int .i64 t310,.bool t311,.slice Ao20 t326.length co20] 61 (0,0)) (bk BK316) hb);have n5_:=Aside0.mk (blk_below (g:=gb339) (o:=.cells #[.int .i64 t331,.int .i64 t332,.int .i64 t333,.bool t334,.slice Ao71 t335.length co71] 61 (0,0)) (bk BK339) hb);have n6_:=bs hb;clear HO_305004;clear HO_317004;clear HO_340004;clear BK304;clear BK316;clear BK339;clear HB;have HO_305004:=n0_;have HO_317004:=n1_;have HO_340004:=n2_;have BK304:=n3_;have BK316:=n4_;have BK339:=n5_;have HB:=n6_;clear n0_ n1_ n2_ n3_ n4_ n5_ n6_;(try clear hb);(try clear hb2);(try clear hk);(try clear hi)))
                go_ret
                exact ⟨rz,be⟩
               ·rw [if_neg c89] at H
                have c89b0:(t341 == t325)=false:=beq_eq_false_iff_ne.mpr c89
                have c89b1:(t341 != t325)=true:=bne_iff_ne.mpr c89
                exact absurd ((Option.some.inj H).trans hr_.out) (by decide)
          ·rw [if_neg c55] at H
           have c55b0:(t327 == t325)=false:=beq_eq_false_iff_ne.mpr c55
           have c55b1:(t327 != t325)=true:=bne_iff_ne.mpr c55
           exact absurd ((Option.some.inj H).trans hr_.out) (by decide)
     ·replace c34:=Bool.eq_false_iff.mpr c34
      subst c34
      replace H:=(if_neg (show ¬ (false=true) by decide)).symm.trans H
      exact absurd ((Option.some.inj H).trans hr_.out) (by decide)
end Go.Proofs.Ytbhllgifciaepaa.PFnExactGetFile
