/- Trimmed by a program of this session (trim.py). Not trusted: Lean checks it. -/
import Derived.Test.YtpbjbfimnfghkaaTLLoadsPFnLoadsx0
import Derived.Test.YtpbjbfimnfghkaaTLLoadsPFnLoadsx5
import Derived.Test.YtpbjbfimnfghkaaTLLoadsPFnLoadsx8
import Derived.Test.YtpbjbfimnfghkaaTLLoadsPFnLoadsx9
namespace Go.Proofs.Ytpbjbfimnfghkaa.PFnLoads
open Go.RowKit Go.Proofs.YtpbjbfimnfghkaaW.PrintWords Go.Proofs.YtpbjbfimnfghkaaW.PrintLast Go.Proofs.YtpbjbfimnfghkaaW.PrintMore Go.Proofs.Ytpbjbfimnfghkaa.St
attribute [local go_sem] max2_int min2_int max_two min_two max_three min_three max_four min_four
set_option linter.unusedVariables false
set_option linter.unusedSimpArgs false
def spec_l5Any.f (k:Nat) (s0_0:List Int) (s0_1:Int) (s0_2:Int):Option ((List (S61)) × Int × (List (S35)) × Int × Int):=(spec_l5Draw.f k s0_0 s0_1 s0_2).bind fun bt341=>((spec_l1Below.f s0_0 bt341.2.2.2.1 bt341.2.2.2.2 (bt341.2.2.1.length:Int)).bind fun bt351=>((spec_l1Below.f s0_0 bt351.2.1 bt351.2.2 10).bind fun bt354=>(if bt354.1=0 then ((spec_l1Int.f s0_0 bt354.2.1 bt354.2.2 (([0,1,2,6]:List Int))).bind fun bt360=>(some (bt341.1,bt360.1,bt341.2.2.1,bt360.2.1,bt360.2.2))) else (if bt354.1=1 then (if 0≤bt351.1 then (if bt351.1 < (bt341.2.2.1.length:Int) then ((spec_l1Below.f s0_0 bt354.2.1 bt354.2.2 9).bind fun bt364=>(if ((rd_T35 bt341.2.2.1 bt351.1).f0).length < 17592186044416 then (some (bt341.1,bt341.2.1,(bt341.2.2.1.set (bt351.1:Int).toNat (⟨(((rd_T35 bt341.2.2.1 bt351.1).f0) ++ [bt364.1])⟩:S35)),bt364.2.1,bt364.2.2)) else (none))) else (none)) else (none)) else (if bt354.1=2 then (if 0≤bt351.1 then (if bt351.1 < (bt341.2.2.1.length:Int) then ((spec_l1Below.f s0_0 bt354.2.1 bt354.2.2 9).bind fun bt372=>(if 0 < (((rd_T35 bt341.2.2.1 bt351.1).f0).length:Int) then (some (bt341.1,bt341.2.1,(bt341.2.2.1.set (bt351.1:Int).toNat (⟨(((rd_T35 bt341.2.2.1 bt351.1).f0).set (0:Int).toNat bt372.1)⟩:S35)),bt372.2.1,bt372.2.2)) else (none))) else (none)) else (none)) else (if bt354.1=3 then ((spec_l4Any.f k s0_0 bt354.2.1 bt354.2.2).bind fun bt378=>(some (bt378.1,bt341.2.1,bt341.2.2.1,bt378.2.1,bt378.2.2))) else (if bt354.1=4 then (if 0≤(bt341.2.2.1.length:Int) then (some (bt341.1,bt341.2.1,(bt341.2.2.1.take (0:Int).toNat),bt354.2.1,bt354.2.2)) else (none)) else (some (bt341.1,bt341.2.1,bt341.2.2.1,bt354.2.1,bt354.2.2)))))))))
def spec_l5Any.T7:Bool × List (List Nat × List Nat):=(true,[([],[]),([0],[0]),([],[]),([],[]),([3],[3]),([],[]),([4,5],[4,5]),([6],[6]),([7],[7]),([],[]),([9],[9]),([10],[10]),([8,11,10],[8,11]),([1,2,0,1,2,3,4,5,6,7,8,9,10,11,12],[1,2]),([13,0,1,2,3,4,5,6,7,8,9,10,11,12],[13]),([14,12,12,0,1,2,3,4,5,6,7,8,9,10,11,12],[12,14])])
def spec_l5Any.B7:List Nat:=[0,1,0,0,8,0,56,120,248,0,512,1536,4088,8191,16383,32767]
theorem spec_l5Any.tab7:rtab .any (opsOf Try.f39 7)=spec_l5Any.T7:=by kernel_rfl
theorem spec_l5Any.bits7:waitsOk spec_l5Any.T7.2 spec_l5Any.B7=true:=by kernel_rfl
def spec_l5Any.T9:Bool × List (List Nat × List Nat):=(true,[([],[]),([0],[0]),([],[]),([1,2],[1,2]),([3],[3]),([4],[4]),([],[]),([6],[6]),([5,0,1,2,3,4,5,6,7],[5]),([8,7,7,0,1,2,3,4,5,6,7],[7,8])])
def spec_l5Any.B9:List Nat:=[0,1,0,7,15,31,0,64,255,511]
theorem spec_l5Any.tab9:rtab .any (opsOf Try.f39 9)=spec_l5Any.T9:=by kernel_rfl
theorem spec_l5Any.bits9:waitsOk spec_l5Any.T9.2 spec_l5Any.B9=true:=by kernel_rfl
set_option maxHeartbeats 8000000 in
set_option maxRecDepth 100000 in
theorem spec_l5Any.calls (k:Nat) (g:Nat) (s0_0:List Int) (s0_1:Int) (s0_2:Int) (r1:List (S61)) (r2:Int) (r3:List (S35)) (r4:Int) (r5:Int) (w0 w:World) (hI:IsS93 w0 w g s0_0 s0_1 s0_2) (hB:Below w0.heap.size w0 w) (h:spec_l5Any.f k s0_0 s0_1 s0_2=some (r1,r2,r3,r4,r5)) :
  Calls Try.prog 39 #[.pointer (some ⟨g,0,none⟩)] w fun e w'=>∃ v0_ v2_:Value,e = .returned (.tuple #[v0_,.agg #[.int .i64 r2,v2_]])∧Kd.R k61 61 w' w.heap.size (fun _=>True) v0_ r1∧Kd.S k35 35 w' w.heap.size (fun _=>True) v2_ r3∧IsS93 w0 w' g s0_0 r4 r5∧Below w0.heap.size w0 w' ∧ KeepBut w w' g none:=by
 have hu26:=Try.underlying26
 have HI0:=Aside0.mk hI
 have HK:=Aside0.mk (KeepBut.refl w g none)
 have HL:=Aside0.mk hB.size
 clear hI
 have HW0:=Aside0.mk hB.size
 have HB:=Aside0.mk hB
 clear hB
 have H:((spec_l5Draw.f k s0_0 s0_1 s0_2).bind fun bt341=>((spec_l1Below.f s0_0 bt341.2.2.2.1 bt341.2.2.2.2 (bt341.2.2.1.length:Int)).bind fun bt351=>((spec_l1Below.f s0_0 bt351.2.1 bt351.2.2 10).bind fun bt354=>(if bt354.1=0 then ((spec_l1Int.f s0_0 bt354.2.1 bt354.2.2 (([0,1,2,6]:List Int))).bind fun bt360=>(some (bt341.1,bt360.1,bt341.2.2.1,bt360.2.1,bt360.2.2))) else (if bt354.1=1 then (if 0≤bt351.1 then (if bt351.1 < (bt341.2.2.1.length:Int) then ((spec_l1Below.f s0_0 bt354.2.1 bt354.2.2 9).bind fun bt364=>(if ((rd_T35 bt341.2.2.1 bt351.1).f0).length < 17592186044416 then (some (bt341.1,bt341.2.1,(bt341.2.2.1.set (bt351.1:Int).toNat (⟨(((rd_T35 bt341.2.2.1 bt351.1).f0) ++ [bt364.1])⟩:S35)),bt364.2.1,bt364.2.2)) else (none))) else (none)) else (none)) else (if bt354.1=2 then (if 0≤bt351.1 then (if bt351.1 < (bt341.2.2.1.length:Int) then ((spec_l1Below.f s0_0 bt354.2.1 bt354.2.2 9).bind fun bt372=>(if 0 < (((rd_T35 bt341.2.2.1 bt351.1).f0).length:Int) then (some (bt341.1,bt341.2.1,(bt341.2.2.1.set (bt351.1:Int).toNat (⟨(((rd_T35 bt341.2.2.1 bt351.1).f0).set (0:Int).toNat bt372.1)⟩:S35)),bt372.2.1,bt372.2.2)) else (none))) else (none)) else (none)) else (if bt354.1=3 then ((spec_l4Any.f k s0_0 bt354.2.1 bt354.2.2).bind fun bt378=>(some (bt378.1,bt341.2.1,bt341.2.2.1,bt378.2.1,bt378.2.2))) else (if bt354.1=4 then (if 0≤(bt341.2.2.1.length:Int) then (some (bt341.1,bt341.2.1,(bt341.2.2.1.take (0:Int).toNat),bt354.2.1,bt354.2.2)) else (none)) else (some (bt341.1,bt341.2.1,bt341.2.2.1,bt354.2.1,bt354.2.2))))))))))=some (r1,r2,r3,r4,r5):=h
 clear h
 replace H:=Option.bind_eq_some_iff.mp H
 obtain ⟨⟨t341,t344,t345,t348,t349⟩,A20,H⟩:=H
 try dsimp only at H
 have A2:=Aside0.mk A20
 clear A20
 replace H:=Option.bind_eq_some_iff.mp H
 obtain ⟨⟨t351,t352,t353⟩,A30,H⟩:=H
 try dsimp only at H
 have A3:=Aside0.mk A30
 clear A30
 replace H:=Option.bind_eq_some_iff.mp H
 obtain ⟨⟨t354,t355,t356⟩,A40,H⟩:=H
 try dsimp only at H
 have A4:=Aside0.mk A40
 clear A40
 by_cases c5:t354=0
 ·rw [if_pos c5] at H
  have c5b0:(t354 == 0)=true:=beq_iff_eq.mpr c5
  have c5b1:(t354 != 0)=false:=bne_eq_false_iff_eq.mpr c5
  clear c5
  obtain ⟨y357,hy357⟩ : ∃ y_:List Int,y_=(([0,1,2,6]:List Int)):=⟨_,rfl⟩
  replace H:((spec_l1Int.f s0_0 t355 t356 y357).bind fun bt360=>(some (t341,bt360.1,t345,bt360.2.1,bt360.2.2)))=some (r1,r2,r3,r4,r5):=by first|(rw [hy357];with_reducible exact H)|(have H2_:=(Option.bind_some _ _).symm.trans H;rw [hy357];with_reducible exact H2_)|(have H2_:=(Option.bind_some _ _).symm.trans H;with_reducible exact H2_)|with_reducible exact H|(rw [hy357];exact H)|exact H
  have Ny357:=Aside0.mk hy357
  clear hy357
  replace H:=Option.bind_eq_some_iff.mp H
  obtain ⟨⟨t360,t361,t362⟩,A60,H⟩:=H
  try dsimp only at H
  have A6:=Aside0.mk A60
  clear A60
  simp only [Option.some.injEq,Prod.mk.injEq] at H
  obtain ⟨rfl,rfl,rfl,rfl,rfl⟩:=H
  go_enter Try.func39,Try.ntmps39
  try go_wp2_with (first|((with_reducible refine gate_dst (N:=3) rfl ?_);refine box_event ?hg (N:=3) ?hd (cs:=#[.int .i64 0,.slice none 0 0]) (t:=26) ?hr ?_;(case hd=>rfl);(case hg=>rfl);(case hr=>first|(go_simp;done)|(go_simp;rfl));intro gb340 hg w7 hbox hb;have n0_:=Aside0.mk (IsS93.below (by repeat (first|(with_reducible first|exact HI0.out|apply IsS93.alloc|apply IsS93.drewN|apply IsS93.drew|apply IsS93.set_1|apply IsS93.set_2)|exact HI0.out)) hb);have n1_:=Aside0.mk (KeepBut.trans (by repeat (first|(with_reducible first|exact HK.out|apply KeepBut.set_|apply keep_drewN|apply keep_drew|apply keep_alloc)|exact HK.out)) (KeepBut.of_below hb g none) (.inl rfl));have n2_:=Aside0.mk (below_step (by repeat (first|(with_reducible first|exact HB.out|apply below_alloc|apply pw_below_drewN|apply below_drew1|refine below_set ?_ (IsS93.ge HI0.out))|exact HB.out)) hb);have n3_:=Aside0.mk (hbox);have n4_:=Aside0.mk ((by rw [hg];exact (keep_size (w:=w) (g:=g) (row:=none) (by repeat (first|(with_reducible first|exact HK.out|apply KeepBut.set_|apply keep_drewN|apply keep_drew|apply keep_alloc)|exact HK.out))):w.heap.size≤gb340));have n5_:=Aside0.mk ((Nat.le_trans HW0.out (by rw [hg];exact (keep_size (w:=w) (g:=g) (row:=none) (by repeat (first|(with_reducible first|exact HK.out|apply KeepBut.set_|apply keep_drewN|apply keep_drew|apply keep_alloc)|exact HK.out))):w.heap.size≤gb340):w0.heap.size≤gb340));have n6_:=Aside0.mk ((by rw [hg];exact Nat.ne_of_lt (IsS93.lt (show IsS93 w0 _ g s0_0 s0_1 s0_2 from by repeat (first|(with_reducible first|exact HI0.out|apply IsS93.alloc|apply IsS93.drewN|apply IsS93.drew|apply IsS93.set_1|apply IsS93.set_2)|exact HI0.out))):g ≠ gb340));have n7_:=Aside0.mk ((by rw [hg];exact Nat.ne_of_gt (IsS93.lt (show IsS93 w0 _ g s0_0 s0_1 s0_2 from by repeat (first|(with_reducible first|exact HI0.out|apply IsS93.alloc|apply IsS93.drewN|apply IsS93.drew|apply IsS93.set_1|apply IsS93.set_2)|exact HI0.out))):gb340 ≠ g));clear HI0;clear HK;clear HB;have HI0:=n0_;have HK:=n1_;have HB:=n2_;have BK340:=n3_;have GW340:=n4_;have GE340:=n5_;have NB0_340:=n6_;have NB340_0:=n7_;clear n0_ n1_ n2_ n3_ n4_ n5_ n6_ n7_;clear hb hbox hg)|((with_reducible refine gate_callee (f:=37) rfl ?_);refine goesL_ (some 9) rfl rfl Try.func37 (by kernel_rfl) rfl #[.pointer (some ⟨g,0,none⟩)] rfl (by (try simp only [List.map_toArray,List.map_cons,List.map_nil]);first|done|rfl|(simp only [List.length_drop,List.length_take];rfl)) ?_;(with_reducible refine (spec_l5Draw.calls k g s0_0 s0_1 s0_2 t341 t344 t345 t348 t349 w0 _ ?side1 ?side2 A2.out).mono ?_);(case side1=>repeat (first|(with_reducible first|exact HI0.out|apply IsS93.alloc|apply IsS93.drewN|apply IsS93.drew|apply IsS93.set_1|apply IsS93.set_2|refine IsS93.far ?_ NB0_340.out _)|exact HI0.out));(case side2=>repeat (first|(with_reducible first|exact HB.out|apply below_alloc|apply pw_below_drewN|apply below_drew1|refine below_set ?_ (IsS93.ge HI0.out)|refine below_set ?_ GE340.out)|exact HB.out));rintro e w8 ⟨v342,v346,rfl,ho0,ho1,hi,hb,hk⟩;refine ⟨_,rfl,?_⟩;have n0_:=Aside0.mk (KeepBut.blk hk (g':=gb340) (o:=.cells #[.int .i64 0,.slice none 0 0] 26 (0,0)) (bk BK340) NB340_0.out (by simp));have n1_:=Aside0.mk (Kd.R_lower ho0 (keep_size (w:=w) (g:=g) (row:=none) (by repeat (first|(with_reducible first|exact HK.out|apply KeepBut.set_|apply keep_drewN|apply keep_drew|apply keep_alloc|refine keep_far ?_ GW340.out _)|exact HK.out))));have n2_:=Aside0.mk (Kd.S_lower ho1 (keep_size (w:=w) (g:=g) (row:=none) (by repeat (first|(with_reducible first|exact HK.out|apply KeepBut.set_|apply keep_drewN|apply keep_drew|apply keep_alloc|refine keep_far ?_ GW340.out _)|exact HK.out))));have n3_:=Aside0.mk (KeepBut.trans (by repeat (first|(with_reducible first|exact HK.out|apply KeepBut.set_|apply keep_drewN|apply keep_drew|apply keep_alloc|refine keep_far ?_ GW340.out _)|exact HK.out)) hk (.inl rfl));have n4_:=Aside0.mk (hb);have n5_:=Aside0.mk (hi);clear BK340;clear HK;clear HB;clear HI0;have BK340:=n0_;have HO343:=n1_;have HO347:=n2_;have HK:=n3_;have HB:=n4_;have HI0:=n5_;clear n0_ n1_ n2_ n3_ n4_ n5_;(try clear hb);(try clear hb2);(try clear hk);(try clear hi);(try clear ho0);(try clear ho1))|((with_reducible refine gate_dst (N:=5) rfl ?_);refine box_event ?hg (N:=5) ?hd (cs:=#[.int .i64 0,.slice none 0 0]) (t:=26) ?hr ?_;(case hd=>rfl);(case hg=>rfl);(case hr=>first|(go_simp;done)|(go_simp;rfl));intro gb350 hg w9 hbox hb;have n0_:=Aside0.mk (Kd.R_below (rR HO343) hb);have n1_:=Aside0.mk (Kd.S_below (rS HO347) hb);have n2_:=Aside0.mk (IsS93.below (by repeat (first|(with_reducible first|exact HI0.out|apply IsS93.alloc|apply IsS93.drewN|apply IsS93.drew|apply IsS93.set_1|apply IsS93.set_2|refine IsS93.far ?_ NB0_340.out _)|exact HI0.out)) hb);have n3_:=Aside0.mk (blk_below (g:=gb340) (o:=.cells #[.int .i64 0,.slice none 0 0] 26 (0,0)) (bk BK340) hb);have n4_:=Aside0.mk (KeepBut.trans (by repeat (first|(with_reducible first|exact HK.out|apply KeepBut.set_|apply keep_drewN|apply keep_drew|apply keep_alloc|refine keep_far ?_ GW340.out _)|exact HK.out)) (KeepBut.of_below hb g none) (.inl rfl));have n5_:=Aside0.mk (below_step (by repeat (first|(with_reducible first|exact HB.out|apply below_alloc|apply pw_below_drewN|apply below_drew1|refine below_set ?_ (IsS93.ge HI0.out)|refine below_set ?_ GE340.out)|exact HB.out)) hb);have n6_:=Aside0.mk (hbox);have n7_:=Aside0.mk ((by rw [hg];exact (keep_size (w:=w) (g:=g) (row:=none) (by repeat (first|(with_reducible first|exact HK.out|apply KeepBut.set_|apply keep_drewN|apply keep_drew|apply keep_alloc|refine keep_far ?_ GW340.out _)|exact HK.out))):w.heap.size≤gb350));have n8_:=Aside0.mk ((Nat.le_trans HW0.out (by rw [hg];exact (keep_size (w:=w) (g:=g) (row:=none) (by repeat (first|(with_reducible first|exact HK.out|apply KeepBut.set_|apply keep_drewN|apply keep_drew|apply keep_alloc|refine keep_far ?_ GW340.out _)|exact HK.out))):w.heap.size≤gb350):w0.heap.size≤gb350));have n9_:=Aside0.mk ((by rw [hg];exact Nat.ne_of_lt (blk_lt (g:=gb340) (o:=.cells #[.int .i64 0,.slice none 0 0] 26 (0,0)) (bk BK340)):gb340 ≠ gb350));have n10_:=Aside0.mk ((by rw [hg];exact Nat.ne_of_gt (blk_lt (g:=gb340) (o:=.cells #[.int .i64 0,.slice none 0 0] 26 (0,0)) (bk BK340)):gb350 ≠ gb340));have n11_:=Aside0.mk ((by rw [hg];exact Nat.ne_of_lt (IsS93.lt (show IsS93 w0 _ g s0_0 t348 t349 from by repeat (first|(with_reducible first|exact HI0.out|apply IsS93.alloc|apply IsS93.drewN|apply IsS93.drew|apply IsS93.set_1|apply IsS93.set_2|refine IsS93.far ?_ NB0_340.out _)|exact HI0.out))):g ≠ gb350));have n12_:=Aside0.mk ((by rw [hg];exact Nat.ne_of_gt (IsS93.lt (show IsS93 w0 _ g s0_0 t348 t349 from by repeat (first|(with_reducible first|exact HI0.out|apply IsS93.alloc|apply IsS93.drewN|apply IsS93.drew|apply IsS93.set_1|apply IsS93.set_2|refine IsS93.far ?_ NB0_340.out _)|exact HI0.out))):gb350 ≠ g));clear HO343;clear HO347;clear HI0;clear BK340;clear HK;clear HB;have HO343:=n0_;have HO347:=n1_;have HI0:=n2_;have BK340:=n3_;have HK:=n4_;have HB:=n5_;have BK350:=n6_;have GW350:=n7_;have GE350:=n8_;have NB340_350:=n9_;have NB350_340:=n10_;have NB0_350:=n11_;have NB350_0:=n12_;clear n0_ n1_ n2_ n3_ n4_ n5_ n6_ n7_ n8_ n9_ n10_ n11_ n12_;clear hb hbox hg;have hnb10:=NB350_340.out;have hnc10:=NB340_350.out;have hnb11:=NB350_0.out;have hnc11:=NB0_350.out;have hcz12_0:w9.cell? ⟨gb350,0,none⟩=some (.int .i64 0):=(blk_cell BK350.out 0).trans rfl;have hcz12_1:w9.cell? ⟨gb350,1,none⟩=some (.slice none 0 0):=(blk_cell BK350.out 1).trans rfl;have hfz12_0:=blk_frozen BK350.out 0;have hfz12_1:=blk_frozen BK350.out 1;obtain ⟨Ao13,co13,eo13⟩:=Kd.S_slice HO347.out;subst eo13)|((with_reducible refine gate_callee (f:=74) rfl ?_);refine goesL_ (some 16) rfl rfl Try.func74 (by kernel_rfl) rfl #[.pointer (some ⟨g,0,none⟩),.int .i64 (t345.length:Int)] rfl (by (try simp only [List.map_toArray,List.map_cons,List.map_nil]);first|done|rfl|(simp only [List.length_drop,List.length_take];rfl)) ?_;(with_reducible refine (spec_l1Below.calls g s0_0 t348 t349 (t345.length:Int) t351 t352 t353 w0 _ ?side1 ?side2 A3.out).mono ?_);(case side1=>repeat (first|(with_reducible first|exact HI0.out|apply IsS93.alloc|apply IsS93.drewN|apply IsS93.drew|apply IsS93.set_1|apply IsS93.set_2|refine IsS93.far ?_ NB0_340.out _|refine IsS93.far ?_ NB0_350.out _)|exact HI0.out));(case side2=>repeat (first|(with_reducible first|exact HB.out|apply below_alloc|apply pw_below_drewN|apply below_drew1|refine below_set ?_ (IsS93.ge HI0.out)|refine below_set ?_ GE340.out|refine below_set ?_ GE350.out)|exact HB.out));rintro e w14 ⟨rfl,hi,hb,hk⟩;refine ⟨_,rfl,?_⟩;have n0_:=Aside0.mk (KeepBut.blk hk (g':=gb340) (o:=.cells #[.int .i64 0,.slice none 0 0] 26 (0,0)) (by (with_reducible repeat (first|refine blk_drewN ?_ _|refine blk_drew ?_|refine blk_alloc ?_ _));refine blk_far ?_ NB340_350.out _;(with_reducible repeat (first|refine blk_drewN ?_ _|refine blk_drew ?_|refine blk_alloc ?_ _));refine blk_far ?_ NB340_350.out _;(with_reducible repeat (first|refine blk_drewN ?_ _|refine blk_drew ?_|refine blk_alloc ?_ _));exact BK340.out) NB340_0.out (by simp));have n1_:=Aside0.mk (Kd.R_mono (Kd.R_keep (IsS93.apart (show IsS93 w0 _ g s0_0 t348 t349 from by repeat (first|(with_reducible first|exact HI0.out|apply IsS93.alloc|apply IsS93.drewN|apply IsS93.drew|apply IsS93.set_1|apply IsS93.set_2|refine IsS93.far ?_ NB0_340.out _|refine IsS93.far ?_ NB0_350.out _)|exact HI0.out)) (by (with_reducible repeat (first|apply Kd.R_alloc|apply Kd.R_drewN|apply Kd.R_drew));exact (Kd.R_mono (Kd.R_far (p:=⟨gb350,1,none⟩) (Kd.R_far (p:=⟨gb350,0,none⟩) (Kd.R_types HO343.out BK350.out (by decide)) (fun _ hk=>hk.2) (.int .i64 t344)) (fun _ hk=>hk.2) (.slice Ao13 t345.length co13)) (fun _ h_=>h_.1))) (by decide)) hk (fun _ h=>h.2)) (fun _ h=>h.1));have n2_:=Aside0.mk (Kd.S_mono (Kd.S_keep (IsS93.apartS (show IsS93 w0 _ g s0_0 t348 t349 from by repeat (first|(with_reducible first|exact HI0.out|apply IsS93.alloc|apply IsS93.drewN|apply IsS93.drew|apply IsS93.set_1|apply IsS93.set_2|refine IsS93.far ?_ NB0_340.out _|refine IsS93.far ?_ NB0_350.out _)|exact HI0.out)) (by (with_reducible repeat (first|apply Kd.S_alloc|apply Kd.S_drewN|apply Kd.S_drew));exact (Kd.S_mono (Kd.S_far (p:=⟨gb350,1,none⟩) (Kd.S_far (p:=⟨gb350,0,none⟩) (Kd.S_types HO347.out BK350.out (by decide)) (fun _ hk=>hk.2) (.int .i64 t344)) (fun _ hk=>hk.2) (.slice Ao13 t345.length co13)) (fun _ h_=>h_.1))) (by decide)) hk (fun _ h=>h.2)) (fun _ h=>h.1));have n3_:=Aside0.mk (KeepBut.blk hk (g':=gb350) (o:=.cells #[.int .i64 t344,.slice Ao13 t345.length co13] 26 (0,0)) (by (with_reducible repeat (first|refine blk_drewN ?_ _|refine blk_drew ?_|refine blk_alloc ?_ _));refine blk_put (cs:=#[.int .i64 t344,.slice none 0 0]) ?_ 1 _ rfl;(with_reducible repeat (first|refine blk_drewN ?_ _|refine blk_drew ?_|refine blk_alloc ?_ _));refine blk_put (cs:=#[.int .i64 0,.slice none 0 0]) ?_ 0 _ rfl;(with_reducible repeat (first|refine blk_drewN ?_ _|refine blk_drew ?_|refine blk_alloc ?_ _));exact BK350.out) NB350_0.out (by simp));have n4_:=Aside0.mk (KeepBut.trans (by repeat (first|(with_reducible first|exact HK.out|apply KeepBut.set_|apply keep_drewN|apply keep_drew|apply keep_alloc|refine keep_far ?_ GW340.out _|refine keep_far ?_ GW350.out _)|exact HK.out)) hk (.inl rfl));have n5_:=Aside0.mk (hb);have n6_:=Aside0.mk (hi);clear BK340;clear HO343;clear HO347;clear BK350;clear HK;clear HB;clear HI0;have BK340:=n0_;have HO343:=n1_;have HO347:=n2_;have BK350:=n3_;have HK:=n4_;have HB:=n5_;have HI0:=n6_;clear n0_ n1_ n2_ n3_ n4_ n5_ n6_;(try clear hb);(try clear hb2);(try clear hk);(try clear hi))|((with_reducible refine gate_callee (f:=74) rfl ?_);refine goesL_ (some 18) rfl rfl Try.func74 (by kernel_rfl) rfl #[.pointer (some ⟨g,0,none⟩),.int .i64 10] rfl (by (try simp only [List.map_toArray,List.map_cons,List.map_nil]);first|done|rfl|(simp only [List.length_drop,List.length_take];rfl)) ?_;(with_reducible refine (spec_l1Below.calls g s0_0 t352 t353 10 t354 t355 t356 w0 _ ?side1 ?side2 A4.out).mono ?_);(case side1=>repeat (first|(with_reducible first|exact HI0.out|apply IsS93.alloc|apply IsS93.drewN|apply IsS93.drew|apply IsS93.set_1|apply IsS93.set_2|refine IsS93.far ?_ NB0_340.out _|refine IsS93.far ?_ NB0_350.out _)|exact HI0.out));(case side2=>repeat (first|(with_reducible first|exact HB.out|apply below_alloc|apply pw_below_drewN|apply below_drew1|refine below_set ?_ (IsS93.ge HI0.out)|refine below_set ?_ GE340.out|refine below_set ?_ GE350.out)|exact HB.out));rintro e w15 ⟨rfl,hi,hb,hk⟩;refine ⟨_,rfl,?_⟩;have n0_:=Aside0.mk (KeepBut.blk hk (g':=gb340) (o:=.cells #[.int .i64 0,.slice none 0 0] 26 (0,0)) (bk BK340) NB340_0.out (by simp));have n1_:=Aside0.mk (Kd.R_mono (Kd.R_keep (IsS93.apart (show IsS93 w0 _ g s0_0 t352 t353 from by repeat (first|(with_reducible first|exact HI0.out|apply IsS93.alloc|apply IsS93.drewN|apply IsS93.drew|apply IsS93.set_1|apply IsS93.set_2|refine IsS93.far ?_ NB0_340.out _|refine IsS93.far ?_ NB0_350.out _)|exact HI0.out)) (rR HO343) (by decide)) hk (fun _ h=>h.2)) (fun _ h=>h.1));have n2_:=Aside0.mk (Kd.S_mono (Kd.S_keep (IsS93.apartS (show IsS93 w0 _ g s0_0 t352 t353 from by repeat (first|(with_reducible first|exact HI0.out|apply IsS93.alloc|apply IsS93.drewN|apply IsS93.drew|apply IsS93.set_1|apply IsS93.set_2|refine IsS93.far ?_ NB0_340.out _|refine IsS93.far ?_ NB0_350.out _)|exact HI0.out)) (rS HO347) (by decide)) hk (fun _ h=>h.2)) (fun _ h=>h.1));have n3_:=Aside0.mk (KeepBut.blk hk (g':=gb350) (o:=.cells #[.int .i64 t344,.slice Ao13 t345.length co13] 26 (0,0)) (bk BK350) NB350_0.out (by simp));have n4_:=Aside0.mk (KeepBut.trans (by repeat (first|(with_reducible first|exact HK.out|apply KeepBut.set_|apply keep_drewN|apply keep_drew|apply keep_alloc|refine keep_far ?_ GW340.out _|refine keep_far ?_ GW350.out _)|exact HK.out)) hk (.inl rfl));have n5_:=Aside0.mk (hb);have n6_:=Aside0.mk (hi);clear BK340;clear HO343;clear HO347;clear BK350;clear HK;clear HB;clear HI0;have BK340:=n0_;have HO343:=n1_;have HO347:=n2_;have BK350:=n3_;have HK:=n4_;have HB:=n5_;have HI0:=n6_;clear n0_ n1_ n2_ n3_ n4_ n5_ n6_;(try clear hb);(try clear hb2);(try clear hk);(try clear hi))|((with_reducible refine gate_dst (N:=22) rfl ?_);refine Kd.R_lit (Kd.int .i64) _ 3 ?hg (N:=22) ?hd (xs:=([0,1,2,6]:List Int)) (inner:=[.int .i64 0,.int .i64 1,.int .i64 2,.int .i64 6]) (ok:=fun _=>True) (okp:=fun _=>True) ?hr ?hp (fun _ hk=>hk) trivial (Below.refl _ _) (Nat.le_refl _) (by simp) ?_;(case hd=>rfl);(case hg=>rfl);(case hr=>first|(go_simp;done)|(go_simp;rfl));(case hp=>exact (Reps.one (show Kd.M (Kd.int .i64) _ _ _ 0 [.int .i64 0] from rfl) (Reps.one (show Kd.M (Kd.int .i64) _ _ _ 1 [.int .i64 1] from rfl) (Reps.one (show Kd.M (Kd.int .i64) _ _ _ 2 [.int .i64 2] from rfl) (Reps.one (show Kd.M (Kd.int .i64) _ _ _ 6 [.int .i64 6] from rfl) (Reps.none _ _))))));intro v358 w16 ho17 hb hg_ hnew_;clear hg_ hnew_;(first|rw [← Ny357.out] at ho17|(simp only [Int.reduceToNat] at ho17;rw [← Ny357.out] at ho17));have n0_:=Aside0.mk (Kd.R_below ((rR HO343)) hb);have n1_:=Aside0.mk (Kd.S_elder' (rS HO347) (Kd.R_base ho17) hb);have n2_:=Aside0.mk (Kd.R_lower ho17 (keep_size (w:=w) (g:=g) (row:=none) (by repeat (first|(with_reducible first|exact HK.out|apply KeepBut.set_|apply keep_drewN|apply keep_drew|apply keep_alloc|refine keep_far ?_ GW340.out _|refine keep_far ?_ GW350.out _)|exact HK.out))));have n3_:=Aside0.mk (IsS93.below (by repeat (first|(with_reducible first|exact HI0.out|apply IsS93.alloc|apply IsS93.drewN|apply IsS93.drew|apply IsS93.set_1|apply IsS93.set_2|refine IsS93.far ?_ NB0_340.out _|refine IsS93.far ?_ NB0_350.out _)|exact HI0.out)) hb);have n4_:=Aside0.mk (blk_below (g:=gb340) (o:=.cells #[.int .i64 0,.slice none 0 0] 26 (0,0)) (bk BK340) hb);have n5_:=Aside0.mk (blk_below (g:=gb350) (o:=.cells #[.int .i64 t344,.slice Ao13 t345.length co13] 26 (0,0)) (bk BK350) hb);have n6_:=Aside0.mk (KeepBut.trans (by repeat (first|(with_reducible first|exact HK.out|apply KeepBut.set_|apply keep_drewN|apply keep_drew|apply keep_alloc|refine keep_far ?_ GW340.out _|refine keep_far ?_ GW350.out _)|exact HK.out)) (KeepBut.of_below hb g none) (.inl rfl));have n7_:=Aside0.mk (below_step (by repeat (first|(with_reducible first|exact HB.out|apply below_alloc|apply pw_below_drewN|apply below_drew1|refine below_set ?_ (IsS93.ge HI0.out)|refine below_set ?_ GE340.out|refine below_set ?_ GE350.out)|exact HB.out)) hb);clear HO343;clear HO347;clear HI0;clear BK340;clear BK350;clear HK;clear HB;have HO343:=n0_;have HO347:=n1_;have HO359:=n2_;have HI0:=n3_;have BK340:=n4_;have BK350:=n5_;have HK:=n6_;have HB:=n7_;clear n0_ n1_ n2_ n3_ n4_ n5_ n6_ n7_;clear hb ho17;obtain ⟨Ao18,co18,eo18⟩:=Kd.R_slice HO359.out;subst eo18)|((with_reducible refine gate_callee (f:=71) rfl ?_);refine goesL_ (some 23) rfl rfl Try.func71 (by kernel_rfl) rfl #[.pointer (some ⟨g,0,none⟩),.slice Ao18 y357.length co18] rfl (by (try simp only [List.map_toArray,List.map_cons,List.map_nil]);first|done|rfl|(simp only [List.length_drop,List.length_take];rfl)) ?_;(with_reducible refine (spec_l1Int.calls g s0_0 t355 t356 _ _ y357 t360 t361 t362 w0 _ ?side1 ?side2 ?side3 ?side4 ?side5 A6.out).mono ?_);(case side1=>repeat (first|(with_reducible first|exact HI0.out|apply IsS93.alloc|apply IsS93.drewN|apply IsS93.drew|apply IsS93.set_1|apply IsS93.set_2|refine IsS93.far ?_ NB0_340.out _|refine IsS93.far ?_ NB0_350.out _)|exact HI0.out));(case side2=>repeat (first|(with_reducible first|exact HB.out|apply below_alloc|apply pw_below_drewN|apply below_drew1|refine below_set ?_ (IsS93.ge HI0.out)|refine below_set ?_ GE340.out|refine below_set ?_ GE350.out)|exact HB.out));(case side3=>exact sR HO359);(case side4=>exact (Kd.R_reads' HO359.out).2.1);(case side5=>exact far_slice (IsS93.own_ne HI0.out HO359.out (by decide)));rintro e w19 ⟨rfl,hi,hb,hk⟩;refine ⟨_,rfl,?_⟩;have n0_:=Aside0.mk (KeepBut.blk hk (g':=gb340) (o:=.cells #[.int .i64 0,.slice none 0 0] 26 (0,0)) (bk BK340) NB340_0.out (by simp));have n1_:=Aside0.mk (Kd.R_mono (Kd.R_keep (IsS93.apart (show IsS93 w0 _ g s0_0 t355 t356 from by repeat (first|(with_reducible first|exact HI0.out|apply IsS93.alloc|apply IsS93.drewN|apply IsS93.drew|apply IsS93.set_1|apply IsS93.set_2|refine IsS93.far ?_ NB0_340.out _|refine IsS93.far ?_ NB0_350.out _)|exact HI0.out)) (rR HO343) (by decide)) hk (fun _ h=>h.2)) (fun _ h=>h.1));have n2_:=Aside0.mk (Kd.S_mono (Kd.S_keep (IsS93.apartS (show IsS93 w0 _ g s0_0 t355 t356 from by repeat (first|(with_reducible first|exact HI0.out|apply IsS93.alloc|apply IsS93.drewN|apply IsS93.drew|apply IsS93.set_1|apply IsS93.set_2|refine IsS93.far ?_ NB0_340.out _|refine IsS93.far ?_ NB0_350.out _)|exact HI0.out)) (rS HO347) (by decide)) hk (fun _ h=>h.2)) (fun _ h=>h.1));have n3_:=Aside0.mk (KeepBut.blk hk (g':=gb350) (o:=.cells #[.int .i64 t344,.slice Ao13 t345.length co13] 26 (0,0)) (bk BK350) NB350_0.out (by simp));have n4_:=Aside0.mk (Kd.R_mono (Kd.R_keep (IsS93.apart (show IsS93 w0 _ g s0_0 t355 t356 from by repeat (first|(with_reducible first|exact HI0.out|apply IsS93.alloc|apply IsS93.drewN|apply IsS93.drew|apply IsS93.set_1|apply IsS93.set_2|refine IsS93.far ?_ NB0_340.out _|refine IsS93.far ?_ NB0_350.out _)|exact HI0.out)) (rR HO359) (by decide)) hk (fun _ h=>h.2)) (fun _ h=>h.1));have n5_:=Aside0.mk (KeepBut.trans (by repeat (first|(with_reducible first|exact HK.out|apply KeepBut.set_|apply keep_drewN|apply keep_drew|apply keep_alloc|refine keep_far ?_ GW340.out _|refine keep_far ?_ GW350.out _)|exact HK.out)) hk (.inl rfl));have n6_:=Aside0.mk (hb);have n7_:=Aside0.mk (hi);clear BK340;clear HO343;clear HO347;clear BK350;clear HO359;clear HK;clear HB;clear HI0;have BK340:=n0_;have HO343:=n1_;have HO347:=n2_;have BK350:=n3_;have HO359:=n4_;have HK:=n5_;have HB:=n6_;have HI0:=n7_;clear n0_ n1_ n2_ n3_ n4_ n5_ n6_ n7_;(try clear hb);(try clear hb2);(try clear hk);(try clear hi);have hcz20_0:w19.cell? ⟨gb350,0,none⟩=some (.int .i64 t344):=(blk_cell BK350.out 0).trans rfl;have hcz20_1:w19.cell? ⟨gb350,1,none⟩=some (.slice Ao13 t345.length co13):=(blk_cell BK350.out 1).trans rfl;have hfz20_0:=blk_frozen BK350.out 0;have hfz20_1:=blk_frozen BK350.out 1))
  have n0_:Aside0 (Kd.R k61 61 (w19.setCell ⟨gb350,0,none⟩ (.int .i64 t360)) w.heap.size (fun _=>True) v342 t341):=⟨by (with_reducible repeat (first|apply Kd.R_alloc|apply Kd.R_drewN|apply Kd.R_drew));exact Kd.R_mono (Kd.R_far (p:=⟨gb350,0,none⟩) (Kd.R_types HO343.out BK350.out (by decide)) (fun _ hk=>hk.2) (.int .i64 t360)) (fun _ hk=>trivial)⟩
  have n1_:Aside0 (Kd.S k35 35 (w19.setCell ⟨gb350,0,none⟩ (.int .i64 t360)) w.heap.size (fun k_=>some k_ ≠ (.slice Ao18 y357.length co18:Value).ownBlock) (.slice Ao13 t345.length co13) t345):=⟨by (with_reducible repeat (first|apply Kd.S_alloc|apply Kd.S_drewN|apply Kd.S_drew));exact Kd.S_mono (Kd.S_far (p:=⟨gb350,0,none⟩) (Kd.S_types HO347.out BK350.out (by decide)) (fun _ hk=>hk.2) (.int .i64 t360)) (fun _ hk=>hk.1.2)⟩
  have n2_:Aside0 (Kd.R (Kd.int .i64) 3 (w19.setCell ⟨gb350,0,none⟩ (.int .i64 t360)) w.heap.size (fun _=>True) (.slice Ao18 y357.length co18) y357):=⟨by (with_reducible repeat (first|apply Kd.R_alloc|apply Kd.R_drewN|apply Kd.R_drew));exact Kd.R_mono (Kd.R_far (p:=⟨gb350,0,none⟩) (Kd.R_types HO359.out BK350.out (by decide)) (fun _ hk=>hk.2) (.int .i64 t360)) (fun _ hk=>trivial)⟩
  have n3_:Aside0 ((w19.setCell ⟨gb350,0,none⟩ (.int .i64 t360)).heap[gb340]?=some (.cells #[.int .i64 0,.slice none 0 0] 26 (0,0))):=⟨by (with_reducible repeat (first|refine blk_drewN ?_ _|refine blk_drew ?_|refine blk_alloc ?_ _));refine blk_far ?_ NB340_350.out _;(with_reducible repeat (first|refine blk_drewN ?_ _|refine blk_drew ?_|refine blk_alloc ?_ _));exact BK340.out⟩
  have n4_:Aside0 ((w19.setCell ⟨gb350,0,none⟩ (.int .i64 t360)).heap[gb350]?=some (.cells #[.int .i64 t360,.slice Ao13 t345.length co13] 26 (0,0))):=⟨by (with_reducible repeat (first|refine blk_drewN ?_ _|refine blk_drew ?_|refine blk_alloc ?_ _));refine blk_put (cs:=#[.int .i64 t344,.slice Ao13 t345.length co13]) ?_ 0 _ rfl;(with_reducible repeat (first|refine blk_drewN ?_ _|refine blk_drew ?_|refine blk_alloc ?_ _));exact BK350.out⟩
  have n5_:Aside0 (IsS93 w0 (w19.setCell ⟨gb350,0,none⟩ (.int .i64 t360)) g s0_0 t361 t362):=⟨by repeat (first|(with_reducible first|exact HI0.out|apply IsS93.alloc|apply IsS93.drewN|apply IsS93.drew|apply IsS93.set_1|apply IsS93.set_2|refine IsS93.far ?_ NB0_340.out _|refine IsS93.far ?_ NB0_350.out _)|exact HI0.out)⟩
  have n6_:Aside0 (KeepBut w (w19.setCell ⟨gb350,0,none⟩ (.int .i64 t360)) g none):=⟨by repeat (first|(with_reducible first|exact HK.out|apply KeepBut.set_|apply keep_drewN|apply keep_drew|apply keep_alloc|refine keep_far ?_ GW340.out _|refine keep_far ?_ GW350.out _)|exact HK.out)⟩
  have n7_:Aside0 (Below w0.heap.size w0 (w19.setCell ⟨gb350,0,none⟩ (.int .i64 t360))):=⟨by repeat (first|(with_reducible first|exact HB.out|apply below_alloc|apply pw_below_drewN|apply below_drew1|refine below_set ?_ (IsS93.ge HI0.out)|refine below_set ?_ GE340.out|refine below_set ?_ GE350.out)|exact HB.out)⟩
  (try clear HO343)
  (try clear HO347)
  (try clear HO359)
  (try clear BK340)
  (try clear BK350)
  (try clear HI0)
  (try clear HK)
  (try clear HB)
  generalize (w19.setCell ⟨gb350,0,none⟩ (.int .i64 t360))=w21 at n0_ n1_ n2_ n3_ n4_ n5_ n6_ n7_ ⊢
  have HO343:=n0_
  have HO347:=n1_
  have HO359:=n2_
  have BK340:=n3_
  have BK350:=n4_
  have HI0:=n5_
  have HK:=n6_
  have HB:=n7_
  clear n0_ n1_ n2_ n3_ n4_ n5_ n6_ n7_
  have n0_:=Aside0.mk (Kd.R_drew HO343.out)
  have n1_:=Aside0.mk (Kd.S_drew HO347.out)
  have n2_:=Aside0.mk (Kd.R_drew HO359.out)
  have n3_:=Aside0.mk (blk_drew BK340.out)
  have n4_:=Aside0.mk (blk_drew BK350.out)
  have n5_:=Aside0.mk (IsS93.drew HI0.out)
  have n6_:=Aside0.mk (keep_drew HK.out)
  have n7_:=Aside0.mk (below_drew1 HB.out)
  clear HO343
  clear HO347
  clear HO359
  clear BK340
  clear BK350
  clear HI0
  clear HK
  clear HB
  have HO343:=n0_
  have HO347:=n1_
  have HO359:=n2_
  have BK340:=n3_
  have BK350:=n4_
  have HI0:=n5_
  have HK:=n6_
  have HB:=n7_
  clear n0_ n1_ n2_ n3_ n4_ n5_ n6_ n7_
  refine start_ (n:=4) (S:=fun w'=>w'.cell? ⟨gb350,0,none⟩=some (.int .i64 t360)∧w'.cell? ⟨gb350,1,none⟩=some (.slice Ao13 t345.length co13)) (ds:=[]) (fl 4 0) (by kernel_rfl) rfl rfl ⟨(blk_cell BK350.out 0).trans rfl,(blk_cell BK350.out 1).trans rfl⟩ (fun hHeld=>?_)
  generalize w21.drew=w22 at HO343 HO347 HO359 BK340 BK350 HI0 HK HB hHeld ⊢
  refine pu 0 63 (fl 4 1) ?_
  refine pu 2 2 (fl 4 5) ?_
  refine ta 1 64 (fl 4 7) hHeld ?_
  refine on 3 none (fl 4 15) (fun K hK=>?_)
  have hs23:w22.cell? ⟨gb340,0,none⟩=some (.int .i64 0):=(blk_cell BK340.out 0).trans rfl
  have hfs23:=blk_frozen BK340.out 0
  have hns23_1:=NB350_340.out
  have hms23_1:=NB340_350.out
  have hs24:w22.cell? ⟨gb340,1,none⟩=some (.slice none 0 0):=(blk_cell BK340.out 1).trans rfl
  have hfs24:=blk_frozen BK340.out 1
  have hns24_1:=NB350_340.out
  have hms24_1:=NB340_350.out
  refine skip_ (w1:=?_) (by rfl) rfl ?_ ?_
  rotate_left
  ·go_simp
   rfl
  refine hK.out _ _ ⟨((cell_far (p:=⟨gb340,_,none⟩) NB350_340.out _).trans (((cell_far (p:=⟨gb340,_,none⟩) NB350_340.out _).trans (hHeld.1)))),((cell_far (p:=⟨gb340,_,none⟩) NB350_340.out _).trans (((cell_far (p:=⟨gb340,_,none⟩) NB350_340.out _).trans (hHeld.2))))⟩ (fun hHeld=>?_)
  clear hK K
  refine done_ (by kernel_rfl) ?_
  try go_wp2
  refine bodyPost_ret (results_tc rfl _ _ gb340 26 #[.int .i64 t360,.slice Ao13 t345.length co13] (0,0) _ rfl (by (with_reducible repeat (first|refine blk_drewN ?_ _|refine blk_drew ?_|refine blk_alloc ?_ _));refine blk_put (cs:=#[.int .i64 t360,.slice none 0 0]) ?_ 1 _ rfl;(with_reducible repeat (first|refine blk_drewN ?_ _|refine blk_drew ?_|refine blk_alloc ?_ _));refine blk_put (cs:=#[.int .i64 0,.slice none 0 0]) ?_ 0 _ rfl;(with_reducible repeat (first|refine blk_drewN ?_ _|refine blk_drew ?_|refine blk_alloc ?_ _));exact BK340.out) Try.underlying26 rfl (by kernel_rfl)) rfl ?_
  exact ⟨_,_,rz,by (with_reducible repeat (first|apply Kd.R_alloc|apply Kd.R_drewN|apply Kd.R_drew));exact Kd.R_mono (Kd.R_far (p:=⟨gb340,1,none⟩) (Kd.R_far (p:=⟨gb340,0,none⟩) (Kd.R_types HO343.out BK340.out (by decide)) (fun _ hk=>hk.2) (.int .i64 t360)) (fun _ hk=>hk.2) (.slice Ao13 t345.length co13)) (fun _ hk=>trivial),by (with_reducible repeat (first|apply Kd.S_alloc|apply Kd.S_drewN|apply Kd.S_drew));exact Kd.S_mono (Kd.S_far (p:=⟨gb340,1,none⟩) (Kd.S_far (p:=⟨gb340,0,none⟩) (Kd.S_types HO347.out BK340.out (by decide)) (fun _ hk=>hk.2) (.int .i64 t360)) (fun _ hk=>hk.2) (.slice Ao13 t345.length co13)) (fun _ hk=>trivial),by repeat (first|(with_reducible first|exact HI0.out|apply IsS93.alloc|apply IsS93.drewN|apply IsS93.drew|apply IsS93.set_1|apply IsS93.set_2|refine IsS93.far ?_ NB0_340.out _|refine IsS93.far ?_ NB0_350.out _)|exact HI0.out),by repeat (first|(with_reducible first|exact HB.out|apply below_alloc|apply pw_below_drewN|apply below_drew1|refine below_set ?_ (IsS93.ge HI0.out)|refine below_set ?_ GE340.out|refine below_set ?_ GE350.out)|exact HB.out),by repeat (first|(with_reducible first|exact HK.out|apply KeepBut.set_|apply keep_drewN|apply keep_drew|apply keep_alloc|refine keep_far ?_ GW340.out _|refine keep_far ?_ GW350.out _)|exact HK.out)⟩
 ·rw [if_neg c5] at H
  have c5b0:(t354 == 0)=false:=beq_eq_false_iff_ne.mpr c5
  have c5b1:(t354 != 0)=true:=bne_iff_ne.mpr c5
  by_cases c25:t354=1
  ·rw [if_pos c25] at H
   have c25b0:(t354 == 1)=true:=beq_iff_eq.mpr c25
   have c25b1:(t354 != 1)=false:=bne_eq_false_iff_eq.mpr c25
   clear c25
   by_cases c26:0≤t351
   ·rw [if_pos c26] at H
    have c26b0:decide (0≤t351)=true:=decide_eq_true c26
    clear c26
    by_cases c27:t351 < (t345.length:Int)
    ·rw [if_pos c27] at H
     have c27b0:decide (t351 < (t345.length:Int))=true:=decide_eq_true c27
     clear c27
     replace H:=Option.bind_eq_some_iff.mp H
     obtain ⟨⟨t364,t365,t366⟩,A280,H⟩:=H
     try dsimp only at H
     have A28:=Aside0.mk A280
     clear A280
     by_cases c29:((rd_T35 t345 t351).f0).length < 17592186044416
     ·rw [if_pos c29] at H
      have LMc29:=Aside0.mk c29
      clear c29
      obtain ⟨y367,hy367⟩ : ∃ y_:List Int,y_=(((rd_T35 t345 t351).f0) ++ [t364]):=⟨_,rfl⟩
      replace H:(some (t341,t344,(t345.set (t351:Int).toNat (⟨y367⟩:S35)),t365,t366))=some (r1,r2,r3,r4,r5):=by first|(rw [hy367];with_reducible exact H)|(have H2_:=(Option.bind_some _ _).symm.trans H;rw [hy367];with_reducible exact H2_)|(have H2_:=(Option.bind_some _ _).symm.trans H;with_reducible exact H2_)|with_reducible exact H|(rw [hy367];exact H)|exact H
      have Ny367:=Aside0.mk hy367
      clear hy367
      obtain ⟨y370,hy370⟩ : ∃ y_:List (S35),y_=(t345.set (t351:Int).toNat (⟨y367⟩:S35)):=⟨_,rfl⟩
      replace H:(some (t341,t344,y370,t365,t366))=some (r1,r2,r3,r4,r5):=by first|(rw [hy370];with_reducible exact H)|(have H2_:=(Option.bind_some _ _).symm.trans H;rw [hy370];with_reducible exact H2_)|(have H2_:=(Option.bind_some _ _).symm.trans H;with_reducible exact H2_)|with_reducible exact H|(rw [hy370];exact H)|exact H
      have Ny370:=Aside0.mk hy370
      clear hy370
      simp only [Option.some.injEq,Prod.mk.injEq] at H
      obtain ⟨rfl,rfl,rfl,rfl,rfl⟩:=H
      go_enter Try.func39,Try.ntmps39
      try go_wp2_with (first|((with_reducible refine gate_dst (N:=3) rfl ?_);refine box_event ?hg (N:=3) ?hd (cs:=#[.int .i64 0,.slice none 0 0]) (t:=26) ?hr ?_;(case hd=>rfl);(case hg=>rfl);(case hr=>first|(go_simp;done)|(go_simp;rfl));intro gb340 hg w31 hbox hb;have n0_:=Aside0.mk (IsS93.below (by repeat (first|(with_reducible first|exact HI0.out|apply IsS93.alloc|apply IsS93.drewN|apply IsS93.drew|apply IsS93.set_1|apply IsS93.set_2)|exact HI0.out)) hb);have n1_:=Aside0.mk (KeepBut.trans (by repeat (first|(with_reducible first|exact HK.out|apply KeepBut.set_|apply keep_drewN|apply keep_drew|apply keep_alloc)|exact HK.out)) (KeepBut.of_below hb g none) (.inl rfl));have n2_:=Aside0.mk (below_step (by repeat (first|(with_reducible first|exact HB.out|apply below_alloc|apply pw_below_drewN|apply below_drew1|refine below_set ?_ (IsS93.ge HI0.out))|exact HB.out)) hb);have n3_:=Aside0.mk (hbox);have n4_:=Aside0.mk ((by rw [hg];exact (keep_size (w:=w) (g:=g) (row:=none) (by repeat (first|(with_reducible first|exact HK.out|apply KeepBut.set_|apply keep_drewN|apply keep_drew|apply keep_alloc)|exact HK.out))):w.heap.size≤gb340));have n5_:=Aside0.mk ((Nat.le_trans HW0.out (by rw [hg];exact (keep_size (w:=w) (g:=g) (row:=none) (by repeat (first|(with_reducible first|exact HK.out|apply KeepBut.set_|apply keep_drewN|apply keep_drew|apply keep_alloc)|exact HK.out))):w.heap.size≤gb340):w0.heap.size≤gb340));have n6_:=Aside0.mk ((by rw [hg];exact Nat.ne_of_lt (IsS93.lt (show IsS93 w0 _ g s0_0 s0_1 s0_2 from by repeat (first|(with_reducible first|exact HI0.out|apply IsS93.alloc|apply IsS93.drewN|apply IsS93.drew|apply IsS93.set_1|apply IsS93.set_2)|exact HI0.out))):g ≠ gb340));have n7_:=Aside0.mk ((by rw [hg];exact Nat.ne_of_gt (IsS93.lt (show IsS93 w0 _ g s0_0 s0_1 s0_2 from by repeat (first|(with_reducible first|exact HI0.out|apply IsS93.alloc|apply IsS93.drewN|apply IsS93.drew|apply IsS93.set_1|apply IsS93.set_2)|exact HI0.out))):gb340 ≠ g));clear HI0;clear HK;clear HB;have HI0:=n0_;have HK:=n1_;have HB:=n2_;have BK340:=n3_;have GW340:=n4_;have GE340:=n5_;have NB0_340:=n6_;have NB340_0:=n7_;clear n0_ n1_ n2_ n3_ n4_ n5_ n6_ n7_;clear hb hbox hg)|((with_reducible refine gate_callee (f:=37) rfl ?_);refine goesL_ (some 9) rfl rfl Try.func37 (by kernel_rfl) rfl #[.pointer (some ⟨g,0,none⟩)] rfl (by (try simp only [List.map_toArray,List.map_cons,List.map_nil]);first|done|rfl|(simp only [List.length_drop,List.length_take];rfl)) ?_;(with_reducible refine (spec_l5Draw.calls k g s0_0 s0_1 s0_2 t341 t344 t345 t348 t349 w0 _ ?side1 ?side2 A2.out).mono ?_);(case side1=>repeat (first|(with_reducible first|exact HI0.out|apply IsS93.alloc|apply IsS93.drewN|apply IsS93.drew|apply IsS93.set_1|apply IsS93.set_2|refine IsS93.far ?_ NB0_340.out _)|exact HI0.out));(case side2=>repeat (first|(with_reducible first|exact HB.out|apply below_alloc|apply pw_below_drewN|apply below_drew1|refine below_set ?_ (IsS93.ge HI0.out)|refine below_set ?_ GE340.out)|exact HB.out));rintro e w32 ⟨v342,v346,rfl,ho0,ho1,hi,hb,hk⟩;refine ⟨_,rfl,?_⟩;have n0_:=Aside0.mk (KeepBut.blk hk (g':=gb340) (o:=.cells #[.int .i64 0,.slice none 0 0] 26 (0,0)) (bk BK340) NB340_0.out (by simp));have n1_:=Aside0.mk (Kd.R_lower ho0 (keep_size (w:=w) (g:=g) (row:=none) (by repeat (first|(with_reducible first|exact HK.out|apply KeepBut.set_|apply keep_drewN|apply keep_drew|apply keep_alloc|refine keep_far ?_ GW340.out _)|exact HK.out))));have n2_:=Aside0.mk (Kd.S_lower ho1 (keep_size (w:=w) (g:=g) (row:=none) (by repeat (first|(with_reducible first|exact HK.out|apply KeepBut.set_|apply keep_drewN|apply keep_drew|apply keep_alloc|refine keep_far ?_ GW340.out _)|exact HK.out))));have n3_:=Aside0.mk (KeepBut.trans (by repeat (first|(with_reducible first|exact HK.out|apply KeepBut.set_|apply keep_drewN|apply keep_drew|apply keep_alloc|refine keep_far ?_ GW340.out _)|exact HK.out)) hk (.inl rfl));have n4_:=Aside0.mk (hb);have n5_:=Aside0.mk (hi);clear BK340;clear HK;clear HB;clear HI0;have BK340:=n0_;have HO343:=n1_;have HO347:=n2_;have HK:=n3_;have HB:=n4_;have HI0:=n5_;clear n0_ n1_ n2_ n3_ n4_ n5_;(try clear hb);(try clear hb2);(try clear hk);(try clear hi);(try clear ho0);(try clear ho1))|((with_reducible refine gate_dst (N:=5) rfl ?_);refine box_event ?hg (N:=5) ?hd (cs:=#[.int .i64 0,.slice none 0 0]) (t:=26) ?hr ?_;(case hd=>rfl);(case hg=>rfl);(case hr=>first|(go_simp;done)|(go_simp;rfl));intro gb350 hg w33 hbox hb;have n0_:=Aside0.mk (Kd.R_below (rR HO343) hb);have n1_:=Aside0.mk (Kd.S_below (rS HO347) hb);have n2_:=Aside0.mk (IsS93.below (by repeat (first|(with_reducible first|exact HI0.out|apply IsS93.alloc|apply IsS93.drewN|apply IsS93.drew|apply IsS93.set_1|apply IsS93.set_2|refine IsS93.far ?_ NB0_340.out _)|exact HI0.out)) hb);have n3_:=Aside0.mk (blk_below (g:=gb340) (o:=.cells #[.int .i64 0,.slice none 0 0] 26 (0,0)) (bk BK340) hb);have n4_:=Aside0.mk (KeepBut.trans (by repeat (first|(with_reducible first|exact HK.out|apply KeepBut.set_|apply keep_drewN|apply keep_drew|apply keep_alloc|refine keep_far ?_ GW340.out _)|exact HK.out)) (KeepBut.of_below hb g none) (.inl rfl));have n5_:=Aside0.mk (below_step (by repeat (first|(with_reducible first|exact HB.out|apply below_alloc|apply pw_below_drewN|apply below_drew1|refine below_set ?_ (IsS93.ge HI0.out)|refine below_set ?_ GE340.out)|exact HB.out)) hb);have n6_:=Aside0.mk (hbox);have n7_:=Aside0.mk ((by rw [hg];exact (keep_size (w:=w) (g:=g) (row:=none) (by repeat (first|(with_reducible first|exact HK.out|apply KeepBut.set_|apply keep_drewN|apply keep_drew|apply keep_alloc|refine keep_far ?_ GW340.out _)|exact HK.out))):w.heap.size≤gb350));have n8_:=Aside0.mk ((Nat.le_trans HW0.out (by rw [hg];exact (keep_size (w:=w) (g:=g) (row:=none) (by repeat (first|(with_reducible first|exact HK.out|apply KeepBut.set_|apply keep_drewN|apply keep_drew|apply keep_alloc|refine keep_far ?_ GW340.out _)|exact HK.out))):w.heap.size≤gb350):w0.heap.size≤gb350));have n9_:=Aside0.mk ((by rw [hg];exact Nat.ne_of_lt (blk_lt (g:=gb340) (o:=.cells #[.int .i64 0,.slice none 0 0] 26 (0,0)) (bk BK340)):gb340 ≠ gb350));have n10_:=Aside0.mk ((by rw [hg];exact Nat.ne_of_gt (blk_lt (g:=gb340) (o:=.cells #[.int .i64 0,.slice none 0 0] 26 (0,0)) (bk BK340)):gb350 ≠ gb340));have n11_:=Aside0.mk ((by rw [hg];exact Nat.ne_of_lt (IsS93.lt (show IsS93 w0 _ g s0_0 t348 t349 from by repeat (first|(with_reducible first|exact HI0.out|apply IsS93.alloc|apply IsS93.drewN|apply IsS93.drew|apply IsS93.set_1|apply IsS93.set_2|refine IsS93.far ?_ NB0_340.out _)|exact HI0.out))):g ≠ gb350));have n12_:=Aside0.mk ((by rw [hg];exact Nat.ne_of_gt (IsS93.lt (show IsS93 w0 _ g s0_0 t348 t349 from by repeat (first|(with_reducible first|exact HI0.out|apply IsS93.alloc|apply IsS93.drewN|apply IsS93.drew|apply IsS93.set_1|apply IsS93.set_2|refine IsS93.far ?_ NB0_340.out _)|exact HI0.out))):gb350 ≠ g));clear HO343;clear HO347;clear HI0;clear BK340;clear HK;clear HB;have HO343:=n0_;have HO347:=n1_;have HI0:=n2_;have BK340:=n3_;have HK:=n4_;have HB:=n5_;have BK350:=n6_;have GW350:=n7_;have GE350:=n8_;have NB340_350:=n9_;have NB350_340:=n10_;have NB0_350:=n11_;have NB350_0:=n12_;clear n0_ n1_ n2_ n3_ n4_ n5_ n6_ n7_ n8_ n9_ n10_ n11_ n12_;clear hb hbox hg;have hnb34:=NB350_340.out;have hnc34:=NB340_350.out;have hnb35:=NB350_0.out;have hnc35:=NB0_350.out;have hcz36_0:w33.cell? ⟨gb350,0,none⟩=some (.int .i64 0):=(blk_cell BK350.out 0).trans rfl;have hcz36_1:w33.cell? ⟨gb350,1,none⟩=some (.slice none 0 0):=(blk_cell BK350.out 1).trans rfl;have hfz36_0:=blk_frozen BK350.out 0;have hfz36_1:=blk_frozen BK350.out 1;obtain ⟨Ao37,co37,eo37⟩:=Kd.S_slice HO347.out;subst eo37)|((with_reducible refine gate_callee (f:=74) rfl ?_);refine goesL_ (some 16) rfl rfl Try.func74 (by kernel_rfl) rfl #[.pointer (some ⟨g,0,none⟩),.int .i64 (t345.length:Int)] rfl (by (try simp only [List.map_toArray,List.map_cons,List.map_nil]);first|done|rfl|(simp only [List.length_drop,List.length_take];rfl)) ?_;(with_reducible refine (spec_l1Below.calls g s0_0 t348 t349 (t345.length:Int) t351 t352 t353 w0 _ ?side1 ?side2 A3.out).mono ?_);(case side1=>repeat (first|(with_reducible first|exact HI0.out|apply IsS93.alloc|apply IsS93.drewN|apply IsS93.drew|apply IsS93.set_1|apply IsS93.set_2|refine IsS93.far ?_ NB0_340.out _|refine IsS93.far ?_ NB0_350.out _)|exact HI0.out));(case side2=>repeat (first|(with_reducible first|exact HB.out|apply below_alloc|apply pw_below_drewN|apply below_drew1|refine below_set ?_ (IsS93.ge HI0.out)|refine below_set ?_ GE340.out|refine below_set ?_ GE350.out)|exact HB.out));rintro e w38 ⟨rfl,hi,hb,hk⟩;refine ⟨_,rfl,?_⟩;have n0_:=Aside0.mk (KeepBut.blk hk (g':=gb340) (o:=.cells #[.int .i64 0,.slice none 0 0] 26 (0,0)) (by (with_reducible repeat (first|refine blk_drewN ?_ _|refine blk_drew ?_|refine blk_alloc ?_ _));refine blk_far ?_ NB340_350.out _;(with_reducible repeat (first|refine blk_drewN ?_ _|refine blk_drew ?_|refine blk_alloc ?_ _));refine blk_far ?_ NB340_350.out _;(with_reducible repeat (first|refine blk_drewN ?_ _|refine blk_drew ?_|refine blk_alloc ?_ _));exact BK340.out) NB340_0.out (by simp));have n1_:=Aside0.mk (Kd.R_mono (Kd.R_keep (IsS93.apart (show IsS93 w0 _ g s0_0 t348 t349 from by repeat (first|(with_reducible first|exact HI0.out|apply IsS93.alloc|apply IsS93.drewN|apply IsS93.drew|apply IsS93.set_1|apply IsS93.set_2|refine IsS93.far ?_ NB0_340.out _|refine IsS93.far ?_ NB0_350.out _)|exact HI0.out)) (by (with_reducible repeat (first|apply Kd.R_alloc|apply Kd.R_drewN|apply Kd.R_drew));exact (Kd.R_mono (Kd.R_far (p:=⟨gb350,1,none⟩) (Kd.R_far (p:=⟨gb350,0,none⟩) (Kd.R_types HO343.out BK350.out (by decide)) (fun _ hk=>hk.2) (.int .i64 t344)) (fun _ hk=>hk.2) (.slice Ao37 t345.length co37)) (fun _ h_=>h_.1))) (by decide)) hk (fun _ h=>h.2)) (fun _ h=>h.1));have n2_:=Aside0.mk (Kd.S_mono (Kd.S_keep (IsS93.apartS (show IsS93 w0 _ g s0_0 t348 t349 from by repeat (first|(with_reducible first|exact HI0.out|apply IsS93.alloc|apply IsS93.drewN|apply IsS93.drew|apply IsS93.set_1|apply IsS93.set_2|refine IsS93.far ?_ NB0_340.out _|refine IsS93.far ?_ NB0_350.out _)|exact HI0.out)) (by (with_reducible repeat (first|apply Kd.S_alloc|apply Kd.S_drewN|apply Kd.S_drew));exact (Kd.S_mono (Kd.S_far (p:=⟨gb350,1,none⟩) (Kd.S_far (p:=⟨gb350,0,none⟩) (Kd.S_types HO347.out BK350.out (by decide)) (fun _ hk=>hk.2) (.int .i64 t344)) (fun _ hk=>hk.2) (.slice Ao37 t345.length co37)) (fun _ h_=>h_.1))) (by decide)) hk (fun _ h=>h.2)) (fun _ h=>h.1));have n3_:=Aside0.mk (KeepBut.blk hk (g':=gb350) (o:=.cells #[.int .i64 t344,.slice Ao37 t345.length co37] 26 (0,0)) (by (with_reducible repeat (first|refine blk_drewN ?_ _|refine blk_drew ?_|refine blk_alloc ?_ _));refine blk_put (cs:=#[.int .i64 t344,.slice none 0 0]) ?_ 1 _ rfl;(with_reducible repeat (first|refine blk_drewN ?_ _|refine blk_drew ?_|refine blk_alloc ?_ _));refine blk_put (cs:=#[.int .i64 0,.slice none 0 0]) ?_ 0 _ rfl;(with_reducible repeat (first|refine blk_drewN ?_ _|refine blk_drew ?_|refine blk_alloc ?_ _));exact BK350.out) NB350_0.out (by simp));have n4_:=Aside0.mk (KeepBut.trans (by repeat (first|(with_reducible first|exact HK.out|apply KeepBut.set_|apply keep_drewN|apply keep_drew|apply keep_alloc|refine keep_far ?_ GW340.out _|refine keep_far ?_ GW350.out _)|exact HK.out)) hk (.inl rfl));have n5_:=Aside0.mk (hb);have n6_:=Aside0.mk (hi);clear BK340;clear HO343;clear HO347;clear BK350;clear HK;clear HB;clear HI0;have BK340:=n0_;have HO343:=n1_;have HO347:=n2_;have BK350:=n3_;have HK:=n4_;have HB:=n5_;have HI0:=n6_;clear n0_ n1_ n2_ n3_ n4_ n5_ n6_;(try clear hb);(try clear hb2);(try clear hk);(try clear hi))|((with_reducible refine gate_callee (f:=74) rfl ?_);refine goesL_ (some 18) rfl rfl Try.func74 (by kernel_rfl) rfl #[.pointer (some ⟨g,0,none⟩),.int .i64 10] rfl (by (try simp only [List.map_toArray,List.map_cons,List.map_nil]);first|done|rfl|(simp only [List.length_drop,List.length_take];rfl)) ?_;(with_reducible refine (spec_l1Below.calls g s0_0 t352 t353 10 t354 t355 t356 w0 _ ?side1 ?side2 A4.out).mono ?_);(case side1=>repeat (first|(with_reducible first|exact HI0.out|apply IsS93.alloc|apply IsS93.drewN|apply IsS93.drew|apply IsS93.set_1|apply IsS93.set_2|refine IsS93.far ?_ NB0_340.out _|refine IsS93.far ?_ NB0_350.out _)|exact HI0.out));(case side2=>repeat (first|(with_reducible first|exact HB.out|apply below_alloc|apply pw_below_drewN|apply below_drew1|refine below_set ?_ (IsS93.ge HI0.out)|refine below_set ?_ GE340.out|refine below_set ?_ GE350.out)|exact HB.out));rintro e w39 ⟨rfl,hi,hb,hk⟩;refine ⟨_,rfl,?_⟩;have n0_:=Aside0.mk (KeepBut.blk hk (g':=gb340) (o:=.cells #[.int .i64 0,.slice none 0 0] 26 (0,0)) (bk BK340) NB340_0.out (by simp));have n1_:=Aside0.mk (Kd.R_mono (Kd.R_keep (IsS93.apart (show IsS93 w0 _ g s0_0 t352 t353 from by repeat (first|(with_reducible first|exact HI0.out|apply IsS93.alloc|apply IsS93.drewN|apply IsS93.drew|apply IsS93.set_1|apply IsS93.set_2|refine IsS93.far ?_ NB0_340.out _|refine IsS93.far ?_ NB0_350.out _)|exact HI0.out)) (rR HO343) (by decide)) hk (fun _ h=>h.2)) (fun _ h=>h.1));have n2_:=Aside0.mk (Kd.S_mono (Kd.S_keep (IsS93.apartS (show IsS93 w0 _ g s0_0 t352 t353 from by repeat (first|(with_reducible first|exact HI0.out|apply IsS93.alloc|apply IsS93.drewN|apply IsS93.drew|apply IsS93.set_1|apply IsS93.set_2|refine IsS93.far ?_ NB0_340.out _|refine IsS93.far ?_ NB0_350.out _)|exact HI0.out)) (rS HO347) (by decide)) hk (fun _ h=>h.2)) (fun _ h=>h.1));have n3_:=Aside0.mk (KeepBut.blk hk (g':=gb350) (o:=.cells #[.int .i64 t344,.slice Ao37 t345.length co37] 26 (0,0)) (bk BK350) NB350_0.out (by simp));have n4_:=Aside0.mk (KeepBut.trans (by repeat (first|(with_reducible first|exact HK.out|apply KeepBut.set_|apply keep_drewN|apply keep_drew|apply keep_alloc|refine keep_far ?_ GW340.out _|refine keep_far ?_ GW350.out _)|exact HK.out)) hk (.inl rfl));have n5_:=Aside0.mk (hb);have n6_:=Aside0.mk (hi);clear BK340;clear HO343;clear HO347;clear BK350;clear HK;clear HB;clear HI0;have BK340:=n0_;have HO343:=n1_;have HO347:=n2_;have BK350:=n3_;have HK:=n4_;have HB:=n5_;have HI0:=n6_;clear n0_ n1_ n2_ n3_ n4_ n5_ n6_;(try clear hb);(try clear hb2);(try clear hk);(try clear hi)))
      have n0_:=Aside0.mk (Kd.R_drew HO343.out)
      have n1_:=Aside0.mk (Kd.S_drew HO347.out)
      have n2_:=Aside0.mk (blk_drew BK340.out)
      have n3_:=Aside0.mk (blk_drew BK350.out)
      have n4_:=Aside0.mk (IsS93.drew HI0.out)
      have n5_:=Aside0.mk (keep_drew HK.out)
      have n6_:=Aside0.mk (below_drew1 HB.out)
      clear HO343
      clear HO347
      clear BK340
      clear BK350
      clear HI0
      clear HK
      clear HB
      have HO343:=n0_
      have HO347:=n1_
      have BK340:=n2_
      have BK350:=n3_
      have HI0:=n4_
      have HK:=n5_
      have HB:=n6_
      clear n0_ n1_ n2_ n3_ n4_ n5_ n6_
      have p363:0≤(t351:Int):=of_decide_eq_true (by first|(with_reducible assumption)|assumption)
      have q363:t351 < (t345.length:Int):=of_decide_eq_true (by first|(with_reducible assumption)|assumption)
      obtain ⟨ad363,A363_0,c363_0,e363,hx363_0,hl363_0,hi363_0⟩:=at_T35 (Kd.S_reads' HO347.out).2.2 t351 p363 q363
      cases e363
      obtain ⟨ce363,hce363,hMe363,hcc363⟩:=Kd.S_get HO347.out z35 t351 p363 (by first|exact q363|exact of_decide_eq_true (by first|(with_reducible assumption)|assumption)|(have e_:=(Kd.S_reads' HO347.out).1;omega))
      obtain ⟨ve363_0,rfl,ge363_0⟩:=k35_openM hMe363
      have hv363_0:=hcc363 0 _ rfl
      rw [Nat.add_zero,show (k35).sz=1 from rfl,Nat.mul_one] at hv363_0
      replace hv363_0:=Option.some.inj (hv363_0.symm.trans hx363_0)
      rw [hv363_0] at ge363_0
      have HL363_0:=Aside0.mk (show Kd.R (Kd.int .i64) 3 _ _ _ _ ((rd_T35 t345 t351).f0) from ge363_0)
      clear hv363_0 ge363_0
      have HX363_0:=Aside0.mk hx363_0
      clear hcc363 hce363
      have HR363_0:=Aside0.mk hi363_0
      have HC363_0:=Aside0.mk hl363_0
      clear hi363_0 hl363_0
      replace p363:=eq_true p363
      replace q363:=eq_true q363
      refine start_ (n:=16) (S:=fun w'=>w'.cell? ⟨gb350,0,none⟩=some (.int .i64 t344)∧w'.cell? ⟨gb350,1,none⟩=some (.slice (some ad363) t345.length co37)∧w'.cell? (ad363.add (t351).toNat)=some (.slice A363_0 ((rd_T35 t345 t351).f0).length c363_0)) (ds:=[15]) (fl 16 0) (by kernel_rfl) rfl rfl ⟨(blk_cell BK350.out 0).trans rfl,(blk_cell BK350.out 1).trans rfl,hx363_0⟩ (fun hHeld=>?_);refine with_tabW spec_l5Any.tab7 spec_l5Any.bits7 (fun HT_ HW_=>?_)
      generalize w39.drew=w40 at HO343 HO347 BK340 BK350 HI0 HK HB HL363_0 HR363_0 HX363_0 hx363_0 hHeld ⊢
      refine pt 0 27 (fl 16 1) HT_ ?_
      refine pt 2 29 (fl 16 5) HT_ ?_
      refine pt 3 30 (fl 16 13) HT_ ?_
      refine pt 5 32 (fl 16 45) HT_ ?_
      refine pt 9 36 (fl 16 557) HT_ ?_
      refine tt 1 28 (fl 16 559) HT_ HW_ hHeld ?_
      refine tt 4 31 (fl 16 575) HT_ HW_ hHeld ?_
      refine pt 6 33 (fl 16 639) HT_ ?_
      refine pt 7 34 (fl 16 767) HT_ ?_
      refine tt 8 35 (fl 16 1023) HT_ HW_ hHeld ?_
      refine ot 10 (some 37) (fl 16 2047) HT_ (fun K hK=>?_)
      refine goes_ Try.func74 (by kernel_rfl) rfl #[.pointer (some ⟨g,0,none⟩),.int .i64 9] (by rfl) rfl rfl (by (try simp only [List.map_toArray,List.map_cons,List.map_nil]);first|done|rfl|(simp only [List.length_drop,List.length_take];rfl)) ?_
      with_reducible refine (spec_l1Below.calls g s0_0 t355 t356 9 t364 t365 t366 w0 _ ?side1 ?side2 A28.out).mono ?_
      (case side1=>repeat (first|(with_reducible first|exact HI0.out|apply IsS93.alloc|apply IsS93.drewN|apply IsS93.drew|apply IsS93.set_1|apply IsS93.set_2|refine IsS93.far ?_ NB0_340.out _|refine IsS93.far ?_ NB0_350.out _)|exact HI0.out))
      (case side2=>repeat (first|(with_reducible first|exact HB.out|apply below_alloc|apply pw_below_drewN|apply below_drew1|refine below_set ?_ (IsS93.ge HI0.out)|refine below_set ?_ GE340.out|refine below_set ?_ GE350.out)|exact HB.out))
      rintro e w41 ⟨rfl,hi,hb,hk⟩
      have HS2_:=keep_cell hk (hHeld.2.2) (by first|(rw [add_block];exact Kd.own_blk (IsS93.own_neS HI0.out HO347.out (by decide)))|(show (Addr.add _ _).block ≠ _;rw [add_block];exact Kd.own_blk (IsS93.own_neS HI0.out HO347.out (by decide)))|exact Kd.own_blk (IsS93.own_neS HI0.out HO347.out (by decide)))
      refine ⟨_,rfl,?_⟩
      have n0_:=Aside0.mk (KeepBut.blk hk (g':=gb340) (o:=.cells #[.int .i64 0,.slice none 0 0] 26 (0,0)) (bk BK340) NB340_0.out (by simp))
      have n1_:=Aside0.mk (Kd.R_mono (Kd.R_keep (IsS93.apart (show IsS93 w0 _ g s0_0 t355 t356 from by repeat (first|(with_reducible first|exact HI0.out|apply IsS93.alloc|apply IsS93.drewN|apply IsS93.drew|apply IsS93.set_1|apply IsS93.set_2|refine IsS93.far ?_ NB0_340.out _|refine IsS93.far ?_ NB0_350.out _)|exact HI0.out)) (rR HO343) (by decide)) hk (fun _ h=>h.2)) (fun _ h=>h.1))
      have n2_:=Aside0.mk (Kd.S_mono (Kd.S_keep (IsS93.apartS (show IsS93 w0 _ g s0_0 t355 t356 from by repeat (first|(with_reducible first|exact HI0.out|apply IsS93.alloc|apply IsS93.drewN|apply IsS93.drew|apply IsS93.set_1|apply IsS93.set_2|refine IsS93.far ?_ NB0_340.out _|refine IsS93.far ?_ NB0_350.out _)|exact HI0.out)) (rS HO347) (by decide)) hk (fun _ h=>h.2)) (fun _ h=>h.1))
      have n3_:=Aside0.mk (KeepBut.blk hk (g':=gb350) (o:=.cells #[.int .i64 t344,.slice (some ad363) t345.length co37] 26 (0,0)) (bk BK350) NB350_0.out (by simp))
      have n4_:=Aside0.mk (Kd.R_mono (Kd.R_keep (IsS93.apart (show IsS93 w0 _ g s0_0 t355 t356 from by repeat (first|(with_reducible first|exact HI0.out|apply IsS93.alloc|apply IsS93.drewN|apply IsS93.drew|apply IsS93.set_1|apply IsS93.set_2|refine IsS93.far ?_ NB0_340.out _|refine IsS93.far ?_ NB0_350.out _)|exact HI0.out)) (by (with_reducible repeat (first|apply Kd.R_alloc|apply Kd.R_drewN|apply Kd.R_drew));exact HL363_0.out) (by decide)) hk (fun _ h=>h.2)) (fun _ h=>h.1))
      have n5_:=Aside0.mk (keep_cell hk HX363_0.out (by first|(rw [add_block];exact Kd.own_blk (IsS93.own_neS HI0.out HO347.out (by decide)))|(show (Addr.add _ _).block ≠ _;rw [add_block];exact Kd.own_blk (IsS93.own_neS HI0.out HO347.out (by decide)))|exact Kd.own_blk (IsS93.own_neS HI0.out HO347.out (by decide))|(dsimp only;exact Kd.own_blk (IsS93.own_neS HI0.out HO347.out (by decide)))))
      have n6_:=Aside0.mk (KeepBut.trans (by repeat (first|(with_reducible first|exact HK.out|apply KeepBut.set_|apply keep_drewN|apply keep_drew|apply keep_alloc|refine keep_far ?_ GW340.out _|refine keep_far ?_ GW350.out _)|exact HK.out)) hk (.inl rfl))
      have n7_:=Aside0.mk (hb)
      have n8_:=Aside0.mk (hi)
      clear BK340
      clear HO343
      clear HO347
      clear BK350
      clear HL363_0
      clear HX363_0
      clear HK
      clear HB
      clear HI0
      have BK340:=n0_
      have HO343:=n1_
      have HO347:=n2_
      have BK350:=n3_
      have HL363_0:=n4_
      have HX363_0:=n5_
      have HK:=n6_
      have HB:=n7_
      have HI0:=n8_
      clear n0_ n1_ n2_ n3_ n4_ n5_ n6_ n7_ n8_
      (try clear hb)
      (try clear hb2)
      (try clear hk)
      (try clear hi)
      obtain ⟨go42,co42,eo42,gb42,gl42,cl42,HG42⟩:=Kd.S_form HO347.out (by have h_:(t351:Int) < ((t345.length:Int):Int):=of_decide_eq_true (by first|(with_reducible assumption)|assumption);have h2_:0≤(t351:Int):=(of_decide_eq_true (by first|(with_reducible assumption)|assumption));omega)
      (first|cases eo42|(injection eo42 with ea_ en_ ec_;(first|subst ea_|(injection ea_ with ea_;subst ea_));subst ec_;clear en_))
      have GB42:=Aside0.mk gb42
      have GG42:=Aside0.mk HG42
      clear gb42 gl42 HG42
      (first|simp only [add_plain] at hx363_0|skip)
      obtain ⟨oki42,ce42,hcl42,hM42,hcc42,_,_,hH42⟩:=Kd.S_elem HO347.out z35 (t351:Int) (of_decide_eq_true (by first|(with_reducible assumption)|assumption)) (by have h_:(t351:Int) < ((t345.length:Int):Int):=of_decide_eq_true (by first|(with_reducible assumption)|assumption);first|exact h_|(have e_:=(Kd.S_reads' HO347.out).1;omega)|simpa using h_)
      obtain ⟨ve42_0,rfl,ge42_0⟩:=k35_openM hM42
      have hv42:=hcc42 0 _ rfl
      have hX42:=HX363_0.out
      (try simp only [add_plain] at hX42)
      (try simp only [Nat.add_zero] at hv42)
      (try rw [show (k35).sz=1 from rfl,Nat.mul_one] at hv42)
      replace hv42:=Option.some.inj (hv42.symm.trans hX42)
      subst hv42
      clear hX42 hcc42 hcl42
      have UU42:=Aside0.mk (show Kd.R (Kd.int .i64) 3 _ w.heap.size oki42 (.slice A363_0 ((rd_T35 t345 t351).f0).length c363_0) ((rd_T35 t345 t351).f0) from ge42_0)
      have HH42:=Aside0.mk hH42
      have HN42:=Aside0.mk (Kd.S_reads' HO347.out).1
      clear hH42 ge42_0
      refine hK.out _ _ ⟨(blk_cell BK350.out 0).trans rfl,(blk_cell BK350.out 1).trans rfl,HS2_⟩ (fun hHeld=>?_)
      clear hK K
      refine no 37 ?_
      refine ot 11 (some 38) (fl 16 4095) HT_ (fun K hK=>?_)
      refine value_ (w1:=?_) (v:=?_) (by rfl) rfl ?_ ?_
      rotate_left 2
      ·go_simp
       constructor
       ·rfl
       ·rfl
      refine hK.out _ _ ⟨(blk_cell (blk_alloc BK350.out _) 0).trans rfl,(blk_cell (blk_alloc BK350.out _) 1).trans rfl,(World.cell?_alloc_lt _ _ _ (World.block_lt_of_cell? _ _ (hHeld.2.2))).trans (hHeld.2.2)⟩ (fun hHeld=>?_)
      clear hK K
      refine no 38 ?_
      refine ot 12 (some 39) (fl 16 8191) HT_ (fun K hK=>?_)
      refine Kd.R_append_step (Kd.int .i64) w.heap.size (by rfl) (.tmp 35) (.tmp 38) 33 3 (.int .i64 0) 8 rfl Try.underlying33 info3 rfl (by decide) (by omega) (.slice A363_0 ((rd_T35 t345 t351).f0).length c363_0) ((rd_T35 t345 t351).f0) t364 [.int .i64 t364] (fun k_=>oki42 k_ ∨ ((fun _=>True)) k_∧w41.heap.size≤k_) (fun _=>False) rfl rfl ?aP (fun _ hk=>hk.elim) ?aF ?aO (Below.refl _ _) ?aS ?aL ?_
      (case aP=>exact rfl)
      (case aF=>exact (fun k_ hk=>.inr ⟨trivial,hk⟩))
      (case aO=>exact (by (with_reducible repeat (first|apply Kd.R_alloc|apply Kd.R_drewN|apply Kd.R_drew));exact Kd.R_mono UU42.out (fun _ hk=>.inl hk)))
      (case aS=>exact (keep_size (w:=w) (g:=g) (row:=none) (by repeat (first|(with_reducible first|exact HK.out|apply KeepBut.set_|apply keep_drewN|apply keep_drew|apply keep_alloc|refine keep_far ?_ GW340.out _|refine keep_far ?_ GW350.out _)|exact HK.out))))
      (case aL=>have:=LMc29.out;omega)
      intro v368 w43 ho hb hg hat
      (first|have HS2_:=cell_grown hg (hHeld.2.2) (by first|(rw [add_block];exact (fun e_=>((HL363_0.out.1 _ e_.symm).2) rfl))|(show some (Addr.add _ _).block ≠ _;rw [add_block];exact (fun e_=>((HL363_0.out.1 _ e_.symm).2) rfl))|exact (fun e_=>((HL363_0.out.1 _ e_.symm).2) rfl))|have HS2_:=cell_grown hg (cell_unalloc (hHeld.2.2) (by first|(rw [add_block];exact Kd.S_lt HO347.out _ rfl)|(show (Addr.add _ _).block < _;rw [add_block];exact Kd.S_lt HO347.out _ rfl)|exact Kd.S_lt HO347.out _ rfl)) (by first|(rw [add_block];exact (fun e_=>((HL363_0.out.1 _ e_.symm).2) rfl))|(show some (Addr.add _ _).block ≠ _;rw [add_block];exact (fun e_=>((HL363_0.out.1 _ e_.symm).2) rfl))|exact (fun e_=>((HL363_0.out.1 _ e_.symm).2) rfl)))
      rw [← Ny367.out] at ho
      have n0_:=Aside0.mk (IsS93.grown (by repeat (first|(with_reducible first|exact HI0.out|apply IsS93.alloc|apply IsS93.drewN|apply IsS93.drew|apply IsS93.set_1|apply IsS93.set_2|refine IsS93.far ?_ NB0_340.out _|refine IsS93.far ?_ NB0_350.out _)|exact HI0.out)) hg (IsS93.own_ne HI0.out HL363_0.out (by decide)))
      have n1_:=Aside0.mk (blk_grown (g:=gb340) (o:=.cells #[.int .i64 0,.slice none 0 0] 26 (0,0)) (bk BK340) hg (Kd.R_ne HL363_0.out BK340.out (by decide)))
      have n2_:=Aside0.mk (Kd.R_over' (v:=(.slice A363_0 ((rd_T35 t345 t351).f0).length c363_0)) (rR HO343) (Kd.R_typed HL363_0.out) (by decide) hg)
      have n3_:=Aside0.mk (blk_grown (g:=gb350) (o:=.cells #[.int .i64 t344,.slice (some ⟨go42,0,none⟩) t345.length co37] 26 (0,0)) (bk BK350) hg (Kd.R_ne HL363_0.out BK350.out (by decide)))
      have n4_:=Aside0.mk (below_weaken (by repeat (first|(with_reducible first|exact HB.out|apply below_alloc|apply pw_below_drewN|apply below_drew1|refine below_set ?_ (IsS93.ge HI0.out)|refine below_set ?_ GE340.out|refine below_set ?_ GE350.out)|exact HB.out)) HL.out hb)
      have n5_:=Aside0.mk (KeepBut.trans (by repeat (first|(with_reducible first|exact HK.out|apply KeepBut.set_|apply keep_drewN|apply keep_drew|apply keep_alloc|refine keep_far ?_ GW340.out _|refine keep_far ?_ GW350.out _)|exact HK.out)) (KeepBut.of_grown hg g) (Kd.R_base2 HL363_0.out))
      have n6_:=Aside0.mk (Kd.H_grown (Kd.H_widen (by repeat (first|exact HH42.out|refine Kd.H_alloc ?_ _|refine Kd.H_drewN ?_ _|refine Kd.H_drew ?_))) hg (fun k_ e_=>.inl (UU42.out.1 k_ e_)))
      have n7_:=Aside0.mk (ho)
      clear HI0
      clear BK340
      clear HO343
      clear BK350
      clear HB
      clear HK
      clear HH42
      clear HO347
      clear UU42
      clear HL363_0
      have HI0:=n0_
      have BK340:=n1_
      have HO343:=n2_
      have BK350:=n3_
      have HB:=n4_
      have HK:=n5_
      have HH42:=n6_
      have HO369:=n7_
      clear n0_ n1_ n2_ n3_ n4_ n5_ n6_ n7_
      clear ho hb hg hat
      have p30:0≤(t351:Int):=of_decide_eq_true (by first|(with_reducible assumption)|assumption)
      have q30:(t351:Int) < ((t345.length:Int):Int):=of_decide_eq_true (by first|(with_reducible assumption)|assumption)
      replace p30:=eq_true p30
      replace q30:=eq_true q30
      obtain ⟨Ao46,co46,eo46⟩:=Kd.R_slice HO369.out
      (first|subst eo46|(injection eo46 with f1_ f2_ f3_;have f4_:=f1_.symm;have f5_:=f3_.symm;clear f1_ f2_ f3_;subst f4_;subst f5_))
      obtain ⟨_,_,hraw44,_,_,hcc44,_⟩:=Kd.H_raw HH42.out (of_decide_eq_true (by first|(with_reducible assumption)|assumption)) (by have h_:(t351:Int) < ((t345.length:Int):Int):=of_decide_eq_true (by first|(with_reducible assumption)|assumption);first|exact h_|(have e_:=(HN42.out);omega)|simpa using h_)
      obtain ⟨_,hfr44⟩:=Kd.H_at HH42.out (of_decide_eq_true (by first|(with_reducible assumption)|assumption)) (by have h_:(t351:Int) < ((t345.length:Int):Int):=of_decide_eq_true (by first|(with_reducible assumption)|assumption);first|exact h_|(have e_:=(HN42.out);omega)|simpa using h_)
      have hx44_0:=hcc44 0 _ rfl
      have hf44_0:=hfr44 0
      (try simp only [Nat.add_zero] at hx44_0 hf44_0)
      (try rw [show (k35).sz=1 from rfl,Nat.mul_one] at hx44_0)
      (try rw [show (k35).sz=1 from rfl,Nat.mul_one] at hf44_0)
      have HP44:=Kd.S_seg0 HH42.out (of_decide_eq_true (by first|(with_reducible assumption)|assumption)) (by have h_:(t351:Int) < ((t345.length:Int):Int):=of_decide_eq_true (by first|(with_reducible assumption)|assumption);first|exact h_|(have e_:=(HN42.out);omega)|simpa using h_) (seg:=[.slice Ao46 y367.length co46]) (j:=0) (show 1≤1 from by decide) (x':=(⟨y367⟩:S35)) (k35_mkM _ _ _ (⟨y367⟩:S35) HO369.out) (fun _ hk=>hk)
      (try simp only [show (k35).sz=1 from rfl,Nat.mul_one,Nat.add_zero] at HP44)
      clear hcc44 hfr44
      have HN0_go42:=Aside0.mk (show g ≠ go42 from by have h_:=IsS93.own_ne HI0.out hraw44 (by decide);intro e_;exact h_ (by rw [e_];rfl))
      have HNB340_go42:=Aside0.mk (show gb340 ≠ go42 from by have h_:=Kd.R_ne hraw44 BK340.out (by decide);intro e_;exact h_ (by rw [e_];rfl))
      have HNB350_go42:=Aside0.mk (show gb350 ≠ go42 from by have h_:=Kd.R_ne hraw44 BK350.out (by decide);intro e_;exact h_ (by rw [e_];rfl))
      have HS44:=HP44.1
      rw [← Ny370.out] at HS44
      have HQ44:=Aside0.mk HS44
      obtain ⟨_,hgg44⟩:=Kd.R_typed hraw44 go42 rfl
      have GG44_:=Aside0.mk hgg44
      clear HP44 HS44 hgg44
      refine hK.out _ _ ⟨(blk_cell BK350.out 0).trans rfl,(blk_cell BK350.out 1).trans rfl,HS2_⟩ (fun hHeld=>?_)
      clear hK K
      refine no 39 ?_
      refine pt 13 40 (fl 16 16383) HT_ ?_
      refine pt 14 41 (fl 16 32767) HT_ ?_
      refine last_ (i:=15) (N:=none) (fl 16 65535) rfl rfl (one_of HT_.out (by kernel_rfl)) (by decide) (fun K hK=>?_)
      refine skip_ (w1:=?_) (by rfl) rfl ?_ ?_
      rotate_left
      ·go_simp
       rfl
      refine hK.out _ _ ?_
      clear hK K
      refine done_ (done_of HT_.out (by kernel_rfl)) ?_
      have n0_:Aside0 (Kd.R k61 61 (w43.setCell ⟨go42,(t351:Int).toNat,none⟩ (.slice Ao46 y367.length co46)) w.heap.size (fun _=>True) v342 t341):=⟨by (with_reducible repeat (first|apply Kd.R_alloc|apply Kd.R_drewN|apply Kd.R_drew));exact Kd.R_mono (Kd.R_far (p:=⟨go42,(t351:Int).toNat,none⟩) (Kd.R_types HO343.out GG44_.out (by decide)) (fun _ hk=>hk.2) (.slice Ao46 y367.length co46)) (fun _ hk=>trivial)⟩
      have n1_:Aside0 (Kd.S k35 35 (w43.setCell ⟨go42,(t351:Int).toNat,none⟩ (.slice Ao46 y367.length co46)) w.heap.size (fun _=>True) (.slice (some ⟨go42,0,none⟩) t345.length co37) y370):=⟨by (with_reducible repeat (first|apply Kd.S_alloc|apply Kd.S_drewN|apply Kd.S_drew));exact HQ44.out⟩
      have n2_:Aside0 ((w43.setCell ⟨go42,(t351:Int).toNat,none⟩ (.slice Ao46 y367.length co46)).heap[gb340]?=some (.cells #[.int .i64 0,.slice none 0 0] 26 (0,0))):=⟨by (with_reducible repeat (first|refine blk_drewN ?_ _|refine blk_drew ?_|refine blk_alloc ?_ _));refine blk_far ?_ HNB340_go42.out _;(with_reducible repeat (first|refine blk_drewN ?_ _|refine blk_drew ?_|refine blk_alloc ?_ _));exact BK340.out⟩
      have n3_:Aside0 ((w43.setCell ⟨go42,(t351:Int).toNat,none⟩ (.slice Ao46 y367.length co46)).heap[gb350]?=some (.cells #[.int .i64 t344,.slice (some ⟨go42,0,none⟩) t345.length co37] 26 (0,0))):=⟨by (with_reducible repeat (first|refine blk_drewN ?_ _|refine blk_drew ?_|refine blk_alloc ?_ _));refine blk_far ?_ HNB350_go42.out _;(with_reducible repeat (first|refine blk_drewN ?_ _|refine blk_drew ?_|refine blk_alloc ?_ _));exact BK350.out⟩
      have n4_:Aside0 (IsS93 w0 (w43.setCell ⟨go42,(t351:Int).toNat,none⟩ (.slice Ao46 y367.length co46)) g s0_0 t365 t366):=⟨by repeat (first|(with_reducible first|exact HI0.out|apply IsS93.alloc|apply IsS93.drewN|apply IsS93.drew|apply IsS93.set_1|apply IsS93.set_2|refine IsS93.far ?_ HN0_go42.out _|refine IsS93.far ?_ NB0_340.out _|refine IsS93.far ?_ NB0_350.out _)|exact HI0.out)⟩
      have n5_:Aside0 (KeepBut w (w43.setCell ⟨go42,(t351:Int).toNat,none⟩ (.slice Ao46 y367.length co46)) g none):=⟨by repeat (first|(with_reducible first|exact HK.out|apply KeepBut.set_|apply keep_drewN|apply keep_drew|apply keep_alloc|refine keep_far ?_ GB42.out _|refine keep_far ?_ GW340.out _|refine keep_far ?_ GW350.out _)|exact HK.out)⟩
      have n6_:Aside0 (Below w0.heap.size w0 (w43.setCell ⟨go42,(t351:Int).toNat,none⟩ (.slice Ao46 y367.length co46))):=⟨by repeat (first|(with_reducible first|exact HB.out|apply below_alloc|apply pw_below_drewN|apply below_drew1|refine below_set ?_ (Nat.le_trans HL.out GB42.out)|refine below_set ?_ (IsS93.ge HI0.out)|refine below_set ?_ GE340.out|refine below_set ?_ GE350.out)|exact HB.out)⟩
      (try clear HO343)
      (try clear HO347)
      (try clear BK340)
      (try clear BK350)
      (try clear HI0)
      (try clear HK)
      (try clear HB)
      generalize (w43.setCell ⟨go42,(t351:Int).toNat,none⟩ (.slice Ao46 y367.length co46))=w47 at n0_ n1_ n2_ n3_ n4_ n5_ n6_ ⊢
      have HO343:=n0_
      have HO347:=n1_
      have BK340:=n2_
      have BK350:=n3_
      have HI0:=n4_
      have HK:=n5_
      have HB:=n6_
      clear n0_ n1_ n2_ n3_ n4_ n5_ n6_
      try go_wp2
      have n0_:=Aside0.mk (Kd.R_drew HO343.out)
      have n1_:=Aside0.mk (Kd.S_drew HO347.out)
      have n2_:=Aside0.mk (blk_drew BK340.out)
      have n3_:=Aside0.mk (blk_drew BK350.out)
      have n4_:=Aside0.mk (IsS93.drew HI0.out)
      have n5_:=Aside0.mk (keep_drew HK.out)
      have n6_:=Aside0.mk (below_drew1 HB.out)
      clear HO343
      clear HO347
      clear BK340
      clear BK350
      clear HI0
      clear HK
      clear HB
      have HO343:=n0_
      have HO347:=n1_
      have BK340:=n2_
      have BK350:=n3_
      have HI0:=n4_
      have HK:=n5_
      have HB:=n6_
      clear n0_ n1_ n2_ n3_ n4_ n5_ n6_
      refine start_ (n:=4) (S:=fun w'=>w'.cell? ⟨gb350,0,none⟩=some (.int .i64 t344)∧w'.cell? ⟨gb350,1,none⟩=some (.slice (some ⟨go42,0,none⟩) t345.length co37)) (ds:=[]) (fl 4 0) (by kernel_rfl) rfl rfl ⟨(blk_cell BK350.out 0).trans rfl,(blk_cell BK350.out 1).trans rfl⟩ (fun hHeld=>?_)
      generalize w47.drew=w48 at HO343 HO347 BK340 BK350 HI0 HK HB hHeld ⊢
      refine pu 0 63 (fl 4 1) ?_
      refine pu 2 2 (fl 4 5) ?_
      refine ta 1 64 (fl 4 7) hHeld ?_
      refine on 3 none (fl 4 15) (fun K hK=>?_)
      have hs49:w48.cell? ⟨gb340,0,none⟩=some (.int .i64 0):=(blk_cell BK340.out 0).trans rfl
      have hfs49:=blk_frozen BK340.out 0
      have hns49_1:=NB350_340.out
      have hms49_1:=NB340_350.out
      have hs50:w48.cell? ⟨gb340,1,none⟩=some (.slice none 0 0):=(blk_cell BK340.out 1).trans rfl
      have hfs50:=blk_frozen BK340.out 1
      have hns50_1:=NB350_340.out
      have hms50_1:=NB340_350.out
      refine skip_ (w1:=?_) (by rfl) rfl ?_ ?_
      rotate_left
      ·go_simp
       rfl
      refine hK.out _ _ ⟨((cell_far (p:=⟨gb340,_,none⟩) NB350_340.out _).trans (((cell_far (p:=⟨gb340,_,none⟩) NB350_340.out _).trans (hHeld.1)))),((cell_far (p:=⟨gb340,_,none⟩) NB350_340.out _).trans (((cell_far (p:=⟨gb340,_,none⟩) NB350_340.out _).trans (hHeld.2))))⟩ (fun hHeld=>?_)
      clear hK K
      refine done_ (by kernel_rfl) ?_
      try go_wp2
      refine bodyPost_ret (results_tc rfl _ _ gb340 26 #[.int .i64 t344,.slice (some ⟨go42,0,none⟩) t345.length co37] (0,0) _ rfl (by (with_reducible repeat (first|refine blk_drewN ?_ _|refine blk_drew ?_|refine blk_alloc ?_ _));refine blk_put (cs:=#[.int .i64 t344,.slice none 0 0]) ?_ 1 _ rfl;(with_reducible repeat (first|refine blk_drewN ?_ _|refine blk_drew ?_|refine blk_alloc ?_ _));refine blk_put (cs:=#[.int .i64 0,.slice none 0 0]) ?_ 0 _ rfl;(with_reducible repeat (first|refine blk_drewN ?_ _|refine blk_drew ?_|refine blk_alloc ?_ _));exact BK340.out) Try.underlying26 rfl (by kernel_rfl)) rfl ?_
      exact ⟨_,_,rz,by (with_reducible repeat (first|apply Kd.R_alloc|apply Kd.R_drewN|apply Kd.R_drew));exact Kd.R_mono (Kd.R_far (p:=⟨gb340,1,none⟩) (Kd.R_far (p:=⟨gb340,0,none⟩) (Kd.R_types HO343.out BK340.out (by decide)) (fun _ hk=>hk.2) (.int .i64 t344)) (fun _ hk=>hk.2) (.slice (some ⟨go42,0,none⟩) t345.length co37)) (fun _ hk=>trivial),by (with_reducible repeat (first|apply Kd.S_alloc|apply Kd.S_drewN|apply Kd.S_drew));exact Kd.S_mono (Kd.S_far (p:=⟨gb340,1,none⟩) (Kd.S_far (p:=⟨gb340,0,none⟩) (Kd.S_types HO347.out BK340.out (by decide)) (fun _ hk=>hk.2) (.int .i64 t344)) (fun _ hk=>hk.2) (.slice (some ⟨go42,0,none⟩) t345.length co37)) (fun _ hk=>trivial),by repeat (first|(with_reducible first|exact HI0.out|apply IsS93.alloc|apply IsS93.drewN|apply IsS93.drew|apply IsS93.set_1|apply IsS93.set_2|refine IsS93.far ?_ NB0_340.out _|refine IsS93.far ?_ NB0_350.out _)|exact HI0.out),by repeat (first|(with_reducible first|exact HB.out|apply below_alloc|apply pw_below_drewN|apply below_drew1|refine below_set ?_ (IsS93.ge HI0.out)|refine below_set ?_ GE340.out|refine below_set ?_ GE350.out)|exact HB.out),by repeat (first|(with_reducible first|exact HK.out|apply KeepBut.set_|apply keep_drewN|apply keep_drew|apply keep_alloc|refine keep_far ?_ GW340.out _|refine keep_far ?_ GW350.out _)|exact HK.out)⟩
     ·rw [if_neg c29] at H
      exact absurd H (by simp)
    ·rw [if_neg c27] at H
     exact absurd H (by simp)
   ·rw [if_neg c26] at H
    exact absurd H (by simp)
  ·rw [if_neg c25] at H
   have c25b0:(t354 == 1)=false:=beq_eq_false_iff_ne.mpr c25
   have c25b1:(t354 != 1)=true:=bne_iff_ne.mpr c25
   by_cases c51:t354=2
   ·rw [if_pos c51] at H
    have c51b0:(t354 == 2)=true:=beq_iff_eq.mpr c51
    have c51b1:(t354 != 2)=false:=bne_eq_false_iff_eq.mpr c51
    clear c51
    by_cases c52:0≤t351
    ·rw [if_pos c52] at H
     have c52b0:decide (0≤t351)=true:=decide_eq_true c52
     clear c52
     by_cases c53:t351 < (t345.length:Int)
     ·rw [if_pos c53] at H
      have c53b0:decide (t351 < (t345.length:Int))=true:=decide_eq_true c53
      clear c53
      replace H:=Option.bind_eq_some_iff.mp H
      obtain ⟨⟨t372,t373,t374⟩,A540,H⟩:=H
      try dsimp only at H
      have A54:=Aside0.mk A540
      clear A540
      by_cases c55:0 < (((rd_T35 t345 t351).f0).length:Int)
      ·rw [if_pos c55] at H
       have c55b0:decide (0 < (((rd_T35 t345 t351).f0).length:Int))=true:=decide_eq_true c55
       have c55b1:decide (0 < ((rd_T35 t345 t351).f0).length)=true:=decide_eq_true (by omega)
       clear c55
       obtain ⟨y375,hy375⟩ : ∃ y_:List Int,y_=(((rd_T35 t345 t351).f0).set (0:Int).toNat t372):=⟨_,rfl⟩
       replace H:(some (t341,t344,(t345.set (t351:Int).toNat (⟨y375⟩:S35)),t373,t374))=some (r1,r2,r3,r4,r5):=by first|(rw [hy375];with_reducible exact H)|(have H2_:=(Option.bind_some _ _).symm.trans H;rw [hy375];with_reducible exact H2_)|(have H2_:=(Option.bind_some _ _).symm.trans H;with_reducible exact H2_)|with_reducible exact H|(rw [hy375];exact H)|exact H
       have Ny375:=Aside0.mk hy375
       clear hy375
       obtain ⟨y377,hy377⟩ : ∃ y_:List (S35),y_=(t345.set (t351:Int).toNat (⟨y375⟩:S35)):=⟨_,rfl⟩
       replace H:(some (t341,t344,y377,t373,t374))=some (r1,r2,r3,r4,r5):=by first|(rw [hy377];with_reducible exact H)|(have H2_:=(Option.bind_some _ _).symm.trans H;rw [hy377];with_reducible exact H2_)|(have H2_:=(Option.bind_some _ _).symm.trans H;with_reducible exact H2_)|with_reducible exact H|(rw [hy377];exact H)|exact H
       have Ny377:=Aside0.mk hy377
       clear hy377
       simp only [Option.some.injEq,Prod.mk.injEq] at H
       obtain ⟨rfl,rfl,rfl,rfl,rfl⟩:=H
       go_enter Try.func39,Try.ntmps39
       try go_wp2_with (first|((with_reducible refine gate_dst (N:=3) rfl ?_);refine box_event ?hg (N:=3) ?hd (cs:=#[.int .i64 0,.slice none 0 0]) (t:=26) ?hr ?_;(case hd=>rfl);(case hg=>rfl);(case hr=>first|(go_simp;done)|(go_simp;rfl));intro gb340 hg w57 hbox hb;have n0_:=Aside0.mk (IsS93.below (by repeat (first|(with_reducible first|exact HI0.out|apply IsS93.alloc|apply IsS93.drewN|apply IsS93.drew|apply IsS93.set_1|apply IsS93.set_2)|exact HI0.out)) hb);have n1_:=Aside0.mk (KeepBut.trans (by repeat (first|(with_reducible first|exact HK.out|apply KeepBut.set_|apply keep_drewN|apply keep_drew|apply keep_alloc)|exact HK.out)) (KeepBut.of_below hb g none) (.inl rfl));have n2_:=Aside0.mk (below_step (by repeat (first|(with_reducible first|exact HB.out|apply below_alloc|apply pw_below_drewN|apply below_drew1|refine below_set ?_ (IsS93.ge HI0.out))|exact HB.out)) hb);have n3_:=Aside0.mk (hbox);have n4_:=Aside0.mk ((by rw [hg];exact (keep_size (w:=w) (g:=g) (row:=none) (by repeat (first|(with_reducible first|exact HK.out|apply KeepBut.set_|apply keep_drewN|apply keep_drew|apply keep_alloc)|exact HK.out))):w.heap.size≤gb340));have n5_:=Aside0.mk ((Nat.le_trans HW0.out (by rw [hg];exact (keep_size (w:=w) (g:=g) (row:=none) (by repeat (first|(with_reducible first|exact HK.out|apply KeepBut.set_|apply keep_drewN|apply keep_drew|apply keep_alloc)|exact HK.out))):w.heap.size≤gb340):w0.heap.size≤gb340));have n6_:=Aside0.mk ((by rw [hg];exact Nat.ne_of_lt (IsS93.lt (show IsS93 w0 _ g s0_0 s0_1 s0_2 from by repeat (first|(with_reducible first|exact HI0.out|apply IsS93.alloc|apply IsS93.drewN|apply IsS93.drew|apply IsS93.set_1|apply IsS93.set_2)|exact HI0.out))):g ≠ gb340));have n7_:=Aside0.mk ((by rw [hg];exact Nat.ne_of_gt (IsS93.lt (show IsS93 w0 _ g s0_0 s0_1 s0_2 from by repeat (first|(with_reducible first|exact HI0.out|apply IsS93.alloc|apply IsS93.drewN|apply IsS93.drew|apply IsS93.set_1|apply IsS93.set_2)|exact HI0.out))):gb340 ≠ g));clear HI0;clear HK;clear HB;have HI0:=n0_;have HK:=n1_;have HB:=n2_;have BK340:=n3_;have GW340:=n4_;have GE340:=n5_;have NB0_340:=n6_;have NB340_0:=n7_;clear n0_ n1_ n2_ n3_ n4_ n5_ n6_ n7_;clear hb hbox hg)|((with_reducible refine gate_callee (f:=37) rfl ?_);refine goesL_ (some 9) rfl rfl Try.func37 (by kernel_rfl) rfl #[.pointer (some ⟨g,0,none⟩)] rfl (by (try simp only [List.map_toArray,List.map_cons,List.map_nil]);first|done|rfl|(simp only [List.length_drop,List.length_take];rfl)) ?_;(with_reducible refine (spec_l5Draw.calls k g s0_0 s0_1 s0_2 t341 t344 t345 t348 t349 w0 _ ?side1 ?side2 A2.out).mono ?_);(case side1=>repeat (first|(with_reducible first|exact HI0.out|apply IsS93.alloc|apply IsS93.drewN|apply IsS93.drew|apply IsS93.set_1|apply IsS93.set_2|refine IsS93.far ?_ NB0_340.out _)|exact HI0.out));(case side2=>repeat (first|(with_reducible first|exact HB.out|apply below_alloc|apply pw_below_drewN|apply below_drew1|refine below_set ?_ (IsS93.ge HI0.out)|refine below_set ?_ GE340.out)|exact HB.out));rintro e w58 ⟨v342,v346,rfl,ho0,ho1,hi,hb,hk⟩;refine ⟨_,rfl,?_⟩;have n0_:=Aside0.mk (KeepBut.blk hk (g':=gb340) (o:=.cells #[.int .i64 0,.slice none 0 0] 26 (0,0)) (bk BK340) NB340_0.out (by simp));have n1_:=Aside0.mk (Kd.R_lower ho0 (keep_size (w:=w) (g:=g) (row:=none) (by repeat (first|(with_reducible first|exact HK.out|apply KeepBut.set_|apply keep_drewN|apply keep_drew|apply keep_alloc|refine keep_far ?_ GW340.out _)|exact HK.out))));have n2_:=Aside0.mk (Kd.S_lower ho1 (keep_size (w:=w) (g:=g) (row:=none) (by repeat (first|(with_reducible first|exact HK.out|apply KeepBut.set_|apply keep_drewN|apply keep_drew|apply keep_alloc|refine keep_far ?_ GW340.out _)|exact HK.out))));have n3_:=Aside0.mk (KeepBut.trans (by repeat (first|(with_reducible first|exact HK.out|apply KeepBut.set_|apply keep_drewN|apply keep_drew|apply keep_alloc|refine keep_far ?_ GW340.out _)|exact HK.out)) hk (.inl rfl));have n4_:=Aside0.mk (hb);have n5_:=Aside0.mk (hi);clear BK340;clear HK;clear HB;clear HI0;have BK340:=n0_;have HO343:=n1_;have HO347:=n2_;have HK:=n3_;have HB:=n4_;have HI0:=n5_;clear n0_ n1_ n2_ n3_ n4_ n5_;(try clear hb);(try clear hb2);(try clear hk);(try clear hi);(try clear ho0);(try clear ho1))|((with_reducible refine gate_dst (N:=5) rfl ?_);refine box_event ?hg (N:=5) ?hd (cs:=#[.int .i64 0,.slice none 0 0]) (t:=26) ?hr ?_;(case hd=>rfl);(case hg=>rfl);(case hr=>first|(go_simp;done)|(go_simp;rfl));intro gb350 hg w59 hbox hb;have n0_:=Aside0.mk (Kd.R_below (rR HO343) hb);have n1_:=Aside0.mk (Kd.S_below (rS HO347) hb);have n2_:=Aside0.mk (IsS93.below (by repeat (first|(with_reducible first|exact HI0.out|apply IsS93.alloc|apply IsS93.drewN|apply IsS93.drew|apply IsS93.set_1|apply IsS93.set_2|refine IsS93.far ?_ NB0_340.out _)|exact HI0.out)) hb);have n3_:=Aside0.mk (blk_below (g:=gb340) (o:=.cells #[.int .i64 0,.slice none 0 0] 26 (0,0)) (bk BK340) hb);have n4_:=Aside0.mk (KeepBut.trans (by repeat (first|(with_reducible first|exact HK.out|apply KeepBut.set_|apply keep_drewN|apply keep_drew|apply keep_alloc|refine keep_far ?_ GW340.out _)|exact HK.out)) (KeepBut.of_below hb g none) (.inl rfl));have n5_:=Aside0.mk (below_step (by repeat (first|(with_reducible first|exact HB.out|apply below_alloc|apply pw_below_drewN|apply below_drew1|refine below_set ?_ (IsS93.ge HI0.out)|refine below_set ?_ GE340.out)|exact HB.out)) hb);have n6_:=Aside0.mk (hbox);have n7_:=Aside0.mk ((by rw [hg];exact (keep_size (w:=w) (g:=g) (row:=none) (by repeat (first|(with_reducible first|exact HK.out|apply KeepBut.set_|apply keep_drewN|apply keep_drew|apply keep_alloc|refine keep_far ?_ GW340.out _)|exact HK.out))):w.heap.size≤gb350));have n8_:=Aside0.mk ((Nat.le_trans HW0.out (by rw [hg];exact (keep_size (w:=w) (g:=g) (row:=none) (by repeat (first|(with_reducible first|exact HK.out|apply KeepBut.set_|apply keep_drewN|apply keep_drew|apply keep_alloc|refine keep_far ?_ GW340.out _)|exact HK.out))):w.heap.size≤gb350):w0.heap.size≤gb350));have n9_:=Aside0.mk ((by rw [hg];exact Nat.ne_of_lt (blk_lt (g:=gb340) (o:=.cells #[.int .i64 0,.slice none 0 0] 26 (0,0)) (bk BK340)):gb340 ≠ gb350));have n10_:=Aside0.mk ((by rw [hg];exact Nat.ne_of_gt (blk_lt (g:=gb340) (o:=.cells #[.int .i64 0,.slice none 0 0] 26 (0,0)) (bk BK340)):gb350 ≠ gb340));have n11_:=Aside0.mk ((by rw [hg];exact Nat.ne_of_lt (IsS93.lt (show IsS93 w0 _ g s0_0 t348 t349 from by repeat (first|(with_reducible first|exact HI0.out|apply IsS93.alloc|apply IsS93.drewN|apply IsS93.drew|apply IsS93.set_1|apply IsS93.set_2|refine IsS93.far ?_ NB0_340.out _)|exact HI0.out))):g ≠ gb350));have n12_:=Aside0.mk ((by rw [hg];exact Nat.ne_of_gt (IsS93.lt (show IsS93 w0 _ g s0_0 t348 t349 from by repeat (first|(with_reducible first|exact HI0.out|apply IsS93.alloc|apply IsS93.drewN|apply IsS93.drew|apply IsS93.set_1|apply IsS93.set_2|refine IsS93.far ?_ NB0_340.out _)|exact HI0.out))):gb350 ≠ g));clear HO343;clear HO347;clear HI0;clear BK340;clear HK;clear HB;have HO343:=n0_;have HO347:=n1_;have HI0:=n2_;have BK340:=n3_;have HK:=n4_;have HB:=n5_;have BK350:=n6_;have GW350:=n7_;have GE350:=n8_;have NB340_350:=n9_;have NB350_340:=n10_;have NB0_350:=n11_;have NB350_0:=n12_;clear n0_ n1_ n2_ n3_ n4_ n5_ n6_ n7_ n8_ n9_ n10_ n11_ n12_;clear hb hbox hg;have hnb60:=NB350_340.out;have hnc60:=NB340_350.out;have hnb61:=NB350_0.out;have hnc61:=NB0_350.out;have hcz62_0:w59.cell? ⟨gb350,0,none⟩=some (.int .i64 0):=(blk_cell BK350.out 0).trans rfl;have hcz62_1:w59.cell? ⟨gb350,1,none⟩=some (.slice none 0 0):=(blk_cell BK350.out 1).trans rfl;have hfz62_0:=blk_frozen BK350.out 0;have hfz62_1:=blk_frozen BK350.out 1;obtain ⟨Ao63,co63,eo63⟩:=Kd.S_slice HO347.out;subst eo63)|((with_reducible refine gate_callee (f:=74) rfl ?_);refine goesL_ (some 16) rfl rfl Try.func74 (by kernel_rfl) rfl #[.pointer (some ⟨g,0,none⟩),.int .i64 (t345.length:Int)] rfl (by (try simp only [List.map_toArray,List.map_cons,List.map_nil]);first|done|rfl|(simp only [List.length_drop,List.length_take];rfl)) ?_;(with_reducible refine (spec_l1Below.calls g s0_0 t348 t349 (t345.length:Int) t351 t352 t353 w0 _ ?side1 ?side2 A3.out).mono ?_);(case side1=>repeat (first|(with_reducible first|exact HI0.out|apply IsS93.alloc|apply IsS93.drewN|apply IsS93.drew|apply IsS93.set_1|apply IsS93.set_2|refine IsS93.far ?_ NB0_340.out _|refine IsS93.far ?_ NB0_350.out _)|exact HI0.out));(case side2=>repeat (first|(with_reducible first|exact HB.out|apply below_alloc|apply pw_below_drewN|apply below_drew1|refine below_set ?_ (IsS93.ge HI0.out)|refine below_set ?_ GE340.out|refine below_set ?_ GE350.out)|exact HB.out));rintro e w64 ⟨rfl,hi,hb,hk⟩;refine ⟨_,rfl,?_⟩;have n0_:=Aside0.mk (KeepBut.blk hk (g':=gb340) (o:=.cells #[.int .i64 0,.slice none 0 0] 26 (0,0)) (by (with_reducible repeat (first|refine blk_drewN ?_ _|refine blk_drew ?_|refine blk_alloc ?_ _));refine blk_far ?_ NB340_350.out _;(with_reducible repeat (first|refine blk_drewN ?_ _|refine blk_drew ?_|refine blk_alloc ?_ _));refine blk_far ?_ NB340_350.out _;(with_reducible repeat (first|refine blk_drewN ?_ _|refine blk_drew ?_|refine blk_alloc ?_ _));exact BK340.out) NB340_0.out (by simp));have n1_:=Aside0.mk (Kd.R_mono (Kd.R_keep (IsS93.apart (show IsS93 w0 _ g s0_0 t348 t349 from by repeat (first|(with_reducible first|exact HI0.out|apply IsS93.alloc|apply IsS93.drewN|apply IsS93.drew|apply IsS93.set_1|apply IsS93.set_2|refine IsS93.far ?_ NB0_340.out _|refine IsS93.far ?_ NB0_350.out _)|exact HI0.out)) (by (with_reducible repeat (first|apply Kd.R_alloc|apply Kd.R_drewN|apply Kd.R_drew));exact (Kd.R_mono (Kd.R_far (p:=⟨gb350,1,none⟩) (Kd.R_far (p:=⟨gb350,0,none⟩) (Kd.R_types HO343.out BK350.out (by decide)) (fun _ hk=>hk.2) (.int .i64 t344)) (fun _ hk=>hk.2) (.slice Ao63 t345.length co63)) (fun _ h_=>h_.1))) (by decide)) hk (fun _ h=>h.2)) (fun _ h=>h.1));have n2_:=Aside0.mk (Kd.S_mono (Kd.S_keep (IsS93.apartS (show IsS93 w0 _ g s0_0 t348 t349 from by repeat (first|(with_reducible first|exact HI0.out|apply IsS93.alloc|apply IsS93.drewN|apply IsS93.drew|apply IsS93.set_1|apply IsS93.set_2|refine IsS93.far ?_ NB0_340.out _|refine IsS93.far ?_ NB0_350.out _)|exact HI0.out)) (by (with_reducible repeat (first|apply Kd.S_alloc|apply Kd.S_drewN|apply Kd.S_drew));exact (Kd.S_mono (Kd.S_far (p:=⟨gb350,1,none⟩) (Kd.S_far (p:=⟨gb350,0,none⟩) (Kd.S_types HO347.out BK350.out (by decide)) (fun _ hk=>hk.2) (.int .i64 t344)) (fun _ hk=>hk.2) (.slice Ao63 t345.length co63)) (fun _ h_=>h_.1))) (by decide)) hk (fun _ h=>h.2)) (fun _ h=>h.1));have n3_:=Aside0.mk (KeepBut.blk hk (g':=gb350) (o:=.cells #[.int .i64 t344,.slice Ao63 t345.length co63] 26 (0,0)) (by (with_reducible repeat (first|refine blk_drewN ?_ _|refine blk_drew ?_|refine blk_alloc ?_ _));refine blk_put (cs:=#[.int .i64 t344,.slice none 0 0]) ?_ 1 _ rfl;(with_reducible repeat (first|refine blk_drewN ?_ _|refine blk_drew ?_|refine blk_alloc ?_ _));refine blk_put (cs:=#[.int .i64 0,.slice none 0 0]) ?_ 0 _ rfl;(with_reducible repeat (first|refine blk_drewN ?_ _|refine blk_drew ?_|refine blk_alloc ?_ _));exact BK350.out) NB350_0.out (by simp));have n4_:=Aside0.mk (KeepBut.trans (by repeat (first|(with_reducible first|exact HK.out|apply KeepBut.set_|apply keep_drewN|apply keep_drew|apply keep_alloc|refine keep_far ?_ GW340.out _|refine keep_far ?_ GW350.out _)|exact HK.out)) hk (.inl rfl));have n5_:=Aside0.mk (hb);have n6_:=Aside0.mk (hi);clear BK340;clear HO343;clear HO347;clear BK350;clear HK;clear HB;clear HI0;have BK340:=n0_;have HO343:=n1_;have HO347:=n2_;have BK350:=n3_;have HK:=n4_;have HB:=n5_;have HI0:=n6_;clear n0_ n1_ n2_ n3_ n4_ n5_ n6_;(try clear hb);(try clear hb2);(try clear hk);(try clear hi))|((with_reducible refine gate_callee (f:=74) rfl ?_);refine goesL_ (some 18) rfl rfl Try.func74 (by kernel_rfl) rfl #[.pointer (some ⟨g,0,none⟩),.int .i64 10] rfl (by (try simp only [List.map_toArray,List.map_cons,List.map_nil]);first|done|rfl|(simp only [List.length_drop,List.length_take];rfl)) ?_;(with_reducible refine (spec_l1Below.calls g s0_0 t352 t353 10 t354 t355 t356 w0 _ ?side1 ?side2 A4.out).mono ?_);(case side1=>repeat (first|(with_reducible first|exact HI0.out|apply IsS93.alloc|apply IsS93.drewN|apply IsS93.drew|apply IsS93.set_1|apply IsS93.set_2|refine IsS93.far ?_ NB0_340.out _|refine IsS93.far ?_ NB0_350.out _)|exact HI0.out));(case side2=>repeat (first|(with_reducible first|exact HB.out|apply below_alloc|apply pw_below_drewN|apply below_drew1|refine below_set ?_ (IsS93.ge HI0.out)|refine below_set ?_ GE340.out|refine below_set ?_ GE350.out)|exact HB.out));rintro e w65 ⟨rfl,hi,hb,hk⟩;refine ⟨_,rfl,?_⟩;have n0_:=Aside0.mk (KeepBut.blk hk (g':=gb340) (o:=.cells #[.int .i64 0,.slice none 0 0] 26 (0,0)) (bk BK340) NB340_0.out (by simp));have n1_:=Aside0.mk (Kd.R_mono (Kd.R_keep (IsS93.apart (show IsS93 w0 _ g s0_0 t352 t353 from by repeat (first|(with_reducible first|exact HI0.out|apply IsS93.alloc|apply IsS93.drewN|apply IsS93.drew|apply IsS93.set_1|apply IsS93.set_2|refine IsS93.far ?_ NB0_340.out _|refine IsS93.far ?_ NB0_350.out _)|exact HI0.out)) (rR HO343) (by decide)) hk (fun _ h=>h.2)) (fun _ h=>h.1));have n2_:=Aside0.mk (Kd.S_mono (Kd.S_keep (IsS93.apartS (show IsS93 w0 _ g s0_0 t352 t353 from by repeat (first|(with_reducible first|exact HI0.out|apply IsS93.alloc|apply IsS93.drewN|apply IsS93.drew|apply IsS93.set_1|apply IsS93.set_2|refine IsS93.far ?_ NB0_340.out _|refine IsS93.far ?_ NB0_350.out _)|exact HI0.out)) (rS HO347) (by decide)) hk (fun _ h=>h.2)) (fun _ h=>h.1));have n3_:=Aside0.mk (KeepBut.blk hk (g':=gb350) (o:=.cells #[.int .i64 t344,.slice Ao63 t345.length co63] 26 (0,0)) (bk BK350) NB350_0.out (by simp));have n4_:=Aside0.mk (KeepBut.trans (by repeat (first|(with_reducible first|exact HK.out|apply KeepBut.set_|apply keep_drewN|apply keep_drew|apply keep_alloc|refine keep_far ?_ GW340.out _|refine keep_far ?_ GW350.out _)|exact HK.out)) hk (.inl rfl));have n5_:=Aside0.mk (hb);have n6_:=Aside0.mk (hi);clear BK340;clear HO343;clear HO347;clear BK350;clear HK;clear HB;clear HI0;have BK340:=n0_;have HO343:=n1_;have HO347:=n2_;have BK350:=n3_;have HK:=n4_;have HB:=n5_;have HI0:=n6_;clear n0_ n1_ n2_ n3_ n4_ n5_ n6_;(try clear hb);(try clear hb2);(try clear hk);(try clear hi)))
       have n0_:=Aside0.mk (Kd.R_drew HO343.out)
       have n1_:=Aside0.mk (Kd.S_drew HO347.out)
       have n2_:=Aside0.mk (blk_drew BK340.out)
       have n3_:=Aside0.mk (blk_drew BK350.out)
       have n4_:=Aside0.mk (IsS93.drew HI0.out)
       have n5_:=Aside0.mk (keep_drew HK.out)
       have n6_:=Aside0.mk (below_drew1 HB.out)
       clear HO343
       clear HO347
       clear BK340
       clear BK350
       clear HI0
       clear HK
       clear HB
       have HO343:=n0_
       have HO347:=n1_
       have BK340:=n2_
       have BK350:=n3_
       have HI0:=n4_
       have HK:=n5_
       have HB:=n6_
       clear n0_ n1_ n2_ n3_ n4_ n5_ n6_
       have p371:0≤(t351:Int):=of_decide_eq_true (by first|(with_reducible assumption)|assumption)
       have q371:t351 < (t345.length:Int):=of_decide_eq_true (by first|(with_reducible assumption)|assumption)
       obtain ⟨ad371,A371_0,c371_0,e371,hx371_0,hl371_0,hi371_0⟩:=at_T35 (Kd.S_reads' HO347.out).2.2 t351 p371 q371
       cases e371
       obtain ⟨ce371,hce371,hMe371,hcc371⟩:=Kd.S_get HO347.out z35 t351 p371 (by first|exact q371|exact of_decide_eq_true (by first|(with_reducible assumption)|assumption)|(have e_:=(Kd.S_reads' HO347.out).1;omega))
       obtain ⟨ve371_0,rfl,ge371_0⟩:=k35_openM hMe371
       have hv371_0:=hcc371 0 _ rfl
       rw [Nat.add_zero,show (k35).sz=1 from rfl,Nat.mul_one] at hv371_0
       replace hv371_0:=Option.some.inj (hv371_0.symm.trans hx371_0)
       rw [hv371_0] at ge371_0
       have HL371_0:=Aside0.mk (show Kd.R (Kd.int .i64) 3 _ _ _ _ ((rd_T35 t345 t351).f0) from ge371_0)
       clear hv371_0 ge371_0
       have HX371_0:=Aside0.mk hx371_0
       clear hcc371 hce371
       have HR371_0:=Aside0.mk hi371_0
       have HC371_0:=Aside0.mk hl371_0
       clear hi371_0 hl371_0
       replace p371:=eq_true p371
       replace q371:=eq_true q371
       refine start_ (n:=10) (S:=fun w'=>w'.cell? ⟨gb350,0,none⟩=some (.int .i64 t344)∧w'.cell? ⟨gb350,1,none⟩=some (.slice (some ad371) t345.length co63)∧w'.cell? (ad371.add (t351).toNat)=some (.slice A371_0 ((rd_T35 t345 t351).f0).length c371_0)) (ds:=[9]) (fl 10 0) (by kernel_rfl) rfl rfl ⟨(blk_cell BK350.out 0).trans rfl,(blk_cell BK350.out 1).trans rfl,hx371_0⟩ (fun hHeld=>?_);refine with_tabW spec_l5Any.tab9 spec_l5Any.bits9 (fun HT_ HW_=>?_)
       generalize w65.drew=w66 at HO343 HO347 BK340 BK350 HI0 HK HB HL371_0 HR371_0 HX371_0 hx371_0 hHeld ⊢
       refine pt 0 44 (fl 10 1) HT_ ?_
       refine pt 2 46 (fl 10 5) HT_ ?_
       refine pt 6 50 (fl 10 69) HT_ ?_
       refine tt 1 45 (fl 10 71) HT_ HW_ hHeld ?_
       refine pt 3 47 (fl 10 79) HT_ ?_
       refine pt 4 48 (fl 10 95) HT_ ?_
       refine tt 5 49 (fl 10 127) HT_ HW_ hHeld ?_
       refine ot 7 (some 51) (fl 10 255) HT_ (fun K hK=>?_)
       refine goes_ Try.func74 (by kernel_rfl) rfl #[.pointer (some ⟨g,0,none⟩),.int .i64 9] (by rfl) rfl rfl (by (try simp only [List.map_toArray,List.map_cons,List.map_nil]);first|done|rfl|(simp only [List.length_drop,List.length_take];rfl)) ?_
       with_reducible refine (spec_l1Below.calls g s0_0 t355 t356 9 t372 t373 t374 w0 _ ?side1 ?side2 A54.out).mono ?_
       (case side1=>repeat (first|(with_reducible first|exact HI0.out|apply IsS93.alloc|apply IsS93.drewN|apply IsS93.drew|apply IsS93.set_1|apply IsS93.set_2|refine IsS93.far ?_ NB0_340.out _|refine IsS93.far ?_ NB0_350.out _)|exact HI0.out))
       (case side2=>repeat (first|(with_reducible first|exact HB.out|apply below_alloc|apply pw_below_drewN|apply below_drew1|refine below_set ?_ (IsS93.ge HI0.out)|refine below_set ?_ GE340.out|refine below_set ?_ GE350.out)|exact HB.out))
       rintro e w67 ⟨rfl,hi,hb,hk⟩
       have HS2_:=keep_cell hk (hHeld.2.2) (by first|(rw [add_block];exact Kd.own_blk (IsS93.own_neS HI0.out HO347.out (by decide)))|(show (Addr.add _ _).block ≠ _;rw [add_block];exact Kd.own_blk (IsS93.own_neS HI0.out HO347.out (by decide)))|exact Kd.own_blk (IsS93.own_neS HI0.out HO347.out (by decide)))
       refine ⟨_,rfl,?_⟩
       have n0_:=Aside0.mk (KeepBut.blk hk (g':=gb340) (o:=.cells #[.int .i64 0,.slice none 0 0] 26 (0,0)) (bk BK340) NB340_0.out (by simp))
       have n1_:=Aside0.mk (Kd.R_mono (Kd.R_keep (IsS93.apart (show IsS93 w0 _ g s0_0 t355 t356 from by repeat (first|(with_reducible first|exact HI0.out|apply IsS93.alloc|apply IsS93.drewN|apply IsS93.drew|apply IsS93.set_1|apply IsS93.set_2|refine IsS93.far ?_ NB0_340.out _|refine IsS93.far ?_ NB0_350.out _)|exact HI0.out)) (rR HO343) (by decide)) hk (fun _ h=>h.2)) (fun _ h=>h.1))
       have n2_:=Aside0.mk (Kd.S_mono (Kd.S_keep (IsS93.apartS (show IsS93 w0 _ g s0_0 t355 t356 from by repeat (first|(with_reducible first|exact HI0.out|apply IsS93.alloc|apply IsS93.drewN|apply IsS93.drew|apply IsS93.set_1|apply IsS93.set_2|refine IsS93.far ?_ NB0_340.out _|refine IsS93.far ?_ NB0_350.out _)|exact HI0.out)) (rS HO347) (by decide)) hk (fun _ h=>h.2)) (fun _ h=>h.1))
       have n3_:=Aside0.mk (KeepBut.blk hk (g':=gb350) (o:=.cells #[.int .i64 t344,.slice (some ad371) t345.length co63] 26 (0,0)) (bk BK350) NB350_0.out (by simp))
       have n4_:=Aside0.mk (Kd.R_mono (Kd.R_keep (IsS93.apart (show IsS93 w0 _ g s0_0 t355 t356 from by repeat (first|(with_reducible first|exact HI0.out|apply IsS93.alloc|apply IsS93.drewN|apply IsS93.drew|apply IsS93.set_1|apply IsS93.set_2|refine IsS93.far ?_ NB0_340.out _|refine IsS93.far ?_ NB0_350.out _)|exact HI0.out)) (by (with_reducible repeat (first|apply Kd.R_alloc|apply Kd.R_drewN|apply Kd.R_drew));exact HL371_0.out) (by decide)) hk (fun _ h=>h.2)) (fun _ h=>h.1))
       have n5_:=Aside0.mk (keep_cell hk HX371_0.out (by first|(rw [add_block];exact Kd.own_blk (IsS93.own_neS HI0.out HO347.out (by decide)))|(show (Addr.add _ _).block ≠ _;rw [add_block];exact Kd.own_blk (IsS93.own_neS HI0.out HO347.out (by decide)))|exact Kd.own_blk (IsS93.own_neS HI0.out HO347.out (by decide))|(dsimp only;exact Kd.own_blk (IsS93.own_neS HI0.out HO347.out (by decide)))))
       have n6_:=Aside0.mk (KeepBut.trans (by repeat (first|(with_reducible first|exact HK.out|apply KeepBut.set_|apply keep_drewN|apply keep_drew|apply keep_alloc|refine keep_far ?_ GW340.out _|refine keep_far ?_ GW350.out _)|exact HK.out)) hk (.inl rfl))
       have n7_:=Aside0.mk (hb)
       have n8_:=Aside0.mk (hi)
       clear BK340
       clear HO343
       clear HO347
       clear BK350
       clear HL371_0
       clear HX371_0
       clear HK
       clear HB
       clear HI0
       have BK340:=n0_
       have HO343:=n1_
       have HO347:=n2_
       have BK350:=n3_
       have HL371_0:=n4_
       have HX371_0:=n5_
       have HK:=n6_
       have HB:=n7_
       have HI0:=n8_
       clear n0_ n1_ n2_ n3_ n4_ n5_ n6_ n7_ n8_
       (try clear hb)
       (try clear hb2)
       (try clear hk)
       (try clear hi)
       have p56:0≤(0:Int):=(by omega)
       have q56:(0:Int) < ((((rd_T35 t345 t351).f0).length:Int):Int):=of_decide_eq_true (by first|(with_reducible assumption)|assumption)
       have qi56:(0 < ((rd_T35 t345 t351).f0).length)=True:=eq_true (by omega)
       obtain ⟨go56,co56,eo56,gb56,gl56,cl56,HG56⟩:=Kd.R_form HL371_0.out (by omega)
       (first|cases eo56|(injection eo56 with ea_ en_ ec_;(first|subst ea_|(injection ea_ with ea_;subst ea_));subst ec_;clear en_))
       have GB56:=Aside0.mk gb56
       have GG56:=Aside0.mk HG56
       clear gb56 gl56 HG56
       obtain ⟨hx56_0,hf56_0⟩:=Kd.R_celln 0 HL371_0.out (0:Int) p56 q56
       (try rw [show ((0:Int)).toNat=0 from rfl] at hx56_0)
       (try simp only [Nat.reduceMul,Nat.zero_mul,Nat.zero_add,Nat.reduceAdd] at hx56_0)
       (try rw [show ((0:Int)).toNat=0 from rfl] at hf56_0)
       (try simp only [Nat.reduceMul,Nat.zero_mul,Nat.zero_add,Nat.reduceAdd] at hf56_0)
       replace p56:=eq_true p56
       replace q56:=eq_true q56
       have hq68:(t351:Int) < (t345.length:Int):=(by have h_:(t351:Int) < ((t345.length:Int):Int):=of_decide_eq_true (by first|(with_reducible assumption)|assumption);first|exact h_|(have e_:=(Kd.S_reads' HO347.out).1;omega)|simpa only [List.length_set,List.length_set] using h_)
       obtain ⟨oki68,ce68,hcl68,hM68,hcc68,hok68,hbk68⟩:=Kd.S_borrow HO347.out z35 (t351:Int) (of_decide_eq_true (by first|(with_reducible assumption)|assumption)) hq68
       obtain ⟨ve68_0,rfl,ge68_0⟩:=k35_openM hM68
       have hv68:=hcc68 0 _ rfl
       rw [Nat.add_zero,show (k35).sz=1 from rfl,Nat.mul_one] at hv68
       replace hv68:=Option.some.inj (hv68.symm.trans HX371_0.out)
       subst hv68
       clear hcc68 hcl68
       replace ge68_0:=(show Kd.R (Kd.int .i64) 3 _ _ _ _ ((rd_T35 t345 t351).f0) from ge68_0)
       have HP68:=Kd.R_putg ge68_0 (0:Int) t372
       have HN0_go56:=Aside0.mk (show g ≠ go56 from by have h_:=IsS93.own_ne HI0.out HL371_0.out (by decide);intro e_;exact h_ (by rw [e_];rfl))
       rw [← Ny375.out] at HP68
       have HS68:=hbk68 HP68.2 (fun k_ e_=>by injection e_ with e_;subst e_;exact ge68_0.1 _ rfl) (x':=(⟨y375⟩:S35)) (k35_mkM _ _ _ (⟨y375⟩:S35) HP68.1)
       rw [← Ny377.out] at HS68
       have HQ68:=Aside0.mk HS68
       clear HP68 HS68 hbk68 hok68
       refine hK.out _ _ ⟨(blk_cell BK350.out 0).trans rfl,(blk_cell BK350.out 1).trans rfl,HS2_⟩ (fun hHeld=>?_)
       clear hK K
       refine no 51 ?_
       refine pt 8 52 (fl 10 511) HT_ ?_
       refine last_ (i:=9) (N:=none) (fl 10 1023) rfl rfl (one_of HT_.out (by kernel_rfl)) (by decide) (fun K hK=>?_)
       refine skip_ (w1:=?_) (by rfl) rfl ?_ ?_
       rotate_left
       ·go_simp
        rfl
       refine hK.out _ _ ?_
       clear hK K
       refine done_ (done_of HT_.out (by kernel_rfl)) ?_
       have n0_:Aside0 (Kd.R k61 61 (w67.setCell ⟨go56,0,none⟩ (.int .i64 t372)) w.heap.size (fun _=>True) v342 t341):=⟨by (with_reducible repeat (first|apply Kd.R_alloc|apply Kd.R_drewN|apply Kd.R_drew));exact Kd.R_mono (Kd.R_far (p:=⟨go56,0,none⟩) (Kd.R_types HO343.out GG56.out (by decide)) (fun _ hk=>hk.2) (.int .i64 t372)) (fun _ hk=>trivial)⟩
       have n1_:Aside0 (Kd.S k35 35 (w67.setCell ⟨go56,0,none⟩ (.int .i64 t372)) w.heap.size (fun _=>True) (.slice (some ad371) t345.length co63) y377):=⟨by (with_reducible repeat (first|apply Kd.S_alloc|apply Kd.S_drewN|apply Kd.S_drew));exact HQ68.out⟩
       have n2_:Aside0 ((w67.setCell ⟨go56,0,none⟩ (.int .i64 t372)).heap[gb340]?=some (.cells #[.int .i64 0,.slice none 0 0] 26 (0,0))):=⟨by (with_reducible repeat (first|refine blk_drewN ?_ _|refine blk_drew ?_|refine blk_alloc ?_ _));refine blk_far ?_ (by have h_:=Kd.R_ne HL371_0.out BK340.out (by decide);intro e_;exact h_ (by rw [e_];rfl)) _;(with_reducible repeat (first|refine blk_drewN ?_ _|refine blk_drew ?_|refine blk_alloc ?_ _));exact BK340.out⟩
       have n3_:Aside0 ((w67.setCell ⟨go56,0,none⟩ (.int .i64 t372)).heap[gb350]?=some (.cells #[.int .i64 t344,.slice (some ad371) t345.length co63] 26 (0,0))):=⟨by (with_reducible repeat (first|refine blk_drewN ?_ _|refine blk_drew ?_|refine blk_alloc ?_ _));refine blk_far ?_ (by have h_:=Kd.R_ne HL371_0.out BK350.out (by decide);intro e_;exact h_ (by rw [e_];rfl)) _;(with_reducible repeat (first|refine blk_drewN ?_ _|refine blk_drew ?_|refine blk_alloc ?_ _));exact BK350.out⟩
       have n4_:Aside0 (IsS93 w0 (w67.setCell ⟨go56,0,none⟩ (.int .i64 t372)) g s0_0 t373 t374):=⟨by repeat (first|(with_reducible first|exact HI0.out|apply IsS93.alloc|apply IsS93.drewN|apply IsS93.drew|apply IsS93.set_1|apply IsS93.set_2|refine IsS93.far ?_ HN0_go56.out _|refine IsS93.far ?_ NB0_340.out _|refine IsS93.far ?_ NB0_350.out _)|exact HI0.out)⟩
       have n5_:Aside0 (KeepBut w (w67.setCell ⟨go56,0,none⟩ (.int .i64 t372)) g none):=⟨by repeat (first|(with_reducible first|exact HK.out|apply KeepBut.set_|apply keep_drewN|apply keep_drew|apply keep_alloc|refine keep_far ?_ GB56.out _|refine keep_far ?_ GW340.out _|refine keep_far ?_ GW350.out _)|exact HK.out)⟩
       have n6_:Aside0 (Below w0.heap.size w0 (w67.setCell ⟨go56,0,none⟩ (.int .i64 t372))):=⟨by repeat (first|(with_reducible first|exact HB.out|apply below_alloc|apply pw_below_drewN|apply below_drew1|refine below_set ?_ (Nat.le_trans HL.out GB56.out)|refine below_set ?_ (IsS93.ge HI0.out)|refine below_set ?_ GE340.out|refine below_set ?_ GE350.out)|exact HB.out)⟩
       (try clear HO343)
       (try clear HO347)
       (try clear BK340)
       (try clear BK350)
       (try clear HI0)
       (try clear HK)
       (try clear HB)
       generalize (w67.setCell ⟨go56,0,none⟩ (.int .i64 t372))=w70 at n0_ n1_ n2_ n3_ n4_ n5_ n6_ ⊢
       have HO343:=n0_
       have HO347:=n1_
       have BK340:=n2_
       have BK350:=n3_
       have HI0:=n4_
       have HK:=n5_
       have HB:=n6_
       clear n0_ n1_ n2_ n3_ n4_ n5_ n6_
       try go_wp2
       have n0_:=Aside0.mk (Kd.R_drew HO343.out)
       have n1_:=Aside0.mk (Kd.S_drew HO347.out)
       have n2_:=Aside0.mk (blk_drew BK340.out)
       have n3_:=Aside0.mk (blk_drew BK350.out)
       have n4_:=Aside0.mk (IsS93.drew HI0.out)
       have n5_:=Aside0.mk (keep_drew HK.out)
       have n6_:=Aside0.mk (below_drew1 HB.out)
       clear HO343
       clear HO347
       clear BK340
       clear BK350
       clear HI0
       clear HK
       clear HB
       have HO343:=n0_
       have HO347:=n1_
       have BK340:=n2_
       have BK350:=n3_
       have HI0:=n4_
       have HK:=n5_
       have HB:=n6_
       clear n0_ n1_ n2_ n3_ n4_ n5_ n6_
       refine start_ (n:=4) (S:=fun w'=>w'.cell? ⟨gb350,0,none⟩=some (.int .i64 t344)∧w'.cell? ⟨gb350,1,none⟩=some (.slice (some ad371) t345.length co63)) (ds:=[]) (fl 4 0) (by kernel_rfl) rfl rfl ⟨(blk_cell BK350.out 0).trans rfl,(blk_cell BK350.out 1).trans rfl⟩ (fun hHeld=>?_)
       generalize w70.drew=w71 at HO343 HO347 BK340 BK350 HI0 HK HB hHeld ⊢
       refine pu 0 63 (fl 4 1) ?_
       refine pu 2 2 (fl 4 5) ?_
       refine ta 1 64 (fl 4 7) hHeld ?_
       refine on 3 none (fl 4 15) (fun K hK=>?_)
       have hs72:w71.cell? ⟨gb340,0,none⟩=some (.int .i64 0):=(blk_cell BK340.out 0).trans rfl
       have hfs72:=blk_frozen BK340.out 0
       have hns72_1:=NB350_340.out
       have hms72_1:=NB340_350.out
       have hs73:w71.cell? ⟨gb340,1,none⟩=some (.slice none 0 0):=(blk_cell BK340.out 1).trans rfl
       have hfs73:=blk_frozen BK340.out 1
       have hns73_1:=NB350_340.out
       have hms73_1:=NB340_350.out
       refine skip_ (w1:=?_) (by rfl) rfl ?_ ?_
       rotate_left
       ·go_simp
        rfl
       refine hK.out _ _ ⟨((cell_far (p:=⟨gb340,_,none⟩) NB350_340.out _).trans (((cell_far (p:=⟨gb340,_,none⟩) NB350_340.out _).trans (hHeld.1)))),((cell_far (p:=⟨gb340,_,none⟩) NB350_340.out _).trans (((cell_far (p:=⟨gb340,_,none⟩) NB350_340.out _).trans (hHeld.2))))⟩ (fun hHeld=>?_)
       clear hK K
       refine done_ (by kernel_rfl) ?_
       try go_wp2
       refine bodyPost_ret (results_tc rfl _ _ gb340 26 #[.int .i64 t344,.slice (some ad371) t345.length co63] (0,0) _ rfl (by (with_reducible repeat (first|refine blk_drewN ?_ _|refine blk_drew ?_|refine blk_alloc ?_ _));refine blk_put (cs:=#[.int .i64 t344,.slice none 0 0]) ?_ 1 _ rfl;(with_reducible repeat (first|refine blk_drewN ?_ _|refine blk_drew ?_|refine blk_alloc ?_ _));refine blk_put (cs:=#[.int .i64 0,.slice none 0 0]) ?_ 0 _ rfl;(with_reducible repeat (first|refine blk_drewN ?_ _|refine blk_drew ?_|refine blk_alloc ?_ _));exact BK340.out) Try.underlying26 rfl (by kernel_rfl)) rfl ?_
       exact ⟨_,_,rz,by (with_reducible repeat (first|apply Kd.R_alloc|apply Kd.R_drewN|apply Kd.R_drew));exact Kd.R_mono (Kd.R_far (p:=⟨gb340,1,none⟩) (Kd.R_far (p:=⟨gb340,0,none⟩) (Kd.R_types HO343.out BK340.out (by decide)) (fun _ hk=>hk.2) (.int .i64 t344)) (fun _ hk=>hk.2) (.slice (some ad371) t345.length co63)) (fun _ hk=>trivial),by (with_reducible repeat (first|apply Kd.S_alloc|apply Kd.S_drewN|apply Kd.S_drew));exact Kd.S_mono (Kd.S_far (p:=⟨gb340,1,none⟩) (Kd.S_far (p:=⟨gb340,0,none⟩) (Kd.S_types HO347.out BK340.out (by decide)) (fun _ hk=>hk.2) (.int .i64 t344)) (fun _ hk=>hk.2) (.slice (some ad371) t345.length co63)) (fun _ hk=>trivial),by repeat (first|(with_reducible first|exact HI0.out|apply IsS93.alloc|apply IsS93.drewN|apply IsS93.drew|apply IsS93.set_1|apply IsS93.set_2|refine IsS93.far ?_ NB0_340.out _|refine IsS93.far ?_ NB0_350.out _)|exact HI0.out),by repeat (first|(with_reducible first|exact HB.out|apply below_alloc|apply pw_below_drewN|apply below_drew1|refine below_set ?_ (IsS93.ge HI0.out)|refine below_set ?_ GE340.out|refine below_set ?_ GE350.out)|exact HB.out),by repeat (first|(with_reducible first|exact HK.out|apply KeepBut.set_|apply keep_drewN|apply keep_drew|apply keep_alloc|refine keep_far ?_ GW340.out _|refine keep_far ?_ GW350.out _)|exact HK.out)⟩
      ·rw [if_neg c55] at H
       exact absurd H (by simp)
     ·rw [if_neg c53] at H
      exact absurd H (by simp)
    ·rw [if_neg c52] at H
     exact absurd H (by simp)
   ·rw [if_neg c51] at H
    have c51b0:(t354 == 2)=false:=beq_eq_false_iff_ne.mpr c51
    have c51b1:(t354 != 2)=true:=bne_iff_ne.mpr c51
    by_cases c74:t354=3
    ·rw [if_pos c74] at H
     have c74b0:(t354 == 3)=true:=beq_iff_eq.mpr c74
     have c74b1:(t354 != 3)=false:=bne_eq_false_iff_eq.mpr c74
     clear c74
     replace H:=Option.bind_eq_some_iff.mp H
     obtain ⟨⟨t378,t381,t382⟩,A750,H⟩:=H
     try dsimp only at H
     have A75:=Aside0.mk A750
     clear A750
     simp only [Option.some.injEq,Prod.mk.injEq] at H
     obtain ⟨rfl,rfl,rfl,rfl,rfl⟩:=H
     go_enter Try.func39,Try.ntmps39
     try go_wp2_with (first|((with_reducible refine gate_dst (N:=3) rfl ?_);refine box_event ?hg (N:=3) ?hd (cs:=#[.int .i64 0,.slice none 0 0]) (t:=26) ?hr ?_;(case hd=>rfl);(case hg=>rfl);(case hr=>first|(go_simp;done)|(go_simp;rfl));intro gb340 hg w76 hbox hb;have n0_:=Aside0.mk (IsS93.below (by repeat (first|(with_reducible first|exact HI0.out|apply IsS93.alloc|apply IsS93.drewN|apply IsS93.drew|apply IsS93.set_1|apply IsS93.set_2)|exact HI0.out)) hb);have n1_:=Aside0.mk (KeepBut.trans (by repeat (first|(with_reducible first|exact HK.out|apply KeepBut.set_|apply keep_drewN|apply keep_drew|apply keep_alloc)|exact HK.out)) (KeepBut.of_below hb g none) (.inl rfl));have n2_:=Aside0.mk (below_step (by repeat (first|(with_reducible first|exact HB.out|apply below_alloc|apply pw_below_drewN|apply below_drew1|refine below_set ?_ (IsS93.ge HI0.out))|exact HB.out)) hb);have n3_:=Aside0.mk (hbox);have n4_:=Aside0.mk ((by rw [hg];exact (keep_size (w:=w) (g:=g) (row:=none) (by repeat (first|(with_reducible first|exact HK.out|apply KeepBut.set_|apply keep_drewN|apply keep_drew|apply keep_alloc)|exact HK.out))):w.heap.size≤gb340));have n5_:=Aside0.mk ((Nat.le_trans HW0.out (by rw [hg];exact (keep_size (w:=w) (g:=g) (row:=none) (by repeat (first|(with_reducible first|exact HK.out|apply KeepBut.set_|apply keep_drewN|apply keep_drew|apply keep_alloc)|exact HK.out))):w.heap.size≤gb340):w0.heap.size≤gb340));have n6_:=Aside0.mk ((by rw [hg];exact Nat.ne_of_lt (IsS93.lt (show IsS93 w0 _ g s0_0 s0_1 s0_2 from by repeat (first|(with_reducible first|exact HI0.out|apply IsS93.alloc|apply IsS93.drewN|apply IsS93.drew|apply IsS93.set_1|apply IsS93.set_2)|exact HI0.out))):g ≠ gb340));have n7_:=Aside0.mk ((by rw [hg];exact Nat.ne_of_gt (IsS93.lt (show IsS93 w0 _ g s0_0 s0_1 s0_2 from by repeat (first|(with_reducible first|exact HI0.out|apply IsS93.alloc|apply IsS93.drewN|apply IsS93.drew|apply IsS93.set_1|apply IsS93.set_2)|exact HI0.out))):gb340 ≠ g));clear HI0;clear HK;clear HB;have HI0:=n0_;have HK:=n1_;have HB:=n2_;have BK340:=n3_;have GW340:=n4_;have GE340:=n5_;have NB0_340:=n6_;have NB340_0:=n7_;clear n0_ n1_ n2_ n3_ n4_ n5_ n6_ n7_;clear hb hbox hg)|((with_reducible refine gate_callee (f:=37) rfl ?_);refine goesL_ (some 9) rfl rfl Try.func37 (by kernel_rfl) rfl #[.pointer (some ⟨g,0,none⟩)] rfl (by (try simp only [List.map_toArray,List.map_cons,List.map_nil]);first|done|rfl|(simp only [List.length_drop,List.length_take];rfl)) ?_;(with_reducible refine (spec_l5Draw.calls k g s0_0 s0_1 s0_2 t341 t344 t345 t348 t349 w0 _ ?side1 ?side2 A2.out).mono ?_);(case side1=>repeat (first|(with_reducible first|exact HI0.out|apply IsS93.alloc|apply IsS93.drewN|apply IsS93.drew|apply IsS93.set_1|apply IsS93.set_2|refine IsS93.far ?_ NB0_340.out _)|exact HI0.out));(case side2=>repeat (first|(with_reducible first|exact HB.out|apply below_alloc|apply pw_below_drewN|apply below_drew1|refine below_set ?_ (IsS93.ge HI0.out)|refine below_set ?_ GE340.out)|exact HB.out));rintro e w77 ⟨v342,v346,rfl,ho0,ho1,hi,hb,hk⟩;refine ⟨_,rfl,?_⟩;have n0_:=Aside0.mk (KeepBut.blk hk (g':=gb340) (o:=.cells #[.int .i64 0,.slice none 0 0] 26 (0,0)) (bk BK340) NB340_0.out (by simp));have n1_:=Aside0.mk (Kd.R_lower ho0 (keep_size (w:=w) (g:=g) (row:=none) (by repeat (first|(with_reducible first|exact HK.out|apply KeepBut.set_|apply keep_drewN|apply keep_drew|apply keep_alloc|refine keep_far ?_ GW340.out _)|exact HK.out))));have n2_:=Aside0.mk (Kd.S_lower ho1 (keep_size (w:=w) (g:=g) (row:=none) (by repeat (first|(with_reducible first|exact HK.out|apply KeepBut.set_|apply keep_drewN|apply keep_drew|apply keep_alloc|refine keep_far ?_ GW340.out _)|exact HK.out))));have n3_:=Aside0.mk (KeepBut.trans (by repeat (first|(with_reducible first|exact HK.out|apply KeepBut.set_|apply keep_drewN|apply keep_drew|apply keep_alloc|refine keep_far ?_ GW340.out _)|exact HK.out)) hk (.inl rfl));have n4_:=Aside0.mk (hb);have n5_:=Aside0.mk (hi);clear BK340;clear HK;clear HB;clear HI0;have BK340:=n0_;have HO343:=n1_;have HO347:=n2_;have HK:=n3_;have HB:=n4_;have HI0:=n5_;clear n0_ n1_ n2_ n3_ n4_ n5_;(try clear hb);(try clear hb2);(try clear hk);(try clear hi);(try clear ho0);(try clear ho1))|((with_reducible refine gate_dst (N:=5) rfl ?_);refine box_event ?hg (N:=5) ?hd (cs:=#[.int .i64 0,.slice none 0 0]) (t:=26) ?hr ?_;(case hd=>rfl);(case hg=>rfl);(case hr=>first|(go_simp;done)|(go_simp;rfl));intro gb350 hg w78 hbox hb;have n0_:=Aside0.mk (Kd.R_below (rR HO343) hb);have n1_:=Aside0.mk (Kd.S_below (rS HO347) hb);have n2_:=Aside0.mk (IsS93.below (by repeat (first|(with_reducible first|exact HI0.out|apply IsS93.alloc|apply IsS93.drewN|apply IsS93.drew|apply IsS93.set_1|apply IsS93.set_2|refine IsS93.far ?_ NB0_340.out _)|exact HI0.out)) hb);have n3_:=Aside0.mk (blk_below (g:=gb340) (o:=.cells #[.int .i64 0,.slice none 0 0] 26 (0,0)) (bk BK340) hb);have n4_:=Aside0.mk (KeepBut.trans (by repeat (first|(with_reducible first|exact HK.out|apply KeepBut.set_|apply keep_drewN|apply keep_drew|apply keep_alloc|refine keep_far ?_ GW340.out _)|exact HK.out)) (KeepBut.of_below hb g none) (.inl rfl));have n5_:=Aside0.mk (below_step (by repeat (first|(with_reducible first|exact HB.out|apply below_alloc|apply pw_below_drewN|apply below_drew1|refine below_set ?_ (IsS93.ge HI0.out)|refine below_set ?_ GE340.out)|exact HB.out)) hb);have n6_:=Aside0.mk (hbox);have n7_:=Aside0.mk ((by rw [hg];exact (keep_size (w:=w) (g:=g) (row:=none) (by repeat (first|(with_reducible first|exact HK.out|apply KeepBut.set_|apply keep_drewN|apply keep_drew|apply keep_alloc|refine keep_far ?_ GW340.out _)|exact HK.out))):w.heap.size≤gb350));have n8_:=Aside0.mk ((Nat.le_trans HW0.out (by rw [hg];exact (keep_size (w:=w) (g:=g) (row:=none) (by repeat (first|(with_reducible first|exact HK.out|apply KeepBut.set_|apply keep_drewN|apply keep_drew|apply keep_alloc|refine keep_far ?_ GW340.out _)|exact HK.out))):w.heap.size≤gb350):w0.heap.size≤gb350));have n9_:=Aside0.mk ((by rw [hg];exact Nat.ne_of_lt (blk_lt (g:=gb340) (o:=.cells #[.int .i64 0,.slice none 0 0] 26 (0,0)) (bk BK340)):gb340 ≠ gb350));have n10_:=Aside0.mk ((by rw [hg];exact Nat.ne_of_gt (blk_lt (g:=gb340) (o:=.cells #[.int .i64 0,.slice none 0 0] 26 (0,0)) (bk BK340)):gb350 ≠ gb340));have n11_:=Aside0.mk ((by rw [hg];exact Nat.ne_of_lt (IsS93.lt (show IsS93 w0 _ g s0_0 t348 t349 from by repeat (first|(with_reducible first|exact HI0.out|apply IsS93.alloc|apply IsS93.drewN|apply IsS93.drew|apply IsS93.set_1|apply IsS93.set_2|refine IsS93.far ?_ NB0_340.out _)|exact HI0.out))):g ≠ gb350));have n12_:=Aside0.mk ((by rw [hg];exact Nat.ne_of_gt (IsS93.lt (show IsS93 w0 _ g s0_0 t348 t349 from by repeat (first|(with_reducible first|exact HI0.out|apply IsS93.alloc|apply IsS93.drewN|apply IsS93.drew|apply IsS93.set_1|apply IsS93.set_2|refine IsS93.far ?_ NB0_340.out _)|exact HI0.out))):gb350 ≠ g));clear HO343;clear HO347;clear HI0;clear BK340;clear HK;clear HB;have HO343:=n0_;have HO347:=n1_;have HI0:=n2_;have BK340:=n3_;have HK:=n4_;have HB:=n5_;have BK350:=n6_;have GW350:=n7_;have GE350:=n8_;have NB340_350:=n9_;have NB350_340:=n10_;have NB0_350:=n11_;have NB350_0:=n12_;clear n0_ n1_ n2_ n3_ n4_ n5_ n6_ n7_ n8_ n9_ n10_ n11_ n12_;clear hb hbox hg;have hnb79:=NB350_340.out;have hnc79:=NB340_350.out;have hnb80:=NB350_0.out;have hnc80:=NB0_350.out;have hcz81_0:w78.cell? ⟨gb350,0,none⟩=some (.int .i64 0):=(blk_cell BK350.out 0).trans rfl;have hcz81_1:w78.cell? ⟨gb350,1,none⟩=some (.slice none 0 0):=(blk_cell BK350.out 1).trans rfl;have hfz81_0:=blk_frozen BK350.out 0;have hfz81_1:=blk_frozen BK350.out 1;obtain ⟨Ao82,co82,eo82⟩:=Kd.S_slice HO347.out;subst eo82)|((with_reducible refine gate_callee (f:=74) rfl ?_);refine goesL_ (some 16) rfl rfl Try.func74 (by kernel_rfl) rfl #[.pointer (some ⟨g,0,none⟩),.int .i64 (t345.length:Int)] rfl (by (try simp only [List.map_toArray,List.map_cons,List.map_nil]);first|done|rfl|(simp only [List.length_drop,List.length_take];rfl)) ?_;(with_reducible refine (spec_l1Below.calls g s0_0 t348 t349 (t345.length:Int) t351 t352 t353 w0 _ ?side1 ?side2 A3.out).mono ?_);(case side1=>repeat (first|(with_reducible first|exact HI0.out|apply IsS93.alloc|apply IsS93.drewN|apply IsS93.drew|apply IsS93.set_1|apply IsS93.set_2|refine IsS93.far ?_ NB0_340.out _|refine IsS93.far ?_ NB0_350.out _)|exact HI0.out));(case side2=>repeat (first|(with_reducible first|exact HB.out|apply below_alloc|apply pw_below_drewN|apply below_drew1|refine below_set ?_ (IsS93.ge HI0.out)|refine below_set ?_ GE340.out|refine below_set ?_ GE350.out)|exact HB.out));rintro e w83 ⟨rfl,hi,hb,hk⟩;refine ⟨_,rfl,?_⟩;have n0_:=Aside0.mk (KeepBut.blk hk (g':=gb340) (o:=.cells #[.int .i64 0,.slice none 0 0] 26 (0,0)) (by (with_reducible repeat (first|refine blk_drewN ?_ _|refine blk_drew ?_|refine blk_alloc ?_ _));refine blk_far ?_ NB340_350.out _;(with_reducible repeat (first|refine blk_drewN ?_ _|refine blk_drew ?_|refine blk_alloc ?_ _));refine blk_far ?_ NB340_350.out _;(with_reducible repeat (first|refine blk_drewN ?_ _|refine blk_drew ?_|refine blk_alloc ?_ _));exact BK340.out) NB340_0.out (by simp));have n1_:=Aside0.mk (Kd.R_mono (Kd.R_keep (IsS93.apart (show IsS93 w0 _ g s0_0 t348 t349 from by repeat (first|(with_reducible first|exact HI0.out|apply IsS93.alloc|apply IsS93.drewN|apply IsS93.drew|apply IsS93.set_1|apply IsS93.set_2|refine IsS93.far ?_ NB0_340.out _|refine IsS93.far ?_ NB0_350.out _)|exact HI0.out)) (by (with_reducible repeat (first|apply Kd.R_alloc|apply Kd.R_drewN|apply Kd.R_drew));exact (Kd.R_mono (Kd.R_far (p:=⟨gb350,1,none⟩) (Kd.R_far (p:=⟨gb350,0,none⟩) (Kd.R_types HO343.out BK350.out (by decide)) (fun _ hk=>hk.2) (.int .i64 t344)) (fun _ hk=>hk.2) (.slice Ao82 t345.length co82)) (fun _ h_=>h_.1))) (by decide)) hk (fun _ h=>h.2)) (fun _ h=>h.1));have n2_:=Aside0.mk (Kd.S_mono (Kd.S_keep (IsS93.apartS (show IsS93 w0 _ g s0_0 t348 t349 from by repeat (first|(with_reducible first|exact HI0.out|apply IsS93.alloc|apply IsS93.drewN|apply IsS93.drew|apply IsS93.set_1|apply IsS93.set_2|refine IsS93.far ?_ NB0_340.out _|refine IsS93.far ?_ NB0_350.out _)|exact HI0.out)) (by (with_reducible repeat (first|apply Kd.S_alloc|apply Kd.S_drewN|apply Kd.S_drew));exact (Kd.S_mono (Kd.S_far (p:=⟨gb350,1,none⟩) (Kd.S_far (p:=⟨gb350,0,none⟩) (Kd.S_types HO347.out BK350.out (by decide)) (fun _ hk=>hk.2) (.int .i64 t344)) (fun _ hk=>hk.2) (.slice Ao82 t345.length co82)) (fun _ h_=>h_.1))) (by decide)) hk (fun _ h=>h.2)) (fun _ h=>h.1));have n3_:=Aside0.mk (KeepBut.blk hk (g':=gb350) (o:=.cells #[.int .i64 t344,.slice Ao82 t345.length co82] 26 (0,0)) (by (with_reducible repeat (first|refine blk_drewN ?_ _|refine blk_drew ?_|refine blk_alloc ?_ _));refine blk_put (cs:=#[.int .i64 t344,.slice none 0 0]) ?_ 1 _ rfl;(with_reducible repeat (first|refine blk_drewN ?_ _|refine blk_drew ?_|refine blk_alloc ?_ _));refine blk_put (cs:=#[.int .i64 0,.slice none 0 0]) ?_ 0 _ rfl;(with_reducible repeat (first|refine blk_drewN ?_ _|refine blk_drew ?_|refine blk_alloc ?_ _));exact BK350.out) NB350_0.out (by simp));have n4_:=Aside0.mk (KeepBut.trans (by repeat (first|(with_reducible first|exact HK.out|apply KeepBut.set_|apply keep_drewN|apply keep_drew|apply keep_alloc|refine keep_far ?_ GW340.out _|refine keep_far ?_ GW350.out _)|exact HK.out)) hk (.inl rfl));have n5_:=Aside0.mk (hb);have n6_:=Aside0.mk (hi);clear BK340;clear HO343;clear HO347;clear BK350;clear HK;clear HB;clear HI0;have BK340:=n0_;have HO343:=n1_;have HO347:=n2_;have BK350:=n3_;have HK:=n4_;have HB:=n5_;have HI0:=n6_;clear n0_ n1_ n2_ n3_ n4_ n5_ n6_;(try clear hb);(try clear hb2);(try clear hk);(try clear hi))|((with_reducible refine gate_callee (f:=74) rfl ?_);refine goesL_ (some 18) rfl rfl Try.func74 (by kernel_rfl) rfl #[.pointer (some ⟨g,0,none⟩),.int .i64 10] rfl (by (try simp only [List.map_toArray,List.map_cons,List.map_nil]);first|done|rfl|(simp only [List.length_drop,List.length_take];rfl)) ?_;(with_reducible refine (spec_l1Below.calls g s0_0 t352 t353 10 t354 t355 t356 w0 _ ?side1 ?side2 A4.out).mono ?_);(case side1=>repeat (first|(with_reducible first|exact HI0.out|apply IsS93.alloc|apply IsS93.drewN|apply IsS93.drew|apply IsS93.set_1|apply IsS93.set_2|refine IsS93.far ?_ NB0_340.out _|refine IsS93.far ?_ NB0_350.out _)|exact HI0.out));(case side2=>repeat (first|(with_reducible first|exact HB.out|apply below_alloc|apply pw_below_drewN|apply below_drew1|refine below_set ?_ (IsS93.ge HI0.out)|refine below_set ?_ GE340.out|refine below_set ?_ GE350.out)|exact HB.out));rintro e w84 ⟨rfl,hi,hb,hk⟩;refine ⟨_,rfl,?_⟩;have n0_:=Aside0.mk (KeepBut.blk hk (g':=gb340) (o:=.cells #[.int .i64 0,.slice none 0 0] 26 (0,0)) (bk BK340) NB340_0.out (by simp));have n1_:=Aside0.mk (Kd.R_mono (Kd.R_keep (IsS93.apart (show IsS93 w0 _ g s0_0 t352 t353 from by repeat (first|(with_reducible first|exact HI0.out|apply IsS93.alloc|apply IsS93.drewN|apply IsS93.drew|apply IsS93.set_1|apply IsS93.set_2|refine IsS93.far ?_ NB0_340.out _|refine IsS93.far ?_ NB0_350.out _)|exact HI0.out)) (rR HO343) (by decide)) hk (fun _ h=>h.2)) (fun _ h=>h.1));have n2_:=Aside0.mk (Kd.S_mono (Kd.S_keep (IsS93.apartS (show IsS93 w0 _ g s0_0 t352 t353 from by repeat (first|(with_reducible first|exact HI0.out|apply IsS93.alloc|apply IsS93.drewN|apply IsS93.drew|apply IsS93.set_1|apply IsS93.set_2|refine IsS93.far ?_ NB0_340.out _|refine IsS93.far ?_ NB0_350.out _)|exact HI0.out)) (rS HO347) (by decide)) hk (fun _ h=>h.2)) (fun _ h=>h.1));have n3_:=Aside0.mk (KeepBut.blk hk (g':=gb350) (o:=.cells #[.int .i64 t344,.slice Ao82 t345.length co82] 26 (0,0)) (bk BK350) NB350_0.out (by simp));have n4_:=Aside0.mk (KeepBut.trans (by repeat (first|(with_reducible first|exact HK.out|apply KeepBut.set_|apply keep_drewN|apply keep_drew|apply keep_alloc|refine keep_far ?_ GW340.out _|refine keep_far ?_ GW350.out _)|exact HK.out)) hk (.inl rfl));have n5_:=Aside0.mk (hb);have n6_:=Aside0.mk (hi);clear BK340;clear HO343;clear HO347;clear BK350;clear HK;clear HB;clear HI0;have BK340:=n0_;have HO343:=n1_;have HO347:=n2_;have BK350:=n3_;have HK:=n4_;have HB:=n5_;have HI0:=n6_;clear n0_ n1_ n2_ n3_ n4_ n5_ n6_;(try clear hb);(try clear hb2);(try clear hk);(try clear hi))|((with_reducible refine gate_callee (f:=70) rfl ?_);refine goesL_ (some 56) rfl rfl Try.func70 (by kernel_rfl) rfl #[.pointer (some ⟨g,0,none⟩)] rfl (by (try simp only [List.map_toArray,List.map_cons,List.map_nil]);first|done|rfl|(simp only [List.length_drop,List.length_take];rfl)) ?_;(with_reducible refine (spec_l4Any.calls k g s0_0 t355 t356 t378 t381 t382 w0 _ ?side1 ?side2 A75.out).mono ?_);(case side1=>repeat (first|(with_reducible first|exact HI0.out|apply IsS93.alloc|apply IsS93.drewN|apply IsS93.drew|apply IsS93.set_1|apply IsS93.set_2|refine IsS93.far ?_ NB0_340.out _|refine IsS93.far ?_ NB0_350.out _)|exact HI0.out));(case side2=>repeat (first|(with_reducible first|exact HB.out|apply below_alloc|apply pw_below_drewN|apply below_drew1|refine below_set ?_ (IsS93.ge HI0.out)|refine below_set ?_ GE340.out|refine below_set ?_ GE350.out)|exact HB.out));rintro e w85 ⟨v379,rfl,ho0,hi,hb,hk⟩;refine ⟨_,rfl,?_⟩;have n0_:=Aside0.mk (KeepBut.blk hk (g':=gb340) (o:=.cells #[.int .i64 0,.slice none 0 0] 26 (0,0)) (bk BK340) NB340_0.out (by simp));have n1_:=Aside0.mk (Kd.R_mono (Kd.R_told (Kd.R_oldK (IsS93.apart (show IsS93 w0 _ g s0_0 t355 t356 from by repeat (first|(with_reducible first|exact HI0.out|apply IsS93.alloc|apply IsS93.drewN|apply IsS93.drew|apply IsS93.set_1|apply IsS93.set_2|refine IsS93.far ?_ NB0_340.out _|refine IsS93.far ?_ NB0_350.out _)|exact HI0.out)) (rR HO343) (by decide)) hk) (Kd.R_base ho0)) (fun _ h_=>h_.1));have n2_:=Aside0.mk (Kd.S_mono (Kd.S_keep (IsS93.apartS (show IsS93 w0 _ g s0_0 t355 t356 from by repeat (first|(with_reducible first|exact HI0.out|apply IsS93.alloc|apply IsS93.drewN|apply IsS93.drew|apply IsS93.set_1|apply IsS93.set_2|refine IsS93.far ?_ NB0_340.out _|refine IsS93.far ?_ NB0_350.out _)|exact HI0.out)) (rS HO347) (by decide)) hk (fun _ h=>h.2)) (fun _ h=>h.1));have n3_:=Aside0.mk (KeepBut.blk hk (g':=gb350) (o:=.cells #[.int .i64 t344,.slice Ao82 t345.length co82] 26 (0,0)) (bk BK350) NB350_0.out (by simp));have n4_:=Aside0.mk (Kd.R_lower (Kd.R_new' ho0 (Kd.R_lt (rR HO343))) (keep_size (w:=w) (g:=g) (row:=none) (by repeat (first|(with_reducible first|exact HK.out|apply KeepBut.set_|apply keep_drewN|apply keep_drew|apply keep_alloc|refine keep_far ?_ GW340.out _|refine keep_far ?_ GW350.out _)|exact HK.out))));have n5_:=Aside0.mk (KeepBut.trans (by repeat (first|(with_reducible first|exact HK.out|apply KeepBut.set_|apply keep_drewN|apply keep_drew|apply keep_alloc|refine keep_far ?_ GW340.out _|refine keep_far ?_ GW350.out _)|exact HK.out)) hk (.inl rfl));have n6_:=Aside0.mk (hb);have n7_:=Aside0.mk (hi);clear BK340;clear HO343;clear HO347;clear BK350;clear HK;clear HB;clear HI0;have BK340:=n0_;have HO343:=n1_;have HO347:=n2_;have BK350:=n3_;have HO380:=n4_;have HK:=n5_;have HB:=n6_;have HI0:=n7_;clear n0_ n1_ n2_ n3_ n4_ n5_ n6_ n7_;(try clear hb);(try clear hb2);(try clear hk);(try clear hi);(try clear ho0)))
     have n0_:=Aside0.mk (Kd.R_drew HO343.out)
     have n1_:=Aside0.mk (Kd.S_drew HO347.out)
     have n2_:=Aside0.mk (Kd.R_drew HO380.out)
     have n3_:=Aside0.mk (blk_drew BK340.out)
     have n4_:=Aside0.mk (blk_drew BK350.out)
     have n5_:=Aside0.mk (IsS93.drew HI0.out)
     have n6_:=Aside0.mk (keep_drew HK.out)
     have n7_:=Aside0.mk (below_drew1 HB.out)
     clear HO343
     clear HO347
     clear HO380
     clear BK340
     clear BK350
     clear HI0
     clear HK
     clear HB
     have HO343:=n0_
     have HO347:=n1_
     have HO380:=n2_
     have BK340:=n3_
     have BK350:=n4_
     have HI0:=n5_
     have HK:=n6_
     have HB:=n7_
     clear n0_ n1_ n2_ n3_ n4_ n5_ n6_ n7_
     refine start_ (n:=4) (S:=fun w'=>w'.cell? ⟨gb350,0,none⟩=some (.int .i64 t344)∧w'.cell? ⟨gb350,1,none⟩=some (.slice Ao82 t345.length co82)) (ds:=[]) (fl 4 0) (by kernel_rfl) rfl rfl ⟨(blk_cell BK350.out 0).trans rfl,(blk_cell BK350.out 1).trans rfl⟩ (fun hHeld=>?_)
     generalize w85.drew=w86 at HO343 HO347 HO380 BK340 BK350 HI0 HK HB hHeld ⊢
     refine pu 0 63 (fl 4 1) ?_
     refine pu 2 2 (fl 4 5) ?_
     refine ta 1 64 (fl 4 7) hHeld ?_
     refine on 3 none (fl 4 15) (fun K hK=>?_)
     have hs87:w86.cell? ⟨gb340,0,none⟩=some (.int .i64 0):=(blk_cell BK340.out 0).trans rfl
     have hfs87:=blk_frozen BK340.out 0
     have hns87_1:=NB350_340.out
     have hms87_1:=NB340_350.out
     have hs88:w86.cell? ⟨gb340,1,none⟩=some (.slice none 0 0):=(blk_cell BK340.out 1).trans rfl
     have hfs88:=blk_frozen BK340.out 1
     have hns88_1:=NB350_340.out
     have hms88_1:=NB340_350.out
     refine skip_ (w1:=?_) (by rfl) rfl ?_ ?_
     rotate_left
     ·go_simp
      rfl
     refine hK.out _ _ ⟨((cell_far (p:=⟨gb340,_,none⟩) NB350_340.out _).trans (((cell_far (p:=⟨gb340,_,none⟩) NB350_340.out _).trans (hHeld.1)))),((cell_far (p:=⟨gb340,_,none⟩) NB350_340.out _).trans (((cell_far (p:=⟨gb340,_,none⟩) NB350_340.out _).trans (hHeld.2))))⟩ (fun hHeld=>?_)
     clear hK K
     refine done_ (by kernel_rfl) ?_
     try go_wp2
     refine bodyPost_ret (results_tc rfl _ _ gb340 26 #[.int .i64 t344,.slice Ao82 t345.length co82] (0,0) _ rfl (by (with_reducible repeat (first|refine blk_drewN ?_ _|refine blk_drew ?_|refine blk_alloc ?_ _));refine blk_put (cs:=#[.int .i64 t344,.slice none 0 0]) ?_ 1 _ rfl;(with_reducible repeat (first|refine blk_drewN ?_ _|refine blk_drew ?_|refine blk_alloc ?_ _));refine blk_put (cs:=#[.int .i64 0,.slice none 0 0]) ?_ 0 _ rfl;(with_reducible repeat (first|refine blk_drewN ?_ _|refine blk_drew ?_|refine blk_alloc ?_ _));exact BK340.out) Try.underlying26 rfl (by kernel_rfl)) rfl ?_
     exact ⟨_,_,rz,by (with_reducible repeat (first|apply Kd.R_alloc|apply Kd.R_drewN|apply Kd.R_drew));exact Kd.R_mono (Kd.R_far (p:=⟨gb340,1,none⟩) (Kd.R_far (p:=⟨gb340,0,none⟩) (Kd.R_types HO380.out BK340.out (by decide)) (fun _ hk=>hk.2) (.int .i64 t344)) (fun _ hk=>hk.2) (.slice Ao82 t345.length co82)) (fun _ hk=>trivial),by (with_reducible repeat (first|apply Kd.S_alloc|apply Kd.S_drewN|apply Kd.S_drew));exact Kd.S_mono (Kd.S_far (p:=⟨gb340,1,none⟩) (Kd.S_far (p:=⟨gb340,0,none⟩) (Kd.S_types HO347.out BK340.out (by decide)) (fun _ hk=>hk.2) (.int .i64 t344)) (fun _ hk=>hk.2) (.slice Ao82 t345.length co82)) (fun _ hk=>trivial),by repeat (first|(with_reducible first|exact HI0.out|apply IsS93.alloc|apply IsS93.drewN|apply IsS93.drew|apply IsS93.set_1|apply IsS93.set_2|refine IsS93.far ?_ NB0_340.out _|refine IsS93.far ?_ NB0_350.out _)|exact HI0.out),by repeat (first|(with_reducible first|exact HB.out|apply below_alloc|apply pw_below_drewN|apply below_drew1|refine below_set ?_ (IsS93.ge HI0.out)|refine below_set ?_ GE340.out|refine below_set ?_ GE350.out)|exact HB.out),by repeat (first|(with_reducible first|exact HK.out|apply KeepBut.set_|apply keep_drewN|apply keep_drew|apply keep_alloc|refine keep_far ?_ GW340.out _|refine keep_far ?_ GW350.out _)|exact HK.out)⟩
    ·rw [if_neg c74] at H
     have c74b0:(t354 == 3)=false:=beq_eq_false_iff_ne.mpr c74
     have c74b1:(t354 != 3)=true:=bne_iff_ne.mpr c74
     by_cases c89:t354=4
     ·rw [if_pos c89] at H
      have c89b0:(t354 == 4)=true:=beq_iff_eq.mpr c89
      have c89b1:(t354 != 4)=false:=bne_eq_false_iff_eq.mpr c89
      clear c89
      by_cases c90:0≤(t345.length:Int)
      ·rw [if_pos c90] at H
       have c90b0:=eq_true c90
       have c90b1:decide (0≤(t345.length:Int))=true:=decide_eq_true c90
       clear c90
       obtain ⟨y383,hy383⟩ : ∃ y_:List (S35),y_=(t345.take (0:Int).toNat):=⟨_,rfl⟩
       replace H:(some (t341,t344,y383,t355,t356))=some (r1,r2,r3,r4,r5):=by first|(rw [hy383];with_reducible exact H)|(have H2_:=(Option.bind_some _ _).symm.trans H;rw [hy383];with_reducible exact H2_)|(have H2_:=(Option.bind_some _ _).symm.trans H;with_reducible exact H2_)|with_reducible exact H|(rw [hy383];exact H)|exact H
       have Ny383:=Aside0.mk hy383
       clear hy383
       simp only [Option.some.injEq,Prod.mk.injEq] at H
       obtain ⟨rfl,rfl,rfl,rfl,rfl⟩:=H
       go_enter Try.func39,Try.ntmps39
       try go_wp2_with (first|((with_reducible refine gate_dst (N:=3) rfl ?_);refine box_event ?hg (N:=3) ?hd (cs:=#[.int .i64 0,.slice none 0 0]) (t:=26) ?hr ?_;(case hd=>rfl);(case hg=>rfl);(case hr=>first|(go_simp;done)|(go_simp;rfl));intro gb340 hg w91 hbox hb;have n0_:=Aside0.mk (IsS93.below (by repeat (first|(with_reducible first|exact HI0.out|apply IsS93.alloc|apply IsS93.drewN|apply IsS93.drew|apply IsS93.set_1|apply IsS93.set_2)|exact HI0.out)) hb);have n1_:=Aside0.mk (KeepBut.trans (by repeat (first|(with_reducible first|exact HK.out|apply KeepBut.set_|apply keep_drewN|apply keep_drew|apply keep_alloc)|exact HK.out)) (KeepBut.of_below hb g none) (.inl rfl));have n2_:=Aside0.mk (below_step (by repeat (first|(with_reducible first|exact HB.out|apply below_alloc|apply pw_below_drewN|apply below_drew1|refine below_set ?_ (IsS93.ge HI0.out))|exact HB.out)) hb);have n3_:=Aside0.mk (hbox);have n4_:=Aside0.mk ((by rw [hg];exact (keep_size (w:=w) (g:=g) (row:=none) (by repeat (first|(with_reducible first|exact HK.out|apply KeepBut.set_|apply keep_drewN|apply keep_drew|apply keep_alloc)|exact HK.out))):w.heap.size≤gb340));have n5_:=Aside0.mk ((Nat.le_trans HW0.out (by rw [hg];exact (keep_size (w:=w) (g:=g) (row:=none) (by repeat (first|(with_reducible first|exact HK.out|apply KeepBut.set_|apply keep_drewN|apply keep_drew|apply keep_alloc)|exact HK.out))):w.heap.size≤gb340):w0.heap.size≤gb340));have n6_:=Aside0.mk ((by rw [hg];exact Nat.ne_of_lt (IsS93.lt (show IsS93 w0 _ g s0_0 s0_1 s0_2 from by repeat (first|(with_reducible first|exact HI0.out|apply IsS93.alloc|apply IsS93.drewN|apply IsS93.drew|apply IsS93.set_1|apply IsS93.set_2)|exact HI0.out))):g ≠ gb340));have n7_:=Aside0.mk ((by rw [hg];exact Nat.ne_of_gt (IsS93.lt (show IsS93 w0 _ g s0_0 s0_1 s0_2 from by repeat (first|(with_reducible first|exact HI0.out|apply IsS93.alloc|apply IsS93.drewN|apply IsS93.drew|apply IsS93.set_1|apply IsS93.set_2)|exact HI0.out))):gb340 ≠ g));clear HI0;clear HK;clear HB;have HI0:=n0_;have HK:=n1_;have HB:=n2_;have BK340:=n3_;have GW340:=n4_;have GE340:=n5_;have NB0_340:=n6_;have NB340_0:=n7_;clear n0_ n1_ n2_ n3_ n4_ n5_ n6_ n7_;clear hb hbox hg)|((with_reducible refine gate_callee (f:=37) rfl ?_);refine goesL_ (some 9) rfl rfl Try.func37 (by kernel_rfl) rfl #[.pointer (some ⟨g,0,none⟩)] rfl (by (try simp only [List.map_toArray,List.map_cons,List.map_nil]);first|done|rfl|(simp only [List.length_drop,List.length_take];rfl)) ?_;(with_reducible refine (spec_l5Draw.calls k g s0_0 s0_1 s0_2 t341 t344 t345 t348 t349 w0 _ ?side1 ?side2 A2.out).mono ?_);(case side1=>repeat (first|(with_reducible first|exact HI0.out|apply IsS93.alloc|apply IsS93.drewN|apply IsS93.drew|apply IsS93.set_1|apply IsS93.set_2|refine IsS93.far ?_ NB0_340.out _)|exact HI0.out));(case side2=>repeat (first|(with_reducible first|exact HB.out|apply below_alloc|apply pw_below_drewN|apply below_drew1|refine below_set ?_ (IsS93.ge HI0.out)|refine below_set ?_ GE340.out)|exact HB.out));rintro e w92 ⟨v342,v346,rfl,ho0,ho1,hi,hb,hk⟩;refine ⟨_,rfl,?_⟩;have n0_:=Aside0.mk (KeepBut.blk hk (g':=gb340) (o:=.cells #[.int .i64 0,.slice none 0 0] 26 (0,0)) (bk BK340) NB340_0.out (by simp));have n1_:=Aside0.mk (Kd.R_lower ho0 (keep_size (w:=w) (g:=g) (row:=none) (by repeat (first|(with_reducible first|exact HK.out|apply KeepBut.set_|apply keep_drewN|apply keep_drew|apply keep_alloc|refine keep_far ?_ GW340.out _)|exact HK.out))));have n2_:=Aside0.mk (Kd.S_lower ho1 (keep_size (w:=w) (g:=g) (row:=none) (by repeat (first|(with_reducible first|exact HK.out|apply KeepBut.set_|apply keep_drewN|apply keep_drew|apply keep_alloc|refine keep_far ?_ GW340.out _)|exact HK.out))));have n3_:=Aside0.mk (KeepBut.trans (by repeat (first|(with_reducible first|exact HK.out|apply KeepBut.set_|apply keep_drewN|apply keep_drew|apply keep_alloc|refine keep_far ?_ GW340.out _)|exact HK.out)) hk (.inl rfl));have n4_:=Aside0.mk (hb);have n5_:=Aside0.mk (hi);clear BK340;clear HK;clear HB;clear HI0;have BK340:=n0_;have HO343:=n1_;have HO347:=n2_;have HK:=n3_;have HB:=n4_;have HI0:=n5_;clear n0_ n1_ n2_ n3_ n4_ n5_;(try clear hb);(try clear hb2);(try clear hk);(try clear hi);(try clear ho0);(try clear ho1))|((with_reducible refine gate_dst (N:=5) rfl ?_);refine box_event ?hg (N:=5) ?hd (cs:=#[.int .i64 0,.slice none 0 0]) (t:=26) ?hr ?_;(case hd=>rfl);(case hg=>rfl);(case hr=>first|(go_simp;done)|(go_simp;rfl));intro gb350 hg w93 hbox hb;have n0_:=Aside0.mk (Kd.R_below (rR HO343) hb);have n1_:=Aside0.mk (Kd.S_below (rS HO347) hb);have n2_:=Aside0.mk (IsS93.below (by repeat (first|(with_reducible first|exact HI0.out|apply IsS93.alloc|apply IsS93.drewN|apply IsS93.drew|apply IsS93.set_1|apply IsS93.set_2|refine IsS93.far ?_ NB0_340.out _)|exact HI0.out)) hb);have n3_:=Aside0.mk (blk_below (g:=gb340) (o:=.cells #[.int .i64 0,.slice none 0 0] 26 (0,0)) (bk BK340) hb);have n4_:=Aside0.mk (KeepBut.trans (by repeat (first|(with_reducible first|exact HK.out|apply KeepBut.set_|apply keep_drewN|apply keep_drew|apply keep_alloc|refine keep_far ?_ GW340.out _)|exact HK.out)) (KeepBut.of_below hb g none) (.inl rfl));have n5_:=Aside0.mk (below_step (by repeat (first|(with_reducible first|exact HB.out|apply below_alloc|apply pw_below_drewN|apply below_drew1|refine below_set ?_ (IsS93.ge HI0.out)|refine below_set ?_ GE340.out)|exact HB.out)) hb);have n6_:=Aside0.mk (hbox);have n7_:=Aside0.mk ((by rw [hg];exact (keep_size (w:=w) (g:=g) (row:=none) (by repeat (first|(with_reducible first|exact HK.out|apply KeepBut.set_|apply keep_drewN|apply keep_drew|apply keep_alloc|refine keep_far ?_ GW340.out _)|exact HK.out))):w.heap.size≤gb350));have n8_:=Aside0.mk ((Nat.le_trans HW0.out (by rw [hg];exact (keep_size (w:=w) (g:=g) (row:=none) (by repeat (first|(with_reducible first|exact HK.out|apply KeepBut.set_|apply keep_drewN|apply keep_drew|apply keep_alloc|refine keep_far ?_ GW340.out _)|exact HK.out))):w.heap.size≤gb350):w0.heap.size≤gb350));have n9_:=Aside0.mk ((by rw [hg];exact Nat.ne_of_lt (blk_lt (g:=gb340) (o:=.cells #[.int .i64 0,.slice none 0 0] 26 (0,0)) (bk BK340)):gb340 ≠ gb350));have n10_:=Aside0.mk ((by rw [hg];exact Nat.ne_of_gt (blk_lt (g:=gb340) (o:=.cells #[.int .i64 0,.slice none 0 0] 26 (0,0)) (bk BK340)):gb350 ≠ gb340));have n11_:=Aside0.mk ((by rw [hg];exact Nat.ne_of_lt (IsS93.lt (show IsS93 w0 _ g s0_0 t348 t349 from by repeat (first|(with_reducible first|exact HI0.out|apply IsS93.alloc|apply IsS93.drewN|apply IsS93.drew|apply IsS93.set_1|apply IsS93.set_2|refine IsS93.far ?_ NB0_340.out _)|exact HI0.out))):g ≠ gb350));have n12_:=Aside0.mk ((by rw [hg];exact Nat.ne_of_gt (IsS93.lt (show IsS93 w0 _ g s0_0 t348 t349 from by repeat (first|(with_reducible first|exact HI0.out|apply IsS93.alloc|apply IsS93.drewN|apply IsS93.drew|apply IsS93.set_1|apply IsS93.set_2|refine IsS93.far ?_ NB0_340.out _)|exact HI0.out))):gb350 ≠ g));clear HO343;clear HO347;clear HI0;clear BK340;clear HK;clear HB;have HO343:=n0_;have HO347:=n1_;have HI0:=n2_;have BK340:=n3_;have HK:=n4_;have HB:=n5_;have BK350:=n6_;have GW350:=n7_;have GE350:=n8_;have NB340_350:=n9_;have NB350_340:=n10_;have NB0_350:=n11_;have NB350_0:=n12_;clear n0_ n1_ n2_ n3_ n4_ n5_ n6_ n7_ n8_ n9_ n10_ n11_ n12_;clear hb hbox hg;have hnb94:=NB350_340.out;have hnc94:=NB340_350.out;have hnb95:=NB350_0.out;have hnc95:=NB0_350.out;have hcz96_0:w93.cell? ⟨gb350,0,none⟩=some (.int .i64 0):=(blk_cell BK350.out 0).trans rfl;have hcz96_1:w93.cell? ⟨gb350,1,none⟩=some (.slice none 0 0):=(blk_cell BK350.out 1).trans rfl;have hfz96_0:=blk_frozen BK350.out 0;have hfz96_1:=blk_frozen BK350.out 1;obtain ⟨Ao97,co97,eo97⟩:=Kd.S_slice HO347.out;subst eo97)|((with_reducible refine gate_callee (f:=74) rfl ?_);refine goesL_ (some 16) rfl rfl Try.func74 (by kernel_rfl) rfl #[.pointer (some ⟨g,0,none⟩),.int .i64 (t345.length:Int)] rfl (by (try simp only [List.map_toArray,List.map_cons,List.map_nil]);first|done|rfl|(simp only [List.length_drop,List.length_take];rfl)) ?_;(with_reducible refine (spec_l1Below.calls g s0_0 t348 t349 (t345.length:Int) t351 t352 t353 w0 _ ?side1 ?side2 A3.out).mono ?_);(case side1=>repeat (first|(with_reducible first|exact HI0.out|apply IsS93.alloc|apply IsS93.drewN|apply IsS93.drew|apply IsS93.set_1|apply IsS93.set_2|refine IsS93.far ?_ NB0_340.out _|refine IsS93.far ?_ NB0_350.out _)|exact HI0.out));(case side2=>repeat (first|(with_reducible first|exact HB.out|apply below_alloc|apply pw_below_drewN|apply below_drew1|refine below_set ?_ (IsS93.ge HI0.out)|refine below_set ?_ GE340.out|refine below_set ?_ GE350.out)|exact HB.out));rintro e w98 ⟨rfl,hi,hb,hk⟩;refine ⟨_,rfl,?_⟩;have n0_:=Aside0.mk (KeepBut.blk hk (g':=gb340) (o:=.cells #[.int .i64 0,.slice none 0 0] 26 (0,0)) (by (with_reducible repeat (first|refine blk_drewN ?_ _|refine blk_drew ?_|refine blk_alloc ?_ _));refine blk_far ?_ NB340_350.out _;(with_reducible repeat (first|refine blk_drewN ?_ _|refine blk_drew ?_|refine blk_alloc ?_ _));refine blk_far ?_ NB340_350.out _;(with_reducible repeat (first|refine blk_drewN ?_ _|refine blk_drew ?_|refine blk_alloc ?_ _));exact BK340.out) NB340_0.out (by simp));have n1_:=Aside0.mk (Kd.R_mono (Kd.R_keep (IsS93.apart (show IsS93 w0 _ g s0_0 t348 t349 from by repeat (first|(with_reducible first|exact HI0.out|apply IsS93.alloc|apply IsS93.drewN|apply IsS93.drew|apply IsS93.set_1|apply IsS93.set_2|refine IsS93.far ?_ NB0_340.out _|refine IsS93.far ?_ NB0_350.out _)|exact HI0.out)) (by (with_reducible repeat (first|apply Kd.R_alloc|apply Kd.R_drewN|apply Kd.R_drew));exact (Kd.R_mono (Kd.R_far (p:=⟨gb350,1,none⟩) (Kd.R_far (p:=⟨gb350,0,none⟩) (Kd.R_types HO343.out BK350.out (by decide)) (fun _ hk=>hk.2) (.int .i64 t344)) (fun _ hk=>hk.2) (.slice Ao97 t345.length co97)) (fun _ h_=>h_.1))) (by decide)) hk (fun _ h=>h.2)) (fun _ h=>h.1));have n2_:=Aside0.mk (Kd.S_mono (Kd.S_keep (IsS93.apartS (show IsS93 w0 _ g s0_0 t348 t349 from by repeat (first|(with_reducible first|exact HI0.out|apply IsS93.alloc|apply IsS93.drewN|apply IsS93.drew|apply IsS93.set_1|apply IsS93.set_2|refine IsS93.far ?_ NB0_340.out _|refine IsS93.far ?_ NB0_350.out _)|exact HI0.out)) (by (with_reducible repeat (first|apply Kd.S_alloc|apply Kd.S_drewN|apply Kd.S_drew));exact (Kd.S_mono (Kd.S_far (p:=⟨gb350,1,none⟩) (Kd.S_far (p:=⟨gb350,0,none⟩) (Kd.S_types HO347.out BK350.out (by decide)) (fun _ hk=>hk.2) (.int .i64 t344)) (fun _ hk=>hk.2) (.slice Ao97 t345.length co97)) (fun _ h_=>h_.1))) (by decide)) hk (fun _ h=>h.2)) (fun _ h=>h.1));have n3_:=Aside0.mk (KeepBut.blk hk (g':=gb350) (o:=.cells #[.int .i64 t344,.slice Ao97 t345.length co97] 26 (0,0)) (by (with_reducible repeat (first|refine blk_drewN ?_ _|refine blk_drew ?_|refine blk_alloc ?_ _));refine blk_put (cs:=#[.int .i64 t344,.slice none 0 0]) ?_ 1 _ rfl;(with_reducible repeat (first|refine blk_drewN ?_ _|refine blk_drew ?_|refine blk_alloc ?_ _));refine blk_put (cs:=#[.int .i64 0,.slice none 0 0]) ?_ 0 _ rfl;(with_reducible repeat (first|refine blk_drewN ?_ _|refine blk_drew ?_|refine blk_alloc ?_ _));exact BK350.out) NB350_0.out (by simp));have n4_:=Aside0.mk (KeepBut.trans (by repeat (first|(with_reducible first|exact HK.out|apply KeepBut.set_|apply keep_drewN|apply keep_drew|apply keep_alloc|refine keep_far ?_ GW340.out _|refine keep_far ?_ GW350.out _)|exact HK.out)) hk (.inl rfl));have n5_:=Aside0.mk (hb);have n6_:=Aside0.mk (hi);clear BK340;clear HO343;clear HO347;clear BK350;clear HK;clear HB;clear HI0;have BK340:=n0_;have HO343:=n1_;have HO347:=n2_;have BK350:=n3_;have HK:=n4_;have HB:=n5_;have HI0:=n6_;clear n0_ n1_ n2_ n3_ n4_ n5_ n6_;(try clear hb);(try clear hb2);(try clear hk);(try clear hi))|((with_reducible refine gate_callee (f:=74) rfl ?_);refine goesL_ (some 18) rfl rfl Try.func74 (by kernel_rfl) rfl #[.pointer (some ⟨g,0,none⟩),.int .i64 10] rfl (by (try simp only [List.map_toArray,List.map_cons,List.map_nil]);first|done|rfl|(simp only [List.length_drop,List.length_take];rfl)) ?_;(with_reducible refine (spec_l1Below.calls g s0_0 t352 t353 10 t354 t355 t356 w0 _ ?side1 ?side2 A4.out).mono ?_);(case side1=>repeat (first|(with_reducible first|exact HI0.out|apply IsS93.alloc|apply IsS93.drewN|apply IsS93.drew|apply IsS93.set_1|apply IsS93.set_2|refine IsS93.far ?_ NB0_340.out _|refine IsS93.far ?_ NB0_350.out _)|exact HI0.out));(case side2=>repeat (first|(with_reducible first|exact HB.out|apply below_alloc|apply pw_below_drewN|apply below_drew1|refine below_set ?_ (IsS93.ge HI0.out)|refine below_set ?_ GE340.out|refine below_set ?_ GE350.out)|exact HB.out));rintro e w99 ⟨rfl,hi,hb,hk⟩;refine ⟨_,rfl,?_⟩;have n0_:=Aside0.mk (KeepBut.blk hk (g':=gb340) (o:=.cells #[.int .i64 0,.slice none 0 0] 26 (0,0)) (bk BK340) NB340_0.out (by simp));have n1_:=Aside0.mk (Kd.R_mono (Kd.R_keep (IsS93.apart (show IsS93 w0 _ g s0_0 t352 t353 from by repeat (first|(with_reducible first|exact HI0.out|apply IsS93.alloc|apply IsS93.drewN|apply IsS93.drew|apply IsS93.set_1|apply IsS93.set_2|refine IsS93.far ?_ NB0_340.out _|refine IsS93.far ?_ NB0_350.out _)|exact HI0.out)) (rR HO343) (by decide)) hk (fun _ h=>h.2)) (fun _ h=>h.1));have n2_:=Aside0.mk (Kd.S_mono (Kd.S_keep (IsS93.apartS (show IsS93 w0 _ g s0_0 t352 t353 from by repeat (first|(with_reducible first|exact HI0.out|apply IsS93.alloc|apply IsS93.drewN|apply IsS93.drew|apply IsS93.set_1|apply IsS93.set_2|refine IsS93.far ?_ NB0_340.out _|refine IsS93.far ?_ NB0_350.out _)|exact HI0.out)) (rS HO347) (by decide)) hk (fun _ h=>h.2)) (fun _ h=>h.1));have n3_:=Aside0.mk (KeepBut.blk hk (g':=gb350) (o:=.cells #[.int .i64 t344,.slice Ao97 t345.length co97] 26 (0,0)) (bk BK350) NB350_0.out (by simp));have n4_:=Aside0.mk (KeepBut.trans (by repeat (first|(with_reducible first|exact HK.out|apply KeepBut.set_|apply keep_drewN|apply keep_drew|apply keep_alloc|refine keep_far ?_ GW340.out _|refine keep_far ?_ GW350.out _)|exact HK.out)) hk (.inl rfl));have n5_:=Aside0.mk (hb);have n6_:=Aside0.mk (hi);clear BK340;clear HO343;clear HO347;clear BK350;clear HK;clear HB;clear HI0;have BK340:=n0_;have HO343:=n1_;have HO347:=n2_;have BK350:=n3_;have HK:=n4_;have HB:=n5_;have HI0:=n6_;clear n0_ n1_ n2_ n3_ n4_ n5_ n6_;(try clear hb);(try clear hb2);(try clear hk);(try clear hi);have hcz100_0:w99.cell? ⟨gb350,0,none⟩=some (.int .i64 t344):=(blk_cell BK350.out 0).trans rfl;have hcz100_1:w99.cell? ⟨gb350,1,none⟩=some (.slice Ao97 t345.length co97):=(blk_cell BK350.out 1).trans rfl;have hfz100_0:=blk_frozen BK350.out 0;have hfz100_1:=blk_frozen BK350.out 1;have q101:(0:Int)≤((t345.length:Int):Int):=of_decide_eq_true (by first|(with_reducible assumption)|assumption);obtain ⟨i0101,hi0101,_,hsz101,_⟩:=info_parts info35;have hcut101:=cut_to (P:=Try.prog) 24 35 .i64 Try.underlying24 hi0101 Ao97 t345.length co97 0 (by omega) q101 (Kd.S_reads' HO347.out).2.1;have hr101:=Kd.S_take (m:=(0:Int).toNat) HO347.out (by omega);have hy101:y383.length=(0:Int).toNat:=(by rw [Ny383.out,List.length_take];omega);rw [← Ny383.out] at hr101;rw [← hy101] at hr101 hcut101;clear hy101 hi0101 hsz101 HO347;have HO385:=Aside0.mk hr101;clear hr101;replace q101:=eq_true q101))
       have n0_:Aside0 (Kd.R k61 61 (w99.setCell ⟨gb350,1,none⟩ (.slice Ao97 y383.length co97)) w.heap.size (fun _=>True) v342 t341):=⟨by (with_reducible repeat (first|apply Kd.R_alloc|apply Kd.R_drewN|apply Kd.R_drew));exact Kd.R_mono (Kd.R_far (p:=⟨gb350,1,none⟩) (Kd.R_types HO343.out BK350.out (by decide)) (fun _ hk=>hk.2) (.slice Ao97 y383.length co97)) (fun _ hk=>trivial)⟩
       have n1_:Aside0 (Kd.S k35 35 (w99.setCell ⟨gb350,1,none⟩ (.slice Ao97 y383.length co97)) w.heap.size (fun _=>True) (.slice Ao97 y383.length co97) y383):=⟨by (with_reducible repeat (first|apply Kd.S_alloc|apply Kd.S_drewN|apply Kd.S_drew));exact Kd.S_mono (Kd.S_far (p:=⟨gb350,1,none⟩) (Kd.S_types HO385.out BK350.out (by decide)) (fun _ hk=>hk.2) (.slice Ao97 y383.length co97)) (fun _ hk=>trivial)⟩
       have n2_:Aside0 ((w99.setCell ⟨gb350,1,none⟩ (.slice Ao97 y383.length co97)).heap[gb340]?=some (.cells #[.int .i64 0,.slice none 0 0] 26 (0,0))):=⟨by (with_reducible repeat (first|refine blk_drewN ?_ _|refine blk_drew ?_|refine blk_alloc ?_ _));refine blk_far ?_ NB340_350.out _;(with_reducible repeat (first|refine blk_drewN ?_ _|refine blk_drew ?_|refine blk_alloc ?_ _));exact BK340.out⟩
       have n3_:Aside0 ((w99.setCell ⟨gb350,1,none⟩ (.slice Ao97 y383.length co97)).heap[gb350]?=some (.cells #[.int .i64 t344,.slice Ao97 y383.length co97] 26 (0,0))):=⟨by (with_reducible repeat (first|refine blk_drewN ?_ _|refine blk_drew ?_|refine blk_alloc ?_ _));refine blk_put (cs:=#[.int .i64 t344,.slice Ao97 t345.length co97]) ?_ 1 _ rfl;(with_reducible repeat (first|refine blk_drewN ?_ _|refine blk_drew ?_|refine blk_alloc ?_ _));exact BK350.out⟩
       have n4_:Aside0 (IsS93 w0 (w99.setCell ⟨gb350,1,none⟩ (.slice Ao97 y383.length co97)) g s0_0 t355 t356):=⟨by repeat (first|(with_reducible first|exact HI0.out|apply IsS93.alloc|apply IsS93.drewN|apply IsS93.drew|apply IsS93.set_1|apply IsS93.set_2|refine IsS93.far ?_ NB0_340.out _|refine IsS93.far ?_ NB0_350.out _)|exact HI0.out)⟩
       have n5_:Aside0 (KeepBut w (w99.setCell ⟨gb350,1,none⟩ (.slice Ao97 y383.length co97)) g none):=⟨by repeat (first|(with_reducible first|exact HK.out|apply KeepBut.set_|apply keep_drewN|apply keep_drew|apply keep_alloc|refine keep_far ?_ GW340.out _|refine keep_far ?_ GW350.out _)|exact HK.out)⟩
       have n6_:Aside0 (Below w0.heap.size w0 (w99.setCell ⟨gb350,1,none⟩ (.slice Ao97 y383.length co97))):=⟨by repeat (first|(with_reducible first|exact HB.out|apply below_alloc|apply pw_below_drewN|apply below_drew1|refine below_set ?_ (IsS93.ge HI0.out)|refine below_set ?_ GE340.out|refine below_set ?_ GE350.out)|exact HB.out)⟩
       (try clear HO343)
       (try clear HO385)
       (try clear BK340)
       (try clear BK350)
       (try clear HI0)
       (try clear HK)
       (try clear HB)
       generalize (w99.setCell ⟨gb350,1,none⟩ (.slice Ao97 y383.length co97))=w102 at n0_ n1_ n2_ n3_ n4_ n5_ n6_ ⊢
       have HO343:=n0_
       have HO385:=n1_
       have BK340:=n2_
       have BK350:=n3_
       have HI0:=n4_
       have HK:=n5_
       have HB:=n6_
       clear n0_ n1_ n2_ n3_ n4_ n5_ n6_
       have n0_:=Aside0.mk (Kd.R_drew HO343.out)
       have n1_:=Aside0.mk (Kd.S_drew HO385.out)
       have n2_:=Aside0.mk (blk_drew BK340.out)
       have n3_:=Aside0.mk (blk_drew BK350.out)
       have n4_:=Aside0.mk (IsS93.drew HI0.out)
       have n5_:=Aside0.mk (keep_drew HK.out)
       have n6_:=Aside0.mk (below_drew1 HB.out)
       clear HO343
       clear HO385
       clear BK340
       clear BK350
       clear HI0
       clear HK
       clear HB
       have HO343:=n0_
       have HO385:=n1_
       have BK340:=n2_
       have BK350:=n3_
       have HI0:=n4_
       have HK:=n5_
       have HB:=n6_
       clear n0_ n1_ n2_ n3_ n4_ n5_ n6_
       refine start_ (n:=4) (S:=fun w'=>w'.cell? ⟨gb350,0,none⟩=some (.int .i64 t344)∧w'.cell? ⟨gb350,1,none⟩=some (.slice Ao97 y383.length co97)) (ds:=[]) (fl 4 0) (by kernel_rfl) rfl rfl ⟨(blk_cell BK350.out 0).trans rfl,(blk_cell BK350.out 1).trans rfl⟩ (fun hHeld=>?_)
       generalize w102.drew=w103 at HO343 HO385 BK340 BK350 HI0 HK HB hHeld ⊢
       refine pu 0 63 (fl 4 1) ?_
       refine pu 2 2 (fl 4 5) ?_
       refine ta 1 64 (fl 4 7) hHeld ?_
       refine on 3 none (fl 4 15) (fun K hK=>?_)
       have hs104:w103.cell? ⟨gb340,0,none⟩=some (.int .i64 0):=(blk_cell BK340.out 0).trans rfl
       have hfs104:=blk_frozen BK340.out 0
       have hns104_1:=NB350_340.out
       have hms104_1:=NB340_350.out
       have hs105:w103.cell? ⟨gb340,1,none⟩=some (.slice none 0 0):=(blk_cell BK340.out 1).trans rfl
       have hfs105:=blk_frozen BK340.out 1
       have hns105_1:=NB350_340.out
       have hms105_1:=NB340_350.out
       refine skip_ (w1:=?_) (by rfl) rfl ?_ ?_
       rotate_left
       ·go_simp
        rfl
       refine hK.out _ _ ⟨((cell_far (p:=⟨gb340,_,none⟩) NB350_340.out _).trans (((cell_far (p:=⟨gb340,_,none⟩) NB350_340.out _).trans (hHeld.1)))),((cell_far (p:=⟨gb340,_,none⟩) NB350_340.out _).trans (((cell_far (p:=⟨gb340,_,none⟩) NB350_340.out _).trans (hHeld.2))))⟩ (fun hHeld=>?_)
       clear hK K
       refine done_ (by kernel_rfl) ?_
       try go_wp2
       refine bodyPost_ret (results_tc rfl _ _ gb340 26 #[.int .i64 t344,.slice Ao97 y383.length co97] (0,0) _ rfl (by (with_reducible repeat (first|refine blk_drewN ?_ _|refine blk_drew ?_|refine blk_alloc ?_ _));refine blk_put (cs:=#[.int .i64 t344,.slice none 0 0]) ?_ 1 _ rfl;(with_reducible repeat (first|refine blk_drewN ?_ _|refine blk_drew ?_|refine blk_alloc ?_ _));refine blk_put (cs:=#[.int .i64 0,.slice none 0 0]) ?_ 0 _ rfl;(with_reducible repeat (first|refine blk_drewN ?_ _|refine blk_drew ?_|refine blk_alloc ?_ _));exact BK340.out) Try.underlying26 rfl (by kernel_rfl)) rfl ?_
       exact ⟨_,_,rz,by (with_reducible repeat (first|apply Kd.R_alloc|apply Kd.R_drewN|apply Kd.R_drew));exact Kd.R_mono (Kd.R_far (p:=⟨gb340,1,none⟩) (Kd.R_far (p:=⟨gb340,0,none⟩) (Kd.R_types HO343.out BK340.out (by decide)) (fun _ hk=>hk.2) (.int .i64 t344)) (fun _ hk=>hk.2) (.slice Ao97 y383.length co97)) (fun _ hk=>trivial),by (with_reducible repeat (first|apply Kd.S_alloc|apply Kd.S_drewN|apply Kd.S_drew));exact Kd.S_mono (Kd.S_far (p:=⟨gb340,1,none⟩) (Kd.S_far (p:=⟨gb340,0,none⟩) (Kd.S_types HO385.out BK340.out (by decide)) (fun _ hk=>hk.2) (.int .i64 t344)) (fun _ hk=>hk.2) (.slice Ao97 y383.length co97)) (fun _ hk=>trivial),by repeat (first|(with_reducible first|exact HI0.out|apply IsS93.alloc|apply IsS93.drewN|apply IsS93.drew|apply IsS93.set_1|apply IsS93.set_2|refine IsS93.far ?_ NB0_340.out _|refine IsS93.far ?_ NB0_350.out _)|exact HI0.out),by repeat (first|(with_reducible first|exact HB.out|apply below_alloc|apply pw_below_drewN|apply below_drew1|refine below_set ?_ (IsS93.ge HI0.out)|refine below_set ?_ GE340.out|refine below_set ?_ GE350.out)|exact HB.out),by repeat (first|(with_reducible first|exact HK.out|apply KeepBut.set_|apply keep_drewN|apply keep_drew|apply keep_alloc|refine keep_far ?_ GW340.out _|refine keep_far ?_ GW350.out _)|exact HK.out)⟩
      ·rw [if_neg c90] at H
       exact absurd H (by simp)
     ·rw [if_neg c89] at H
      have c89b0:(t354 == 4)=false:=beq_eq_false_iff_ne.mpr c89
      have c89b1:(t354 != 4)=true:=bne_iff_ne.mpr c89
      simp only [Option.some.injEq,Prod.mk.injEq] at H
      obtain ⟨rfl,rfl,rfl,rfl,rfl⟩:=H
      go_enter Try.func39,Try.ntmps39
      try go_wp2_with (first|((with_reducible refine gate_dst (N:=3) rfl ?_);refine box_event ?hg (N:=3) ?hd (cs:=#[.int .i64 0,.slice none 0 0]) (t:=26) ?hr ?_;(case hd=>rfl);(case hg=>rfl);(case hr=>first|(go_simp;done)|(go_simp;rfl));intro gb340 hg w106 hbox hb;have n0_:=Aside0.mk (IsS93.below (by repeat (first|(with_reducible first|exact HI0.out|apply IsS93.alloc|apply IsS93.drewN|apply IsS93.drew|apply IsS93.set_1|apply IsS93.set_2)|exact HI0.out)) hb);have n1_:=Aside0.mk (KeepBut.trans (by repeat (first|(with_reducible first|exact HK.out|apply KeepBut.set_|apply keep_drewN|apply keep_drew|apply keep_alloc)|exact HK.out)) (KeepBut.of_below hb g none) (.inl rfl));have n2_:=Aside0.mk (below_step (by repeat (first|(with_reducible first|exact HB.out|apply below_alloc|apply pw_below_drewN|apply below_drew1|refine below_set ?_ (IsS93.ge HI0.out))|exact HB.out)) hb);have n3_:=Aside0.mk (hbox);have n4_:=Aside0.mk ((by rw [hg];exact (keep_size (w:=w) (g:=g) (row:=none) (by repeat (first|(with_reducible first|exact HK.out|apply KeepBut.set_|apply keep_drewN|apply keep_drew|apply keep_alloc)|exact HK.out))):w.heap.size≤gb340));have n5_:=Aside0.mk ((Nat.le_trans HW0.out (by rw [hg];exact (keep_size (w:=w) (g:=g) (row:=none) (by repeat (first|(with_reducible first|exact HK.out|apply KeepBut.set_|apply keep_drewN|apply keep_drew|apply keep_alloc)|exact HK.out))):w.heap.size≤gb340):w0.heap.size≤gb340));have n6_:=Aside0.mk ((by rw [hg];exact Nat.ne_of_lt (IsS93.lt (show IsS93 w0 _ g s0_0 s0_1 s0_2 from by repeat (first|(with_reducible first|exact HI0.out|apply IsS93.alloc|apply IsS93.drewN|apply IsS93.drew|apply IsS93.set_1|apply IsS93.set_2)|exact HI0.out))):g ≠ gb340));have n7_:=Aside0.mk ((by rw [hg];exact Nat.ne_of_gt (IsS93.lt (show IsS93 w0 _ g s0_0 s0_1 s0_2 from by repeat (first|(with_reducible first|exact HI0.out|apply IsS93.alloc|apply IsS93.drewN|apply IsS93.drew|apply IsS93.set_1|apply IsS93.set_2)|exact HI0.out))):gb340 ≠ g));clear HI0;clear HK;clear HB;have HI0:=n0_;have HK:=n1_;have HB:=n2_;have BK340:=n3_;have GW340:=n4_;have GE340:=n5_;have NB0_340:=n6_;have NB340_0:=n7_;clear n0_ n1_ n2_ n3_ n4_ n5_ n6_ n7_;clear hb hbox hg)|((with_reducible refine gate_callee (f:=37) rfl ?_);refine goesL_ (some 9) rfl rfl Try.func37 (by kernel_rfl) rfl #[.pointer (some ⟨g,0,none⟩)] rfl (by (try simp only [List.map_toArray,List.map_cons,List.map_nil]);first|done|rfl|(simp only [List.length_drop,List.length_take];rfl)) ?_;(with_reducible refine (spec_l5Draw.calls k g s0_0 s0_1 s0_2 t341 t344 t345 t348 t349 w0 _ ?side1 ?side2 A2.out).mono ?_);(case side1=>repeat (first|(with_reducible first|exact HI0.out|apply IsS93.alloc|apply IsS93.drewN|apply IsS93.drew|apply IsS93.set_1|apply IsS93.set_2|refine IsS93.far ?_ NB0_340.out _)|exact HI0.out));(case side2=>repeat (first|(with_reducible first|exact HB.out|apply below_alloc|apply pw_below_drewN|apply below_drew1|refine below_set ?_ (IsS93.ge HI0.out)|refine below_set ?_ GE340.out)|exact HB.out));rintro e w107 ⟨v342,v346,rfl,ho0,ho1,hi,hb,hk⟩;refine ⟨_,rfl,?_⟩;have n0_:=Aside0.mk (KeepBut.blk hk (g':=gb340) (o:=.cells #[.int .i64 0,.slice none 0 0] 26 (0,0)) (bk BK340) NB340_0.out (by simp));have n1_:=Aside0.mk (Kd.R_lower ho0 (keep_size (w:=w) (g:=g) (row:=none) (by repeat (first|(with_reducible first|exact HK.out|apply KeepBut.set_|apply keep_drewN|apply keep_drew|apply keep_alloc|refine keep_far ?_ GW340.out _)|exact HK.out))));have n2_:=Aside0.mk (Kd.S_lower ho1 (keep_size (w:=w) (g:=g) (row:=none) (by repeat (first|(with_reducible first|exact HK.out|apply KeepBut.set_|apply keep_drewN|apply keep_drew|apply keep_alloc|refine keep_far ?_ GW340.out _)|exact HK.out))));have n3_:=Aside0.mk (KeepBut.trans (by repeat (first|(with_reducible first|exact HK.out|apply KeepBut.set_|apply keep_drewN|apply keep_drew|apply keep_alloc|refine keep_far ?_ GW340.out _)|exact HK.out)) hk (.inl rfl));have n4_:=Aside0.mk (hb);have n5_:=Aside0.mk (hi);clear BK340;clear HK;clear HB;clear HI0;have BK340:=n0_;have HO343:=n1_;have HO347:=n2_;have HK:=n3_;have HB:=n4_;have HI0:=n5_;clear n0_ n1_ n2_ n3_ n4_ n5_;(try clear hb);(try clear hb2);(try clear hk);(try clear hi);(try clear ho0);(try clear ho1))|((with_reducible refine gate_dst (N:=5) rfl ?_);refine box_event ?hg (N:=5) ?hd (cs:=#[.int .i64 0,.slice none 0 0]) (t:=26) ?hr ?_;(case hd=>rfl);(case hg=>rfl);(case hr=>first|(go_simp;done)|(go_simp;rfl));intro gb350 hg w108 hbox hb;have n0_:=Aside0.mk (Kd.R_below (rR HO343) hb);have n1_:=Aside0.mk (Kd.S_below (rS HO347) hb);have n2_:=Aside0.mk (IsS93.below (by repeat (first|(with_reducible first|exact HI0.out|apply IsS93.alloc|apply IsS93.drewN|apply IsS93.drew|apply IsS93.set_1|apply IsS93.set_2|refine IsS93.far ?_ NB0_340.out _)|exact HI0.out)) hb);have n3_:=Aside0.mk (blk_below (g:=gb340) (o:=.cells #[.int .i64 0,.slice none 0 0] 26 (0,0)) (bk BK340) hb);have n4_:=Aside0.mk (KeepBut.trans (by repeat (first|(with_reducible first|exact HK.out|apply KeepBut.set_|apply keep_drewN|apply keep_drew|apply keep_alloc|refine keep_far ?_ GW340.out _)|exact HK.out)) (KeepBut.of_below hb g none) (.inl rfl));have n5_:=Aside0.mk (below_step (by repeat (first|(with_reducible first|exact HB.out|apply below_alloc|apply pw_below_drewN|apply below_drew1|refine below_set ?_ (IsS93.ge HI0.out)|refine below_set ?_ GE340.out)|exact HB.out)) hb);have n6_:=Aside0.mk (hbox);have n7_:=Aside0.mk ((by rw [hg];exact (keep_size (w:=w) (g:=g) (row:=none) (by repeat (first|(with_reducible first|exact HK.out|apply KeepBut.set_|apply keep_drewN|apply keep_drew|apply keep_alloc|refine keep_far ?_ GW340.out _)|exact HK.out))):w.heap.size≤gb350));have n8_:=Aside0.mk ((Nat.le_trans HW0.out (by rw [hg];exact (keep_size (w:=w) (g:=g) (row:=none) (by repeat (first|(with_reducible first|exact HK.out|apply KeepBut.set_|apply keep_drewN|apply keep_drew|apply keep_alloc|refine keep_far ?_ GW340.out _)|exact HK.out))):w.heap.size≤gb350):w0.heap.size≤gb350));have n9_:=Aside0.mk ((by rw [hg];exact Nat.ne_of_lt (blk_lt (g:=gb340) (o:=.cells #[.int .i64 0,.slice none 0 0] 26 (0,0)) (bk BK340)):gb340 ≠ gb350));have n10_:=Aside0.mk ((by rw [hg];exact Nat.ne_of_gt (blk_lt (g:=gb340) (o:=.cells #[.int .i64 0,.slice none 0 0] 26 (0,0)) (bk BK340)):gb350 ≠ gb340));have n11_:=Aside0.mk ((by rw [hg];exact Nat.ne_of_lt (IsS93.lt (show IsS93 w0 _ g s0_0 t348 t349 from by repeat (first|(with_reducible first|exact HI0.out|apply IsS93.alloc|apply IsS93.drewN|apply IsS93.drew|apply IsS93.set_1|apply IsS93.set_2|refine IsS93.far ?_ NB0_340.out _)|exact HI0.out))):g ≠ gb350));have n12_:=Aside0.mk ((by rw [hg];exact Nat.ne_of_gt (IsS93.lt (show IsS93 w0 _ g s0_0 t348 t349 from by repeat (first|(with_reducible first|exact HI0.out|apply IsS93.alloc|apply IsS93.drewN|apply IsS93.drew|apply IsS93.set_1|apply IsS93.set_2|refine IsS93.far ?_ NB0_340.out _)|exact HI0.out))):gb350 ≠ g));clear HO343;clear HO347;clear HI0;clear BK340;clear HK;clear HB;have HO343:=n0_;have HO347:=n1_;have HI0:=n2_;have BK340:=n3_;have HK:=n4_;have HB:=n5_;have BK350:=n6_;have GW350:=n7_;have GE350:=n8_;have NB340_350:=n9_;have NB350_340:=n10_;have NB0_350:=n11_;have NB350_0:=n12_;clear n0_ n1_ n2_ n3_ n4_ n5_ n6_ n7_ n8_ n9_ n10_ n11_ n12_;clear hb hbox hg;have hnb109:=NB350_340.out;have hnc109:=NB340_350.out;have hnb110:=NB350_0.out;have hnc110:=NB0_350.out;have hcz111_0:w108.cell? ⟨gb350,0,none⟩=some (.int .i64 0):=(blk_cell BK350.out 0).trans rfl;have hcz111_1:w108.cell? ⟨gb350,1,none⟩=some (.slice none 0 0):=(blk_cell BK350.out 1).trans rfl;have hfz111_0:=blk_frozen BK350.out 0;have hfz111_1:=blk_frozen BK350.out 1;obtain ⟨Ao112,co112,eo112⟩:=Kd.S_slice HO347.out;subst eo112)|((with_reducible refine gate_callee (f:=74) rfl ?_);refine goesL_ (some 16) rfl rfl Try.func74 (by kernel_rfl) rfl #[.pointer (some ⟨g,0,none⟩),.int .i64 (t345.length:Int)] rfl (by (try simp only [List.map_toArray,List.map_cons,List.map_nil]);first|done|rfl|(simp only [List.length_drop,List.length_take];rfl)) ?_;(with_reducible refine (spec_l1Below.calls g s0_0 t348 t349 (t345.length:Int) t351 t352 t353 w0 _ ?side1 ?side2 A3.out).mono ?_);(case side1=>repeat (first|(with_reducible first|exact HI0.out|apply IsS93.alloc|apply IsS93.drewN|apply IsS93.drew|apply IsS93.set_1|apply IsS93.set_2|refine IsS93.far ?_ NB0_340.out _|refine IsS93.far ?_ NB0_350.out _)|exact HI0.out));(case side2=>repeat (first|(with_reducible first|exact HB.out|apply below_alloc|apply pw_below_drewN|apply below_drew1|refine below_set ?_ (IsS93.ge HI0.out)|refine below_set ?_ GE340.out|refine below_set ?_ GE350.out)|exact HB.out));rintro e w113 ⟨rfl,hi,hb,hk⟩;refine ⟨_,rfl,?_⟩;have n0_:=Aside0.mk (KeepBut.blk hk (g':=gb340) (o:=.cells #[.int .i64 0,.slice none 0 0] 26 (0,0)) (by (with_reducible repeat (first|refine blk_drewN ?_ _|refine blk_drew ?_|refine blk_alloc ?_ _));refine blk_far ?_ NB340_350.out _;(with_reducible repeat (first|refine blk_drewN ?_ _|refine blk_drew ?_|refine blk_alloc ?_ _));refine blk_far ?_ NB340_350.out _;(with_reducible repeat (first|refine blk_drewN ?_ _|refine blk_drew ?_|refine blk_alloc ?_ _));exact BK340.out) NB340_0.out (by simp));have n1_:=Aside0.mk (Kd.R_mono (Kd.R_keep (IsS93.apart (show IsS93 w0 _ g s0_0 t348 t349 from by repeat (first|(with_reducible first|exact HI0.out|apply IsS93.alloc|apply IsS93.drewN|apply IsS93.drew|apply IsS93.set_1|apply IsS93.set_2|refine IsS93.far ?_ NB0_340.out _|refine IsS93.far ?_ NB0_350.out _)|exact HI0.out)) (by (with_reducible repeat (first|apply Kd.R_alloc|apply Kd.R_drewN|apply Kd.R_drew));exact (Kd.R_mono (Kd.R_far (p:=⟨gb350,1,none⟩) (Kd.R_far (p:=⟨gb350,0,none⟩) (Kd.R_types HO343.out BK350.out (by decide)) (fun _ hk=>hk.2) (.int .i64 t344)) (fun _ hk=>hk.2) (.slice Ao112 t345.length co112)) (fun _ h_=>h_.1))) (by decide)) hk (fun _ h=>h.2)) (fun _ h=>h.1));have n2_:=Aside0.mk (Kd.S_mono (Kd.S_keep (IsS93.apartS (show IsS93 w0 _ g s0_0 t348 t349 from by repeat (first|(with_reducible first|exact HI0.out|apply IsS93.alloc|apply IsS93.drewN|apply IsS93.drew|apply IsS93.set_1|apply IsS93.set_2|refine IsS93.far ?_ NB0_340.out _|refine IsS93.far ?_ NB0_350.out _)|exact HI0.out)) (by (with_reducible repeat (first|apply Kd.S_alloc|apply Kd.S_drewN|apply Kd.S_drew));exact (Kd.S_mono (Kd.S_far (p:=⟨gb350,1,none⟩) (Kd.S_far (p:=⟨gb350,0,none⟩) (Kd.S_types HO347.out BK350.out (by decide)) (fun _ hk=>hk.2) (.int .i64 t344)) (fun _ hk=>hk.2) (.slice Ao112 t345.length co112)) (fun _ h_=>h_.1))) (by decide)) hk (fun _ h=>h.2)) (fun _ h=>h.1));have n3_:=Aside0.mk (KeepBut.blk hk (g':=gb350) (o:=.cells #[.int .i64 t344,.slice Ao112 t345.length co112] 26 (0,0)) (by (with_reducible repeat (first|refine blk_drewN ?_ _|refine blk_drew ?_|refine blk_alloc ?_ _));refine blk_put (cs:=#[.int .i64 t344,.slice none 0 0]) ?_ 1 _ rfl;(with_reducible repeat (first|refine blk_drewN ?_ _|refine blk_drew ?_|refine blk_alloc ?_ _));refine blk_put (cs:=#[.int .i64 0,.slice none 0 0]) ?_ 0 _ rfl;(with_reducible repeat (first|refine blk_drewN ?_ _|refine blk_drew ?_|refine blk_alloc ?_ _));exact BK350.out) NB350_0.out (by simp));have n4_:=Aside0.mk (KeepBut.trans (by repeat (first|(with_reducible first|exact HK.out|apply KeepBut.set_|apply keep_drewN|apply keep_drew|apply keep_alloc|refine keep_far ?_ GW340.out _|refine keep_far ?_ GW350.out _)|exact HK.out)) hk (.inl rfl));have n5_:=Aside0.mk (hb);have n6_:=Aside0.mk (hi);clear BK340;clear HO343;clear HO347;clear BK350;clear HK;clear HB;clear HI0;have BK340:=n0_;have HO343:=n1_;have HO347:=n2_;have BK350:=n3_;have HK:=n4_;have HB:=n5_;have HI0:=n6_;clear n0_ n1_ n2_ n3_ n4_ n5_ n6_;(try clear hb);(try clear hb2);(try clear hk);(try clear hi))|((with_reducible refine gate_callee (f:=74) rfl ?_);refine goesL_ (some 18) rfl rfl Try.func74 (by kernel_rfl) rfl #[.pointer (some ⟨g,0,none⟩),.int .i64 10] rfl (by (try simp only [List.map_toArray,List.map_cons,List.map_nil]);first|done|rfl|(simp only [List.length_drop,List.length_take];rfl)) ?_;(with_reducible refine (spec_l1Below.calls g s0_0 t352 t353 10 t354 t355 t356 w0 _ ?side1 ?side2 A4.out).mono ?_);(case side1=>repeat (first|(with_reducible first|exact HI0.out|apply IsS93.alloc|apply IsS93.drewN|apply IsS93.drew|apply IsS93.set_1|apply IsS93.set_2|refine IsS93.far ?_ NB0_340.out _|refine IsS93.far ?_ NB0_350.out _)|exact HI0.out));(case side2=>repeat (first|(with_reducible first|exact HB.out|apply below_alloc|apply pw_below_drewN|apply below_drew1|refine below_set ?_ (IsS93.ge HI0.out)|refine below_set ?_ GE340.out|refine below_set ?_ GE350.out)|exact HB.out));rintro e w114 ⟨rfl,hi,hb,hk⟩;refine ⟨_,rfl,?_⟩;have n0_:=Aside0.mk (KeepBut.blk hk (g':=gb340) (o:=.cells #[.int .i64 0,.slice none 0 0] 26 (0,0)) (bk BK340) NB340_0.out (by simp));have n1_:=Aside0.mk (Kd.R_mono (Kd.R_keep (IsS93.apart (show IsS93 w0 _ g s0_0 t352 t353 from by repeat (first|(with_reducible first|exact HI0.out|apply IsS93.alloc|apply IsS93.drewN|apply IsS93.drew|apply IsS93.set_1|apply IsS93.set_2|refine IsS93.far ?_ NB0_340.out _|refine IsS93.far ?_ NB0_350.out _)|exact HI0.out)) (rR HO343) (by decide)) hk (fun _ h=>h.2)) (fun _ h=>h.1));have n2_:=Aside0.mk (Kd.S_mono (Kd.S_keep (IsS93.apartS (show IsS93 w0 _ g s0_0 t352 t353 from by repeat (first|(with_reducible first|exact HI0.out|apply IsS93.alloc|apply IsS93.drewN|apply IsS93.drew|apply IsS93.set_1|apply IsS93.set_2|refine IsS93.far ?_ NB0_340.out _|refine IsS93.far ?_ NB0_350.out _)|exact HI0.out)) (rS HO347) (by decide)) hk (fun _ h=>h.2)) (fun _ h=>h.1));have n3_:=Aside0.mk (KeepBut.blk hk (g':=gb350) (o:=.cells #[.int .i64 t344,.slice Ao112 t345.length co112] 26 (0,0)) (bk BK350) NB350_0.out (by simp));have n4_:=Aside0.mk (KeepBut.trans (by repeat (first|(with_reducible first|exact HK.out|apply KeepBut.set_|apply keep_drewN|apply keep_drew|apply keep_alloc|refine keep_far ?_ GW340.out _|refine keep_far ?_ GW350.out _)|exact HK.out)) hk (.inl rfl));have n5_:=Aside0.mk (hb);have n6_:=Aside0.mk (hi);clear BK340;clear HO343;clear HO347;clear BK350;clear HK;clear HB;clear HI0;have BK340:=n0_;have HO343:=n1_;have HO347:=n2_;have BK350:=n3_;have HK:=n4_;have HB:=n5_;have HI0:=n6_;clear n0_ n1_ n2_ n3_ n4_ n5_ n6_;(try clear hb);(try clear hb2);(try clear hk);(try clear hi)))
      have n0_:=Aside0.mk (Kd.R_drew HO343.out)
      have n1_:=Aside0.mk (Kd.S_drew HO347.out)
      have n2_:=Aside0.mk (blk_drew BK340.out)
      have n3_:=Aside0.mk (blk_drew BK350.out)
      have n4_:=Aside0.mk (IsS93.drew HI0.out)
      have n5_:=Aside0.mk (keep_drew HK.out)
      have n6_:=Aside0.mk (below_drew1 HB.out)
      clear HO343
      clear HO347
      clear BK340
      clear BK350
      clear HI0
      clear HK
      clear HB
      have HO343:=n0_
      have HO347:=n1_
      have BK340:=n2_
      have BK350:=n3_
      have HI0:=n4_
      have HK:=n5_
      have HB:=n6_
      clear n0_ n1_ n2_ n3_ n4_ n5_ n6_
      refine start_ (n:=4) (S:=fun w'=>w'.cell? ⟨gb350,0,none⟩=some (.int .i64 t344)∧w'.cell? ⟨gb350,1,none⟩=some (.slice Ao112 t345.length co112)) (ds:=[]) (fl 4 0) (by kernel_rfl) rfl rfl ⟨(blk_cell BK350.out 0).trans rfl,(blk_cell BK350.out 1).trans rfl⟩ (fun hHeld=>?_)
      generalize w114.drew=w115 at HO343 HO347 BK340 BK350 HI0 HK HB hHeld ⊢
      refine pu 0 63 (fl 4 1) ?_
      refine pu 2 2 (fl 4 5) ?_
      refine ta 1 64 (fl 4 7) hHeld ?_
      refine on 3 none (fl 4 15) (fun K hK=>?_)
      have hs116:w115.cell? ⟨gb340,0,none⟩=some (.int .i64 0):=(blk_cell BK340.out 0).trans rfl
      have hfs116:=blk_frozen BK340.out 0
      have hns116_1:=NB350_340.out
      have hms116_1:=NB340_350.out
      have hs117:w115.cell? ⟨gb340,1,none⟩=some (.slice none 0 0):=(blk_cell BK340.out 1).trans rfl
      have hfs117:=blk_frozen BK340.out 1
      have hns117_1:=NB350_340.out
      have hms117_1:=NB340_350.out
      refine skip_ (w1:=?_) (by rfl) rfl ?_ ?_
      rotate_left
      ·go_simp
       rfl
      refine hK.out _ _ ⟨((cell_far (p:=⟨gb340,_,none⟩) NB350_340.out _).trans (((cell_far (p:=⟨gb340,_,none⟩) NB350_340.out _).trans (hHeld.1)))),((cell_far (p:=⟨gb340,_,none⟩) NB350_340.out _).trans (((cell_far (p:=⟨gb340,_,none⟩) NB350_340.out _).trans (hHeld.2))))⟩ (fun hHeld=>?_)
      clear hK K
      refine done_ (by kernel_rfl) ?_
      try go_wp2
      refine bodyPost_ret (results_tc rfl _ _ gb340 26 #[.int .i64 t344,.slice Ao112 t345.length co112] (0,0) _ rfl (by (with_reducible repeat (first|refine blk_drewN ?_ _|refine blk_drew ?_|refine blk_alloc ?_ _));refine blk_put (cs:=#[.int .i64 t344,.slice none 0 0]) ?_ 1 _ rfl;(with_reducible repeat (first|refine blk_drewN ?_ _|refine blk_drew ?_|refine blk_alloc ?_ _));refine blk_put (cs:=#[.int .i64 0,.slice none 0 0]) ?_ 0 _ rfl;(with_reducible repeat (first|refine blk_drewN ?_ _|refine blk_drew ?_|refine blk_alloc ?_ _));exact BK340.out) Try.underlying26 rfl (by kernel_rfl)) rfl ?_
      exact ⟨_,_,rz,by (with_reducible repeat (first|apply Kd.R_alloc|apply Kd.R_drewN|apply Kd.R_drew));exact Kd.R_mono (Kd.R_far (p:=⟨gb340,1,none⟩) (Kd.R_far (p:=⟨gb340,0,none⟩) (Kd.R_types HO343.out BK340.out (by decide)) (fun _ hk=>hk.2) (.int .i64 t344)) (fun _ hk=>hk.2) (.slice Ao112 t345.length co112)) (fun _ hk=>trivial),by (with_reducible repeat (first|apply Kd.S_alloc|apply Kd.S_drewN|apply Kd.S_drew));exact Kd.S_mono (Kd.S_far (p:=⟨gb340,1,none⟩) (Kd.S_far (p:=⟨gb340,0,none⟩) (Kd.S_types HO347.out BK340.out (by decide)) (fun _ hk=>hk.2) (.int .i64 t344)) (fun _ hk=>hk.2) (.slice Ao112 t345.length co112)) (fun _ hk=>trivial),by repeat (first|(with_reducible first|exact HI0.out|apply IsS93.alloc|apply IsS93.drewN|apply IsS93.drew|apply IsS93.set_1|apply IsS93.set_2|refine IsS93.far ?_ NB0_340.out _|refine IsS93.far ?_ NB0_350.out _)|exact HI0.out),by repeat (first|(with_reducible first|exact HB.out|apply below_alloc|apply pw_below_drewN|apply below_drew1|refine below_set ?_ (IsS93.ge HI0.out)|refine below_set ?_ GE340.out|refine below_set ?_ GE350.out)|exact HB.out),by repeat (first|(with_reducible first|exact HK.out|apply KeepBut.set_|apply keep_drewN|apply keep_drew|apply keep_alloc|refine keep_far ?_ GW340.out _|refine keep_far ?_ GW350.out _)|exact HK.out)⟩
end Go.Proofs.Ytpbjbfimnfghkaa.PFnLoads
