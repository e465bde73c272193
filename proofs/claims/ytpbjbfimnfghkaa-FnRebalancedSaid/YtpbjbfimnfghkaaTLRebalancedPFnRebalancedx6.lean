/- Trimmed by a program of this session (trim.py). Not trusted: Lean checks it. -/
import Derived.Test.YtpbjbfimnfghkaaTLRebalancedPFnRebalancedx0
import Derived.Test.YtpbjbfimnfghkaaTLRebalancedPFnRebalancedx1
import Derived.Test.YtpbjbfimnfghkaaTLRebalancedPFnRebalancedx4
import Derived.Test.YtpbjbfimnfghkaaTLRebalancedPFnRebalancedx5
namespace Go.Proofs.Ytpbjbfimnfghkaa.PFnRebalanced
open Go.RowKit Go.Proofs.YtpbjbfimnfghkaaW.PrintWords Go.Proofs.YtpbjbfimnfghkaaW.PrintLast Go.Proofs.YtpbjbfimnfghkaaW.PrintMore Go.Proofs.Ytpbjbfimnfghkaa.St
attribute [local go_sem] max2_int min2_int max_two min_two max_three min_three max_four min_four
set_option linter.unusedVariables false
set_option linter.unusedSimpArgs false
def spec_l5Any.f (k:Nat) (s0_0:List Int) (s0_1:Int) (s0_2:Int):Option ((List (S61)) × Int × (List (S35)) × Int × Int):=(spec_l5Draw.f k s0_0 s0_1 s0_2).bind fun bt278=>((spec_l1Below.f s0_0 bt278.2.2.2.1 bt278.2.2.2.2 (bt278.2.2.1.length:Int)).bind fun bt288=>((spec_l1Below.f s0_0 bt288.2.1 bt288.2.2 10).bind fun bt291=>(if bt291.1=0 then ((spec_l1Int.f s0_0 bt291.2.1 bt291.2.2 (([0,1,2,6]:List Int))).bind fun bt297=>(some (bt278.1,bt297.1,bt278.2.2.1,bt297.2.1,bt297.2.2))) else (if bt291.1=1 then (if 0≤bt288.1 then (if bt288.1 < (bt278.2.2.1.length:Int) then ((spec_l1Below.f s0_0 bt291.2.1 bt291.2.2 9).bind fun bt301=>(if ((rd_T35 bt278.2.2.1 bt288.1).f0).length < 17592186044416 then (some (bt278.1,bt278.2.1,(bt278.2.2.1.set (bt288.1:Int).toNat (⟨(((rd_T35 bt278.2.2.1 bt288.1).f0) ++ [bt301.1])⟩:S35)),bt301.2.1,bt301.2.2)) else (none))) else (none)) else (none)) else (if bt291.1=2 then (if 0≤bt288.1 then (if bt288.1 < (bt278.2.2.1.length:Int) then ((spec_l1Below.f s0_0 bt291.2.1 bt291.2.2 9).bind fun bt309=>(if 0 < (((rd_T35 bt278.2.2.1 bt288.1).f0).length:Int) then (some (bt278.1,bt278.2.1,(bt278.2.2.1.set (bt288.1:Int).toNat (⟨(((rd_T35 bt278.2.2.1 bt288.1).f0).set (0:Int).toNat bt309.1)⟩:S35)),bt309.2.1,bt309.2.2)) else (none))) else (none)) else (none)) else (if bt291.1=3 then ((spec_l4Any.f k s0_0 bt291.2.1 bt291.2.2).bind fun bt315=>(some (bt315.1,bt278.2.1,bt278.2.2.1,bt315.2.1,bt315.2.2))) else (if bt291.1=4 then (if 0≤(bt278.2.2.1.length:Int) then (some (bt278.1,bt278.2.1,(bt278.2.2.1.take (0:Int).toNat),bt291.2.1,bt291.2.2)) else (none)) else (some (bt278.1,bt278.2.1,bt278.2.2.1,bt291.2.1,bt291.2.2)))))))))
def spec_l5Any.T7:Bool × List (List Nat × List Nat):=(true,[([],[]),([0],[0]),([],[]),([],[]),([3],[3]),([],[]),([4,5],[4,5]),([6],[6]),([7],[7]),([],[]),([9],[9]),([10],[10]),([8,11,10],[8,11]),([1,2,0,1,2,3,4,5,6,7,8,9,10,11,12],[1,2]),([13,0,1,2,3,4,5,6,7,8,9,10,11,12],[13]),([14,12,12,0,1,2,3,4,5,6,7,8,9,10,11,12],[12,14])])
def spec_l5Any.B7:List Nat:=[0,1,0,0,8,0,56,120,248,0,512,1536,4088,8191,16383,32767]
theorem spec_l5Any.tab7:rtab .any (opsOf Try.f39 7)=spec_l5Any.T7:=by kernel_rfl
theorem spec_l5Any.bits7:waitsOk spec_l5Any.T7.2 spec_l5Any.B7=true:=by kernel_rfl
def spec_l5Any.T9:Bool × List (List Nat × List Nat):=(true,[([],[]),([0],[0]),([],[]),([1,2],[1,2]),([3],[3]),([4],[4]),([],[]),([6],[6]),([5,0,1,2,3,4,5,6,7],[5]),([8,7,7,0,1,2,3,4,5,6,7],[7,8])])
def spec_l5Any.B9:List Nat:=[0,1,0,7,15,31,0,64,255,511]
theorem spec_l5Any.tab9:rtab .any (opsOf Try.f39 9)=spec_l5Any.T9:=by kernel_rfl
theorem spec_l5Any.bits9:waitsOk spec_l5Any.T9.2 spec_l5Any.B9=true:=by kernel_rfl
set_option maxHeartbeats 8000000 in
set_option maxRecDepth 100000 in
theorem spec_l5Any.calls (k:Nat) (g:Nat) (s0_0:List Int) (s0_1:Int) (s0_2:Int) (r1:List (S61)) (r2:Int) (r3:List (S35)) (r4:Int) (r5:Int) (w0 w:World) (hI:IsS93 w0 w g s0_0 s0_1 s0_2) (hB:Below w0.heap.size w0 w) (h:spec_l5Any.f k s0_0 s0_1 s0_2=some (r1,r2,r3,r4,r5)) :
  Calls Try.prog 39 #[.pointer (some ⟨g,0,none⟩)] w fun e w'=>∃ v0_ v2_:Value,e = .returned (.tuple #[v0_,.agg #[.int .i64 r2,v2_]])∧Kd.R k61 61 w' w.heap.size (fun _=>True) v0_ r1∧Kd.S k35 35 w' w.heap.size (fun _=>True) v2_ r3∧IsS93 w0 w' g s0_0 r4 r5∧Below w0.heap.size w0 w' ∧ KeepBut w w' g none:=by
 have hu26:=Try.underlying26
 have HI0:=aM hI
 have HK:=aM (KeepBut.refl w g none)
 have HL:=aM hB.size
 clear hI
 have HW0:=aM hB.size
 have HB:=aM hB
 clear hB
 have H:((spec_l5Draw.f k s0_0 s0_1 s0_2).bind fun bt278=>((spec_l1Below.f s0_0 bt278.2.2.2.1 bt278.2.2.2.2 (bt278.2.2.1.length:Int)).bind fun bt288=>((spec_l1Below.f s0_0 bt288.2.1 bt288.2.2 10).bind fun bt291=>(if bt291.1=0 then ((spec_l1Int.f s0_0 bt291.2.1 bt291.2.2 (([0,1,2,6]:List Int))).bind fun bt297=>(some (bt278.1,bt297.1,bt278.2.2.1,bt297.2.1,bt297.2.2))) else (if bt291.1=1 then (if 0≤bt288.1 then (if bt288.1 < (bt278.2.2.1.length:Int) then ((spec_l1Below.f s0_0 bt291.2.1 bt291.2.2 9).bind fun bt301=>(if ((rd_T35 bt278.2.2.1 bt288.1).f0).length < 17592186044416 then (some (bt278.1,bt278.2.1,(bt278.2.2.1.set (bt288.1:Int).toNat (⟨(((rd_T35 bt278.2.2.1 bt288.1).f0) ++ [bt301.1])⟩:S35)),bt301.2.1,bt301.2.2)) else (none))) else (none)) else (none)) else (if bt291.1=2 then (if 0≤bt288.1 then (if bt288.1 < (bt278.2.2.1.length:Int) then ((spec_l1Below.f s0_0 bt291.2.1 bt291.2.2 9).bind fun bt309=>(if 0 < (((rd_T35 bt278.2.2.1 bt288.1).f0).length:Int) then (some (bt278.1,bt278.2.1,(bt278.2.2.1.set (bt288.1:Int).toNat (⟨(((rd_T35 bt278.2.2.1 bt288.1).f0).set (0:Int).toNat bt309.1)⟩:S35)),bt309.2.1,bt309.2.2)) else (none))) else (none)) else (none)) else (if bt291.1=3 then ((spec_l4Any.f k s0_0 bt291.2.1 bt291.2.2).bind fun bt315=>(some (bt315.1,bt278.2.1,bt278.2.2.1,bt315.2.1,bt315.2.2))) else (if bt291.1=4 then (if 0≤(bt278.2.2.1.length:Int) then (some (bt278.1,bt278.2.1,(bt278.2.2.1.take (0:Int).toNat),bt291.2.1,bt291.2.2)) else (none)) else (some (bt278.1,bt278.2.1,bt278.2.2.1,bt291.2.1,bt291.2.2))))))))))=some (r1,r2,r3,r4,r5):=h
 clear h
 replace H:=Option.bind_eq_some_iff.mp H
 obtain ⟨⟨t278,t281,t282,t285,t286⟩,A20,H⟩:=H
 try dsimp only at H
 have A2:=aM A20
 clear A20
 replace H:=Option.bind_eq_some_iff.mp H
 obtain ⟨⟨t288,t289,t290⟩,A30,H⟩:=H
 try dsimp only at H
 have A3:=aM A30
 clear A30
 replace H:=Option.bind_eq_some_iff.mp H
 obtain ⟨⟨t291,t292,t293⟩,A40,H⟩:=H
 try dsimp only at H
 have A4:=aM A40
 clear A40
 by_cases c5:t291=0
 ·rw [if_pos c5] at H
  have c5b0:(t291 == 0)=true:=beq_iff_eq.mpr c5
  have c5b1:(t291 != 0)=false:=bne_eq_false_iff_eq.mpr c5
  clear c5
  obtain ⟨y294,hy294⟩ : ∃ y_:List Int,y_=(([0,1,2,6]:List Int)):=⟨_,rfl⟩
  replace H:((spec_l1Int.f s0_0 t292 t293 y294).bind fun bt297=>(some (t278,bt297.1,t282,bt297.2.1,bt297.2.2)))=some (r1,r2,r3,r4,r5):=by (rw [hy294];with_reducible exact H)
  have Ny294:=aM hy294
  clear hy294
  replace H:=Option.bind_eq_some_iff.mp H
  obtain ⟨⟨t297,t298,t299⟩,A60,H⟩:=H
  try dsimp only at H
  have A6:=aM A60
  clear A60
  simp only [Option.some.injEq,Prod.mk.injEq] at H
  obtain ⟨rfl,rfl,rfl,rfl,rfl⟩:=H
  go_enter Try.func39,Try.ntmps39
  try go_wp2_with (first|((with_reducible refine gate_dst (N:=3) rfl ?_);refine box_event ?hg (N:=3) ?hd (cs:=#[.int .i64 0,.slice none 0 0]) (t:=26) ?hr ?_;(case hd=>rfl);(case hg=>rfl);(case hr=>(go_simp;done));intro gb277 hg w7 hbox hb;replace HB:=aM (below_step HB.out hb);have BK277:=aM (hbox);have GW277:=aM ((by rw [hg];exact (keep_size (w:=w) (g:=g) (row:=none) HK.out):w.heap.size≤gb277));have GE277:=aM ((Nat.le_trans HW0.out (by rw [hg];exact (keep_size (w:=w) (g:=g) (row:=none) HK.out):w.heap.size≤gb277):w0.heap.size≤gb277));replace HK:=aM (KeepBut.trans HK.out (KeepBut.of_below hb g none) (.inl rfl));have NB0_277:=aM ((by rw [hg];exact Nat.ne_of_lt (IsS93.lt (show IsS93 w0 _ g s0_0 s0_1 s0_2 from by exact HI0.out)):g ≠ gb277));have NB277_0:=aM ((by rw [hg];exact Nat.ne_of_gt (IsS93.lt (show IsS93 w0 _ g s0_0 s0_1 s0_2 from by exact HI0.out)):gb277 ≠ g));replace HI0:=aM (IsS93.below HI0.out hb);clear hb hbox hg)|((with_reducible refine gate_callee (f:=37) rfl ?_);refine goesL_ (some 9) rfl rfl Try.func37 (by kernel_rfl) rfl #[.pointer (some ⟨g,0,none⟩)] rfl (by (try simp only [List.map_toArray,List.map_cons,List.map_nil]);rfl) ?_;(with_reducible refine (spec_l5Draw.calls k g s0_0 s0_1 s0_2 t278 t281 t282 t285 t286 w0 _ ?side1 ?side2 A2.out).mono ?_);(case side1=>repeat ((with_reducible exact HI0.out)));(case side2=>repeat ((with_reducible exact HB.out)));rintro e w8 ⟨v279,v283,rfl,ho0,ho1,hi,hb,hk⟩;refine ⟨_,rfl,?_⟩;replace BK277:=aM (KeepBut.blk hk (g':=gb277) (o:=.cells #[.int .i64 0,.slice none 0 0] 26 (0,0)) (bk BK277) NB277_0.out (by simp));have HO280:=aM (Kd.R_lower ho0 (keep_size (w:=w) (g:=g) (row:=none) HK.out));have HO284:=aM (Kd.S_lower ho1 (keep_size (w:=w) (g:=g) (row:=none) HK.out));replace HK:=aM (KeepBut.trans HK.out hk (.inl rfl));replace HB:=aM (hb);replace HI0:=aM (hi);(try clear hb);(try clear hk);(try clear hi);(try clear ho0);(try clear ho1))|((with_reducible refine gate_dst (N:=5) rfl ?_);refine box_event ?hg (N:=5) ?hd (cs:=#[.int .i64 0,.slice none 0 0]) (t:=26) ?hr ?_;(case hd=>rfl);(case hg=>rfl);(case hr=>(go_simp;done));intro gb287 hg w9 hbox hb;replace HO280:=rB HO280 hb;replace HO284:=sB HO284 hb;replace HB:=aM (below_step HB.out hb);have BK287:=aM (hbox);have GW287:=aM ((by rw [hg];exact (keep_size (w:=w) (g:=g) (row:=none) HK.out):w.heap.size≤gb287));have GE287:=aM ((Nat.le_trans HW0.out (by rw [hg];exact (keep_size (w:=w) (g:=g) (row:=none) HK.out):w.heap.size≤gb287):w0.heap.size≤gb287));replace HK:=aM (KeepBut.trans HK.out (KeepBut.of_below hb g none) (.inl rfl));have NB277_287:=nL hg BK277;have NB287_277:=nG hg BK277;replace BK277:=bB BK277 hb;have NB0_287:=aM ((by rw [hg];exact Nat.ne_of_lt (IsS93.lt (show IsS93 w0 _ g s0_0 t285 t286 from by exact HI0.out)):g ≠ gb287));have NB287_0:=aM ((by rw [hg];exact Nat.ne_of_gt (IsS93.lt (show IsS93 w0 _ g s0_0 t285 t286 from by exact HI0.out)):gb287 ≠ g));replace HI0:=aM (IsS93.below HI0.out hb);clear hb hbox hg;have hnb10:=NB287_277.out;have hnc10:=NB277_287.out;have hnb11:=NB287_0.out;have hnc11:=NB0_287.out;obtain ⟨hcz12_0,hcz12_1,hfz12_0,hfz12_1⟩:=b2 BK287;obtain ⟨Ao13,co13,eo13⟩:=Kd.S_slice HO284.out;subst eo13)|((with_reducible refine gate_callee (f:=74) rfl ?_);refine goesL_ (some 16) rfl rfl Try.func74 (by kernel_rfl) rfl #[.pointer (some ⟨g,0,none⟩),.int .i64 (t282.length:Int)] rfl (by (try simp only [List.map_toArray,List.map_cons,List.map_nil]);rfl) ?_;(with_reducible refine (spec_l1Below.calls g s0_0 t285 t286 (t282.length:Int) t288 t289 t290 w0 _ ?side1 ?side2 A3.out).mono ?_);(case side1=>repeat ((with_reducible first|exact HI0.out|refine IsS93.far ?_ NB0_287.out _)));(case side2=>repeat ((with_reducible first|exact HB.out|refine below_set ?_ GE287.out)));rintro e w14 ⟨rfl,hi,hb,hk⟩;refine ⟨_,rfl,?_⟩;replace BK277:=aM (KeepBut.blk hk (g':=gb277) (o:=.cells #[.int .i64 0,.slice none 0 0] 26 (0,0)) (by refine blk_far ?_ NB277_287.out _;refine blk_far ?_ NB277_287.out _;exact BK277.out) NB277_0.out (by simp));replace HO280:=aM (Kd.R_mono (Kd.R_keep (IsS93.apart (show IsS93 w0 _ g s0_0 t285 t286 from by repeat ((with_reducible first|exact HI0.out|refine IsS93.far ?_ NB0_287.out _))) (by exact (Kd.R_mono (Kd.R_far (p:=⟨gb287,1,none⟩) (Kd.R_far (p:=⟨gb287,0,none⟩) (Kd.R_types HO280.out BK287.out (by decide)) (fun _ hk=>hk.2) (.int .i64 t281)) (fun _ hk=>hk.2) (.slice Ao13 t282.length co13)) (fun _ h_=>h_.1))) (by decide)) hk (fun _ h=>h.2)) (fun _ h=>h.1));replace HO284:=aM (Kd.S_mono (Kd.S_keep (IsS93.apartS (show IsS93 w0 _ g s0_0 t285 t286 from by repeat ((with_reducible first|exact HI0.out|refine IsS93.far ?_ NB0_287.out _))) (by exact (Kd.S_mono (Kd.S_far (p:=⟨gb287,1,none⟩) (Kd.S_far (p:=⟨gb287,0,none⟩) (Kd.S_types HO284.out BK287.out (by decide)) (fun _ hk=>hk.2) (.int .i64 t281)) (fun _ hk=>hk.2) (.slice Ao13 t282.length co13)) (fun _ h_=>h_.1))) (by decide)) hk (fun _ h=>h.2)) (fun _ h=>h.1));replace BK287:=aM (KeepBut.blk hk (g':=gb287) (o:=.cells #[.int .i64 t281,.slice Ao13 t282.length co13] 26 (0,0)) (by refine blk_put (cs:=#[.int .i64 t281,.slice none 0 0]) ?_ 1 _ rfl;refine blk_put (cs:=#[.int .i64 0,.slice none 0 0]) ?_ 0 _ rfl;exact BK287.out) NB287_0.out (by simp));replace HK:=aM (KeepBut.trans (by repeat ((with_reducible first|exact HK.out|refine keep_far ?_ GW287.out _))) hk (.inl rfl));replace HB:=aM (hb);replace HI0:=aM (hi);(try clear hb);(try clear hk);(try clear hi))|((with_reducible refine gate_callee (f:=74) rfl ?_);refine goesL_ (some 18) rfl rfl Try.func74 (by kernel_rfl) rfl #[.pointer (some ⟨g,0,none⟩),.int .i64 10] rfl (by (try simp only [List.map_toArray,List.map_cons,List.map_nil]);rfl) ?_;(with_reducible refine (spec_l1Below.calls g s0_0 t289 t290 10 t291 t292 t293 w0 _ ?side1 ?side2 A4.out).mono ?_);(case side1=>repeat ((with_reducible exact HI0.out)));(case side2=>repeat ((with_reducible exact HB.out)));rintro e w15 ⟨rfl,hi,hb,hk⟩;refine ⟨_,rfl,?_⟩;replace BK277:=aM (KeepBut.blk hk (g':=gb277) (o:=.cells #[.int .i64 0,.slice none 0 0] 26 (0,0)) (bk BK277) NB277_0.out (by simp));replace HO280:=aM (Kd.R_mono (Kd.R_keep (IsS93.apart (show IsS93 w0 _ g s0_0 t289 t290 from by exact HI0.out) (rR HO280) (by decide)) hk (fun _ h=>h.2)) (fun _ h=>h.1));replace HO284:=aM (Kd.S_mono (Kd.S_keep (IsS93.apartS (show IsS93 w0 _ g s0_0 t289 t290 from by exact HI0.out) (rS HO284) (by decide)) hk (fun _ h=>h.2)) (fun _ h=>h.1));replace BK287:=aM (KeepBut.blk hk (g':=gb287) (o:=.cells #[.int .i64 t281,.slice Ao13 t282.length co13] 26 (0,0)) (bk BK287) NB287_0.out (by simp));replace HK:=aM (KeepBut.trans HK.out hk (.inl rfl));replace HB:=aM (hb);replace HI0:=aM (hi);(try clear hb);(try clear hk);(try clear hi))|((with_reducible refine gate_dst (N:=22) rfl ?_);refine Kd.R_lit (Kd.int .i64) _ 3 ?hg (N:=22) ?hd (xs:=([0,1,2,6]:List Int)) (inner:=[.int .i64 0,.int .i64 1,.int .i64 2,.int .i64 6]) (ok:=fun _=>True) (okp:=fun _=>True) ?hr ?hp (fun _ hk=>hk) trivial (Below.refl _ _) (Nat.le_refl _) (by simp) ?_;(case hd=>rfl);(case hg=>rfl);(case hr=>(go_simp;done));(case hp=>exact (Reps.one (show Kd.M (Kd.int .i64) _ _ _ 0 [.int .i64 0] from rfl) (Reps.one (show Kd.M (Kd.int .i64) _ _ _ 1 [.int .i64 1] from rfl) (Reps.one (show Kd.M (Kd.int .i64) _ _ _ 2 [.int .i64 2] from rfl) (Reps.one (show Kd.M (Kd.int .i64) _ _ _ 6 [.int .i64 6] from rfl) (Reps.none _ _))))));intro v295 w16 ho17 hb hg_ hnew_;clear hg_ hnew_;(rw [← Ny294.out] at ho17);replace HO280:=rB HO280 hb;replace HO284:=aM (Kd.S_elder' (rS HO284) (Kd.R_base ho17) hb);have HO296:=aM (Kd.R_lower ho17 (keep_size (w:=w) (g:=g) (row:=none) HK.out));replace BK277:=bB BK277 hb;replace BK287:=bB BK287 hb;replace HK:=aM (KeepBut.trans HK.out (KeepBut.of_below hb g none) (.inl rfl));replace HB:=aM (below_step HB.out hb);replace HI0:=aM (IsS93.below HI0.out hb);clear hb ho17;obtain ⟨Ao18,co18,eo18⟩:=Kd.R_slice HO296.out;subst eo18)|((with_reducible refine gate_callee (f:=71) rfl ?_);refine goesL_ (some 23) rfl rfl Try.func71 (by kernel_rfl) rfl #[.pointer (some ⟨g,0,none⟩),.slice Ao18 y294.length co18] rfl (by (try simp only [List.map_toArray,List.map_cons,List.map_nil]);rfl) ?_;(with_reducible refine (spec_l1Int.calls g s0_0 t292 t293 _ _ y294 t297 t298 t299 w0 _ ?side1 ?side2 ?side3 ?side4 ?side5 A6.out).mono ?_);(case side1=>repeat ((with_reducible exact HI0.out)));(case side2=>repeat ((with_reducible exact HB.out)));(case side3=>exact sR HO296);(case side4=>exact (Kd.R_reads' HO296.out).2.1);(case side5=>exact far_slice (IsS93.own_ne HI0.out HO296.out (by decide)));rintro e w19 ⟨rfl,hi,hb,hk⟩;refine ⟨_,rfl,?_⟩;replace BK277:=aM (KeepBut.blk hk (g':=gb277) (o:=.cells #[.int .i64 0,.slice none 0 0] 26 (0,0)) (bk BK277) NB277_0.out (by simp));replace HO280:=aM (Kd.R_mono (Kd.R_keep (IsS93.apart (show IsS93 w0 _ g s0_0 t292 t293 from by exact HI0.out) (rR HO280) (by decide)) hk (fun _ h=>h.2)) (fun _ h=>h.1));replace HO284:=aM (Kd.S_mono (Kd.S_keep (IsS93.apartS (show IsS93 w0 _ g s0_0 t292 t293 from by exact HI0.out) (rS HO284) (by decide)) hk (fun _ h=>h.2)) (fun _ h=>h.1));replace BK287:=aM (KeepBut.blk hk (g':=gb287) (o:=.cells #[.int .i64 t281,.slice Ao13 t282.length co13] 26 (0,0)) (bk BK287) NB287_0.out (by simp));replace HO296:=aM (Kd.R_mono (Kd.R_keep (IsS93.apart (show IsS93 w0 _ g s0_0 t292 t293 from by exact HI0.out) (rR HO296) (by decide)) hk (fun _ h=>h.2)) (fun _ h=>h.1));replace HK:=aM (KeepBut.trans HK.out hk (.inl rfl));replace HB:=aM (hb);replace HI0:=aM (hi);(try clear hb);(try clear hk);(try clear hi);obtain ⟨hcz20_0,hcz20_1,hfz20_0,hfz20_1⟩:=b2 BK287))
  obtain ⟨w21,hW_⟩ : ∃ W_:World,W_=(w19.setCell ⟨gb287,0,none⟩ (.int .i64 t297)):=⟨_,rfl⟩
  have n0_:Aside0 (Kd.R k61 61 w21 w.heap.size (fun _=>True) v279 t278):=⟨by rw [hW_];exact Kd.R_mono (Kd.R_far (p:=⟨gb287,0,none⟩) (Kd.R_types HO280.out BK287.out (by decide)) (fun _ hk=>hk.2) (.int .i64 t297)) (fun _ hk=>trivial)⟩
  have n1_:Aside0 (Kd.S k35 35 w21 w.heap.size (fun k_=>some k_ ≠ (.slice Ao18 y294.length co18:Value).ownBlock) (.slice Ao13 t282.length co13) t282):=⟨by rw [hW_];exact Kd.S_mono (Kd.S_far (p:=⟨gb287,0,none⟩) (Kd.S_types HO284.out BK287.out (by decide)) (fun _ hk=>hk.2) (.int .i64 t297)) (fun _ hk=>hk.1.2)⟩
  have n2_:Aside0 (Kd.R (Kd.int .i64) 3 w21 w.heap.size (fun _=>True) (.slice Ao18 y294.length co18) y294):=⟨by rw [hW_];exact Kd.R_mono (Kd.R_far (p:=⟨gb287,0,none⟩) (Kd.R_types HO296.out BK287.out (by decide)) (fun _ hk=>hk.2) (.int .i64 t297)) (fun _ hk=>trivial)⟩
  have n3_:Aside0 (w21.heap[gb277]?=some (.cells #[.int .i64 0,.slice none 0 0] 26 (0,0))):=⟨by rw [hW_];refine blk_far ?_ NB277_287.out _;exact BK277.out⟩
  have n4_:Aside0 (w21.heap[gb287]?=some (.cells #[.int .i64 t297,.slice Ao13 t282.length co13] 26 (0,0))):=⟨by rw [hW_];refine blk_put (cs:=#[.int .i64 t281,.slice Ao13 t282.length co13]) ?_ 0 _ rfl;exact BK287.out⟩
  have n5_:Aside0 (IsS93 w0 w21 g s0_0 t298 t299):=⟨by rw [hW_];repeat ((with_reducible first|exact HI0.out|refine IsS93.far ?_ NB0_287.out _))⟩
  have n6_:Aside0 (KeepBut w w21 g none):=⟨by rw [hW_];repeat ((with_reducible first|exact HK.out|refine keep_far ?_ GW287.out _))⟩
  have n7_:Aside0 (Below w0.heap.size w0 w21):=⟨by rw [hW_];repeat ((with_reducible first|exact HB.out|refine below_set ?_ GE287.out))⟩
  (try clear HO280)
  (try clear HO284)
  (try clear HO296)
  (try clear BK277)
  (try clear BK287)
  (try clear HI0)
  (try clear HK)
  (try clear HB)
  rw [← hW_];clear hW_
  have HO280:=n0_;have HO284:=n1_;have HO296:=n2_;have BK277:=n3_;have BK287:=n4_;have HI0:=n5_;have HK:=n6_;have HB:=n7_;clear n0_ n1_ n2_ n3_ n4_ n5_ n6_ n7_;replace HO280:=aM (Kd.R_drew HO280.out);replace HO284:=aM (Kd.S_drew HO284.out);replace HO296:=aM (Kd.R_drew HO296.out);replace BK277:=aM (blk_drew BK277.out);replace BK287:=aM (blk_drew BK287.out);replace HI0:=aM (IsS93.drew HI0.out);replace HK:=aM (keep_drew HK.out);replace HB:=aM (below_drew1 HB.out)
  refine start_ (n:=4) (S:=fun w'=>w'.cell? ⟨gb287,0,none⟩=some (.int .i64 t297)∧w'.cell? ⟨gb287,1,none⟩=some (.slice Ao13 t282.length co13)) (ds:=[]) (fl 4 0) (by kernel_rfl) rfl rfl ⟨bq BK287 0,bq BK287 1⟩ (fun hHeld=>?_)
  generalize w21.drew=w22 at HO280 HO284 HO296 BK277 BK287 HI0 HK HB hHeld ⊢
  refine pu 0 63 (fl 4 1) ?_
  refine pu 2 2 (fl 4 5) ?_
  refine ta 1 64 (fl 4 7) hHeld ?_
  refine on 3 none (fl 4 15) (fun K hK=>?_)
  have hs23:w22.cell? ⟨gb277,0,none⟩=some (.int .i64 0):=(blk_cell BK277.out 0).trans rfl
  have hfs23:=blk_frozen BK277.out 0
  have hns23_1:=NB287_277.out
  have hms23_1:=NB277_287.out
  have hs24:w22.cell? ⟨gb277,1,none⟩=some (.slice none 0 0):=(blk_cell BK277.out 1).trans rfl
  have hfs24:=blk_frozen BK277.out 1
  have hns24_1:=NB287_277.out
  have hms24_1:=NB277_287.out
  refine skip_ (w1:=?_) (by rfl) rfl ?_ ?_
  rotate_left
  ·go_simp
   rfl
  refine hK.out _ _ ⟨((cell_far (p:=⟨gb277,_,none⟩) NB287_277.out _).trans (((cell_far (p:=⟨gb277,_,none⟩) NB287_277.out _).trans (hHeld.1)))),((cell_far (p:=⟨gb277,_,none⟩) NB287_277.out _).trans (((cell_far (p:=⟨gb277,_,none⟩) NB287_277.out _).trans (hHeld.2))))⟩ (fun hHeld=>?_)
  clear hK K
  refine done_ (by kernel_rfl) ?_
  try go_wp2
  refine bodyPost_ret (results_tc rfl _ _ gb277 26 #[.int .i64 t297,.slice Ao13 t282.length co13] (0,0) _ rfl (by refine blk_put (cs:=#[.int .i64 t297,.slice none 0 0]) ?_ 1 _ rfl;refine blk_put (cs:=#[.int .i64 0,.slice none 0 0]) ?_ 0 _ rfl;exact BK277.out) Try.underlying26 rfl (by kernel_rfl)) rfl ?_
  exact ⟨_,_,rz,by exact Kd.R_mono (Kd.R_far (p:=⟨gb277,1,none⟩) (Kd.R_far (p:=⟨gb277,0,none⟩) (Kd.R_types HO280.out BK277.out (by decide)) (fun _ hk=>hk.2) (.int .i64 t297)) (fun _ hk=>hk.2) (.slice Ao13 t282.length co13)) (fun _ hk=>trivial),by exact Kd.S_mono (Kd.S_far (p:=⟨gb277,1,none⟩) (Kd.S_far (p:=⟨gb277,0,none⟩) (Kd.S_types HO284.out BK277.out (by decide)) (fun _ hk=>hk.2) (.int .i64 t297)) (fun _ hk=>hk.2) (.slice Ao13 t282.length co13)) (fun _ hk=>trivial),by repeat ((with_reducible first|exact HI0.out|refine IsS93.far ?_ NB0_277.out _)),by repeat ((with_reducible first|exact HB.out|refine below_set ?_ GE277.out)),by repeat ((with_reducible first|exact HK.out|refine keep_far ?_ GW277.out _))⟩
 ·rw [if_neg c5] at H
  have c5b0:(t291 == 0)=false:=beq_eq_false_iff_ne.mpr c5
  have c5b1:(t291 != 0)=true:=bne_iff_ne.mpr c5
  by_cases c25:t291=1
  ·rw [if_pos c25] at H
   have c25b0:(t291 == 1)=true:=beq_iff_eq.mpr c25
   have c25b1:(t291 != 1)=false:=bne_eq_false_iff_eq.mpr c25
   clear c25
   obtain ⟨c26,H⟩:=ifs H
   have c26b0:decide (0≤t288)=true:=decide_eq_true c26
   clear c26
   obtain ⟨c27,H⟩:=ifs H
   have c27b0:decide (t288 < (t282.length:Int))=true:=decide_eq_true c27
   clear c27
   replace H:=Option.bind_eq_some_iff.mp H
   obtain ⟨⟨t301,t302,t303⟩,A280,H⟩:=H
   try dsimp only at H
   have A28:=aM A280
   clear A280
   obtain ⟨c29,H⟩:=ifs H
   have LMc29:=aM c29
   clear c29
   obtain ⟨y304,hy304⟩ : ∃ y_:List Int,y_=(((rd_T35 t282 t288).f0) ++ [t301]):=⟨_,rfl⟩
   replace H:(some (t278,t281,(t282.set (t288:Int).toNat (⟨y304⟩:S35)),t302,t303))=some (r1,r2,r3,r4,r5):=by (rw [hy304];with_reducible exact H)
   have Ny304:=aM hy304
   clear hy304
   obtain ⟨y307,hy307⟩ : ∃ y_:List (S35),y_=(t282.set (t288:Int).toNat (⟨y304⟩:S35)):=⟨_,rfl⟩
   replace H:(some (t278,t281,y307,t302,t303))=some (r1,r2,r3,r4,r5):=by (rw [hy307];with_reducible exact H)
   have Ny307:=aM hy307
   clear hy307
   simp only [Option.some.injEq,Prod.mk.injEq] at H
   obtain ⟨rfl,rfl,rfl,rfl,rfl⟩:=H
   go_enter Try.func39,Try.ntmps39
   try go_wp2_with (first|((with_reducible refine gate_dst (N:=3) rfl ?_);refine box_event ?hg (N:=3) ?hd (cs:=#[.int .i64 0,.slice none 0 0]) (t:=26) ?hr ?_;(case hd=>rfl);(case hg=>rfl);(case hr=>(go_simp;done));intro gb277 hg w31 hbox hb;replace HB:=aM (below_step HB.out hb);have BK277:=aM (hbox);have GW277:=aM ((by rw [hg];exact (keep_size (w:=w) (g:=g) (row:=none) HK.out):w.heap.size≤gb277));have GE277:=aM ((Nat.le_trans HW0.out (by rw [hg];exact (keep_size (w:=w) (g:=g) (row:=none) HK.out):w.heap.size≤gb277):w0.heap.size≤gb277));replace HK:=aM (KeepBut.trans HK.out (KeepBut.of_below hb g none) (.inl rfl));have NB0_277:=aM ((by rw [hg];exact Nat.ne_of_lt (IsS93.lt (show IsS93 w0 _ g s0_0 s0_1 s0_2 from by exact HI0.out)):g ≠ gb277));have NB277_0:=aM ((by rw [hg];exact Nat.ne_of_gt (IsS93.lt (show IsS93 w0 _ g s0_0 s0_1 s0_2 from by exact HI0.out)):gb277 ≠ g));replace HI0:=aM (IsS93.below HI0.out hb);clear hb hbox hg)|((with_reducible refine gate_callee (f:=37) rfl ?_);refine goesL_ (some 9) rfl rfl Try.func37 (by kernel_rfl) rfl #[.pointer (some ⟨g,0,none⟩)] rfl (by (try simp only [List.map_toArray,List.map_cons,List.map_nil]);rfl) ?_;(with_reducible refine (spec_l5Draw.calls k g s0_0 s0_1 s0_2 t278 t281 t282 t285 t286 w0 _ ?side1 ?side2 A2.out).mono ?_);(case side1=>repeat ((with_reducible exact HI0.out)));(case side2=>repeat ((with_reducible exact HB.out)));rintro e w32 ⟨v279,v283,rfl,ho0,ho1,hi,hb,hk⟩;refine ⟨_,rfl,?_⟩;replace BK277:=aM (KeepBut.blk hk (g':=gb277) (o:=.cells #[.int .i64 0,.slice none 0 0] 26 (0,0)) (bk BK277) NB277_0.out (by simp));have HO280:=aM (Kd.R_lower ho0 (keep_size (w:=w) (g:=g) (row:=none) HK.out));have HO284:=aM (Kd.S_lower ho1 (keep_size (w:=w) (g:=g) (row:=none) HK.out));replace HK:=aM (KeepBut.trans HK.out hk (.inl rfl));replace HB:=aM (hb);replace HI0:=aM (hi);(try clear hb);(try clear hk);(try clear hi);(try clear ho0);(try clear ho1))|((with_reducible refine gate_dst (N:=5) rfl ?_);refine box_event ?hg (N:=5) ?hd (cs:=#[.int .i64 0,.slice none 0 0]) (t:=26) ?hr ?_;(case hd=>rfl);(case hg=>rfl);(case hr=>(go_simp;done));intro gb287 hg w33 hbox hb;replace HO280:=rB HO280 hb;replace HO284:=sB HO284 hb;replace HB:=aM (below_step HB.out hb);have BK287:=aM (hbox);have GW287:=aM ((by rw [hg];exact (keep_size (w:=w) (g:=g) (row:=none) HK.out):w.heap.size≤gb287));have GE287:=aM ((Nat.le_trans HW0.out (by rw [hg];exact (keep_size (w:=w) (g:=g) (row:=none) HK.out):w.heap.size≤gb287):w0.heap.size≤gb287));replace HK:=aM (KeepBut.trans HK.out (KeepBut.of_below hb g none) (.inl rfl));have NB277_287:=nL hg BK277;have NB287_277:=nG hg BK277;replace BK277:=bB BK277 hb;have NB0_287:=aM ((by rw [hg];exact Nat.ne_of_lt (IsS93.lt (show IsS93 w0 _ g s0_0 t285 t286 from by exact HI0.out)):g ≠ gb287));have NB287_0:=aM ((by rw [hg];exact Nat.ne_of_gt (IsS93.lt (show IsS93 w0 _ g s0_0 t285 t286 from by exact HI0.out)):gb287 ≠ g));replace HI0:=aM (IsS93.below HI0.out hb);clear hb hbox hg;have hnb34:=NB287_277.out;have hnc34:=NB277_287.out;have hnb35:=NB287_0.out;have hnc35:=NB0_287.out;obtain ⟨hcz36_0,hcz36_1,hfz36_0,hfz36_1⟩:=b2 BK287;obtain ⟨Ao37,co37,eo37⟩:=Kd.S_slice HO284.out;subst eo37)|((with_reducible refine gate_callee (f:=74) rfl ?_);refine goesL_ (some 16) rfl rfl Try.func74 (by kernel_rfl) rfl #[.pointer (some ⟨g,0,none⟩),.int .i64 (t282.length:Int)] rfl (by (try simp only [List.map_toArray,List.map_cons,List.map_nil]);rfl) ?_;(with_reducible refine (spec_l1Below.calls g s0_0 t285 t286 (t282.length:Int) t288 t289 t290 w0 _ ?side1 ?side2 A3.out).mono ?_);(case side1=>repeat ((with_reducible first|exact HI0.out|refine IsS93.far ?_ NB0_287.out _)));(case side2=>repeat ((with_reducible first|exact HB.out|refine below_set ?_ GE287.out)));rintro e w38 ⟨rfl,hi,hb,hk⟩;refine ⟨_,rfl,?_⟩;replace BK277:=aM (KeepBut.blk hk (g':=gb277) (o:=.cells #[.int .i64 0,.slice none 0 0] 26 (0,0)) (by refine blk_far ?_ NB277_287.out _;refine blk_far ?_ NB277_287.out _;exact BK277.out) NB277_0.out (by simp));replace HO280:=aM (Kd.R_mono (Kd.R_keep (IsS93.apart (show IsS93 w0 _ g s0_0 t285 t286 from by repeat ((with_reducible first|exact HI0.out|refine IsS93.far ?_ NB0_287.out _))) (by exact (Kd.R_mono (Kd.R_far (p:=⟨gb287,1,none⟩) (Kd.R_far (p:=⟨gb287,0,none⟩) (Kd.R_types HO280.out BK287.out (by decide)) (fun _ hk=>hk.2) (.int .i64 t281)) (fun _ hk=>hk.2) (.slice Ao37 t282.length co37)) (fun _ h_=>h_.1))) (by decide)) hk (fun _ h=>h.2)) (fun _ h=>h.1));replace HO284:=aM (Kd.S_mono (Kd.S_keep (IsS93.apartS (show IsS93 w0 _ g s0_0 t285 t286 from by repeat ((with_reducible first|exact HI0.out|refine IsS93.far ?_ NB0_287.out _))) (by exact (Kd.S_mono (Kd.S_far (p:=⟨gb287,1,none⟩) (Kd.S_far (p:=⟨gb287,0,none⟩) (Kd.S_types HO284.out BK287.out (by decide)) (fun _ hk=>hk.2) (.int .i64 t281)) (fun _ hk=>hk.2) (.slice Ao37 t282.length co37)) (fun _ h_=>h_.1))) (by decide)) hk (fun _ h=>h.2)) (fun _ h=>h.1));replace BK287:=aM (KeepBut.blk hk (g':=gb287) (o:=.cells #[.int .i64 t281,.slice Ao37 t282.length co37] 26 (0,0)) (by refine blk_put (cs:=#[.int .i64 t281,.slice none 0 0]) ?_ 1 _ rfl;refine blk_put (cs:=#[.int .i64 0,.slice none 0 0]) ?_ 0 _ rfl;exact BK287.out) NB287_0.out (by simp));replace HK:=aM (KeepBut.trans (by repeat ((with_reducible first|exact HK.out|refine keep_far ?_ GW287.out _))) hk (.inl rfl));replace HB:=aM (hb);replace HI0:=aM (hi);(try clear hb);(try clear hk);(try clear hi))|((with_reducible refine gate_callee (f:=74) rfl ?_);refine goesL_ (some 18) rfl rfl Try.func74 (by kernel_rfl) rfl #[.pointer (some ⟨g,0,none⟩),.int .i64 10] rfl (by (try simp only [List.map_toArray,List.map_cons,List.map_nil]);rfl) ?_;(with_reducible refine (spec_l1Below.calls g s0_0 t289 t290 10 t291 t292 t293 w0 _ ?side1 ?side2 A4.out).mono ?_);(case side1=>repeat ((with_reducible exact HI0.out)));(case side2=>repeat ((with_reducible exact HB.out)));rintro e w39 ⟨rfl,hi,hb,hk⟩;refine ⟨_,rfl,?_⟩;replace BK277:=aM (KeepBut.blk hk (g':=gb277) (o:=.cells #[.int .i64 0,.slice none 0 0] 26 (0,0)) (bk BK277) NB277_0.out (by simp));replace HO280:=aM (Kd.R_mono (Kd.R_keep (IsS93.apart (show IsS93 w0 _ g s0_0 t289 t290 from by exact HI0.out) (rR HO280) (by decide)) hk (fun _ h=>h.2)) (fun _ h=>h.1));replace HO284:=aM (Kd.S_mono (Kd.S_keep (IsS93.apartS (show IsS93 w0 _ g s0_0 t289 t290 from by exact HI0.out) (rS HO284) (by decide)) hk (fun _ h=>h.2)) (fun _ h=>h.1));replace BK287:=aM (KeepBut.blk hk (g':=gb287) (o:=.cells #[.int .i64 t281,.slice Ao37 t282.length co37] 26 (0,0)) (bk BK287) NB287_0.out (by simp));replace HK:=aM (KeepBut.trans HK.out hk (.inl rfl));replace HB:=aM (hb);replace HI0:=aM (hi);(try clear hb);(try clear hk);(try clear hi)))
   replace HO280:=aM (Kd.R_drew HO280.out);replace HO284:=aM (Kd.S_drew HO284.out);replace BK277:=aM (blk_drew BK277.out);replace BK287:=aM (blk_drew BK287.out);replace HI0:=aM (IsS93.drew HI0.out);replace HK:=aM (keep_drew HK.out);replace HB:=aM (below_drew1 HB.out)
   have p300:0≤(t288:Int):=od
   have q300:t288 < (t282.length:Int):=od
   obtain ⟨ad300,A300_0,c300_0,e300,hx300_0,hl300_0,hi300_0⟩:=at_T35 (Kd.S_reads' HO284.out).2.2 t288 p300 q300
   cases e300
   obtain ⟨ce300,hce300,hMe300,hcc300⟩:=Kd.S_get HO284.out z35 t288 p300 (by exact q300)
   obtain ⟨ve300_0,rfl,ge300_0⟩:=k35_openM hMe300
   have hv300_0:=hcc300 0 _ rfl
   rw [Nat.add_zero,show (k35).sz=1 from rfl,Nat.mul_one] at hv300_0
   replace hv300_0:=Option.some.inj (hv300_0.symm.trans hx300_0)
   rw [hv300_0] at ge300_0
   have HL300_0:=aM (show Kd.R (Kd.int .i64) 3 _ _ _ _ ((rd_T35 t282 t288).f0) from ge300_0)
   clear hv300_0 ge300_0
   have HX300_0:=aM hx300_0
   clear hcc300 hce300
   have HR300_0:=aM hi300_0
   have HC300_0:=aM hl300_0
   clear hi300_0 hl300_0
   replace p300:=eq_true p300
   replace q300:=eq_true q300
   refine start_ (n:=16) (S:=fun w'=>w'.cell? ⟨gb287,0,none⟩=some (.int .i64 t281)∧w'.cell? ⟨gb287,1,none⟩=some (.slice (some ad300) t282.length co37)∧w'.cell? (ad300.add (t288).toNat)=some (.slice A300_0 ((rd_T35 t282 t288).f0).length c300_0)) (ds:=[15]) (fl 16 0) (by kernel_rfl) rfl rfl ⟨bq BK287 0,bq BK287 1,hx300_0⟩ (fun hHeld=>?_);refine with_tabW spec_l5Any.tab7 spec_l5Any.bits7 (fun HT_ HW_=>?_)
   generalize w39.drew=w40 at HO280 HO284 BK277 BK287 HI0 HK HB HL300_0 HR300_0 HX300_0 hx300_0 hHeld ⊢
   refine pt 0 27 (fl 16 1) HT_ ?_
   refine pt 2 29 (fl 16 5) HT_ ?_
   refine pt 3 30 (fl 16 13) HT_ ?_
   refine pt 5 32 (fl 16 45) HT_ ?_
   refine pt 9 36 (fl 16 557) HT_ ?_
   refine tt 1 28 (fl 16 559) HT_ HW_ hHeld ?_
   refine tt 4 31 (fl 16 575) HT_ HW_ hHeld ?_
   refine pt 6 33 (fl 16 639) HT_ ?_
   refine pt 7 34 (fl 16 767) HT_ ?_
   refine tt 8 35 (fl 16 1023) HT_ HW_ hHeld ?_
   refine ot 10 (some 37) (fl 16 2047) HT_ (fun K hK=>?_)
   refine goes_ Try.func74 (by kernel_rfl) rfl #[.pointer (some ⟨g,0,none⟩),.int .i64 9] (by rfl) rfl rfl (by (try simp only [List.map_toArray,List.map_cons,List.map_nil]);rfl) ?_
   with_reducible refine (spec_l1Below.calls g s0_0 t292 t293 9 t301 t302 t303 w0 _ ?side1 ?side2 A28.out).mono ?_
   (case side1=>repeat ((with_reducible exact HI0.out)))
   (case side2=>repeat ((with_reducible exact HB.out)))
   rintro e w41 ⟨rfl,hi,hb,hk⟩
   have HS2_:=keep_cell hk (hHeld.2.2) (by (rw [add_block];exact Kd.own_blk (IsS93.own_neS HI0.out HO284.out (by decide))))
   refine ⟨_,rfl,?_⟩
   replace BK277:=aM (KeepBut.blk hk (g':=gb277) (o:=.cells #[.int .i64 0,.slice none 0 0] 26 (0,0)) (bk BK277) NB277_0.out (by simp));replace HO280:=aM (Kd.R_mono (Kd.R_keep (IsS93.apart (show IsS93 w0 _ g s0_0 t292 t293 from by exact HI0.out) (rR HO280) (by decide)) hk (fun _ h=>h.2)) (fun _ h=>h.1));replace BK287:=aM (KeepBut.blk hk (g':=gb287) (o:=.cells #[.int .i64 t281,.slice (some ad300) t282.length co37] 26 (0,0)) (bk BK287) NB287_0.out (by simp));replace HL300_0:=aM (Kd.R_mono (Kd.R_keep (IsS93.apart (show IsS93 w0 _ g s0_0 t292 t293 from by exact HI0.out) HL300_0.out (by decide)) hk (fun _ h=>h.2)) (fun _ h=>h.1));replace HX300_0:=aM (keep_cell hk HX300_0.out (by (rw [add_block];exact Kd.own_blk (IsS93.own_neS HI0.out HO284.out (by decide)))));replace HO284:=aM (Kd.S_mono (Kd.S_keep (IsS93.apartS (show IsS93 w0 _ g s0_0 t292 t293 from by exact HI0.out) (rS HO284) (by decide)) hk (fun _ h=>h.2)) (fun _ h=>h.1));replace HK:=aM (KeepBut.trans HK.out hk (.inl rfl));replace HB:=aM (hb);replace HI0:=aM (hi);(try clear hb);(try clear hk);(try clear hi)
   obtain ⟨go42,co42,eo42,gb42,gl42,cl42,HG42⟩:=Kd.S_form HO284.out (by have h_:(t288:Int) < ((t282.length:Int):Int):=od;have h2_:0≤(t288:Int):=od;omega)
   (cases eo42)
   have GB42:=aM gb42
   have GG42:=aM HG42
   clear gb42 gl42 HG42
   (simp only [add_plain] at hx300_0)
   obtain ⟨oki42,ce42,hcl42,hM42,hcc42,_,_,hH42⟩:=Kd.S_elem HO284.out z35 (t288:Int) od (by have h_:(t288:Int) < ((t282.length:Int):Int):=od;exact h_)
   obtain ⟨ve42_0,rfl,ge42_0⟩:=k35_openM hM42
   have hv42:=hcc42 0 _ rfl
   have hX42:=HX300_0.out
   (try simp only [add_plain] at hX42)
   (try simp only [Nat.add_zero] at hv42)
   (try rw [show (k35).sz=1 from rfl,Nat.mul_one] at hv42)
   replace hv42:=Option.some.inj (hv42.symm.trans hX42)
   subst hv42
   clear hX42 hcc42 hcl42
   have UU42:=aM (show Kd.R (Kd.int .i64) 3 _ w.heap.size oki42 (.slice A300_0 ((rd_T35 t282 t288).f0).length c300_0) ((rd_T35 t282 t288).f0) from ge42_0)
   have HH42:=aM hH42
   have HN42:=aM (Kd.S_reads' HO284.out).1
   clear hH42 ge42_0
   refine hK.out _ _ ⟨bq BK287 0,bq BK287 1,HS2_⟩ (fun hHeld=>?_)
   clear hK K
   refine no 37 ?_
   refine ot 11 (some 38) (fl 16 4095) HT_ (fun K hK=>?_)
   refine value_ (w1:=?_) (v:=?_) (by rfl) rfl ?_ ?_
   rotate_left 2
   ·go_simp
    constructor
    ·rfl
    ·rfl
   refine hK.out _ _ ⟨(blk_cell (blk_alloc BK287.out _) 0).trans rfl,(blk_cell (blk_alloc BK287.out _) 1).trans rfl,(World.cell?_alloc_lt _ _ _ (World.block_lt_of_cell? _ _ (hHeld.2.2))).trans (hHeld.2.2)⟩ (fun hHeld=>?_)
   clear hK K
   refine no 38 ?_
   refine ot 12 (some 39) (fl 16 8191) HT_ (fun K hK=>?_)
   refine Kd.R_append_step (Kd.int .i64) w.heap.size (by rfl) (.tmp 35) (.tmp 38) 33 3 (.int .i64 0) 8 rfl Try.underlying33 info3 rfl (by decide) (by omega) (.slice A300_0 ((rd_T35 t282 t288).f0).length c300_0) ((rd_T35 t282 t288).f0) t301 [.int .i64 t301] (fun k_=>oki42 k_ ∨ ((fun _=>True)) k_∧w41.heap.size≤k_) (fun _=>False) rfl rfl ?aP (fun _ hk=>hk.elim) ?aF ?aO (Below.refl _ _) ?aS ?aL ?_
   (case aP=>exact rfl)
   (case aF=>exact (fun k_ hk=>.inr ⟨trivial,hk⟩))
   (case aO=>exact (by exact Kd.R_mono UU42.out (fun _ hk=>.inl hk)))
   (case aS=>exact (keep_size (w:=w) (g:=g) (row:=none) HK.out))
   (case aL=>have:=LMc29.out;omega)
   intro v305 w43 ho hb hg hat
   (have HS2_:=cell_grown hg (cell_unalloc (hHeld.2.2) (by (rw [add_block];exact Kd.S_lt HO284.out _ rfl))) (by (rw [add_block];exact (fun e_=>((HL300_0.out.1 _ e_.symm).2) rfl))))
   rw [← Ny304.out] at ho
   replace BK277:=bG BK277 hg (Kd.R_ne HL300_0.out BK277.out (by decide));replace HO280:=aM (Kd.R_over' (v:=(.slice A300_0 ((rd_T35 t282 t288).f0).length c300_0)) (rR HO280) (Kd.R_typed HL300_0.out) (by decide) hg);replace BK287:=bG BK287 hg (Kd.R_ne HL300_0.out BK287.out (by decide));replace HB:=aM (below_weaken HB.out HL.out hb);replace HI0:=aM (IsS93.grown HI0.out hg (IsS93.own_ne HI0.out HL300_0.out (by decide)));replace HK:=aM (KeepBut.trans HK.out (KeepBut.of_grown hg g) (Kd.R_base2 HL300_0.out));replace HH42:=aM (Kd.H_grown (Kd.H_widen HH42.out) hg (fun k_ e_=>.inl (UU42.out.1 k_ e_)));have HO306:=aM (ho);clear HO284 UU42 HL300_0;clear ho hb hg hat
   have p30:0≤(t288:Int):=od
   have q30:(t288:Int) < ((t282.length:Int):Int):=od
   replace p30:=eq_true p30
   replace q30:=eq_true q30
   obtain ⟨Ao46,co46,eo46⟩:=Kd.R_slice HO306.out
   (subst eo46)
   obtain ⟨_,_,hraw44,_,_,hcc44,_⟩:=Kd.H_raw HH42.out od (by have h_:(t288:Int) < ((t282.length:Int):Int):=od;exact h_)
   obtain ⟨_,hfr44⟩:=Kd.H_at HH42.out od (by have h_:(t288:Int) < ((t282.length:Int):Int):=od;exact h_)
   have hx44_0:=hcc44 0 _ rfl
   have hf44_0:=hfr44 0
   (try simp only [Nat.add_zero] at hx44_0 hf44_0)
   (try rw [show (k35).sz=1 from rfl,Nat.mul_one] at hx44_0)
   (try rw [show (k35).sz=1 from rfl,Nat.mul_one] at hf44_0)
   have HP44:=Kd.S_seg0 HH42.out od (by have h_:(t288:Int) < ((t282.length:Int):Int):=od;exact h_) (seg:=[.slice Ao46 y304.length co46]) (j:=0) (show 1≤1 from by decide) (x':=(⟨y304⟩:S35)) (k35_mkM _ _ _ (⟨y304⟩:S35) HO306.out) (fun _ hk=>hk)
   (try simp only [show (k35).sz=1 from rfl,Nat.mul_one,Nat.add_zero] at HP44)
   clear hcc44 hfr44
   have HN0_go42:=aM (show g ≠ go42 from by have h_:=IsS93.own_ne HI0.out hraw44 (by decide);intro e_;exact h_ (by rw [e_];rfl))
   have HNB277_go42:=aM (show gb277 ≠ go42 from by have h_:=Kd.R_ne hraw44 BK277.out (by decide);intro e_;exact h_ (by rw [e_];rfl))
   have HNB287_go42:=aM (show gb287 ≠ go42 from by have h_:=Kd.R_ne hraw44 BK287.out (by decide);intro e_;exact h_ (by rw [e_];rfl))
   have HS44:=HP44.1
   rw [← Ny307.out] at HS44
   have HQ44:=aM HS44
   obtain ⟨_,hgg44⟩:=Kd.R_typed hraw44 go42 rfl
   have GG44_:=aM hgg44
   clear HP44 HS44 hgg44
   refine hK.out _ _ ⟨bq BK287 0,bq BK287 1,HS2_⟩ (fun hHeld=>?_)
   clear hK K
   refine no 39 ?_
   refine pt 13 40 (fl 16 16383) HT_ ?_
   refine pt 14 41 (fl 16 32767) HT_ ?_
   refine last_ (i:=15) (N:=none) (fl 16 65535) rfl rfl (one_of HT_.out (by kernel_rfl)) (by decide) (fun K hK=>?_)
   refine skip_ (w1:=?_) (by rfl) rfl ?_ ?_
   rotate_left
   ·go_simp
    rfl
   refine hK.out _ _ ?_
   clear hK K
   refine done_ (done_of HT_.out (by kernel_rfl)) ?_
   obtain ⟨w47,hW_⟩ : ∃ W_:World,W_=(w43.setCell ⟨go42,(t288:Int).toNat,none⟩ (.slice Ao46 y304.length co46)):=⟨_,rfl⟩
   have n0_:Aside0 (Kd.R k61 61 w47 w.heap.size (fun _=>True) v279 t278):=⟨by rw [hW_];exact Kd.R_mono (Kd.R_far (p:=⟨go42,(t288:Int).toNat,none⟩) (Kd.R_types HO280.out GG44_.out (by decide)) (fun _ hk=>hk.2) (.slice Ao46 y304.length co46)) (fun _ hk=>trivial)⟩
   have n1_:Aside0 (Kd.S k35 35 w47 w.heap.size (fun _=>True) (.slice (some ⟨go42,0,none⟩) t282.length co37) y307):=⟨by rw [hW_];exact HQ44.out⟩
   have n2_:Aside0 (w47.heap[gb277]?=some (.cells #[.int .i64 0,.slice none 0 0] 26 (0,0))):=⟨by rw [hW_];refine blk_far ?_ HNB277_go42.out _;exact BK277.out⟩
   have n3_:Aside0 (w47.heap[gb287]?=some (.cells #[.int .i64 t281,.slice (some ⟨go42,0,none⟩) t282.length co37] 26 (0,0))):=⟨by rw [hW_];refine blk_far ?_ HNB287_go42.out _;exact BK287.out⟩
   have n4_:Aside0 (IsS93 w0 w47 g s0_0 t302 t303):=⟨by rw [hW_];repeat ((with_reducible first|exact HI0.out|refine IsS93.far ?_ HN0_go42.out _))⟩
   have n5_:Aside0 (KeepBut w w47 g none):=⟨by rw [hW_];repeat ((with_reducible first|exact HK.out|refine keep_far ?_ GB42.out _))⟩
   have n6_:Aside0 (Below w0.heap.size w0 w47):=⟨by rw [hW_];repeat ((with_reducible first|exact HB.out|refine below_set ?_ (Nat.le_trans HL.out GB42.out)))⟩
   (try clear HO280)
   skip
   (try clear BK277)
   (try clear BK287)
   (try clear HI0)
   (try clear HK)
   (try clear HB)
   rw [← hW_];clear hW_
   have HO280:=n0_;have HO284:=n1_;have BK277:=n2_;have BK287:=n3_;have HI0:=n4_;have HK:=n5_;have HB:=n6_;clear n0_ n1_ n2_ n3_ n4_ n5_ n6_
   try go_wp2
   replace HO280:=aM (Kd.R_drew HO280.out);replace HO284:=aM (Kd.S_drew HO284.out);replace BK277:=aM (blk_drew BK277.out);replace BK287:=aM (blk_drew BK287.out);replace HI0:=aM (IsS93.drew HI0.out);replace HK:=aM (keep_drew HK.out);replace HB:=aM (below_drew1 HB.out)
   refine start_ (n:=4) (S:=fun w'=>w'.cell? ⟨gb287,0,none⟩=some (.int .i64 t281)∧w'.cell? ⟨gb287,1,none⟩=some (.slice (some ⟨go42,0,none⟩) t282.length co37)) (ds:=[]) (fl 4 0) (by kernel_rfl) rfl rfl ⟨bq BK287 0,bq BK287 1⟩ (fun hHeld=>?_)
   generalize w47.drew=w48 at HO280 HO284 BK277 BK287 HI0 HK HB hHeld ⊢
   refine pu 0 63 (fl 4 1) ?_
   refine pu 2 2 (fl 4 5) ?_
   refine ta 1 64 (fl 4 7) hHeld ?_
   refine on 3 none (fl 4 15) (fun K hK=>?_)
   have hs49:w48.cell? ⟨gb277,0,none⟩=some (.int .i64 0):=(blk_cell BK277.out 0).trans rfl
   have hfs49:=blk_frozen BK277.out 0
   have hns49_1:=NB287_277.out
   have hms49_1:=NB277_287.out
   have hs50:w48.cell? ⟨gb277,1,none⟩=some (.slice none 0 0):=(blk_cell BK277.out 1).trans rfl
   have hfs50:=blk_frozen BK277.out 1
   have hns50_1:=NB287_277.out
   have hms50_1:=NB277_287.out
   refine skip_ (w1:=?_) (by rfl) rfl ?_ ?_
   rotate_left
   ·go_simp
    rfl
   refine hK.out _ _ ⟨((cell_far (p:=⟨gb277,_,none⟩) NB287_277.out _).trans (((cell_far (p:=⟨gb277,_,none⟩) NB287_277.out _).trans (hHeld.1)))),((cell_far (p:=⟨gb277,_,none⟩) NB287_277.out _).trans (((cell_far (p:=⟨gb277,_,none⟩) NB287_277.out _).trans (hHeld.2))))⟩ (fun hHeld=>?_)
   clear hK K
   refine done_ (by kernel_rfl) ?_
   try go_wp2
   refine bodyPost_ret (results_tc rfl _ _ gb277 26 #[.int .i64 t281,.slice (some ⟨go42,0,none⟩) t282.length co37] (0,0) _ rfl (by refine blk_put (cs:=#[.int .i64 t281,.slice none 0 0]) ?_ 1 _ rfl;refine blk_put (cs:=#[.int .i64 0,.slice none 0 0]) ?_ 0 _ rfl;exact BK277.out) Try.underlying26 rfl (by kernel_rfl)) rfl ?_
   exact ⟨_,_,rz,by exact Kd.R_mono (Kd.R_far (p:=⟨gb277,1,none⟩) (Kd.R_far (p:=⟨gb277,0,none⟩) (Kd.R_types HO280.out BK277.out (by decide)) (fun _ hk=>hk.2) (.int .i64 t281)) (fun _ hk=>hk.2) (.slice (some ⟨go42,0,none⟩) t282.length co37)) (fun _ hk=>trivial),by exact Kd.S_mono (Kd.S_far (p:=⟨gb277,1,none⟩) (Kd.S_far (p:=⟨gb277,0,none⟩) (Kd.S_types HO284.out BK277.out (by decide)) (fun _ hk=>hk.2) (.int .i64 t281)) (fun _ hk=>hk.2) (.slice (some ⟨go42,0,none⟩) t282.length co37)) (fun _ hk=>trivial),by repeat ((with_reducible first|exact HI0.out|refine IsS93.far ?_ NB0_277.out _)),by repeat ((with_reducible first|exact HB.out|refine below_set ?_ GE277.out)),by repeat ((with_reducible first|exact HK.out|refine keep_far ?_ GW277.out _))⟩
  ·rw [if_neg c25] at H
   have c25b0:(t291 == 1)=false:=beq_eq_false_iff_ne.mpr c25
   have c25b1:(t291 != 1)=true:=bne_iff_ne.mpr c25
   by_cases c51:t291=2
   ·rw [if_pos c51] at H
    have c51b0:(t291 == 2)=true:=beq_iff_eq.mpr c51
    have c51b1:(t291 != 2)=false:=bne_eq_false_iff_eq.mpr c51
    clear c51
    obtain ⟨c52,H⟩:=ifs H
    have c52b0:decide (0≤t288)=true:=decide_eq_true c52
    clear c52
    obtain ⟨c53,H⟩:=ifs H
    have c53b0:decide (t288 < (t282.length:Int))=true:=decide_eq_true c53
    clear c53
    replace H:=Option.bind_eq_some_iff.mp H
    obtain ⟨⟨t309,t310,t311⟩,A540,H⟩:=H
    try dsimp only at H
    have A54:=aM A540
    clear A540
    obtain ⟨c55,H⟩:=ifs H
    have c55b0:decide (0 < (((rd_T35 t282 t288).f0).length:Int))=true:=decide_eq_true c55
    have c55b1:decide (0 < ((rd_T35 t282 t288).f0).length)=true:=decide_eq_true (by omega)
    clear c55
    obtain ⟨y312,hy312⟩ : ∃ y_:List Int,y_=(((rd_T35 t282 t288).f0).set (0:Int).toNat t309):=⟨_,rfl⟩
    replace H:(some (t278,t281,(t282.set (t288:Int).toNat (⟨y312⟩:S35)),t310,t311))=some (r1,r2,r3,r4,r5):=by (rw [hy312];with_reducible exact H)
    have Ny312:=aM hy312
    clear hy312
    obtain ⟨y314,hy314⟩ : ∃ y_:List (S35),y_=(t282.set (t288:Int).toNat (⟨y312⟩:S35)):=⟨_,rfl⟩
    replace H:(some (t278,t281,y314,t310,t311))=some (r1,r2,r3,r4,r5):=by (rw [hy314];with_reducible exact H)
    have Ny314:=aM hy314
    clear hy314
    simp only [Option.some.injEq,Prod.mk.injEq] at H
    obtain ⟨rfl,rfl,rfl,rfl,rfl⟩:=H
    go_enter Try.func39,Try.ntmps39
    try go_wp2_with (first|((with_reducible refine gate_dst (N:=3) rfl ?_);refine box_event ?hg (N:=3) ?hd (cs:=#[.int .i64 0,.slice none 0 0]) (t:=26) ?hr ?_;(case hd=>rfl);(case hg=>rfl);(case hr=>(go_simp;done));intro gb277 hg w57 hbox hb;replace HB:=aM (below_step HB.out hb);have BK277:=aM (hbox);have GW277:=aM ((by rw [hg];exact (keep_size (w:=w) (g:=g) (row:=none) HK.out):w.heap.size≤gb277));have GE277:=aM ((Nat.le_trans HW0.out (by rw [hg];exact (keep_size (w:=w) (g:=g) (row:=none) HK.out):w.heap.size≤gb277):w0.heap.size≤gb277));replace HK:=aM (KeepBut.trans HK.out (KeepBut.of_below hb g none) (.inl rfl));have NB0_277:=aM ((by rw [hg];exact Nat.ne_of_lt (IsS93.lt (show IsS93 w0 _ g s0_0 s0_1 s0_2 from by exact HI0.out)):g ≠ gb277));have NB277_0:=aM ((by rw [hg];exact Nat.ne_of_gt (IsS93.lt (show IsS93 w0 _ g s0_0 s0_1 s0_2 from by exact HI0.out)):gb277 ≠ g));replace HI0:=aM (IsS93.below HI0.out hb);clear hb hbox hg)|((with_reducible refine gate_callee (f:=37) rfl ?_);refine goesL_ (some 9) rfl rfl Try.func37 (by kernel_rfl) rfl #[.pointer (some ⟨g,0,none⟩)] rfl (by (try simp only [List.map_toArray,List.map_cons,List.map_nil]);rfl) ?_;(with_reducible refine (spec_l5Draw.calls k g s0_0 s0_1 s0_2 t278 t281 t282 t285 t286 w0 _ ?side1 ?side2 A2.out).mono ?_);(case side1=>repeat ((with_reducible exact HI0.out)));(case side2=>repeat ((with_reducible exact HB.out)));rintro e w58 ⟨v279,v283,rfl,ho0,ho1,hi,hb,hk⟩;refine ⟨_,rfl,?_⟩;replace BK277:=aM (KeepBut.blk hk (g':=gb277) (o:=.cells #[.int .i64 0,.slice none 0 0] 26 (0,0)) (bk BK277) NB277_0.out (by simp));have HO280:=aM (Kd.R_lower ho0 (keep_size (w:=w) (g:=g) (row:=none) HK.out));have HO284:=aM (Kd.S_lower ho1 (keep_size (w:=w) (g:=g) (row:=none) HK.out));replace HK:=aM (KeepBut.trans HK.out hk (.inl rfl));replace HB:=aM (hb);replace HI0:=aM (hi);(try clear hb);(try clear hk);(try clear hi);(try clear ho0);(try clear ho1))|((with_reducible refine gate_dst (N:=5) rfl ?_);refine box_event ?hg (N:=5) ?hd (cs:=#[.int .i64 0,.slice none 0 0]) (t:=26) ?hr ?_;(case hd=>rfl);(case hg=>rfl);(case hr=>(go_simp;done));intro gb287 hg w59 hbox hb;replace HO280:=rB HO280 hb;replace HO284:=sB HO284 hb;replace HB:=aM (below_step HB.out hb);have BK287:=aM (hbox);have GW287:=aM ((by rw [hg];exact (keep_size (w:=w) (g:=g) (row:=none) HK.out):w.heap.size≤gb287));have GE287:=aM ((Nat.le_trans HW0.out (by rw [hg];exact (keep_size (w:=w) (g:=g) (row:=none) HK.out):w.heap.size≤gb287):w0.heap.size≤gb287));replace HK:=aM (KeepBut.trans HK.out (KeepBut.of_below hb g none) (.inl rfl));have NB277_287:=nL hg BK277;have NB287_277:=nG hg BK277;replace BK277:=bB BK277 hb;have NB0_287:=aM ((by rw [hg];exact Nat.ne_of_lt (IsS93.lt (show IsS93 w0 _ g s0_0 t285 t286 from by exact HI0.out)):g ≠ gb287));have NB287_0:=aM ((by rw [hg];exact Nat.ne_of_gt (IsS93.lt (show IsS93 w0 _ g s0_0 t285 t286 from by exact HI0.out)):gb287 ≠ g));replace HI0:=aM (IsS93.below HI0.out hb);clear hb hbox hg;have hnb60:=NB287_277.out;have hnc60:=NB277_287.out;have hnb61:=NB287_0.out;have hnc61:=NB0_287.out;obtain ⟨hcz62_0,hcz62_1,hfz62_0,hfz62_1⟩:=b2 BK287;obtain ⟨Ao63,co63,eo63⟩:=Kd.S_slice HO284.out;subst eo63)|((with_reducible refine gate_callee (f:=74) rfl ?_);refine goesL_ (some 16) rfl rfl Try.func74 (by kernel_rfl) rfl #[.pointer (some ⟨g,0,none⟩),.int .i64 (t282.length:Int)] rfl (by (try simp only [List.map_toArray,List.map_cons,List.map_nil]);rfl) ?_;(with_reducible refine (spec_l1Below.calls g s0_0 t285 t286 (t282.length:Int) t288 t289 t290 w0 _ ?side1 ?side2 A3.out).mono ?_);(case side1=>repeat ((with_reducible first|exact HI0.out|refine IsS93.far ?_ NB0_287.out _)));(case side2=>repeat ((with_reducible first|exact HB.out|refine below_set ?_ GE287.out)));rintro e w64 ⟨rfl,hi,hb,hk⟩;refine ⟨_,rfl,?_⟩;replace BK277:=aM (KeepBut.blk hk (g':=gb277) (o:=.cells #[.int .i64 0,.slice none 0 0] 26 (0,0)) (by refine blk_far ?_ NB277_287.out _;refine blk_far ?_ NB277_287.out _;exact BK277.out) NB277_0.out (by simp));replace HO280:=aM (Kd.R_mono (Kd.R_keep (IsS93.apart (show IsS93 w0 _ g s0_0 t285 t286 from by repeat ((with_reducible first|exact HI0.out|refine IsS93.far ?_ NB0_287.out _))) (by exact (Kd.R_mono (Kd.R_far (p:=⟨gb287,1,none⟩) (Kd.R_far (p:=⟨gb287,0,none⟩) (Kd.R_types HO280.out BK287.out (by decide)) (fun _ hk=>hk.2) (.int .i64 t281)) (fun _ hk=>hk.2) (.slice Ao63 t282.length co63)) (fun _ h_=>h_.1))) (by decide)) hk (fun _ h=>h.2)) (fun _ h=>h.1));replace HO284:=aM (Kd.S_mono (Kd.S_keep (IsS93.apartS (show IsS93 w0 _ g s0_0 t285 t286 from by repeat ((with_reducible first|exact HI0.out|refine IsS93.far ?_ NB0_287.out _))) (by exact (Kd.S_mono (Kd.S_far (p:=⟨gb287,1,none⟩) (Kd.S_far (p:=⟨gb287,0,none⟩) (Kd.S_types HO284.out BK287.out (by decide)) (fun _ hk=>hk.2) (.int .i64 t281)) (fun _ hk=>hk.2) (.slice Ao63 t282.length co63)) (fun _ h_=>h_.1))) (by decide)) hk (fun _ h=>h.2)) (fun _ h=>h.1));replace BK287:=aM (KeepBut.blk hk (g':=gb287) (o:=.cells #[.int .i64 t281,.slice Ao63 t282.length co63] 26 (0,0)) (by refine blk_put (cs:=#[.int .i64 t281,.slice none 0 0]) ?_ 1 _ rfl;refine blk_put (cs:=#[.int .i64 0,.slice none 0 0]) ?_ 0 _ rfl;exact BK287.out) NB287_0.out (by simp));replace HK:=aM (KeepBut.trans (by repeat ((with_reducible first|exact HK.out|refine keep_far ?_ GW287.out _))) hk (.inl rfl));replace HB:=aM (hb);replace HI0:=aM (hi);(try clear hb);(try clear hk);(try clear hi))|((with_reducible refine gate_callee (f:=74) rfl ?_);refine goesL_ (some 18) rfl rfl Try.func74 (by kernel_rfl) rfl #[.pointer (some ⟨g,0,none⟩),.int .i64 10] rfl (by (try simp only [List.map_toArray,List.map_cons,List.map_nil]);rfl) ?_;(with_reducible refine (spec_l1Below.calls g s0_0 t289 t290 10 t291 t292 t293 w0 _ ?side1 ?side2 A4.out).mono ?_);(case side1=>repeat ((with_reducible exact HI0.out)));(case side2=>repeat ((with_reducible exact HB.out)));rintro e w65 ⟨rfl,hi,hb,hk⟩;refine ⟨_,rfl,?_⟩;replace BK277:=aM (KeepBut.blk hk (g':=gb277) (o:=.cells #[.int .i64 0,.slice none 0 0] 26 (0,0)) (bk BK277) NB277_0.out (by simp));replace HO280:=aM (Kd.R_mono (Kd.R_keep (IsS93.apart (show IsS93 w0 _ g s0_0 t289 t290 from by exact HI0.out) (rR HO280) (by decide)) hk (fun _ h=>h.2)) (fun _ h=>h.1));replace HO284:=aM (Kd.S_mono (Kd.S_keep (IsS93.apartS (show IsS93 w0 _ g s0_0 t289 t290 from by exact HI0.out) (rS HO284) (by decide)) hk (fun _ h=>h.2)) (fun _ h=>h.1));replace BK287:=aM (KeepBut.blk hk (g':=gb287) (o:=.cells #[.int .i64 t281,.slice Ao63 t282.length co63] 26 (0,0)) (bk BK287) NB287_0.out (by simp));replace HK:=aM (KeepBut.trans HK.out hk (.inl rfl));replace HB:=aM (hb);replace HI0:=aM (hi);(try clear hb);(try clear hk);(try clear hi)))
    replace HO280:=aM (Kd.R_drew HO280.out);replace HO284:=aM (Kd.S_drew HO284.out);replace BK277:=aM (blk_drew BK277.out);replace BK287:=aM (blk_drew BK287.out);replace HI0:=aM (IsS93.drew HI0.out);replace HK:=aM (keep_drew HK.out);replace HB:=aM (below_drew1 HB.out)
    have p308:0≤(t288:Int):=od
    have q308:t288 < (t282.length:Int):=od
    obtain ⟨ad308,A308_0,c308_0,e308,hx308_0,hl308_0,hi308_0⟩:=at_T35 (Kd.S_reads' HO284.out).2.2 t288 p308 q308
    cases e308
    obtain ⟨ce308,hce308,hMe308,hcc308⟩:=Kd.S_get HO284.out z35 t288 p308 (by exact q308)
    obtain ⟨ve308_0,rfl,ge308_0⟩:=k35_openM hMe308
    have hv308_0:=hcc308 0 _ rfl
    rw [Nat.add_zero,show (k35).sz=1 from rfl,Nat.mul_one] at hv308_0
    replace hv308_0:=Option.some.inj (hv308_0.symm.trans hx308_0)
    rw [hv308_0] at ge308_0
    have HL308_0:=aM (show Kd.R (Kd.int .i64) 3 _ _ _ _ ((rd_T35 t282 t288).f0) from ge308_0)
    clear hv308_0 ge308_0
    have HX308_0:=aM hx308_0
    clear hcc308 hce308
    have HR308_0:=aM hi308_0
    have HC308_0:=aM hl308_0
    clear hi308_0 hl308_0
    replace p308:=eq_true p308
    replace q308:=eq_true q308
    refine start_ (n:=10) (S:=fun w'=>w'.cell? ⟨gb287,0,none⟩=some (.int .i64 t281)∧w'.cell? ⟨gb287,1,none⟩=some (.slice (some ad308) t282.length co63)∧w'.cell? (ad308.add (t288).toNat)=some (.slice A308_0 ((rd_T35 t282 t288).f0).length c308_0)) (ds:=[9]) (fl 10 0) (by kernel_rfl) rfl rfl ⟨bq BK287 0,bq BK287 1,hx308_0⟩ (fun hHeld=>?_);refine with_tabW spec_l5Any.tab9 spec_l5Any.bits9 (fun HT_ HW_=>?_)
    generalize w65.drew=w66 at HO280 HO284 BK277 BK287 HI0 HK HB HL308_0 HR308_0 HX308_0 hx308_0 hHeld ⊢
    refine pt 0 44 (fl 10 1) HT_ ?_
    refine pt 2 46 (fl 10 5) HT_ ?_
    refine pt 6 50 (fl 10 69) HT_ ?_
    refine tt 1 45 (fl 10 71) HT_ HW_ hHeld ?_
    refine pt 3 47 (fl 10 79) HT_ ?_
    refine pt 4 48 (fl 10 95) HT_ ?_
    refine tt 5 49 (fl 10 127) HT_ HW_ hHeld ?_
    refine ot 7 (some 51) (fl 10 255) HT_ (fun K hK=>?_)
    refine goes_ Try.func74 (by kernel_rfl) rfl #[.pointer (some ⟨g,0,none⟩),.int .i64 9] (by rfl) rfl rfl (by (try simp only [List.map_toArray,List.map_cons,List.map_nil]);rfl) ?_
    with_reducible refine (spec_l1Below.calls g s0_0 t292 t293 9 t309 t310 t311 w0 _ ?side1 ?side2 A54.out).mono ?_
    (case side1=>repeat ((with_reducible exact HI0.out)))
    (case side2=>repeat ((with_reducible exact HB.out)))
    rintro e w67 ⟨rfl,hi,hb,hk⟩
    have HS2_:=keep_cell hk (hHeld.2.2) (by (rw [add_block];exact Kd.own_blk (IsS93.own_neS HI0.out HO284.out (by decide))))
    refine ⟨_,rfl,?_⟩
    replace BK277:=aM (KeepBut.blk hk (g':=gb277) (o:=.cells #[.int .i64 0,.slice none 0 0] 26 (0,0)) (bk BK277) NB277_0.out (by simp));replace HO280:=aM (Kd.R_mono (Kd.R_keep (IsS93.apart (show IsS93 w0 _ g s0_0 t292 t293 from by exact HI0.out) (rR HO280) (by decide)) hk (fun _ h=>h.2)) (fun _ h=>h.1));replace BK287:=aM (KeepBut.blk hk (g':=gb287) (o:=.cells #[.int .i64 t281,.slice (some ad308) t282.length co63] 26 (0,0)) (bk BK287) NB287_0.out (by simp));replace HL308_0:=aM (Kd.R_mono (Kd.R_keep (IsS93.apart (show IsS93 w0 _ g s0_0 t292 t293 from by exact HI0.out) HL308_0.out (by decide)) hk (fun _ h=>h.2)) (fun _ h=>h.1));replace HX308_0:=aM (keep_cell hk HX308_0.out (by (rw [add_block];exact Kd.own_blk (IsS93.own_neS HI0.out HO284.out (by decide)))));replace HO284:=aM (Kd.S_mono (Kd.S_keep (IsS93.apartS (show IsS93 w0 _ g s0_0 t292 t293 from by exact HI0.out) (rS HO284) (by decide)) hk (fun _ h=>h.2)) (fun _ h=>h.1));replace HK:=aM (KeepBut.trans HK.out hk (.inl rfl));replace HB:=aM (hb);replace HI0:=aM (hi);(try clear hb);(try clear hk);(try clear hi)
    have p56:0≤(0:Int):=(by omega)
    have q56:(0:Int) < ((((rd_T35 t282 t288).f0).length:Int):Int):=od
    have qi56:(0 < ((rd_T35 t282 t288).f0).length)=True:=eq_true (by omega)
    obtain ⟨go56,co56,eo56,gb56,gl56,cl56,HG56⟩:=Kd.R_form HL308_0.out (by omega)
    (cases eo56)
    have GB56:=aM gb56
    have GG56:=aM HG56
    clear gb56 gl56 HG56
    obtain ⟨hx56_0,hf56_0⟩:=Kd.R_celln 0 HL308_0.out (0:Int) p56 q56
    (try rw [show ((0:Int)).toNat=0 from rfl] at hx56_0)
    skip
    (try rw [show ((0:Int)).toNat=0 from rfl] at hf56_0)
    skip
    replace p56:=eq_true p56
    replace q56:=eq_true q56
    have hq68:(t288:Int) < (t282.length:Int):=(by have h_:(t288:Int) < ((t282.length:Int):Int):=od;exact h_)
    obtain ⟨oki68,ce68,hcl68,hM68,hcc68,hok68,hbk68⟩:=Kd.S_borrow HO284.out z35 (t288:Int) od hq68
    obtain ⟨ve68_0,rfl,ge68_0⟩:=k35_openM hM68
    have hv68:=hcc68 0 _ rfl
    rw [Nat.add_zero,show (k35).sz=1 from rfl,Nat.mul_one] at hv68
    replace hv68:=Option.some.inj (hv68.symm.trans HX308_0.out)
    subst hv68
    clear hcc68 hcl68
    replace ge68_0:=(show Kd.R (Kd.int .i64) 3 _ _ _ _ ((rd_T35 t282 t288).f0) from ge68_0)
    have HP68:=Kd.R_putg ge68_0 (0:Int) t309
    have HN0_go56:=aM (show g ≠ go56 from by have h_:=IsS93.own_ne HI0.out HL308_0.out (by decide);intro e_;exact h_ (by rw [e_];rfl))
    rw [← Ny312.out] at HP68
    have HS68:=hbk68 HP68.2 (fun k_ e_=>by injection e_ with e_;subst e_;exact ge68_0.1 _ rfl) (x':=(⟨y312⟩:S35)) (k35_mkM _ _ _ (⟨y312⟩:S35) HP68.1)
    rw [← Ny314.out] at HS68
    have HQ68:=aM HS68
    clear HP68 HS68 hbk68 hok68
    refine hK.out _ _ ⟨bq BK287 0,bq BK287 1,HS2_⟩ (fun hHeld=>?_)
    clear hK K
    refine no 51 ?_
    refine pt 8 52 (fl 10 511) HT_ ?_
    refine last_ (i:=9) (N:=none) (fl 10 1023) rfl rfl (one_of HT_.out (by kernel_rfl)) (by decide) (fun K hK=>?_)
    refine skip_ (w1:=?_) (by rfl) rfl ?_ ?_
    rotate_left
    ·go_simp
     rfl
    refine hK.out _ _ ?_
    clear hK K
    refine done_ (done_of HT_.out (by kernel_rfl)) ?_
    obtain ⟨w70,hW_⟩ : ∃ W_:World,W_=(w67.setCell ⟨go56,0,none⟩ (.int .i64 t309)):=⟨_,rfl⟩
    have n0_:Aside0 (Kd.R k61 61 w70 w.heap.size (fun _=>True) v279 t278):=⟨by rw [hW_];exact Kd.R_mono (Kd.R_far (p:=⟨go56,0,none⟩) (Kd.R_types HO280.out GG56.out (by decide)) (fun _ hk=>hk.2) (.int .i64 t309)) (fun _ hk=>trivial)⟩
    have n1_:Aside0 (Kd.S k35 35 w70 w.heap.size (fun _=>True) (.slice (some ad308) t282.length co63) y314):=⟨by rw [hW_];exact HQ68.out⟩
    have n2_:Aside0 (w70.heap[gb277]?=some (.cells #[.int .i64 0,.slice none 0 0] 26 (0,0))):=⟨by rw [hW_];refine blk_far ?_ (by have h_:=Kd.R_ne HL308_0.out BK277.out (by decide);intro e_;exact h_ (by rw [e_];rfl)) _;exact BK277.out⟩
    have n3_:Aside0 (w70.heap[gb287]?=some (.cells #[.int .i64 t281,.slice (some ad308) t282.length co63] 26 (0,0))):=⟨by rw [hW_];refine blk_far ?_ (by have h_:=Kd.R_ne HL308_0.out BK287.out (by decide);intro e_;exact h_ (by rw [e_];rfl)) _;exact BK287.out⟩
    have n4_:Aside0 (IsS93 w0 w70 g s0_0 t310 t311):=⟨by rw [hW_];repeat ((with_reducible first|exact HI0.out|refine IsS93.far ?_ HN0_go56.out _))⟩
    have n5_:Aside0 (KeepBut w w70 g none):=⟨by rw [hW_];repeat ((with_reducible first|exact HK.out|refine keep_far ?_ GB56.out _))⟩
    have n6_:Aside0 (Below w0.heap.size w0 w70):=⟨by rw [hW_];repeat ((with_reducible first|exact HB.out|refine below_set ?_ (Nat.le_trans HL.out GB56.out)))⟩
    (try clear HO280)
    (try clear HO284)
    (try clear BK277)
    (try clear BK287)
    (try clear HI0)
    (try clear HK)
    (try clear HB)
    rw [← hW_];clear hW_
    have HO280:=n0_;have HO284:=n1_;have BK277:=n2_;have BK287:=n3_;have HI0:=n4_;have HK:=n5_;have HB:=n6_;clear n0_ n1_ n2_ n3_ n4_ n5_ n6_
    try go_wp2
    replace HO280:=aM (Kd.R_drew HO280.out);replace HO284:=aM (Kd.S_drew HO284.out);replace BK277:=aM (blk_drew BK277.out);replace BK287:=aM (blk_drew BK287.out);replace HI0:=aM (IsS93.drew HI0.out);replace HK:=aM (keep_drew HK.out);replace HB:=aM (below_drew1 HB.out)
    refine start_ (n:=4) (S:=fun w'=>w'.cell? ⟨gb287,0,none⟩=some (.int .i64 t281)∧w'.cell? ⟨gb287,1,none⟩=some (.slice (some ad308) t282.length co63)) (ds:=[]) (fl 4 0) (by kernel_rfl) rfl rfl ⟨bq BK287 0,bq BK287 1⟩ (fun hHeld=>?_)
    generalize w70.drew=w71 at HO280 HO284 BK277 BK287 HI0 HK HB hHeld ⊢
    refine pu 0 63 (fl 4 1) ?_
    refine pu 2 2 (fl 4 5) ?_
    refine ta 1 64 (fl 4 7) hHeld ?_
    refine on 3 none (fl 4 15) (fun K hK=>?_)
    have hs72:w71.cell? ⟨gb277,0,none⟩=some (.int .i64 0):=(blk_cell BK277.out 0).trans rfl
    have hfs72:=blk_frozen BK277.out 0
    have hns72_1:=NB287_277.out
    have hms72_1:=NB277_287.out
    have hs73:w71.cell? ⟨gb277,1,none⟩=some (.slice none 0 0):=(blk_cell BK277.out 1).trans rfl
    have hfs73:=blk_frozen BK277.out 1
    have hns73_1:=NB287_277.out
    have hms73_1:=NB277_287.out
    refine skip_ (w1:=?_) (by rfl) rfl ?_ ?_
    rotate_left
    ·go_simp
     rfl
    refine hK.out _ _ ⟨((cell_far (p:=⟨gb277,_,none⟩) NB287_277.out _).trans (((cell_far (p:=⟨gb277,_,none⟩) NB287_277.out _).trans (hHeld.1)))),((cell_far (p:=⟨gb277,_,none⟩) NB287_277.out _).trans (((cell_far (p:=⟨gb277,_,none⟩) NB287_277.out _).trans (hHeld.2))))⟩ (fun hHeld=>?_)
    clear hK K
    refine done_ (by kernel_rfl) ?_
    try go_wp2
    refine bodyPost_ret (results_tc rfl _ _ gb277 26 #[.int .i64 t281,.slice (some ad308) t282.length co63] (0,0) _ rfl (by refine blk_put (cs:=#[.int .i64 t281,.slice none 0 0]) ?_ 1 _ rfl;refine blk_put (cs:=#[.int .i64 0,.slice none 0 0]) ?_ 0 _ rfl;exact BK277.out) Try.underlying26 rfl (by kernel_rfl)) rfl ?_
    exact ⟨_,_,rz,by exact Kd.R_mono (Kd.R_far (p:=⟨gb277,1,none⟩) (Kd.R_far (p:=⟨gb277,0,none⟩) (Kd.R_types HO280.out BK277.out (by decide)) (fun _ hk=>hk.2) (.int .i64 t281)) (fun _ hk=>hk.2) (.slice (some ad308) t282.length co63)) (fun _ hk=>trivial),by exact Kd.S_mono (Kd.S_far (p:=⟨gb277,1,none⟩) (Kd.S_far (p:=⟨gb277,0,none⟩) (Kd.S_types HO284.out BK277.out (by decide)) (fun _ hk=>hk.2) (.int .i64 t281)) (fun _ hk=>hk.2) (.slice (some ad308) t282.length co63)) (fun _ hk=>trivial),by repeat ((with_reducible first|exact HI0.out|refine IsS93.far ?_ NB0_277.out _)),by repeat ((with_reducible first|exact HB.out|refine below_set ?_ GE277.out)),by repeat ((with_reducible first|exact HK.out|refine keep_far ?_ GW277.out _))⟩
   ·rw [if_neg c51] at H
    have c51b0:(t291 == 2)=false:=beq_eq_false_iff_ne.mpr c51
    have c51b1:(t291 != 2)=true:=bne_iff_ne.mpr c51
    by_cases c74:t291=3
    ·rw [if_pos c74] at H
     have c74b0:(t291 == 3)=true:=beq_iff_eq.mpr c74
     have c74b1:(t291 != 3)=false:=bne_eq_false_iff_eq.mpr c74
     clear c74
     replace H:=Option.bind_eq_some_iff.mp H
     obtain ⟨⟨t315,t318,t319⟩,A750,H⟩:=H
     try dsimp only at H
     have A75:=aM A750
     clear A750
     simp only [Option.some.injEq,Prod.mk.injEq] at H
     obtain ⟨rfl,rfl,rfl,rfl,rfl⟩:=H
     go_enter Try.func39,Try.ntmps39
     try go_wp2_with (first|((with_reducible refine gate_dst (N:=3) rfl ?_);refine box_event ?hg (N:=3) ?hd (cs:=#[.int .i64 0,.slice none 0 0]) (t:=26) ?hr ?_;(case hd=>rfl);(case hg=>rfl);(case hr=>(go_simp;done));intro gb277 hg w76 hbox hb;replace HB:=aM (below_step HB.out hb);have BK277:=aM (hbox);have GW277:=aM ((by rw [hg];exact (keep_size (w:=w) (g:=g) (row:=none) HK.out):w.heap.size≤gb277));have GE277:=aM ((Nat.le_trans HW0.out (by rw [hg];exact (keep_size (w:=w) (g:=g) (row:=none) HK.out):w.heap.size≤gb277):w0.heap.size≤gb277));replace HK:=aM (KeepBut.trans HK.out (KeepBut.of_below hb g none) (.inl rfl));have NB0_277:=aM ((by rw [hg];exact Nat.ne_of_lt (IsS93.lt (show IsS93 w0 _ g s0_0 s0_1 s0_2 from by exact HI0.out)):g ≠ gb277));have NB277_0:=aM ((by rw [hg];exact Nat.ne_of_gt (IsS93.lt (show IsS93 w0 _ g s0_0 s0_1 s0_2 from by exact HI0.out)):gb277 ≠ g));replace HI0:=aM (IsS93.below HI0.out hb);clear hb hbox hg)|((with_reducible refine gate_callee (f:=37) rfl ?_);refine goesL_ (some 9) rfl rfl Try.func37 (by kernel_rfl) rfl #[.pointer (some ⟨g,0,none⟩)] rfl (by (try simp only [List.map_toArray,List.map_cons,List.map_nil]);rfl) ?_;(with_reducible refine (spec_l5Draw.calls k g s0_0 s0_1 s0_2 t278 t281 t282 t285 t286 w0 _ ?side1 ?side2 A2.out).mono ?_);(case side1=>repeat ((with_reducible exact HI0.out)));(case side2=>repeat ((with_reducible exact HB.out)));rintro e w77 ⟨v279,v283,rfl,ho0,ho1,hi,hb,hk⟩;refine ⟨_,rfl,?_⟩;replace BK277:=aM (KeepBut.blk hk (g':=gb277) (o:=.cells #[.int .i64 0,.slice none 0 0] 26 (0,0)) (bk BK277) NB277_0.out (by simp));have HO280:=aM (Kd.R_lower ho0 (keep_size (w:=w) (g:=g) (row:=none) HK.out));have HO284:=aM (Kd.S_lower ho1 (keep_size (w:=w) (g:=g) (row:=none) HK.out));replace HK:=aM (KeepBut.trans HK.out hk (.inl rfl));replace HB:=aM (hb);replace HI0:=aM (hi);(try clear hb);(try clear hk);(try clear hi);(try clear ho0);(try clear ho1))|((with_reducible refine gate_dst (N:=5) rfl ?_);refine box_event ?hg (N:=5) ?hd (cs:=#[.int .i64 0,.slice none 0 0]) (t:=26) ?hr ?_;(case hd=>rfl);(case hg=>rfl);(case hr=>(go_simp;done));intro gb287 hg w78 hbox hb;replace HO280:=rB HO280 hb;replace HO284:=sB HO284 hb;replace HB:=aM (below_step HB.out hb);have BK287:=aM (hbox);have GW287:=aM ((by rw [hg];exact (keep_size (w:=w) (g:=g) (row:=none) HK.out):w.heap.size≤gb287));have GE287:=aM ((Nat.le_trans HW0.out (by rw [hg];exact (keep_size (w:=w) (g:=g) (row:=none) HK.out):w.heap.size≤gb287):w0.heap.size≤gb287));replace HK:=aM (KeepBut.trans HK.out (KeepBut.of_below hb g none) (.inl rfl));have NB277_287:=nL hg BK277;have NB287_277:=nG hg BK277;replace BK277:=bB BK277 hb;have NB0_287:=aM ((by rw [hg];exact Nat.ne_of_lt (IsS93.lt (show IsS93 w0 _ g s0_0 t285 t286 from by exact HI0.out)):g ≠ gb287));have NB287_0:=aM ((by rw [hg];exact Nat.ne_of_gt (IsS93.lt (show IsS93 w0 _ g s0_0 t285 t286 from by exact HI0.out)):gb287 ≠ g));replace HI0:=aM (IsS93.below HI0.out hb);clear hb hbox hg;have hnb79:=NB287_277.out;have hnc79:=NB277_287.out;have hnb80:=NB287_0.out;have hnc80:=NB0_287.out;obtain ⟨hcz81_0,hcz81_1,hfz81_0,hfz81_1⟩:=b2 BK287;obtain ⟨Ao82,co82,eo82⟩:=Kd.S_slice HO284.out;subst eo82)|((with_reducible refine gate_callee (f:=74) rfl ?_);refine goesL_ (some 16) rfl rfl Try.func74 (by kernel_rfl) rfl #[.pointer (some ⟨g,0,none⟩),.int .i64 (t282.length:Int)] rfl (by (try simp only [List.map_toArray,List.map_cons,List.map_nil]);rfl) ?_;(with_reducible refine (spec_l1Below.calls g s0_0 t285 t286 (t282.length:Int) t288 t289 t290 w0 _ ?side1 ?side2 A3.out).mono ?_);(case side1=>repeat ((with_reducible first|exact HI0.out|refine IsS93.far ?_ NB0_287.out _)));(case side2=>repeat ((with_reducible first|exact HB.out|refine below_set ?_ GE287.out)));rintro e w83 ⟨rfl,hi,hb,hk⟩;refine ⟨_,rfl,?_⟩;replace BK277:=aM (KeepBut.blk hk (g':=gb277) (o:=.cells #[.int .i64 0,.slice none 0 0] 26 (0,0)) (by refine blk_far ?_ NB277_287.out _;refine blk_far ?_ NB277_287.out _;exact BK277.out) NB277_0.out (by simp));replace HO280:=aM (Kd.R_mono (Kd.R_keep (IsS93.apart (show IsS93 w0 _ g s0_0 t285 t286 from by repeat ((with_reducible first|exact HI0.out|refine IsS93.far ?_ NB0_287.out _))) (by exact (Kd.R_mono (Kd.R_far (p:=⟨gb287,1,none⟩) (Kd.R_far (p:=⟨gb287,0,none⟩) (Kd.R_types HO280.out BK287.out (by decide)) (fun _ hk=>hk.2) (.int .i64 t281)) (fun _ hk=>hk.2) (.slice Ao82 t282.length co82)) (fun _ h_=>h_.1))) (by decide)) hk (fun _ h=>h.2)) (fun _ h=>h.1));replace HO284:=aM (Kd.S_mono (Kd.S_keep (IsS93.apartS (show IsS93 w0 _ g s0_0 t285 t286 from by repeat ((with_reducible first|exact HI0.out|refine IsS93.far ?_ NB0_287.out _))) (by exact (Kd.S_mono (Kd.S_far (p:=⟨gb287,1,none⟩) (Kd.S_far (p:=⟨gb287,0,none⟩) (Kd.S_types HO284.out BK287.out (by decide)) (fun _ hk=>hk.2) (.int .i64 t281)) (fun _ hk=>hk.2) (.slice Ao82 t282.length co82)) (fun _ h_=>h_.1))) (by decide)) hk (fun _ h=>h.2)) (fun _ h=>h.1));replace BK287:=aM (KeepBut.blk hk (g':=gb287) (o:=.cells #[.int .i64 t281,.slice Ao82 t282.length co82] 26 (0,0)) (by refine blk_put (cs:=#[.int .i64 t281,.slice none 0 0]) ?_ 1 _ rfl;refine blk_put (cs:=#[.int .i64 0,.slice none 0 0]) ?_ 0 _ rfl;exact BK287.out) NB287_0.out (by simp));replace HK:=aM (KeepBut.trans (by repeat ((with_reducible first|exact HK.out|refine keep_far ?_ GW287.out _))) hk (.inl rfl));replace HB:=aM (hb);replace HI0:=aM (hi);(try clear hb);(try clear hk);(try clear hi))|((with_reducible refine gate_callee (f:=74) rfl ?_);refine goesL_ (some 18) rfl rfl Try.func74 (by kernel_rfl) rfl #[.pointer (some ⟨g,0,none⟩),.int .i64 10] rfl (by (try simp only [List.map_toArray,List.map_cons,List.map_nil]);rfl) ?_;(with_reducible refine (spec_l1Below.calls g s0_0 t289 t290 10 t291 t292 t293 w0 _ ?side1 ?side2 A4.out).mono ?_);(case side1=>repeat ((with_reducible exact HI0.out)));(case side2=>repeat ((with_reducible exact HB.out)));rintro e w84 ⟨rfl,hi,hb,hk⟩;refine ⟨_,rfl,?_⟩;replace BK277:=aM (KeepBut.blk hk (g':=gb277) (o:=.cells #[.int .i64 0,.slice none 0 0] 26 (0,0)) (bk BK277) NB277_0.out (by simp));replace HO280:=aM (Kd.R_mono (Kd.R_keep (IsS93.apart (show IsS93 w0 _ g s0_0 t289 t290 from by exact HI0.out) (rR HO280) (by decide)) hk (fun _ h=>h.2)) (fun _ h=>h.1));replace HO284:=aM (Kd.S_mono (Kd.S_keep (IsS93.apartS (show IsS93 w0 _ g s0_0 t289 t290 from by exact HI0.out) (rS HO284) (by decide)) hk (fun _ h=>h.2)) (fun _ h=>h.1));replace BK287:=aM (KeepBut.blk hk (g':=gb287) (o:=.cells #[.int .i64 t281,.slice Ao82 t282.length co82] 26 (0,0)) (bk BK287) NB287_0.out (by simp));replace HK:=aM (KeepBut.trans HK.out hk (.inl rfl));replace HB:=aM (hb);replace HI0:=aM (hi);(try clear hb);(try clear hk);(try clear hi))|((with_reducible refine gate_callee (f:=70) rfl ?_);refine goesL_ (some 56) rfl rfl Try.func70 (by kernel_rfl) rfl #[.pointer (some ⟨g,0,none⟩)] rfl (by (try simp only [List.map_toArray,List.map_cons,List.map_nil]);rfl) ?_;(with_reducible refine (spec_l4Any.calls k g s0_0 t292 t293 t315 t318 t319 w0 _ ?side1 ?side2 A75.out).mono ?_);(case side1=>repeat ((with_reducible exact HI0.out)));(case side2=>repeat ((with_reducible exact HB.out)));rintro e w85 ⟨v316,rfl,ho0,hi,hb,hk⟩;refine ⟨_,rfl,?_⟩;replace BK277:=aM (KeepBut.blk hk (g':=gb277) (o:=.cells #[.int .i64 0,.slice none 0 0] 26 (0,0)) (bk BK277) NB277_0.out (by simp));replace HO284:=aM (Kd.S_mono (Kd.S_keep (IsS93.apartS (show IsS93 w0 _ g s0_0 t292 t293 from by exact HI0.out) (rS HO284) (by decide)) hk (fun _ h=>h.2)) (fun _ h=>h.1));replace BK287:=aM (KeepBut.blk hk (g':=gb287) (o:=.cells #[.int .i64 t281,.slice Ao82 t282.length co82] 26 (0,0)) (bk BK287) NB287_0.out (by simp));have HO317:=aM (Kd.R_lower (Kd.R_new' ho0 (Kd.R_lt (rR HO280))) (keep_size (w:=w) (g:=g) (row:=none) HK.out));replace HO280:=aM (Kd.R_mono (Kd.R_told (Kd.R_oldK (IsS93.apart (show IsS93 w0 _ g s0_0 t292 t293 from by exact HI0.out) (rR HO280) (by decide)) hk) (Kd.R_base ho0)) (fun _ h_=>h_.1));replace HK:=aM (KeepBut.trans HK.out hk (.inl rfl));replace HB:=aM (hb);replace HI0:=aM (hi);(try clear hb);(try clear hk);(try clear hi);(try clear ho0)))
     replace HO280:=aM (Kd.R_drew HO280.out);replace HO284:=aM (Kd.S_drew HO284.out);replace HO317:=aM (Kd.R_drew HO317.out);replace BK277:=aM (blk_drew BK277.out);replace BK287:=aM (blk_drew BK287.out);replace HI0:=aM (IsS93.drew HI0.out);replace HK:=aM (keep_drew HK.out);replace HB:=aM (below_drew1 HB.out)
     refine start_ (n:=4) (S:=fun w'=>w'.cell? ⟨gb287,0,none⟩=some (.int .i64 t281)∧w'.cell? ⟨gb287,1,none⟩=some (.slice Ao82 t282.length co82)) (ds:=[]) (fl 4 0) (by kernel_rfl) rfl rfl ⟨bq BK287 0,bq BK287 1⟩ (fun hHeld=>?_)
     generalize w85.drew=w86 at HO280 HO284 HO317 BK277 BK287 HI0 HK HB hHeld ⊢
     refine pu 0 63 (fl 4 1) ?_
     refine pu 2 2 (fl 4 5) ?_
     refine ta 1 64 (fl 4 7) hHeld ?_
     refine on 3 none (fl 4 15) (fun K hK=>?_)
     have hs87:w86.cell? ⟨gb277,0,none⟩=some (.int .i64 0):=(blk_cell BK277.out 0).trans rfl
     have hfs87:=blk_frozen BK277.out 0
     have hns87_1:=NB287_277.out
     have hms87_1:=NB277_287.out
     have hs88:w86.cell? ⟨gb277,1,none⟩=some (.slice none 0 0):=(blk_cell BK277.out 1).trans rfl
     have hfs88:=blk_frozen BK277.out 1
     have hns88_1:=NB287_277.out
     have hms88_1:=NB277_287.out
     refine skip_ (w1:=?_) (by rfl) rfl ?_ ?_
     rotate_left
     ·go_simp
      rfl
     refine hK.out _ _ ⟨((cell_far (p:=⟨gb277,_,none⟩) NB287_277.out _).trans (((cell_far (p:=⟨gb277,_,none⟩) NB287_277.out _).trans (hHeld.1)))),((cell_far (p:=⟨gb277,_,none⟩) NB287_277.out _).trans (((cell_far (p:=⟨gb277,_,none⟩) NB287_277.out _).trans (hHeld.2))))⟩ (fun hHeld=>?_)
     clear hK K
     refine done_ (by kernel_rfl) ?_
     try go_wp2
     refine bodyPost_ret (results_tc rfl _ _ gb277 26 #[.int .i64 t281,.slice Ao82 t282.length co82] (0,0) _ rfl (by refine blk_put (cs:=#[.int .i64 t281,.slice none 0 0]) ?_ 1 _ rfl;refine blk_put (cs:=#[.int .i64 0,.slice none 0 0]) ?_ 0 _ rfl;exact BK277.out) Try.underlying26 rfl (by kernel_rfl)) rfl ?_
     exact ⟨_,_,rz,by exact Kd.R_mono (Kd.R_far (p:=⟨gb277,1,none⟩) (Kd.R_far (p:=⟨gb277,0,none⟩) (Kd.R_types HO317.out BK277.out (by decide)) (fun _ hk=>hk.2) (.int .i64 t281)) (fun _ hk=>hk.2) (.slice Ao82 t282.length co82)) (fun _ hk=>trivial),by exact Kd.S_mono (Kd.S_far (p:=⟨gb277,1,none⟩) (Kd.S_far (p:=⟨gb277,0,none⟩) (Kd.S_types HO284.out BK277.out (by decide)) (fun _ hk=>hk.2) (.int .i64 t281)) (fun _ hk=>hk.2) (.slice Ao82 t282.length co82)) (fun _ hk=>trivial),by repeat ((with_reducible first|exact HI0.out|refine IsS93.far ?_ NB0_277.out _)),by repeat ((with_reducible first|exact HB.out|refine below_set ?_ GE277.out)),by repeat ((with_reducible first|exact HK.out|refine keep_far ?_ GW277.out _))⟩
    ·rw [if_neg c74] at H
     have c74b0:(t291 == 3)=false:=beq_eq_false_iff_ne.mpr c74
     have c74b1:(t291 != 3)=true:=bne_iff_ne.mpr c74
     by_cases c89:t291=4
     ·rw [if_pos c89] at H
      have c89b0:(t291 == 4)=true:=beq_iff_eq.mpr c89
      have c89b1:(t291 != 4)=false:=bne_eq_false_iff_eq.mpr c89
      clear c89
      obtain ⟨c90,H⟩:=ifs H
      have c90b0:=eq_true c90
      have c90b1:decide (0≤(t282.length:Int))=true:=decide_eq_true c90
      clear c90
      obtain ⟨y320,hy320⟩ : ∃ y_:List (S35),y_=(t282.take (0:Int).toNat):=⟨_,rfl⟩
      replace H:(some (t278,t281,y320,t292,t293))=some (r1,r2,r3,r4,r5):=by (rw [hy320];with_reducible exact H)
      have Ny320:=aM hy320
      clear hy320
      simp only [Option.some.injEq,Prod.mk.injEq] at H
      obtain ⟨rfl,rfl,rfl,rfl,rfl⟩:=H
      go_enter Try.func39,Try.ntmps39
      try go_wp2_with (first|((with_reducible refine gate_dst (N:=3) rfl ?_);refine box_event ?hg (N:=3) ?hd (cs:=#[.int .i64 0,.slice none 0 0]) (t:=26) ?hr ?_;(case hd=>rfl);(case hg=>rfl);(case hr=>(go_simp;done));intro gb277 hg w91 hbox hb;replace HB:=aM (below_step HB.out hb);have BK277:=aM (hbox);have GW277:=aM ((by rw [hg];exact (keep_size (w:=w) (g:=g) (row:=none) HK.out):w.heap.size≤gb277));have GE277:=aM ((Nat.le_trans HW0.out (by rw [hg];exact (keep_size (w:=w) (g:=g) (row:=none) HK.out):w.heap.size≤gb277):w0.heap.size≤gb277));replace HK:=aM (KeepBut.trans HK.out (KeepBut.of_below hb g none) (.inl rfl));have NB0_277:=aM ((by rw [hg];exact Nat.ne_of_lt (IsS93.lt (show IsS93 w0 _ g s0_0 s0_1 s0_2 from by exact HI0.out)):g ≠ gb277));have NB277_0:=aM ((by rw [hg];exact Nat.ne_of_gt (IsS93.lt (show IsS93 w0 _ g s0_0 s0_1 s0_2 from by exact HI0.out)):gb277 ≠ g));replace HI0:=aM (IsS93.below HI0.out hb);clear hb hbox hg)|((with_reducible refine gate_callee (f:=37) rfl ?_);refine goesL_ (some 9) rfl rfl Try.func37 (by kernel_rfl) rfl #[.pointer (some ⟨g,0,none⟩)] rfl (by (try simp only [List.map_toArray,List.map_cons,List.map_nil]);rfl) ?_;(with_reducible refine (spec_l5Draw.calls k g s0_0 s0_1 s0_2 t278 t281 t282 t285 t286 w0 _ ?side1 ?side2 A2.out).mono ?_);(case side1=>repeat ((with_reducible exact HI0.out)));(case side2=>repeat ((with_reducible exact HB.out)));rintro e w92 ⟨v279,v283,rfl,ho0,ho1,hi,hb,hk⟩;refine ⟨_,rfl,?_⟩;replace BK277:=aM (KeepBut.blk hk (g':=gb277) (o:=.cells #[.int .i64 0,.slice none 0 0] 26 (0,0)) (bk BK277) NB277_0.out (by simp));have HO280:=aM (Kd.R_lower ho0 (keep_size (w:=w) (g:=g) (row:=none) HK.out));have HO284:=aM (Kd.S_lower ho1 (keep_size (w:=w) (g:=g) (row:=none) HK.out));replace HK:=aM (KeepBut.trans HK.out hk (.inl rfl));replace HB:=aM (hb);replace HI0:=aM (hi);(try clear hb);(try clear hk);(try clear hi);(try clear ho0);(try clear ho1))|((with_reducible refine gate_dst (N:=5) rfl ?_);refine box_event ?hg (N:=5) ?hd (cs:=#[.int .i64 0,.slice none 0 0]) (t:=26) ?hr ?_;(case hd=>rfl);(case hg=>rfl);(case hr=>(go_simp;done));intro gb287 hg w93 hbox hb;replace HO280:=rB HO280 hb;replace HO284:=sB HO284 hb;replace HB:=aM (below_step HB.out hb);have BK287:=aM (hbox);have GW287:=aM ((by rw [hg];exact (keep_size (w:=w) (g:=g) (row:=none) HK.out):w.heap.size≤gb287));have GE287:=aM ((Nat.le_trans HW0.out (by rw [hg];exact (keep_size (w:=w) (g:=g) (row:=none) HK.out):w.heap.size≤gb287):w0.heap.size≤gb287));replace HK:=aM (KeepBut.trans HK.out (KeepBut.of_below hb g none) (.inl rfl));have NB277_287:=nL hg BK277;have NB287_277:=nG hg BK277;replace BK277:=bB BK277 hb;have NB0_287:=aM ((by rw [hg];exact Nat.ne_of_lt (IsS93.lt (show IsS93 w0 _ g s0_0 t285 t286 from by exact HI0.out)):g ≠ gb287));have NB287_0:=aM ((by rw [hg];exact Nat.ne_of_gt (IsS93.lt (show IsS93 w0 _ g s0_0 t285 t286 from by exact HI0.out)):gb287 ≠ g));replace HI0:=aM (IsS93.below HI0.out hb);clear hb hbox hg;have hnb94:=NB287_277.out;have hnc94:=NB277_287.out;have hnb95:=NB287_0.out;have hnc95:=NB0_287.out;obtain ⟨hcz96_0,hcz96_1,hfz96_0,hfz96_1⟩:=b2 BK287;obtain ⟨Ao97,co97,eo97⟩:=Kd.S_slice HO284.out;subst eo97)|((with_reducible refine gate_callee (f:=74) rfl ?_);refine goesL_ (some 16) rfl rfl Try.func74 (by kernel_rfl) rfl #[.pointer (some ⟨g,0,none⟩),.int .i64 (t282.length:Int)] rfl (by (try simp only [List.map_toArray,List.map_cons,List.map_nil]);rfl) ?_;(with_reducible refine (spec_l1Below.calls g s0_0 t285 t286 (t282.length:Int) t288 t289 t290 w0 _ ?side1 ?side2 A3.out).mono ?_);(case side1=>repeat ((with_reducible first|exact HI0.out|refine IsS93.far ?_ NB0_287.out _)));(case side2=>repeat ((with_reducible first|exact HB.out|refine below_set ?_ GE287.out)));rintro e w98 ⟨rfl,hi,hb,hk⟩;refine ⟨_,rfl,?_⟩;replace BK277:=aM (KeepBut.blk hk (g':=gb277) (o:=.cells #[.int .i64 0,.slice none 0 0] 26 (0,0)) (by refine blk_far ?_ NB277_287.out _;refine blk_far ?_ NB277_287.out _;exact BK277.out) NB277_0.out (by simp));replace HO280:=aM (Kd.R_mono (Kd.R_keep (IsS93.apart (show IsS93 w0 _ g s0_0 t285 t286 from by repeat ((with_reducible first|exact HI0.out|refine IsS93.far ?_ NB0_287.out _))) (by exact (Kd.R_mono (Kd.R_far (p:=⟨gb287,1,none⟩) (Kd.R_far (p:=⟨gb287,0,none⟩) (Kd.R_types HO280.out BK287.out (by decide)) (fun _ hk=>hk.2) (.int .i64 t281)) (fun _ hk=>hk.2) (.slice Ao97 t282.length co97)) (fun _ h_=>h_.1))) (by decide)) hk (fun _ h=>h.2)) (fun _ h=>h.1));replace HO284:=aM (Kd.S_mono (Kd.S_keep (IsS93.apartS (show IsS93 w0 _ g s0_0 t285 t286 from by repeat ((with_reducible first|exact HI0.out|refine IsS93.far ?_ NB0_287.out _))) (by exact (Kd.S_mono (Kd.S_far (p:=⟨gb287,1,none⟩) (Kd.S_far (p:=⟨gb287,0,none⟩) (Kd.S_types HO284.out BK287.out (by decide)) (fun _ hk=>hk.2) (.int .i64 t281)) (fun _ hk=>hk.2) (.slice Ao97 t282.length co97)) (fun _ h_=>h_.1))) (by decide)) hk (fun _ h=>h.2)) (fun _ h=>h.1));replace BK287:=aM (KeepBut.blk hk (g':=gb287) (o:=.cells #[.int .i64 t281,.slice Ao97 t282.length co97] 26 (0,0)) (by refine blk_put (cs:=#[.int .i64 t281,.slice none 0 0]) ?_ 1 _ rfl;refine blk_put (cs:=#[.int .i64 0,.slice none 0 0]) ?_ 0 _ rfl;exact BK287.out) NB287_0.out (by simp));replace HK:=aM (KeepBut.trans (by repeat ((with_reducible first|exact HK.out|refine keep_far ?_ GW287.out _))) hk (.inl rfl));replace HB:=aM (hb);replace HI0:=aM (hi);(try clear hb);(try clear hk);(try clear hi))|((with_reducible refine gate_callee (f:=74) rfl ?_);refine goesL_ (some 18) rfl rfl Try.func74 (by kernel_rfl) rfl #[.pointer (some ⟨g,0,none⟩),.int .i64 10] rfl (by (try simp only [List.map_toArray,List.map_cons,List.map_nil]);rfl) ?_;(with_reducible refine (spec_l1Below.calls g s0_0 t289 t290 10 t291 t292 t293 w0 _ ?side1 ?side2 A4.out).mono ?_);(case side1=>repeat ((with_reducible exact HI0.out)));(case side2=>repeat ((with_reducible exact HB.out)));rintro e w99 ⟨rfl,hi,hb,hk⟩;refine ⟨_,rfl,?_⟩;replace BK277:=aM (KeepBut.blk hk (g':=gb277) (o:=.cells #[.int .i64 0,.slice none 0 0] 26 (0,0)) (bk BK277) NB277_0.out (by simp));replace HO280:=aM (Kd.R_mono (Kd.R_keep (IsS93.apart (show IsS93 w0 _ g s0_0 t289 t290 from by exact HI0.out) (rR HO280) (by decide)) hk (fun _ h=>h.2)) (fun _ h=>h.1));replace HO284:=aM (Kd.S_mono (Kd.S_keep (IsS93.apartS (show IsS93 w0 _ g s0_0 t289 t290 from by exact HI0.out) (rS HO284) (by decide)) hk (fun _ h=>h.2)) (fun _ h=>h.1));replace BK287:=aM (KeepBut.blk hk (g':=gb287) (o:=.cells #[.int .i64 t281,.slice Ao97 t282.length co97] 26 (0,0)) (bk BK287) NB287_0.out (by simp));replace HK:=aM (KeepBut.trans HK.out hk (.inl rfl));replace HB:=aM (hb);replace HI0:=aM (hi);(try clear hb);(try clear hk);(try clear hi);obtain ⟨hcz100_0,hcz100_1,hfz100_0,hfz100_1⟩:=b2 BK287;have q101:(0:Int)≤((t282.length:Int):Int):=od;obtain ⟨i0101,hi0101,_,hsz101,_⟩:=info_parts info35;have hcut101:=cut_to (P:=Try.prog) 24 35 .i64 Try.underlying24 hi0101 Ao97 t282.length co97 0 (by omega) q101 (Kd.S_reads' HO284.out).2.1;have hr101:=Kd.S_take (m:=(0:Int).toNat) HO284.out (by omega);have hy101:y320.length=(0:Int).toNat:=(by rw [Ny320.out,List.length_take];omega);rw [← Ny320.out] at hr101;rw [← hy101] at hr101 hcut101;clear hy101 hi0101 hsz101 HO284;have HO322:=aM hr101;clear hr101;replace q101:=eq_true q101))
      obtain ⟨w102,hW_⟩ : ∃ W_:World,W_=(w99.setCell ⟨gb287,1,none⟩ (.slice Ao97 y320.length co97)):=⟨_,rfl⟩
      have n0_:Aside0 (Kd.R k61 61 w102 w.heap.size (fun _=>True) v279 t278):=⟨by rw [hW_];exact Kd.R_mono (Kd.R_far (p:=⟨gb287,1,none⟩) (Kd.R_types HO280.out BK287.out (by decide)) (fun _ hk=>hk.2) (.slice Ao97 y320.length co97)) (fun _ hk=>trivial)⟩
      have n1_:Aside0 (Kd.S k35 35 w102 w.heap.size (fun _=>True) (.slice Ao97 y320.length co97) y320):=⟨by rw [hW_];exact Kd.S_mono (Kd.S_far (p:=⟨gb287,1,none⟩) (Kd.S_types HO322.out BK287.out (by decide)) (fun _ hk=>hk.2) (.slice Ao97 y320.length co97)) (fun _ hk=>trivial)⟩
      have n2_:Aside0 (w102.heap[gb277]?=some (.cells #[.int .i64 0,.slice none 0 0] 26 (0,0))):=⟨by rw [hW_];refine blk_far ?_ NB277_287.out _;exact BK277.out⟩
      have n3_:Aside0 (w102.heap[gb287]?=some (.cells #[.int .i64 t281,.slice Ao97 y320.length co97] 26 (0,0))):=⟨by rw [hW_];refine blk_put (cs:=#[.int .i64 t281,.slice Ao97 t282.length co97]) ?_ 1 _ rfl;exact BK287.out⟩
      have n4_:Aside0 (IsS93 w0 w102 g s0_0 t292 t293):=⟨by rw [hW_];repeat ((with_reducible first|exact HI0.out|refine IsS93.far ?_ NB0_287.out _))⟩
      have n5_:Aside0 (KeepBut w w102 g none):=⟨by rw [hW_];repeat ((with_reducible first|exact HK.out|refine keep_far ?_ GW287.out _))⟩
      have n6_:Aside0 (Below w0.heap.size w0 w102):=⟨by rw [hW_];repeat ((with_reducible first|exact HB.out|refine below_set ?_ GE287.out))⟩
      (try clear HO280)
      (try clear HO322)
      (try clear BK277)
      (try clear BK287)
      (try clear HI0)
      (try clear HK)
      (try clear HB)
      rw [← hW_];clear hW_
      have HO280:=n0_;have HO322:=n1_;have BK277:=n2_;have BK287:=n3_;have HI0:=n4_;have HK:=n5_;have HB:=n6_;clear n0_ n1_ n2_ n3_ n4_ n5_ n6_;replace HO280:=aM (Kd.R_drew HO280.out);replace HO322:=aM (Kd.S_drew HO322.out);replace BK277:=aM (blk_drew BK277.out);replace BK287:=aM (blk_drew BK287.out);replace HI0:=aM (IsS93.drew HI0.out);replace HK:=aM (keep_drew HK.out);replace HB:=aM (below_drew1 HB.out)
      refine start_ (n:=4) (S:=fun w'=>w'.cell? ⟨gb287,0,none⟩=some (.int .i64 t281)∧w'.cell? ⟨gb287,1,none⟩=some (.slice Ao97 y320.length co97)) (ds:=[]) (fl 4 0) (by kernel_rfl) rfl rfl ⟨bq BK287 0,bq BK287 1⟩ (fun hHeld=>?_)
      generalize w102.drew=w103 at HO280 HO322 BK277 BK287 HI0 HK HB hHeld ⊢
      refine pu 0 63 (fl 4 1) ?_
      refine pu 2 2 (fl 4 5) ?_
      refine ta 1 64 (fl 4 7) hHeld ?_
      refine on 3 none (fl 4 15) (fun K hK=>?_)
      have hs104:w103.cell? ⟨gb277,0,none⟩=some (.int .i64 0):=(blk_cell BK277.out 0).trans rfl
      have hfs104:=blk_frozen BK277.out 0
      have hns104_1:=NB287_277.out
      have hms104_1:=NB277_287.out
      have hs105:w103.cell? ⟨gb277,1,none⟩=some (.slice none 0 0):=(blk_cell BK277.out 1).trans rfl
      have hfs105:=blk_frozen BK277.out 1
      have hns105_1:=NB287_277.out
      have hms105_1:=NB277_287.out
      refine skip_ (w1:=?_) (by rfl) rfl ?_ ?_
      rotate_left
      ·go_simp
       rfl
      refine hK.out _ _ ⟨((cell_far (p:=⟨gb277,_,none⟩) NB287_277.out _).trans (((cell_far (p:=⟨gb277,_,none⟩) NB287_277.out _).trans (hHeld.1)))),((cell_far (p:=⟨gb277,_,none⟩) NB287_277.out _).trans (((cell_far (p:=⟨gb277,_,none⟩) NB287_277.out _).trans (hHeld.2))))⟩ (fun hHeld=>?_)
      clear hK K
      refine done_ (by kernel_rfl) ?_
      try go_wp2
      refine bodyPost_ret (results_tc rfl _ _ gb277 26 #[.int .i64 t281,.slice Ao97 y320.length co97] (0,0) _ rfl (by refine blk_put (cs:=#[.int .i64 t281,.slice none 0 0]) ?_ 1 _ rfl;refine blk_put (cs:=#[.int .i64 0,.slice none 0 0]) ?_ 0 _ rfl;exact BK277.out) Try.underlying26 rfl (by kernel_rfl)) rfl ?_
      exact ⟨_,_,rz,by exact Kd.R_mono (Kd.R_far (p:=⟨gb277,1,none⟩) (Kd.R_far (p:=⟨gb277,0,none⟩) (Kd.R_types HO280.out BK277.out (by decide)) (fun _ hk=>hk.2) (.int .i64 t281)) (fun _ hk=>hk.2) (.slice Ao97 y320.length co97)) (fun _ hk=>trivial),by exact Kd.S_mono (Kd.S_far (p:=⟨gb277,1,none⟩) (Kd.S_far (p:=⟨gb277,0,none⟩) (Kd.S_types HO322.out BK277.out (by decide)) (fun _ hk=>hk.2) (.int .i64 t281)) (fun _ hk=>hk.2) (.slice Ao97 y320.length co97)) (fun _ hk=>trivial),by repeat ((with_reducible first|exact HI0.out|refine IsS93.far ?_ NB0_277.out _)),by repeat ((with_reducible first|exact HB.out|refine below_set ?_ GE277.out)),by repeat ((with_reducible first|exact HK.out|refine keep_far ?_ GW277.out _))⟩
     ·rw [if_neg c89] at H
      have c89b0:(t291 == 4)=false:=beq_eq_false_iff_ne.mpr c89
      have c89b1:(t291 != 4)=true:=bne_iff_ne.mpr c89
      simp only [Option.some.injEq,Prod.mk.injEq] at H
      obtain ⟨rfl,rfl,rfl,rfl,rfl⟩:=H
      go_enter Try.func39,Try.ntmps39
      try go_wp2_with (first|((with_reducible refine gate_dst (N:=3) rfl ?_);refine box_event ?hg (N:=3) ?hd (cs:=#[.int .i64 0,.slice none 0 0]) (t:=26) ?hr ?_;(case hd=>rfl);(case hg=>rfl);(case hr=>(go_simp;done));intro gb277 hg w106 hbox hb;replace HB:=aM (below_step HB.out hb);have BK277:=aM (hbox);have GW277:=aM ((by rw [hg];exact (keep_size (w:=w) (g:=g) (row:=none) HK.out):w.heap.size≤gb277));have GE277:=aM ((Nat.le_trans HW0.out (by rw [hg];exact (keep_size (w:=w) (g:=g) (row:=none) HK.out):w.heap.size≤gb277):w0.heap.size≤gb277));replace HK:=aM (KeepBut.trans HK.out (KeepBut.of_below hb g none) (.inl rfl));have NB0_277:=aM ((by rw [hg];exact Nat.ne_of_lt (IsS93.lt (show IsS93 w0 _ g s0_0 s0_1 s0_2 from by exact HI0.out)):g ≠ gb277));have NB277_0:=aM ((by rw [hg];exact Nat.ne_of_gt (IsS93.lt (show IsS93 w0 _ g s0_0 s0_1 s0_2 from by exact HI0.out)):gb277 ≠ g));replace HI0:=aM (IsS93.below HI0.out hb);clear hb hbox hg)|((with_reducible refine gate_callee (f:=37) rfl ?_);refine goesL_ (some 9) rfl rfl Try.func37 (by kernel_rfl) rfl #[.pointer (some ⟨g,0,none⟩)] rfl (by (try simp only [List.map_toArray,List.map_cons,List.map_nil]);rfl) ?_;(with_reducible refine (spec_l5Draw.calls k g s0_0 s0_1 s0_2 t278 t281 t282 t285 t286 w0 _ ?side1 ?side2 A2.out).mono ?_);(case side1=>repeat ((with_reducible exact HI0.out)));(case side2=>repeat ((with_reducible exact HB.out)));rintro e w107 ⟨v279,v283,rfl,ho0,ho1,hi,hb,hk⟩;refine ⟨_,rfl,?_⟩;replace BK277:=aM (KeepBut.blk hk (g':=gb277) (o:=.cells #[.int .i64 0,.slice none 0 0] 26 (0,0)) (bk BK277) NB277_0.out (by simp));have HO280:=aM (Kd.R_lower ho0 (keep_size (w:=w) (g:=g) (row:=none) HK.out));have HO284:=aM (Kd.S_lower ho1 (keep_size (w:=w) (g:=g) (row:=none) HK.out));replace HK:=aM (KeepBut.trans HK.out hk (.inl rfl));replace HB:=aM (hb);replace HI0:=aM (hi);(try clear hb);(try clear hk);(try clear hi);(try clear ho0);(try clear ho1))|((with_reducible refine gate_dst (N:=5) rfl ?_);refine box_event ?hg (N:=5) ?hd (cs:=#[.int .i64 0,.slice none 0 0]) (t:=26) ?hr ?_;(case hd=>rfl);(case hg=>rfl);(case hr=>(go_simp;done));intro gb287 hg w108 hbox hb;replace HO280:=rB HO280 hb;replace HO284:=sB HO284 hb;replace HB:=aM (below_step HB.out hb);have BK287:=aM (hbox);have GW287:=aM ((by rw [hg];exact (keep_size (w:=w) (g:=g) (row:=none) HK.out):w.heap.size≤gb287));have GE287:=aM ((Nat.le_trans HW0.out (by rw [hg];exact (keep_size (w:=w) (g:=g) (row:=none) HK.out):w.heap.size≤gb287):w0.heap.size≤gb287));replace HK:=aM (KeepBut.trans HK.out (KeepBut.of_below hb g none) (.inl rfl));have NB277_287:=nL hg BK277;have NB287_277:=nG hg BK277;replace BK277:=bB BK277 hb;have NB0_287:=aM ((by rw [hg];exact Nat.ne_of_lt (IsS93.lt (show IsS93 w0 _ g s0_0 t285 t286 from by exact HI0.out)):g ≠ gb287));have NB287_0:=aM ((by rw [hg];exact Nat.ne_of_gt (IsS93.lt (show IsS93 w0 _ g s0_0 t285 t286 from by exact HI0.out)):gb287 ≠ g));replace HI0:=aM (IsS93.below HI0.out hb);clear hb hbox hg;have hnb109:=NB287_277.out;have hnc109:=NB277_287.out;have hnb110:=NB287_0.out;have hnc110:=NB0_287.out;obtain ⟨hcz111_0,hcz111_1,hfz111_0,hfz111_1⟩:=b2 BK287;obtain ⟨Ao112,co112,eo112⟩:=Kd.S_slice HO284.out;subst eo112)|((with_reducible refine gate_callee (f:=74) rfl ?_);refine goesL_ (some 16) rfl rfl Try.func74 (by kernel_rfl) rfl #[.pointer (some ⟨g,0,none⟩),.int .i64 (t282.length:Int)] rfl (by (try simp only [List.map_toArray,List.map_cons,List.map_nil]);rfl) ?_;(with_reducible refine (spec_l1Below.calls g s0_0 t285 t286 (t282.length:Int) t288 t289 t290 w0 _ ?side1 ?side2 A3.out).mono ?_);(case side1=>repeat ((with_reducible first|exact HI0.out|refine IsS93.far ?_ NB0_287.out _)));(case side2=>repeat ((with_reducible first|exact HB.out|refine below_set ?_ GE287.out)));rintro e w113 ⟨rfl,hi,hb,hk⟩;refine ⟨_,rfl,?_⟩;replace BK277:=aM (KeepBut.blk hk (g':=gb277) (o:=.cells #[.int .i64 0,.slice none 0 0] 26 (0,0)) (by refine blk_far ?_ NB277_287.out _;refine blk_far ?_ NB277_287.out _;exact BK277.out) NB277_0.out (by simp));replace HO280:=aM (Kd.R_mono (Kd.R_keep (IsS93.apart (show IsS93 w0 _ g s0_0 t285 t286 from by repeat ((with_reducible first|exact HI0.out|refine IsS93.far ?_ NB0_287.out _))) (by exact (Kd.R_mono (Kd.R_far (p:=⟨gb287,1,none⟩) (Kd.R_far (p:=⟨gb287,0,none⟩) (Kd.R_types HO280.out BK287.out (by decide)) (fun _ hk=>hk.2) (.int .i64 t281)) (fun _ hk=>hk.2) (.slice Ao112 t282.length co112)) (fun _ h_=>h_.1))) (by decide)) hk (fun _ h=>h.2)) (fun _ h=>h.1));replace HO284:=aM (Kd.S_mono (Kd.S_keep (IsS93.apartS (show IsS93 w0 _ g s0_0 t285 t286 from by repeat ((with_reducible first|exact HI0.out|refine IsS93.far ?_ NB0_287.out _))) (by exact (Kd.S_mono (Kd.S_far (p:=⟨gb287,1,none⟩) (Kd.S_far (p:=⟨gb287,0,none⟩) (Kd.S_types HO284.out BK287.out (by decide)) (fun _ hk=>hk.2) (.int .i64 t281)) (fun _ hk=>hk.2) (.slice Ao112 t282.length co112)) (fun _ h_=>h_.1))) (by decide)) hk (fun _ h=>h.2)) (fun _ h=>h.1));replace BK287:=aM (KeepBut.blk hk (g':=gb287) (o:=.cells #[.int .i64 t281,.slice Ao112 t282.length co112] 26 (0,0)) (by refine blk_put (cs:=#[.int .i64 t281,.slice none 0 0]) ?_ 1 _ rfl;refine blk_put (cs:=#[.int .i64 0,.slice none 0 0]) ?_ 0 _ rfl;exact BK287.out) NB287_0.out (by simp));replace HK:=aM (KeepBut.trans (by repeat ((with_reducible first|exact HK.out|refine keep_far ?_ GW287.out _))) hk (.inl rfl));replace HB:=aM (hb);replace HI0:=aM (hi);(try clear hb);(try clear hk);(try clear hi))|((with_reducible refine gate_callee (f:=74) rfl ?_);refine goesL_ (some 18) rfl rfl Try.func74 (by kernel_rfl) rfl #[.pointer (some ⟨g,0,none⟩),.int .i64 10] rfl (by (try simp only [List.map_toArray,List.map_cons,List.map_nil]);rfl) ?_;(with_reducible refine (spec_l1Below.calls g s0_0 t289 t290 10 t291 t292 t293 w0 _ ?side1 ?side2 A4.out).mono ?_);(case side1=>repeat ((with_reducible exact HI0.out)));(case side2=>repeat ((with_reducible exact HB.out)));rintro e w114 ⟨rfl,hi,hb,hk⟩;refine ⟨_,rfl,?_⟩;replace BK277:=aM (KeepBut.blk hk (g':=gb277) (o:=.cells #[.int .i64 0,.slice none 0 0] 26 (0,0)) (bk BK277) NB277_0.out (by simp));replace HO280:=aM (Kd.R_mono (Kd.R_keep (IsS93.apart (show IsS93 w0 _ g s0_0 t289 t290 from by exact HI0.out) (rR HO280) (by decide)) hk (fun _ h=>h.2)) (fun _ h=>h.1));replace HO284:=aM (Kd.S_mono (Kd.S_keep (IsS93.apartS (show IsS93 w0 _ g s0_0 t289 t290 from by exact HI0.out) (rS HO284) (by decide)) hk (fun _ h=>h.2)) (fun _ h=>h.1));replace BK287:=aM (KeepBut.blk hk (g':=gb287) (o:=.cells #[.int .i64 t281,.slice Ao112 t282.length co112] 26 (0,0)) (bk BK287) NB287_0.out (by simp));replace HK:=aM (KeepBut.trans HK.out hk (.inl rfl));replace HB:=aM (hb);replace HI0:=aM (hi);(try clear hb);(try clear hk);(try clear hi)))
      replace HO280:=aM (Kd.R_drew HO280.out);replace HO284:=aM (Kd.S_drew HO284.out);replace BK277:=aM (blk_drew BK277.out);replace BK287:=aM (blk_drew BK287.out);replace HI0:=aM (IsS93.drew HI0.out);replace HK:=aM (keep_drew HK.out);replace HB:=aM (below_drew1 HB.out)
      refine start_ (n:=4) (S:=fun w'=>w'.cell? ⟨gb287,0,none⟩=some (.int .i64 t281)∧w'.cell? ⟨gb287,1,none⟩=some (.slice Ao112 t282.length co112)) (ds:=[]) (fl 4 0) (by kernel_rfl) rfl rfl ⟨bq BK287 0,bq BK287 1⟩ (fun hHeld=>?_)
      generalize w114.drew=w115 at HO280 HO284 BK277 BK287 HI0 HK HB hHeld ⊢
      refine pu 0 63 (fl 4 1) ?_
      refine pu 2 2 (fl 4 5) ?_
      refine ta 1 64 (fl 4 7) hHeld ?_
      refine on 3 none (fl 4 15) (fun K hK=>?_)
      have hs116:w115.cell? ⟨gb277,0,none⟩=some (.int .i64 0):=(blk_cell BK277.out 0).trans rfl
      have hfs116:=blk_frozen BK277.out 0
      have hns116_1:=NB287_277.out
      have hms116_1:=NB277_287.out
      have hs117:w115.cell? ⟨gb277,1,none⟩=some (.slice none 0 0):=(blk_cell BK277.out 1).trans rfl
      have hfs117:=blk_frozen BK277.out 1
      have hns117_1:=NB287_277.out
      have hms117_1:=NB277_287.out
      refine skip_ (w1:=?_) (by rfl) rfl ?_ ?_
      rotate_left
      ·go_simp
       rfl
      refine hK.out _ _ ⟨((cell_far (p:=⟨gb277,_,none⟩) NB287_277.out _).trans (((cell_far (p:=⟨gb277,_,none⟩) NB287_277.out _).trans (hHeld.1)))),((cell_far (p:=⟨gb277,_,none⟩) NB287_277.out _).trans (((cell_far (p:=⟨gb277,_,none⟩) NB287_277.out _).trans (hHeld.2))))⟩ (fun hHeld=>?_)
      clear hK K
      refine done_ (by kernel_rfl) ?_
      try go_wp2
      refine bodyPost_ret (results_tc rfl _ _ gb277 26 #[.int .i64 t281,.slice Ao112 t282.length co112] (0,0) _ rfl (by refine blk_put (cs:=#[.int .i64 t281,.slice none 0 0]) ?_ 1 _ rfl;refine blk_put (cs:=#[.int .i64 0,.slice none 0 0]) ?_ 0 _ rfl;exact BK277.out) Try.underlying26 rfl (by kernel_rfl)) rfl ?_
      exact ⟨_,_,rz,by exact Kd.R_mono (Kd.R_far (p:=⟨gb277,1,none⟩) (Kd.R_far (p:=⟨gb277,0,none⟩) (Kd.R_types HO280.out BK277.out (by decide)) (fun _ hk=>hk.2) (.int .i64 t281)) (fun _ hk=>hk.2) (.slice Ao112 t282.length co112)) (fun _ hk=>trivial),by exact Kd.S_mono (Kd.S_far (p:=⟨gb277,1,none⟩) (Kd.S_far (p:=⟨gb277,0,none⟩) (Kd.S_types HO284.out BK277.out (by decide)) (fun _ hk=>hk.2) (.int .i64 t281)) (fun _ hk=>hk.2) (.slice Ao112 t282.length co112)) (fun _ hk=>trivial),by repeat ((with_reducible first|exact HI0.out|refine IsS93.far ?_ NB0_277.out _)),by repeat ((with_reducible first|exact HB.out|refine below_set ?_ GE277.out)),by repeat ((with_reducible first|exact HK.out|refine keep_far ?_ GW277.out _))⟩
end Go.Proofs.Ytpbjbfimnfghkaa.PFnRebalanced
