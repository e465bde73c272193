/- Trimmed by a program of this session (trim.py). Not trusted: Lean checks it. -/
import Derived.Test.YtpbjbfimnfghkaaTLRebalancedPFnRebalancedx0
import Derived.Test.YtpbjbfimnfghkaaTLRebalancedPFnRebalancedx1
import Derived.Test.YtpbjbfimnfghkaaTLRebalancedPFnRebalancedx4
namespace Go.Proofs.Ytpbjbfimnfghkaa.PFnRebalanced
open Go.RowKit Go.Proofs.YtpbjbfimnfghkaaW.PrintWords Go.Proofs.YtpbjbfimnfghkaaW.PrintLast Go.Proofs.YtpbjbfimnfghkaaW.PrintMore Go.Proofs.Ytpbjbfimnfghkaa.St
attribute [local go_sem] max2_int min2_int max_two min_two max_three min_three max_four min_four
set_option linter.unusedVariables false
set_option linter.unusedSimpArgs false
def spec_l5Draw.f (k:Nat) (s0_0:List Int) (s0_1:Int) (s0_2:Int):Option ((List (S61)) × Int × (List (S35)) × Int × Int):=(spec_l4Draw.f k s0_0 s0_1 s0_2).bind fun bt207=>((spec_l1Below.f s0_0 bt207.2.1 bt207.2.2 3).bind fun bt212=>(if (wrap64 (1+bt212.1)) > (bt207.1.length:Int) then ((spec_l1Int.f s0_0 bt212.2.1 bt212.2.2 (([4,8,1,5,16]:List Int))).bind fun bt218=>((spec_Build.f k bt207.1 bt218.1 (bt207.1.length:Int)).bind fun bt221=>(some (bt207.1,bt221.1,bt221.2.1,bt218.2.1,bt218.2.2)))) else ((spec_l1Int.f s0_0 bt212.2.1 bt212.2.2 (([4,8,1,5,16]:List Int))).bind fun bt230=>((spec_Build.f k bt207.1 bt230.1 (wrap64 (1+bt212.1))).bind fun bt233=>(some (bt207.1,bt233.1,bt233.2.1,bt230.2.1,bt230.2.2))))))
set_option maxHeartbeats 8000000 in
set_option maxRecDepth 100000 in
theorem spec_l5Draw.calls (k:Nat) (g:Nat) (s0_0:List Int) (s0_1:Int) (s0_2:Int) (r1:List (S61)) (r2:Int) (r3:List (S35)) (r4:Int) (r5:Int) (w0 w:World) (hI:IsS93 w0 w g s0_0 s0_1 s0_2) (hB:Below w0.heap.size w0 w) (h:spec_l5Draw.f k s0_0 s0_1 s0_2=some (r1,r2,r3,r4,r5)) :
  Calls Try.prog 37 #[.pointer (some ⟨g,0,none⟩)] w fun e w'=>∃ v0_ v2_:Value,e = .returned (.tuple #[v0_,.agg #[.int .i64 r2,v2_]])∧Kd.R k61 61 w' w.heap.size (fun _=>True) v0_ r1∧Kd.S k35 35 w' w.heap.size (fun _=>True) v2_ r3∧IsS93 w0 w' g s0_0 r4 r5∧Below w0.heap.size w0 w' ∧ KeepBut w w' g none:=by
 have hu26:=Try.underlying26
 have HI0:=aM hI
 have HK:=aM (KeepBut.refl w g none)
 have HL:=aM hB.size
 clear hI
 have HW0:=aM hB.size
 have HB:=aM hB
 clear hB
 have H:((spec_l4Draw.f k s0_0 s0_1 s0_2).bind fun bt207=>((spec_l1Below.f s0_0 bt207.2.1 bt207.2.2 3).bind fun bt212=>(if (wrap64 (1+bt212.1)) > (bt207.1.length:Int) then ((spec_l1Int.f s0_0 bt212.2.1 bt212.2.2 (([4,8,1,5,16]:List Int))).bind fun bt218=>((spec_Build.f k bt207.1 bt218.1 (bt207.1.length:Int)).bind fun bt221=>(some (bt207.1,bt221.1,bt221.2.1,bt218.2.1,bt218.2.2)))) else ((spec_l1Int.f s0_0 bt212.2.1 bt212.2.2 (([4,8,1,5,16]:List Int))).bind fun bt230=>((spec_Build.f k bt207.1 bt230.1 (wrap64 (1+bt212.1))).bind fun bt233=>(some (bt207.1,bt233.1,bt233.2.1,bt230.2.1,bt230.2.2)))))))=some (r1,r2,r3,r4,r5):=h
 clear h
 replace H:=Option.bind_eq_some_iff.mp H
 obtain ⟨⟨t207,t210,t211⟩,A20,H⟩:=H
 try dsimp only at H
 have A2:=aM A20
 clear A20
 replace H:=Option.bind_eq_some_iff.mp H
 obtain ⟨⟨t212,t213,t214⟩,A30,H⟩:=H
 try dsimp only at H
 have A3:=aM A30
 clear A30
 by_cases c4:(wrap64 (1+t212)) > (t207.length:Int)
 ·rw [if_pos c4] at H
  have c4b0:decide ((t207.length:Int) < (wrap64 (1+t212)))=true:=decide_eq_true c4
  clear c4
  obtain ⟨y215,hy215⟩ : ∃ y_:List Int,y_=(([4,8,1,5,16]:List Int)):=⟨_,rfl⟩
  replace H:((spec_l1Int.f s0_0 t213 t214 y215).bind fun bt218=>((spec_Build.f k t207 bt218.1 (t207.length:Int)).bind fun bt221=>(some (t207,bt221.1,bt221.2.1,bt218.2.1,bt218.2.2))))=some (r1,r2,r3,r4,r5):=by (rw [hy215];with_reducible exact H)
  have Ny215:=aM hy215
  clear hy215
  replace H:=Option.bind_eq_some_iff.mp H
  obtain ⟨⟨t218,t219,t220⟩,A50,H⟩:=H
  try dsimp only at H
  have A5:=aM A50
  clear A50
  replace H:=Option.bind_eq_some_iff.mp H
  obtain ⟨⟨t221,t222,t225⟩,A60,H⟩:=H
  try dsimp only at H
  have A6:=aM A60
  clear A60
  simp only [Option.some.injEq,Prod.mk.injEq] at H
  obtain ⟨rfl,rfl,rfl,rfl,rfl⟩:=H
  go_enter Try.func37,Try.ntmps37
  try go_wp2_with (first|((with_reducible refine gate_dst (N:=3) rfl ?_);refine box_event ?hg (N:=3) ?hd (cs:=#[.int .i64 0,.slice none 0 0]) (t:=26) ?hr ?_;(case hd=>rfl);(case hg=>rfl);(case hr=>(go_simp;done));intro gb206 hg w7 hbox hb;replace HB:=aM (below_step HB.out hb);have BK206:=aM (hbox);have GW206:=aM ((by rw [hg];exact (keep_size (w:=w) (g:=g) (row:=none) HK.out):w.heap.size≤gb206));have GE206:=aM ((Nat.le_trans HW0.out (by rw [hg];exact (keep_size (w:=w) (g:=g) (row:=none) HK.out):w.heap.size≤gb206):w0.heap.size≤gb206));replace HK:=aM (KeepBut.trans HK.out (KeepBut.of_below hb g none) (.inl rfl));have NB0_206:=aM ((by rw [hg];exact Nat.ne_of_lt (IsS93.lt (show IsS93 w0 _ g s0_0 s0_1 s0_2 from by exact HI0.out)):g ≠ gb206));have NB206_0:=aM ((by rw [hg];exact Nat.ne_of_gt (IsS93.lt (show IsS93 w0 _ g s0_0 s0_1 s0_2 from by exact HI0.out)):gb206 ≠ g));replace HI0:=aM (IsS93.below HI0.out hb);clear hb hbox hg)|((with_reducible refine gate_callee (f:=73) rfl ?_);refine goesL_ (some 9) rfl rfl Try.func73 (by kernel_rfl) rfl #[.pointer (some ⟨g,0,none⟩)] rfl (by (try simp only [List.map_toArray,List.map_cons,List.map_nil]);rfl) ?_;(with_reducible refine (spec_l4Draw.calls k g s0_0 s0_1 s0_2 t207 t210 t211 w0 _ ?side1 ?side2 A2.out).mono ?_);(case side1=>repeat ((with_reducible exact HI0.out)));(case side2=>repeat ((with_reducible exact HB.out)));rintro e w8 ⟨v208,rfl,ho0,hi,hb,hk⟩;refine ⟨_,rfl,?_⟩;replace BK206:=aM (KeepBut.blk hk (g':=gb206) (o:=.cells #[.int .i64 0,.slice none 0 0] 26 (0,0)) (bk BK206) NB206_0.out (by simp));have HO209:=aM (Kd.R_lower ho0 (keep_size (w:=w) (g:=g) (row:=none) HK.out));replace HK:=aM (KeepBut.trans HK.out hk (.inl rfl));replace HB:=aM (hb);replace HI0:=aM (hi);(try clear hb);(try clear hk);(try clear hi);(try clear ho0))|((with_reducible refine gate_callee (f:=74) rfl ?_);refine goesL_ (some 11) rfl rfl Try.func74 (by kernel_rfl) rfl #[.pointer (some ⟨g,0,none⟩),.int .i64 3] rfl (by (try simp only [List.map_toArray,List.map_cons,List.map_nil]);rfl) ?_;(with_reducible refine (spec_l1Below.calls g s0_0 t210 t211 3 t212 t213 t214 w0 _ ?side1 ?side2 A3.out).mono ?_);(case side1=>repeat ((with_reducible exact HI0.out)));(case side2=>repeat ((with_reducible exact HB.out)));rintro e w9 ⟨rfl,hi,hb,hk⟩;refine ⟨_,rfl,?_⟩;replace BK206:=aM (KeepBut.blk hk (g':=gb206) (o:=.cells #[.int .i64 0,.slice none 0 0] 26 (0,0)) (bk BK206) NB206_0.out (by simp));replace HO209:=aM (Kd.R_mono (Kd.R_keep (IsS93.apart (show IsS93 w0 _ g s0_0 t210 t211 from by exact HI0.out) (rR HO209) (by decide)) hk (fun _ h=>h.2)) (fun _ h=>h.1));replace HK:=aM (KeepBut.trans HK.out hk (.inl rfl));replace HB:=aM (hb);replace HI0:=aM (hi);(try clear hb);(try clear hk);(try clear hi);obtain ⟨Ao10,co10,eo10⟩:=Kd.R_slice HO209.out;subst eo10)|((with_reducible refine gate_dst (N:=22) rfl ?_);refine Kd.R_lit (Kd.int .i64) _ 3 ?hg (N:=22) ?hd (xs:=([4,8,1,5,16]:List Int)) (inner:=[.int .i64 4,.int .i64 8,.int .i64 1,.int .i64 5,.int .i64 16]) (ok:=fun _=>True) (okp:=fun _=>True) ?hr ?hp (fun _ hk=>hk) trivial (Below.refl _ _) (Nat.le_refl _) (by simp) ?_;(case hd=>rfl);(case hg=>rfl);(case hr=>(go_simp;done));(case hp=>exact (Reps.one (show Kd.M (Kd.int .i64) _ _ _ 4 [.int .i64 4] from rfl) (Reps.one (show Kd.M (Kd.int .i64) _ _ _ 8 [.int .i64 8] from rfl) (Reps.one (show Kd.M (Kd.int .i64) _ _ _ 1 [.int .i64 1] from rfl) (Reps.one (show Kd.M (Kd.int .i64) _ _ _ 5 [.int .i64 5] from rfl) (Reps.one (show Kd.M (Kd.int .i64) _ _ _ 16 [.int .i64 16] from rfl) (Reps.none _ _)))))));intro v216 w11 ho12 hb hg_ hnew_;clear hg_ hnew_;(rw [← Ny215.out] at ho12);replace HO209:=rB HO209 hb;have HO217:=aM (Kd.R_lower ho12 (keep_size (w:=w) (g:=g) (row:=none) HK.out));replace BK206:=bB BK206 hb;replace HK:=aM (KeepBut.trans HK.out (KeepBut.of_below hb g none) (.inl rfl));replace HB:=aM (below_step HB.out hb);replace HI0:=aM (IsS93.below HI0.out hb);clear hb ho12;obtain ⟨Ao13,co13,eo13⟩:=Kd.R_slice HO217.out;subst eo13)|((with_reducible refine gate_callee (f:=71) rfl ?_);refine goesL_ (some 23) rfl rfl Try.func71 (by kernel_rfl) rfl #[.pointer (some ⟨g,0,none⟩),.slice Ao13 y215.length co13] rfl (by (try simp only [List.map_toArray,List.map_cons,List.map_nil]);rfl) ?_;(with_reducible refine (spec_l1Int.calls g s0_0 t213 t214 _ _ y215 t218 t219 t220 w0 _ ?side1 ?side2 ?side3 ?side4 ?side5 A5.out).mono ?_);(case side1=>repeat ((with_reducible exact HI0.out)));(case side2=>repeat ((with_reducible exact HB.out)));(case side3=>exact sR HO217);(case side4=>exact (Kd.R_reads' HO217.out).2.1);(case side5=>exact far_slice (IsS93.own_ne HI0.out HO217.out (by decide)));rintro e w14 ⟨rfl,hi,hb,hk⟩;refine ⟨_,rfl,?_⟩;replace BK206:=aM (KeepBut.blk hk (g':=gb206) (o:=.cells #[.int .i64 0,.slice none 0 0] 26 (0,0)) (bk BK206) NB206_0.out (by simp));replace HO209:=aM (Kd.R_mono (Kd.R_keep (IsS93.apart (show IsS93 w0 _ g s0_0 t213 t214 from by exact HI0.out) (rR HO209) (by decide)) hk (fun _ h=>h.2)) (fun _ h=>h.1));replace HO217:=aM (Kd.R_mono (Kd.R_keep (IsS93.apart (show IsS93 w0 _ g s0_0 t213 t214 from by exact HI0.out) (rR HO217) (by decide)) hk (fun _ h=>h.2)) (fun _ h=>h.1));replace HK:=aM (KeepBut.trans HK.out hk (.inl rfl));replace HB:=aM (hb);replace HI0:=aM (hi);(try clear hb);(try clear hk);(try clear hi))|((with_reducible refine gate_callee (f:=32) rfl ?_);refine goesL_ (some 25) rfl rfl Try.func32 (by kernel_rfl) rfl #[.slice Ao10 t207.length co10,.int .i64 t218,.int .i64 (t207.length:Int)] rfl (by (try simp only [List.map_toArray,List.map_cons,List.map_nil]);rfl) ?_;(with_reducible refine (spec_Build.calls k _ _ t207 t218 (t207.length:Int) t221 t222 t225 _ ?side1 ?side2 A6.out).mono ?_);(case side1=>exact sR HO209);(case side2=>exact (Kd.R_reads' HO209.out).2.1);rintro e w15 ⟨v223,rfl,ho0,hb⟩;refine ⟨_,rfl,?_⟩;replace HO209:=rB HO209 hb;have HO224:=aM (Kd.S_lower (Kd.S_new' ho0 (Kd.R_lt (rR HO217))) (keep_size (w:=w) (g:=g) (row:=none) HK.out));replace HO217:=rB HO217 hb;replace BK206:=bB BK206 hb;replace HK:=aM (KeepBut.trans HK.out (KeepBut.of_below hb g none) (.inl rfl));replace HB:=aM (below_step HB.out hb);replace HI0:=aM (IsS93.below HI0.out hb);(try clear hb);(try clear ho0))|((with_reducible refine gate_dst (N:=6) rfl ?_);refine box_event ?hg (N:=6) ?hd (cs:=#[.int .i64 0,.slice none 0 0]) (t:=26) ?hr ?_;(case hd=>rfl);(case hg=>rfl);(case hr=>(go_simp;done));intro gb226 hg w16 hbox hb;replace HO209:=rB HO209 hb;replace HO217:=rB HO217 hb;replace HO224:=sB HO224 hb;replace HB:=aM (below_step HB.out hb);have BK226:=aM (hbox);have GW226:=aM ((by rw [hg];exact (keep_size (w:=w) (g:=g) (row:=none) HK.out):w.heap.size≤gb226));have GE226:=aM ((Nat.le_trans HW0.out (by rw [hg];exact (keep_size (w:=w) (g:=g) (row:=none) HK.out):w.heap.size≤gb226):w0.heap.size≤gb226));replace HK:=aM (KeepBut.trans HK.out (KeepBut.of_below hb g none) (.inl rfl));have NB206_226:=nL hg BK206;have NB226_206:=nG hg BK206;replace BK206:=bB BK206 hb;have NB0_226:=aM ((by rw [hg];exact Nat.ne_of_lt (IsS93.lt (show IsS93 w0 _ g s0_0 t219 t220 from by exact HI0.out)):g ≠ gb226));have NB226_0:=aM ((by rw [hg];exact Nat.ne_of_gt (IsS93.lt (show IsS93 w0 _ g s0_0 t219 t220 from by exact HI0.out)):gb226 ≠ g));replace HI0:=aM (IsS93.below HI0.out hb);clear hb hbox hg;have hnb17:=NB226_206.out;have hnc17:=NB206_226.out;have hnb18:=NB226_0.out;have hnc18:=NB0_226.out;obtain ⟨hcz19_0,hcz19_1,hfz19_0,hfz19_1⟩:=b2 BK226;obtain ⟨Ao20,co20,eo20⟩:=Kd.S_slice HO224.out;subst eo20))
  obtain ⟨w21,hW_⟩ : ∃ W_:World,W_=((w16.setCell ⟨gb226,0,none⟩ (.int .i64 t221)).setCell ⟨gb226,1,none⟩ (.slice Ao20 t222.length co20)):=⟨_,rfl⟩
  have n0_:Aside0 (Kd.R k61 61 w21 w.heap.size (fun _=>True) (.slice Ao10 t207.length co10) t207):=⟨by rw [hW_];exact Kd.R_mono (Kd.R_far (p:=⟨gb226,1,none⟩) (Kd.R_far (p:=⟨gb226,0,none⟩) (Kd.R_types HO209.out BK226.out (by decide)) (fun _ hk=>hk.2) (.int .i64 t221)) (fun _ hk=>hk.2) (.slice Ao20 t222.length co20)) (fun _ hk=>trivial)⟩
  have n1_:Aside0 (Kd.R (Kd.int .i64) 3 w21 w.heap.size (fun _=>True) (.slice Ao13 y215.length co13) y215):=⟨by rw [hW_];exact Kd.R_mono (Kd.R_far (p:=⟨gb226,1,none⟩) (Kd.R_far (p:=⟨gb226,0,none⟩) (Kd.R_types HO217.out BK226.out (by decide)) (fun _ hk=>hk.2) (.int .i64 t221)) (fun _ hk=>hk.2) (.slice Ao20 t222.length co20)) (fun _ hk=>trivial)⟩
  have n2_:Aside0 (Kd.S k35 35 w21 w.heap.size (fun k_=>some k_ ≠ (.slice Ao13 y215.length co13:Value).ownBlock) (.slice Ao20 t222.length co20) t222):=⟨by rw [hW_];exact Kd.S_mono (Kd.S_far (p:=⟨gb226,1,none⟩) (Kd.S_far (p:=⟨gb226,0,none⟩) (Kd.S_types HO224.out BK226.out (by decide)) (fun _ hk=>hk.2) (.int .i64 t221)) (fun _ hk=>hk.2) (.slice Ao20 t222.length co20)) (fun _ hk=>hk.1.2)⟩
  have n3_:Aside0 (w21.heap[gb206]?=some (.cells #[.int .i64 0,.slice none 0 0] 26 (0,0))):=⟨by rw [hW_];refine blk_far ?_ NB206_226.out _;refine blk_far ?_ NB206_226.out _;exact BK206.out⟩
  have n4_:Aside0 (w21.heap[gb226]?=some (.cells #[.int .i64 t221,.slice Ao20 t222.length co20] 26 (0,0))):=⟨by rw [hW_];refine blk_put (cs:=#[.int .i64 t221,.slice none 0 0]) ?_ 1 _ rfl;refine blk_put (cs:=#[.int .i64 0,.slice none 0 0]) ?_ 0 _ rfl;exact BK226.out⟩
  have n5_:Aside0 (IsS93 w0 w21 g s0_0 t219 t220):=⟨by rw [hW_];repeat ((with_reducible first|exact HI0.out|refine IsS93.far ?_ NB0_226.out _))⟩
  have n6_:Aside0 (KeepBut w w21 g none):=⟨by rw [hW_];repeat ((with_reducible first|exact HK.out|refine keep_far ?_ GW226.out _))⟩
  have n7_:Aside0 (Below w0.heap.size w0 w21):=⟨by rw [hW_];repeat ((with_reducible first|exact HB.out|refine below_set ?_ GE226.out))⟩
  (try clear HO209)
  (try clear HO217)
  (try clear HO224)
  (try clear BK206)
  (try clear BK226)
  (try clear HI0)
  (try clear HK)
  (try clear HB)
  rw [← hW_];clear hW_
  have HO209:=n0_;have HO217:=n1_;have HO224:=n2_;have BK206:=n3_;have BK226:=n4_;have HI0:=n5_;have HK:=n6_;have HB:=n7_;clear n0_ n1_ n2_ n3_ n4_ n5_ n6_ n7_;replace HO209:=aM (Kd.R_drew HO209.out);replace HO217:=aM (Kd.R_drew HO217.out);replace HO224:=aM (Kd.S_drew HO224.out);replace BK206:=aM (blk_drew BK206.out);replace BK226:=aM (blk_drew BK226.out);replace HI0:=aM (IsS93.drew HI0.out);replace HK:=aM (keep_drew HK.out);replace HB:=aM (below_drew1 HB.out)
  refine start_ (n:=4) (S:=fun w'=>w'.cell? ⟨gb226,0,none⟩=some (.int .i64 t221)∧w'.cell? ⟨gb226,1,none⟩=some (.slice Ao20 t222.length co20)) (ds:=[]) (fl 4 0) (by kernel_rfl) rfl rfl ⟨bq BK226 0,bq BK226 1⟩ (fun hHeld=>?_)
  generalize w21.drew=w22 at HO209 HO217 HO224 BK206 BK226 HI0 HK HB hHeld ⊢
  refine pu 0 28 (fl 4 1) ?_
  refine pu 2 2 (fl 4 5) ?_
  refine ta 1 29 (fl 4 7) hHeld ?_
  refine on 3 none (fl 4 15) (fun K hK=>?_)
  have hs23:w22.cell? ⟨gb206,0,none⟩=some (.int .i64 0):=(blk_cell BK206.out 0).trans rfl
  have hfs23:=blk_frozen BK206.out 0
  have hns23_1:=NB226_206.out
  have hms23_1:=NB206_226.out
  have hs24:w22.cell? ⟨gb206,1,none⟩=some (.slice none 0 0):=(blk_cell BK206.out 1).trans rfl
  have hfs24:=blk_frozen BK206.out 1
  have hns24_1:=NB226_206.out
  have hms24_1:=NB206_226.out
  refine skip_ (w1:=?_) (by rfl) rfl ?_ ?_
  rotate_left
  ·go_simp
   rfl
  refine hK.out _ _ ⟨((cell_far (p:=⟨gb206,_,none⟩) NB226_206.out _).trans (((cell_far (p:=⟨gb206,_,none⟩) NB226_206.out _).trans (hHeld.1)))),((cell_far (p:=⟨gb206,_,none⟩) NB226_206.out _).trans (((cell_far (p:=⟨gb206,_,none⟩) NB226_206.out _).trans (hHeld.2))))⟩ (fun hHeld=>?_)
  clear hK K
  refine done_ (by kernel_rfl) ?_
  try go_wp2
  refine bodyPost_ret (results_tc rfl _ _ gb206 26 #[.int .i64 t221,.slice Ao20 t222.length co20] (0,0) _ rfl (by refine blk_put (cs:=#[.int .i64 t221,.slice none 0 0]) ?_ 1 _ rfl;refine blk_put (cs:=#[.int .i64 0,.slice none 0 0]) ?_ 0 _ rfl;exact BK206.out) Try.underlying26 rfl (by kernel_rfl)) rfl ?_
  exact ⟨_,_,rz,by exact Kd.R_mono (Kd.R_far (p:=⟨gb206,1,none⟩) (Kd.R_far (p:=⟨gb206,0,none⟩) (Kd.R_types HO209.out BK206.out (by decide)) (fun _ hk=>hk.2) (.int .i64 t221)) (fun _ hk=>hk.2) (.slice Ao20 t222.length co20)) (fun _ hk=>trivial),by exact Kd.S_mono (Kd.S_far (p:=⟨gb206,1,none⟩) (Kd.S_far (p:=⟨gb206,0,none⟩) (Kd.S_types HO224.out BK206.out (by decide)) (fun _ hk=>hk.2) (.int .i64 t221)) (fun _ hk=>hk.2) (.slice Ao20 t222.length co20)) (fun _ hk=>trivial),by repeat ((with_reducible first|exact HI0.out|refine IsS93.far ?_ NB0_206.out _)),by repeat ((with_reducible first|exact HB.out|refine below_set ?_ GE206.out)),by repeat ((with_reducible first|exact HK.out|refine keep_far ?_ GW206.out _))⟩
 ·rw [if_neg c4] at H
  have c4b0:decide ((t207.length:Int) < (wrap64 (1+t212)))=false:=decide_eq_false c4
  clear c4
  obtain ⟨y227,hy227⟩ : ∃ y_:List Int,y_=(([4,8,1,5,16]:List Int)):=⟨_,rfl⟩
  replace H:((spec_l1Int.f s0_0 t213 t214 y227).bind fun bt230=>((spec_Build.f k t207 bt230.1 (wrap64 (1+t212))).bind fun bt233=>(some (t207,bt233.1,bt233.2.1,bt230.2.1,bt230.2.2))))=some (r1,r2,r3,r4,r5):=by (rw [hy227];with_reducible exact H)
  have Ny227:=aM hy227
  clear hy227
  replace H:=Option.bind_eq_some_iff.mp H
  obtain ⟨⟨t230,t231,t232⟩,A250,H⟩:=H
  try dsimp only at H
  have A25:=aM A250
  clear A250
  replace H:=Option.bind_eq_some_iff.mp H
  obtain ⟨⟨t233,t234,t237⟩,A260,H⟩:=H
  try dsimp only at H
  have A26:=aM A260
  clear A260
  simp only [Option.some.injEq,Prod.mk.injEq] at H
  obtain ⟨rfl,rfl,rfl,rfl,rfl⟩:=H
  go_enter Try.func37,Try.ntmps37
  try go_wp2_with (first|((with_reducible refine gate_dst (N:=3) rfl ?_);refine box_event ?hg (N:=3) ?hd (cs:=#[.int .i64 0,.slice none 0 0]) (t:=26) ?hr ?_;(case hd=>rfl);(case hg=>rfl);(case hr=>(go_simp;done));intro gb206 hg w27 hbox hb;replace HB:=aM (below_step HB.out hb);have BK206:=aM (hbox);have GW206:=aM ((by rw [hg];exact (keep_size (w:=w) (g:=g) (row:=none) HK.out):w.heap.size≤gb206));have GE206:=aM ((Nat.le_trans HW0.out (by rw [hg];exact (keep_size (w:=w) (g:=g) (row:=none) HK.out):w.heap.size≤gb206):w0.heap.size≤gb206));replace HK:=aM (KeepBut.trans HK.out (KeepBut.of_below hb g none) (.inl rfl));have NB0_206:=aM ((by rw [hg];exact Nat.ne_of_lt (IsS93.lt (show IsS93 w0 _ g s0_0 s0_1 s0_2 from by exact HI0.out)):g ≠ gb206));have NB206_0:=aM ((by rw [hg];exact Nat.ne_of_gt (IsS93.lt (show IsS93 w0 _ g s0_0 s0_1 s0_2 from by exact HI0.out)):gb206 ≠ g));replace HI0:=aM (IsS93.below HI0.out hb);clear hb hbox hg)|((with_reducible refine gate_callee (f:=73) rfl ?_);refine goesL_ (some 9) rfl rfl Try.func73 (by kernel_rfl) rfl #[.pointer (some ⟨g,0,none⟩)] rfl (by (try simp only [List.map_toArray,List.map_cons,List.map_nil]);rfl) ?_;(with_reducible refine (spec_l4Draw.calls k g s0_0 s0_1 s0_2 t207 t210 t211 w0 _ ?side1 ?side2 A2.out).mono ?_);(case side1=>repeat ((with_reducible exact HI0.out)));(case side2=>repeat ((with_reducible exact HB.out)));rintro e w28 ⟨v208,rfl,ho0,hi,hb,hk⟩;refine ⟨_,rfl,?_⟩;replace BK206:=aM (KeepBut.blk hk (g':=gb206) (o:=.cells #[.int .i64 0,.slice none 0 0] 26 (0,0)) (bk BK206) NB206_0.out (by simp));have HO209:=aM (Kd.R_lower ho0 (keep_size (w:=w) (g:=g) (row:=none) HK.out));replace HK:=aM (KeepBut.trans HK.out hk (.inl rfl));replace HB:=aM (hb);replace HI0:=aM (hi);(try clear hb);(try clear hk);(try clear hi);(try clear ho0))|((with_reducible refine gate_callee (f:=74) rfl ?_);refine goesL_ (some 11) rfl rfl Try.func74 (by kernel_rfl) rfl #[.pointer (some ⟨g,0,none⟩),.int .i64 3] rfl (by (try simp only [List.map_toArray,List.map_cons,List.map_nil]);rfl) ?_;(with_reducible refine (spec_l1Below.calls g s0_0 t210 t211 3 t212 t213 t214 w0 _ ?side1 ?side2 A3.out).mono ?_);(case side1=>repeat ((with_reducible exact HI0.out)));(case side2=>repeat ((with_reducible exact HB.out)));rintro e w29 ⟨rfl,hi,hb,hk⟩;refine ⟨_,rfl,?_⟩;replace BK206:=aM (KeepBut.blk hk (g':=gb206) (o:=.cells #[.int .i64 0,.slice none 0 0] 26 (0,0)) (bk BK206) NB206_0.out (by simp));replace HO209:=aM (Kd.R_mono (Kd.R_keep (IsS93.apart (show IsS93 w0 _ g s0_0 t210 t211 from by exact HI0.out) (rR HO209) (by decide)) hk (fun _ h=>h.2)) (fun _ h=>h.1));replace HK:=aM (KeepBut.trans HK.out hk (.inl rfl));replace HB:=aM (hb);replace HI0:=aM (hi);(try clear hb);(try clear hk);(try clear hi);obtain ⟨Ao30,co30,eo30⟩:=Kd.R_slice HO209.out;subst eo30)|((with_reducible refine gate_dst (N:=22) rfl ?_);refine Kd.R_lit (Kd.int .i64) _ 3 ?hg (N:=22) ?hd (xs:=([4,8,1,5,16]:List Int)) (inner:=[.int .i64 4,.int .i64 8,.int .i64 1,.int .i64 5,.int .i64 16]) (ok:=fun _=>True) (okp:=fun _=>True) ?hr ?hp (fun _ hk=>hk) trivial (Below.refl _ _) (Nat.le_refl _) (by simp) ?_;(case hd=>rfl);(case hg=>rfl);(case hr=>(go_simp;done));(case hp=>exact (Reps.one (show Kd.M (Kd.int .i64) _ _ _ 4 [.int .i64 4] from rfl) (Reps.one (show Kd.M (Kd.int .i64) _ _ _ 8 [.int .i64 8] from rfl) (Reps.one (show Kd.M (Kd.int .i64) _ _ _ 1 [.int .i64 1] from rfl) (Reps.one (show Kd.M (Kd.int .i64) _ _ _ 5 [.int .i64 5] from rfl) (Reps.one (show Kd.M (Kd.int .i64) _ _ _ 16 [.int .i64 16] from rfl) (Reps.none _ _)))))));intro v228 w31 ho32 hb hg_ hnew_;clear hg_ hnew_;(rw [← Ny227.out] at ho32);replace HO209:=rB HO209 hb;have HO229:=aM (Kd.R_lower ho32 (keep_size (w:=w) (g:=g) (row:=none) HK.out));replace BK206:=bB BK206 hb;replace HK:=aM (KeepBut.trans HK.out (KeepBut.of_below hb g none) (.inl rfl));replace HB:=aM (below_step HB.out hb);replace HI0:=aM (IsS93.below HI0.out hb);clear hb ho32;obtain ⟨Ao33,co33,eo33⟩:=Kd.R_slice HO229.out;subst eo33)|((with_reducible refine gate_callee (f:=71) rfl ?_);refine goesL_ (some 23) rfl rfl Try.func71 (by kernel_rfl) rfl #[.pointer (some ⟨g,0,none⟩),.slice Ao33 y227.length co33] rfl (by (try simp only [List.map_toArray,List.map_cons,List.map_nil]);rfl) ?_;(with_reducible refine (spec_l1Int.calls g s0_0 t213 t214 _ _ y227 t230 t231 t232 w0 _ ?side1 ?side2 ?side3 ?side4 ?side5 A25.out).mono ?_);(case side1=>repeat ((with_reducible exact HI0.out)));(case side2=>repeat ((with_reducible exact HB.out)));(case side3=>exact sR HO229);(case side4=>exact (Kd.R_reads' HO229.out).2.1);(case side5=>exact far_slice (IsS93.own_ne HI0.out HO229.out (by decide)));rintro e w34 ⟨rfl,hi,hb,hk⟩;refine ⟨_,rfl,?_⟩;replace BK206:=aM (KeepBut.blk hk (g':=gb206) (o:=.cells #[.int .i64 0,.slice none 0 0] 26 (0,0)) (bk BK206) NB206_0.out (by simp));replace HO209:=aM (Kd.R_mono (Kd.R_keep (IsS93.apart (show IsS93 w0 _ g s0_0 t213 t214 from by exact HI0.out) (rR HO209) (by decide)) hk (fun _ h=>h.2)) (fun _ h=>h.1));replace HO229:=aM (Kd.R_mono (Kd.R_keep (IsS93.apart (show IsS93 w0 _ g s0_0 t213 t214 from by exact HI0.out) (rR HO229) (by decide)) hk (fun _ h=>h.2)) (fun _ h=>h.1));replace HK:=aM (KeepBut.trans HK.out hk (.inl rfl));replace HB:=aM (hb);replace HI0:=aM (hi);(try clear hb);(try clear hk);(try clear hi))|((with_reducible refine gate_callee (f:=32) rfl ?_);refine goesL_ (some 25) rfl rfl Try.func32 (by kernel_rfl) rfl #[.slice Ao30 t207.length co30,.int .i64 t230,.int .i64 (wrap64 (1+t212))] rfl (by (try simp only [List.map_toArray,List.map_cons,List.map_nil]);rfl) ?_;(with_reducible refine (spec_Build.calls k _ _ t207 t230 (wrap64 (1+t212)) t233 t234 t237 _ ?side1 ?side2 A26.out).mono ?_);(case side1=>exact sR HO209);(case side2=>exact (Kd.R_reads' HO209.out).2.1);rintro e w35 ⟨v235,rfl,ho0,hb⟩;refine ⟨_,rfl,?_⟩;replace HO209:=rB HO209 hb;have HO236:=aM (Kd.S_lower (Kd.S_new' ho0 (Kd.R_lt (rR HO229))) (keep_size (w:=w) (g:=g) (row:=none) HK.out));replace HO229:=rB HO229 hb;replace BK206:=bB BK206 hb;replace HK:=aM (KeepBut.trans HK.out (KeepBut.of_below hb g none) (.inl rfl));replace HB:=aM (below_step HB.out hb);replace HI0:=aM (IsS93.below HI0.out hb);(try clear hb);(try clear ho0))|((with_reducible refine gate_dst (N:=6) rfl ?_);refine box_event ?hg (N:=6) ?hd (cs:=#[.int .i64 0,.slice none 0 0]) (t:=26) ?hr ?_;(case hd=>rfl);(case hg=>rfl);(case hr=>(go_simp;done));intro gb238 hg w36 hbox hb;replace HO209:=rB HO209 hb;replace HO229:=rB HO229 hb;replace HO236:=sB HO236 hb;replace HB:=aM (below_step HB.out hb);have BK238:=aM (hbox);have GW238:=aM ((by rw [hg];exact (keep_size (w:=w) (g:=g) (row:=none) HK.out):w.heap.size≤gb238));have GE238:=aM ((Nat.le_trans HW0.out (by rw [hg];exact (keep_size (w:=w) (g:=g) (row:=none) HK.out):w.heap.size≤gb238):w0.heap.size≤gb238));replace HK:=aM (KeepBut.trans HK.out (KeepBut.of_below hb g none) (.inl rfl));have NB206_238:=nL hg BK206;have NB238_206:=nG hg BK206;replace BK206:=bB BK206 hb;have NB0_238:=aM ((by rw [hg];exact Nat.ne_of_lt (IsS93.lt (show IsS93 w0 _ g s0_0 t231 t232 from by exact HI0.out)):g ≠ gb238));have NB238_0:=aM ((by rw [hg];exact Nat.ne_of_gt (IsS93.lt (show IsS93 w0 _ g s0_0 t231 t232 from by exact HI0.out)):gb238 ≠ g));replace HI0:=aM (IsS93.below HI0.out hb);clear hb hbox hg;have hnb37:=NB238_206.out;have hnc37:=NB206_238.out;have hnb38:=NB238_0.out;have hnc38:=NB0_238.out;obtain ⟨hcz39_0,hcz39_1,hfz39_0,hfz39_1⟩:=b2 BK238;obtain ⟨Ao40,co40,eo40⟩:=Kd.S_slice HO236.out;subst eo40))
  obtain ⟨w41,hW_⟩ : ∃ W_:World,W_=((w36.setCell ⟨gb238,0,none⟩ (.int .i64 t233)).setCell ⟨gb238,1,none⟩ (.slice Ao40 t234.length co40)):=⟨_,rfl⟩
  have n0_:Aside0 (Kd.R k61 61 w41 w.heap.size (fun _=>True) (.slice Ao30 t207.length co30) t207):=⟨by rw [hW_];exact Kd.R_mono (Kd.R_far (p:=⟨gb238,1,none⟩) (Kd.R_far (p:=⟨gb238,0,none⟩) (Kd.R_types HO209.out BK238.out (by decide)) (fun _ hk=>hk.2) (.int .i64 t233)) (fun _ hk=>hk.2) (.slice Ao40 t234.length co40)) (fun _ hk=>trivial)⟩
  have n1_:Aside0 (Kd.R (Kd.int .i64) 3 w41 w.heap.size (fun _=>True) (.slice Ao33 y227.length co33) y227):=⟨by rw [hW_];exact Kd.R_mono (Kd.R_far (p:=⟨gb238,1,none⟩) (Kd.R_far (p:=⟨gb238,0,none⟩) (Kd.R_types HO229.out BK238.out (by decide)) (fun _ hk=>hk.2) (.int .i64 t233)) (fun _ hk=>hk.2) (.slice Ao40 t234.length co40)) (fun _ hk=>trivial)⟩
  have n2_:Aside0 (Kd.S k35 35 w41 w.heap.size (fun k_=>some k_ ≠ (.slice Ao33 y227.length co33:Value).ownBlock) (.slice Ao40 t234.length co40) t234):=⟨by rw [hW_];exact Kd.S_mono (Kd.S_far (p:=⟨gb238,1,none⟩) (Kd.S_far (p:=⟨gb238,0,none⟩) (Kd.S_types HO236.out BK238.out (by decide)) (fun _ hk=>hk.2) (.int .i64 t233)) (fun _ hk=>hk.2) (.slice Ao40 t234.length co40)) (fun _ hk=>hk.1.2)⟩
  have n3_:Aside0 (w41.heap[gb206]?=some (.cells #[.int .i64 0,.slice none 0 0] 26 (0,0))):=⟨by rw [hW_];refine blk_far ?_ NB206_238.out _;refine blk_far ?_ NB206_238.out _;exact BK206.out⟩
  have n4_:Aside0 (w41.heap[gb238]?=some (.cells #[.int .i64 t233,.slice Ao40 t234.length co40] 26 (0,0))):=⟨by rw [hW_];refine blk_put (cs:=#[.int .i64 t233,.slice none 0 0]) ?_ 1 _ rfl;refine blk_put (cs:=#[.int .i64 0,.slice none 0 0]) ?_ 0 _ rfl;exact BK238.out⟩
  have n5_:Aside0 (IsS93 w0 w41 g s0_0 t231 t232):=⟨by rw [hW_];repeat ((with_reducible first|exact HI0.out|refine IsS93.far ?_ NB0_238.out _))⟩
  have n6_:Aside0 (KeepBut w w41 g none):=⟨by rw [hW_];repeat ((with_reducible first|exact HK.out|refine keep_far ?_ GW238.out _))⟩
  have n7_:Aside0 (Below w0.heap.size w0 w41):=⟨by rw [hW_];repeat ((with_reducible first|exact HB.out|refine below_set ?_ GE238.out))⟩
  (try clear HO209)
  (try clear HO229)
  (try clear HO236)
  (try clear BK206)
  (try clear BK238)
  (try clear HI0)
  (try clear HK)
  (try clear HB)
  rw [← hW_];clear hW_
  have HO209:=n0_;have HO229:=n1_;have HO236:=n2_;have BK206:=n3_;have BK238:=n4_;have HI0:=n5_;have HK:=n6_;have HB:=n7_;clear n0_ n1_ n2_ n3_ n4_ n5_ n6_ n7_;replace HO209:=aM (Kd.R_drew HO209.out);replace HO229:=aM (Kd.R_drew HO229.out);replace HO236:=aM (Kd.S_drew HO236.out);replace BK206:=aM (blk_drew BK206.out);replace BK238:=aM (blk_drew BK238.out);replace HI0:=aM (IsS93.drew HI0.out);replace HK:=aM (keep_drew HK.out);replace HB:=aM (below_drew1 HB.out)
  refine start_ (n:=4) (S:=fun w'=>w'.cell? ⟨gb238,0,none⟩=some (.int .i64 t233)∧w'.cell? ⟨gb238,1,none⟩=some (.slice Ao40 t234.length co40)) (ds:=[]) (fl 4 0) (by kernel_rfl) rfl rfl ⟨bq BK238 0,bq BK238 1⟩ (fun hHeld=>?_)
  generalize w41.drew=w42 at HO209 HO229 HO236 BK206 BK238 HI0 HK HB hHeld ⊢
  refine pu 0 28 (fl 4 1) ?_
  refine pu 2 2 (fl 4 5) ?_
  refine ta 1 29 (fl 4 7) hHeld ?_
  refine on 3 none (fl 4 15) (fun K hK=>?_)
  have hs43:w42.cell? ⟨gb206,0,none⟩=some (.int .i64 0):=(blk_cell BK206.out 0).trans rfl
  have hfs43:=blk_frozen BK206.out 0
  have hns43_1:=NB238_206.out
  have hms43_1:=NB206_238.out
  have hs44:w42.cell? ⟨gb206,1,none⟩=some (.slice none 0 0):=(blk_cell BK206.out 1).trans rfl
  have hfs44:=blk_frozen BK206.out 1
  have hns44_1:=NB238_206.out
  have hms44_1:=NB206_238.out
  refine skip_ (w1:=?_) (by rfl) rfl ?_ ?_
  rotate_left
  ·go_simp
   rfl
  refine hK.out _ _ ⟨((cell_far (p:=⟨gb206,_,none⟩) NB238_206.out _).trans (((cell_far (p:=⟨gb206,_,none⟩) NB238_206.out _).trans (hHeld.1)))),((cell_far (p:=⟨gb206,_,none⟩) NB238_206.out _).trans (((cell_far (p:=⟨gb206,_,none⟩) NB238_206.out _).trans (hHeld.2))))⟩ (fun hHeld=>?_)
  clear hK K
  refine done_ (by kernel_rfl) ?_
  try go_wp2
  refine bodyPost_ret (results_tc rfl _ _ gb206 26 #[.int .i64 t233,.slice Ao40 t234.length co40] (0,0) _ rfl (by refine blk_put (cs:=#[.int .i64 t233,.slice none 0 0]) ?_ 1 _ rfl;refine blk_put (cs:=#[.int .i64 0,.slice none 0 0]) ?_ 0 _ rfl;exact BK206.out) Try.underlying26 rfl (by kernel_rfl)) rfl ?_
  exact ⟨_,_,rz,by exact Kd.R_mono (Kd.R_far (p:=⟨gb206,1,none⟩) (Kd.R_far (p:=⟨gb206,0,none⟩) (Kd.R_types HO209.out BK206.out (by decide)) (fun _ hk=>hk.2) (.int .i64 t233)) (fun _ hk=>hk.2) (.slice Ao40 t234.length co40)) (fun _ hk=>trivial),by exact Kd.S_mono (Kd.S_far (p:=⟨gb206,1,none⟩) (Kd.S_far (p:=⟨gb206,0,none⟩) (Kd.S_types HO236.out BK206.out (by decide)) (fun _ hk=>hk.2) (.int .i64 t233)) (fun _ hk=>hk.2) (.slice Ao40 t234.length co40)) (fun _ hk=>trivial),by repeat ((with_reducible first|exact HI0.out|refine IsS93.far ?_ NB0_206.out _)),by repeat ((with_reducible first|exact HB.out|refine below_set ?_ GE206.out)),by repeat ((with_reducible first|exact HK.out|refine keep_far ?_ GW206.out _))⟩
def spec_l1Once.f (s0_0:List Int) (s0_1:Int) (s0_2:Int) (a1:Int):Option (Bool × Int × Int):=(spec_l1Below.f s0_0 s0_1 s0_2 a1).bind fun bt239=>(some ((bt239.1 == 0),bt239.2.1,bt239.2.2))
set_option maxHeartbeats 8000000 in
set_option maxRecDepth 100000 in
theorem spec_l1Once.calls (g:Nat) (s0_0:List Int) (s0_1:Int) (s0_2:Int) (a1:Int) (r1:Bool) (r2:Int) (r3:Int) (w0 w:World) (hI:IsS93 w0 w g s0_0 s0_1 s0_2) (hB:Below w0.heap.size w0 w) (h:spec_l1Once.f s0_0 s0_1 s0_2 a1=some (r1,r2,r3)) :
  Calls Try.prog 38 #[.pointer (some ⟨g,0,none⟩),.int .i64 a1] w fun e w'=>e = .returned (.bool r1)∧IsS93 w0 w' g s0_0 r2 r3∧Below w0.heap.size w0 w' ∧ KeepBut w w' g none:=by
 have HI0:=aM hI
 have HK:=aM (KeepBut.refl w g none)
 have HL:=aM hB.size
 clear hI
 have HW0:=aM hB.size
 have HB:=aM hB
 clear hB
 have H:((spec_l1Below.f s0_0 s0_1 s0_2 a1).bind fun bt239=>(some ((bt239.1 == 0),bt239.2.1,bt239.2.2)))=some (r1,r2,r3):=h
 clear h
 replace H:=Option.bind_eq_some_iff.mp H
 obtain ⟨⟨t239,t240,t241⟩,A30,H⟩:=H
 try dsimp only at H
 have A3:=aM A30
 clear A30
 simp only [Option.some.injEq,Prod.mk.injEq] at H
 obtain ⟨rfl,rfl,rfl⟩:=H
 go_enter Try.func38,Try.ntmps38
 go_wp2_with ((with_reducible refine gate_callee (f:=74) rfl ?_);refine goesL_ (some 7) rfl rfl Try.func74 (by kernel_rfl) rfl #[.pointer (some ⟨g,0,none⟩),.int .i64 a1] rfl (by (try simp only [List.map_toArray,List.map_cons,List.map_nil]);rfl) ?_;(with_reducible refine (spec_l1Below.calls g s0_0 s0_1 s0_2 a1 t239 t240 t241 w0 _ ?side1 ?side2 A3.out).mono ?_);(case side1=>repeat ((with_reducible exact HI0.out)));(case side2=>repeat ((with_reducible exact HB.out)));rintro e w4 ⟨rfl,hi,hb,hk⟩;refine ⟨_,rfl,?_⟩;replace HK:=aM (KeepBut.trans HK.out hk (.inl rfl));replace HB:=aM (hb);replace HI0:=aM (hi);(try clear hb);(try clear hk);(try clear hi))
 go_ret
 exact ⟨rz,by repeat ((with_reducible exact HI0.out)),by repeat ((with_reducible exact HB.out)),by repeat ((with_reducible exact HK.out))⟩
def spec_l4Any.f (k:Nat) (s0_0:List Int) (s0_1:Int) (s0_2:Int):Option ((List (S61)) × Int × Int):=(spec_l4Draw.f k s0_0 s0_1 s0_2).bind fun bt242=>((spec_l1Below.f s0_0 bt242.2.1 bt242.2.2 (bt242.1.length:Int)).bind fun bt247=>((spec_l1Below.f s0_0 bt247.2.1 bt247.2.2 12).bind fun bt250=>(if bt250.1=0 then ((spec_l1Int.f s0_0 bt250.2.1 bt250.2.2 (([(-1),0,20,21]:List Int))).bind fun bt256=>(if 0≤bt247.1 then (if bt247.1 < (bt242.1.length:Int) then (some ((bt242.1.set (bt247.1:Int).toNat (⟨bt256.1,(rd_T61 bt242.1 bt247.1).f1,(rd_T61 bt242.1 bt247.1).f2⟩:S61)),bt256.2.1,bt256.2.2)) else (none)) else (none))) else (if bt250.1=1 then ((spec_l1Int.f s0_0 bt250.2.1 bt250.2.2 (([(-1),20,21]:List Int))).bind fun bt263=>(if 0≤bt247.1 then (if bt247.1 < (bt242.1.length:Int) then (some ((bt242.1.set (bt247.1:Int).toNat (⟨(rd_T61 bt242.1 bt247.1).f0,bt263.1,(rd_T61 bt242.1 bt247.1).f2⟩:S61)),bt263.2.1,bt263.2.2)) else (none)) else (none))) else (if bt250.1=2 then ((spec_l1Int.f s0_0 bt250.2.1 bt250.2.2 (([0,1000,1001]:List Int))).bind fun bt270=>(if 0≤bt247.1 then (if bt247.1 < (bt242.1.length:Int) then (some ((bt242.1.set (bt247.1:Int).toNat (⟨(rd_T61 bt242.1 bt247.1).f0,(rd_T61 bt242.1 bt247.1).f1,bt270.1⟩:S61)),bt270.2.1,bt270.2.2)) else (none)) else (none))) else (if bt250.1=3 then (if 0≤(bt242.1.length:Int) then (some ((bt242.1.take (0:Int).toNat),bt250.2.1,bt250.2.2)) else (none)) else (some (bt242.1,bt250.2.1,bt250.2.2))))))))
set_option maxHeartbeats 8000000 in
set_option maxRecDepth 100000 in
theorem spec_l4Any.calls (k:Nat) (g:Nat) (s0_0:List Int) (s0_1:Int) (s0_2:Int) (r1:List (S61)) (r2:Int) (r3:Int) (w0 w:World) (hI:IsS93 w0 w g s0_0 s0_1 s0_2) (hB:Below w0.heap.size w0 w) (h:spec_l4Any.f k s0_0 s0_1 s0_2=some (r1,r2,r3)) :
  Calls Try.prog 70 #[.pointer (some ⟨g,0,none⟩)] w fun e w'=>∃ v0_:Value,e = .returned (v0_)∧Kd.R k61 61 w' w.heap.size (fun _=>True) v0_ r1∧IsS93 w0 w' g s0_0 r2 r3∧Below w0.heap.size w0 w' ∧ KeepBut w w' g none:=by
 have HI0:=aM hI
 have HK:=aM (KeepBut.refl w g none)
 have HL:=aM hB.size
 clear hI
 have HW0:=aM hB.size
 have HB:=aM hB
 clear hB
 have H:((spec_l4Draw.f k s0_0 s0_1 s0_2).bind fun bt242=>((spec_l1Below.f s0_0 bt242.2.1 bt242.2.2 (bt242.1.length:Int)).bind fun bt247=>((spec_l1Below.f s0_0 bt247.2.1 bt247.2.2 12).bind fun bt250=>(if bt250.1=0 then ((spec_l1Int.f s0_0 bt250.2.1 bt250.2.2 (([(-1),0,20,21]:List Int))).bind fun bt256=>(if 0≤bt247.1 then (if bt247.1 < (bt242.1.length:Int) then (some ((bt242.1.set (bt247.1:Int).toNat (⟨bt256.1,(rd_T61 bt242.1 bt247.1).f1,(rd_T61 bt242.1 bt247.1).f2⟩:S61)),bt256.2.1,bt256.2.2)) else (none)) else (none))) else (if bt250.1=1 then ((spec_l1Int.f s0_0 bt250.2.1 bt250.2.2 (([(-1),20,21]:List Int))).bind fun bt263=>(if 0≤bt247.1 then (if bt247.1 < (bt242.1.length:Int) then (some ((bt242.1.set (bt247.1:Int).toNat (⟨(rd_T61 bt242.1 bt247.1).f0,bt263.1,(rd_T61 bt242.1 bt247.1).f2⟩:S61)),bt263.2.1,bt263.2.2)) else (none)) else (none))) else (if bt250.1=2 then ((spec_l1Int.f s0_0 bt250.2.1 bt250.2.2 (([0,1000,1001]:List Int))).bind fun bt270=>(if 0≤bt247.1 then (if bt247.1 < (bt242.1.length:Int) then (some ((bt242.1.set (bt247.1:Int).toNat (⟨(rd_T61 bt242.1 bt247.1).f0,(rd_T61 bt242.1 bt247.1).f1,bt270.1⟩:S61)),bt270.2.1,bt270.2.2)) else (none)) else (none))) else (if bt250.1=3 then (if 0≤(bt242.1.length:Int) then (some ((bt242.1.take (0:Int).toNat),bt250.2.1,bt250.2.2)) else (none)) else (some (bt242.1,bt250.2.1,bt250.2.2)))))))))=some (r1,r2,r3):=h
 clear h
 replace H:=Option.bind_eq_some_iff.mp H
 obtain ⟨⟨t242,t245,t246⟩,A20,H⟩:=H
 try dsimp only at H
 have A2:=aM A20
 clear A20
 replace H:=Option.bind_eq_some_iff.mp H
 obtain ⟨⟨t247,t248,t249⟩,A30,H⟩:=H
 try dsimp only at H
 have A3:=aM A30
 clear A30
 replace H:=Option.bind_eq_some_iff.mp H
 obtain ⟨⟨t250,t251,t252⟩,A40,H⟩:=H
 try dsimp only at H
 have A4:=aM A40
 clear A40
 by_cases c5:t250=0
 ·rw [if_pos c5] at H
  have c5b0:(t250 == 0)=true:=beq_iff_eq.mpr c5
  have c5b1:(t250 != 0)=false:=bne_eq_false_iff_eq.mpr c5
  clear c5
  obtain ⟨y253,hy253⟩ : ∃ y_:List Int,y_=(([(-1),0,20,21]:List Int)):=⟨_,rfl⟩
  replace H:((spec_l1Int.f s0_0 t251 t252 y253).bind fun bt256=>(if 0≤t247 then (if t247 < (t242.length:Int) then (some ((t242.set (t247:Int).toNat (⟨bt256.1,(rd_T61 t242 t247).f1,(rd_T61 t242 t247).f2⟩:S61)),bt256.2.1,bt256.2.2)) else (none)) else (none)))=some (r1,r2,r3):=by (rw [hy253];with_reducible exact H)
  have Ny253:=aM hy253
  clear hy253
  replace H:=Option.bind_eq_some_iff.mp H
  obtain ⟨⟨t256,t257,t258⟩,A60,H⟩:=H
  try dsimp only at H
  have A6:=aM A60
  clear A60
  obtain ⟨c7,H⟩:=ifs H
  have c7b0:decide (0≤t247)=true:=decide_eq_true c7
  clear c7
  obtain ⟨c8,H⟩:=ifs H
  have c8b0:decide (t247 < (t242.length:Int))=true:=decide_eq_true c8
  clear c8
  obtain ⟨y259,hy259⟩ : ∃ y_:List (S61),y_=(t242.set (t247:Int).toNat (⟨t256,(rd_T61 t242 t247).f1,(rd_T61 t242 t247).f2⟩:S61)):=⟨_,rfl⟩
  replace H:(some (y259,t257,t258))=some (r1,r2,r3):=by (rw [hy259];with_reducible exact H)
  have Ny259:=aM hy259
  clear hy259
  simp only [Option.some.injEq,Prod.mk.injEq] at H
  obtain ⟨rfl,rfl,rfl⟩:=H
  go_enter Try.func70,Try.ntmps70
  go_wp2_with (first|((with_reducible refine gate_callee (f:=73) rfl ?_);refine goesL_ (some 6) rfl rfl Try.func73 (by kernel_rfl) rfl #[.pointer (some ⟨g,0,none⟩)] rfl (by (try simp only [List.map_toArray,List.map_cons,List.map_nil]);rfl) ?_;(with_reducible refine (spec_l4Draw.calls k g s0_0 s0_1 s0_2 t242 t245 t246 w0 _ ?side1 ?side2 A2.out).mono ?_);(case side1=>repeat ((with_reducible exact HI0.out)));(case side2=>repeat ((with_reducible exact HB.out)));rintro e w10 ⟨v243,rfl,ho0,hi,hb,hk⟩;refine ⟨_,rfl,?_⟩;have HO244:=aM (Kd.R_lower ho0 (keep_size (w:=w) (g:=g) (row:=none) HK.out));replace HK:=aM (KeepBut.trans HK.out hk (.inl rfl));replace HB:=aM (hb);replace HI0:=aM (hi);(try clear hb);(try clear hk);(try clear hi);(try clear ho0);obtain ⟨Ao11,co11,eo11⟩:=Kd.R_slice HO244.out;subst eo11)|((with_reducible refine gate_callee (f:=74) rfl ?_);refine goesL_ (some 10) rfl rfl Try.func74 (by kernel_rfl) rfl #[.pointer (some ⟨g,0,none⟩),.int .i64 (t242.length:Int)] rfl (by (try simp only [List.map_toArray,List.map_cons,List.map_nil]);rfl) ?_;(with_reducible refine (spec_l1Below.calls g s0_0 t245 t246 (t242.length:Int) t247 t248 t249 w0 _ ?side1 ?side2 A3.out).mono ?_);(case side1=>repeat ((with_reducible exact HI0.out)));(case side2=>repeat ((with_reducible exact HB.out)));rintro e w12 ⟨rfl,hi,hb,hk⟩;refine ⟨_,rfl,?_⟩;replace HO244:=aM (Kd.R_mono (Kd.R_keep (IsS93.apart (show IsS93 w0 _ g s0_0 t245 t246 from by exact HI0.out) (rR HO244) (by decide)) hk (fun _ h=>h.2)) (fun _ h=>h.1));replace HK:=aM (KeepBut.trans HK.out hk (.inl rfl));replace HB:=aM (hb);replace HI0:=aM (hi);(try clear hb);(try clear hk);(try clear hi))|((with_reducible refine gate_callee (f:=74) rfl ?_);refine goesL_ (some 12) rfl rfl Try.func74 (by kernel_rfl) rfl #[.pointer (some ⟨g,0,none⟩),.int .i64 12] rfl (by (try simp only [List.map_toArray,List.map_cons,List.map_nil]);rfl) ?_;(with_reducible refine (spec_l1Below.calls g s0_0 t248 t249 12 t250 t251 t252 w0 _ ?side1 ?side2 A4.out).mono ?_);(case side1=>repeat ((with_reducible exact HI0.out)));(case side2=>repeat ((with_reducible exact HB.out)));rintro e w13 ⟨rfl,hi,hb,hk⟩;refine ⟨_,rfl,?_⟩;replace HO244:=aM (Kd.R_mono (Kd.R_keep (IsS93.apart (show IsS93 w0 _ g s0_0 t248 t249 from by exact HI0.out) (rR HO244) (by decide)) hk (fun _ h=>h.2)) (fun _ h=>h.1));replace HK:=aM (KeepBut.trans HK.out hk (.inl rfl));replace HB:=aM (hb);replace HI0:=aM (hi);(try clear hb);(try clear hk);(try clear hi))|((with_reducible refine gate_dst (N:=18) rfl ?_);refine Kd.R_lit (Kd.int .i64) _ 3 ?hg (N:=18) ?hd (xs:=([(-1),0,20,21]:List Int)) (inner:=[.int .i64 (-1),.int .i64 0,.int .i64 20,.int .i64 21]) (ok:=fun _=>True) (okp:=fun _=>True) ?hr ?hp (fun _ hk=>hk) trivial (Below.refl _ _) (Nat.le_refl _) (by simp) ?_;(case hd=>rfl);(case hg=>rfl);(case hr=>(go_simp;done));(case hp=>exact (Reps.one (show Kd.M (Kd.int .i64) _ _ _ (-1) [.int .i64 (-1)] from rfl) (Reps.one (show Kd.M (Kd.int .i64) _ _ _ 0 [.int .i64 0] from rfl) (Reps.one (show Kd.M (Kd.int .i64) _ _ _ 20 [.int .i64 20] from rfl) (Reps.one (show Kd.M (Kd.int .i64) _ _ _ 21 [.int .i64 21] from rfl) (Reps.none _ _))))));intro v254 w14 ho15 hb hg_ hnew_;clear hg_ hnew_;(rw [← Ny253.out] at ho15);replace HO244:=rB HO244 hb;have HO255:=aM (Kd.R_lower ho15 (keep_size (w:=w) (g:=g) (row:=none) HK.out));replace HK:=aM (KeepBut.trans HK.out (KeepBut.of_below hb g none) (.inl rfl));replace HB:=aM (below_step HB.out hb);replace HI0:=aM (IsS93.below HI0.out hb);clear hb ho15;obtain ⟨Ao16,co16,eo16⟩:=Kd.R_slice HO255.out;subst eo16)|((with_reducible refine gate_callee (f:=71) rfl ?_);refine goesL_ (some 19) rfl rfl Try.func71 (by kernel_rfl) rfl #[.pointer (some ⟨g,0,none⟩),.slice Ao16 y253.length co16] rfl (by (try simp only [List.map_toArray,List.map_cons,List.map_nil]);rfl) ?_;(with_reducible refine (spec_l1Int.calls g s0_0 t251 t252 _ _ y253 t256 t257 t258 w0 _ ?side1 ?side2 ?side3 ?side4 ?side5 A6.out).mono ?_);(case side1=>repeat ((with_reducible exact HI0.out)));(case side2=>repeat ((with_reducible exact HB.out)));(case side3=>exact sR HO255);(case side4=>exact (Kd.R_reads' HO255.out).2.1);(case side5=>exact far_slice (IsS93.own_ne HI0.out HO255.out (by decide)));rintro e w17 ⟨rfl,hi,hb,hk⟩;refine ⟨_,rfl,?_⟩;replace HO244:=aM (Kd.R_mono (Kd.R_keep (IsS93.apart (show IsS93 w0 _ g s0_0 t251 t252 from by exact HI0.out) (rR HO244) (by decide)) hk (fun _ h=>h.2)) (fun _ h=>h.1));replace HK:=aM (KeepBut.trans HK.out hk (.inl rfl));replace HB:=aM (hb);replace HI0:=aM (hi);clear HO255;(try clear hb);(try clear hk);(try clear hi);have p9:0≤(t247:Int):=od;have q9:(t247:Int) < ((t242.length:Int):Int):=od;obtain ⟨go9,co9,eo9,gb9,gl9,cl9,HG9⟩:=Kd.R_form HO244.out (by omega);(cases eo9);have GB9:=aM gb9;have GG9:=aM HG9;clear gb9 gl9 HG9;obtain ⟨ce9,hcl9,hM9,hcc9,hfr9⟩:=Kd.R_elem HO244.out z61 (t247:Int) p9 q9;obtain rfl:=k61_openM hM9;have hx9_0:w17.cell? ⟨go9,(t247:Int).toNat * 3,none⟩=some (.int .i64 ((rd_T61 t242 t247).f0)):=hcc9 0 _ rfl;have hx9_1:w17.cell? ⟨go9,(t247:Int).toNat * 3+1,none⟩=some (.int .i64 ((rd_T61 t242 t247).f1)):=hcc9 1 _ rfl;have hx9_2:w17.cell? ⟨go9,(t247:Int).toNat * 3+2,none⟩=some (.int .i64 ((rd_T61 t242 t247).f2)):=hcc9 2 _ rfl;have hf9_0:w17.frozen? ⟨go9,(t247:Int).toNat * 3,none⟩=false:=hfr9 0;have hf9_1:w17.frozen? ⟨go9,(t247:Int).toNat * 3+1,none⟩=false:=hfr9 1;have hf9_2:w17.frozen? ⟨go9,(t247:Int).toNat * 3+2,none⟩=false:=hfr9 2;clear hcl9 hcc9 hfr9 hM9;replace p9:=eq_true p9;replace q9:=eq_true q9;have HX18:=aM (show Kd.R k61 61 w17 w.heap.size (fun _=>True) (.slice (some ⟨go9,0,none⟩) t242.length co11) t242 from (rR HO244));obtain ⟨ce18,hcl18,hM18,hcc18,hfr18⟩:=Kd.R_elem HX18.out z61 (t247:Int) od (by have h_:(t247:Int) < ((t242.length:Int):Int):=od;exact h_);obtain rfl:=k61_openM hM18;have HP18:=Kd.R_seg HX18.out (t247:Int) od (by have h_:(t247:Int) < ((t242.length:Int):Int):=od;exact h_) (seg:=[.int .i64 t256]) (j:=0) hcl18 hcc18 (show 1≤3 from by decide) (x':=(⟨t256,(rd_T61 t242 t247).f1,(rd_T61 t242 t247).f2⟩:S61)) (k61_mkM _ _ _ (⟨t256,(rd_T61 t242 t247).f1,(rd_T61 t242 t247).f2⟩:S61) ) (fun _ hk=>hk);have hx18_0:=hcc18 0 _ rfl;(try simp only [show (k61).sz=3 from rfl,Nat.mul_one,Nat.add_zero] at hx18_0);have hf18_0:=hfr18 0;(try simp only [show (k61).sz=3 from rfl,Nat.mul_one,Nat.add_zero] at hf18_0);clear hcl18 hcc18 hfr18 hM18)|((with_reducible refine gate_store (t:=3) (p:=21) rfl ?_);refine store_event (t:=3) (p:=21) (v:=?vo_w19) (w1:=(w17.setCell ⟨go9,(t247:Int).toNat * 3,none⟩ (.int .i64 t256))) ?hg ?ho ?hn ?hr ?_;(case ho=>rfl);(case hg=>rfl);(case hn=>rfl);(case hr=>(go_simp;done));intro w19 hw;have hg:w17.grownBy w19 (some go9):=(by rw [hw];exact HP18.2);have hp_:Kd.R k61 61 w19 w.heap.size (fun _=>True) (.slice (some ⟨go9,0,none⟩) t242.length co11) y259:=(by rw [hw,Ny259.out];exact HP18.1);clear HP18;replace HI0:=aM (IsS93.grown HI0.out hg (IsS93.own_ne HI0.out HO244.out (by decide)));replace HB:=aM ((by rw [hw];exact below_set (HB.out) (Nat.le_trans HL.out GB9.out):Below w0.heap.size w0 w19));replace HK:=aM (KeepBut.trans HK.out (KeepBut.of_grown hg g) (Kd.R_base2 HO244.out));replace HO244:=aM (hp_);clear hg hw hp_))
  go_ret
  exact ⟨_,rz,rR HO244,by repeat ((with_reducible exact HI0.out)),by repeat ((with_reducible exact HB.out)),by repeat ((with_reducible exact HK.out))⟩
 ·rw [if_neg c5] at H
  have c5b0:(t250 == 0)=false:=beq_eq_false_iff_ne.mpr c5
  have c5b1:(t250 != 0)=true:=bne_iff_ne.mpr c5
  by_cases c20:t250=1
  ·rw [if_pos c20] at H
   have c20b0:(t250 == 1)=true:=beq_iff_eq.mpr c20
   have c20b1:(t250 != 1)=false:=bne_eq_false_iff_eq.mpr c20
   clear c20
   obtain ⟨y260,hy260⟩ : ∃ y_:List Int,y_=(([(-1),20,21]:List Int)):=⟨_,rfl⟩
   replace H:((spec_l1Int.f s0_0 t251 t252 y260).bind fun bt263=>(if 0≤t247 then (if t247 < (t242.length:Int) then (some ((t242.set (t247:Int).toNat (⟨(rd_T61 t242 t247).f0,bt263.1,(rd_T61 t242 t247).f2⟩:S61)),bt263.2.1,bt263.2.2)) else (none)) else (none)))=some (r1,r2,r3):=by (rw [hy260];with_reducible exact H)
   have Ny260:=aM hy260
   clear hy260
   replace H:=Option.bind_eq_some_iff.mp H
   obtain ⟨⟨t263,t264,t265⟩,A210,H⟩:=H
   try dsimp only at H
   have A21:=aM A210
   clear A210
   obtain ⟨c22,H⟩:=ifs H
   have c22b0:decide (0≤t247)=true:=decide_eq_true c22
   clear c22
   obtain ⟨c23,H⟩:=ifs H
   have c23b0:decide (t247 < (t242.length:Int))=true:=decide_eq_true c23
   clear c23
   obtain ⟨y266,hy266⟩ : ∃ y_:List (S61),y_=(t242.set (t247:Int).toNat (⟨(rd_T61 t242 t247).f0,t263,(rd_T61 t242 t247).f2⟩:S61)):=⟨_,rfl⟩
   replace H:(some (y266,t264,t265))=some (r1,r2,r3):=by (rw [hy266];with_reducible exact H)
   have Ny266:=aM hy266
   clear hy266
   simp only [Option.some.injEq,Prod.mk.injEq] at H
   obtain ⟨rfl,rfl,rfl⟩:=H
   go_enter Try.func70,Try.ntmps70
   go_wp2_with (first|((with_reducible refine gate_callee (f:=73) rfl ?_);refine goesL_ (some 6) rfl rfl Try.func73 (by kernel_rfl) rfl #[.pointer (some ⟨g,0,none⟩)] rfl (by (try simp only [List.map_toArray,List.map_cons,List.map_nil]);rfl) ?_;(with_reducible refine (spec_l4Draw.calls k g s0_0 s0_1 s0_2 t242 t245 t246 w0 _ ?side1 ?side2 A2.out).mono ?_);(case side1=>repeat ((with_reducible exact HI0.out)));(case side2=>repeat ((with_reducible exact HB.out)));rintro e w25 ⟨v243,rfl,ho0,hi,hb,hk⟩;refine ⟨_,rfl,?_⟩;have HO244:=aM (Kd.R_lower ho0 (keep_size (w:=w) (g:=g) (row:=none) HK.out));replace HK:=aM (KeepBut.trans HK.out hk (.inl rfl));replace HB:=aM (hb);replace HI0:=aM (hi);(try clear hb);(try clear hk);(try clear hi);(try clear ho0);obtain ⟨Ao26,co26,eo26⟩:=Kd.R_slice HO244.out;subst eo26)|((with_reducible refine gate_callee (f:=74) rfl ?_);refine goesL_ (some 10) rfl rfl Try.func74 (by kernel_rfl) rfl #[.pointer (some ⟨g,0,none⟩),.int .i64 (t242.length:Int)] rfl (by (try simp only [List.map_toArray,List.map_cons,List.map_nil]);rfl) ?_;(with_reducible refine (spec_l1Below.calls g s0_0 t245 t246 (t242.length:Int) t247 t248 t249 w0 _ ?side1 ?side2 A3.out).mono ?_);(case side1=>repeat ((with_reducible exact HI0.out)));(case side2=>repeat ((with_reducible exact HB.out)));rintro e w27 ⟨rfl,hi,hb,hk⟩;refine ⟨_,rfl,?_⟩;replace HO244:=aM (Kd.R_mono (Kd.R_keep (IsS93.apart (show IsS93 w0 _ g s0_0 t245 t246 from by exact HI0.out) (rR HO244) (by decide)) hk (fun _ h=>h.2)) (fun _ h=>h.1));replace HK:=aM (KeepBut.trans HK.out hk (.inl rfl));replace HB:=aM (hb);replace HI0:=aM (hi);(try clear hb);(try clear hk);(try clear hi))|((with_reducible refine gate_callee (f:=74) rfl ?_);refine goesL_ (some 12) rfl rfl Try.func74 (by kernel_rfl) rfl #[.pointer (some ⟨g,0,none⟩),.int .i64 12] rfl (by (try simp only [List.map_toArray,List.map_cons,List.map_nil]);rfl) ?_;(with_reducible refine (spec_l1Below.calls g s0_0 t248 t249 12 t250 t251 t252 w0 _ ?side1 ?side2 A4.out).mono ?_);(case side1=>repeat ((with_reducible exact HI0.out)));(case side2=>repeat ((with_reducible exact HB.out)));rintro e w28 ⟨rfl,hi,hb,hk⟩;refine ⟨_,rfl,?_⟩;replace HO244:=aM (Kd.R_mono (Kd.R_keep (IsS93.apart (show IsS93 w0 _ g s0_0 t248 t249 from by exact HI0.out) (rR HO244) (by decide)) hk (fun _ h=>h.2)) (fun _ h=>h.1));replace HK:=aM (KeepBut.trans HK.out hk (.inl rfl));replace HB:=aM (hb);replace HI0:=aM (hi);(try clear hb);(try clear hk);(try clear hi))|((with_reducible refine gate_dst (N:=27) rfl ?_);refine Kd.R_lit (Kd.int .i64) _ 3 ?hg (N:=27) ?hd (xs:=([(-1),20,21]:List Int)) (inner:=[.int .i64 (-1),.int .i64 20,.int .i64 21]) (ok:=fun _=>True) (okp:=fun _=>True) ?hr ?hp (fun _ hk=>hk) trivial (Below.refl _ _) (Nat.le_refl _) (by simp) ?_;(case hd=>rfl);(case hg=>rfl);(case hr=>(go_simp;done));(case hp=>exact (Reps.one (show Kd.M (Kd.int .i64) _ _ _ (-1) [.int .i64 (-1)] from rfl) (Reps.one (show Kd.M (Kd.int .i64) _ _ _ 20 [.int .i64 20] from rfl) (Reps.one (show Kd.M (Kd.int .i64) _ _ _ 21 [.int .i64 21] from rfl) (Reps.none _ _)))));intro v261 w29 ho30 hb hg_ hnew_;clear hg_ hnew_;(rw [← Ny260.out] at ho30);replace HO244:=rB HO244 hb;have HO262:=aM (Kd.R_lower ho30 (keep_size (w:=w) (g:=g) (row:=none) HK.out));replace HK:=aM (KeepBut.trans HK.out (KeepBut.of_below hb g none) (.inl rfl));replace HB:=aM (below_step HB.out hb);replace HI0:=aM (IsS93.below HI0.out hb);clear hb ho30;obtain ⟨Ao31,co31,eo31⟩:=Kd.R_slice HO262.out;subst eo31)|((with_reducible refine gate_callee (f:=71) rfl ?_);refine goesL_ (some 28) rfl rfl Try.func71 (by kernel_rfl) rfl #[.pointer (some ⟨g,0,none⟩),.slice Ao31 y260.length co31] rfl (by (try simp only [List.map_toArray,List.map_cons,List.map_nil]);rfl) ?_;(with_reducible refine (spec_l1Int.calls g s0_0 t251 t252 _ _ y260 t263 t264 t265 w0 _ ?side1 ?side2 ?side3 ?side4 ?side5 A21.out).mono ?_);(case side1=>repeat ((with_reducible exact HI0.out)));(case side2=>repeat ((with_reducible exact HB.out)));(case side3=>exact sR HO262);(case side4=>exact (Kd.R_reads' HO262.out).2.1);(case side5=>exact far_slice (IsS93.own_ne HI0.out HO262.out (by decide)));rintro e w32 ⟨rfl,hi,hb,hk⟩;refine ⟨_,rfl,?_⟩;replace HO244:=aM (Kd.R_mono (Kd.R_keep (IsS93.apart (show IsS93 w0 _ g s0_0 t251 t252 from by exact HI0.out) (rR HO244) (by decide)) hk (fun _ h=>h.2)) (fun _ h=>h.1));replace HK:=aM (KeepBut.trans HK.out hk (.inl rfl));replace HB:=aM (hb);replace HI0:=aM (hi);clear HO262;(try clear hb);(try clear hk);(try clear hi);have p24:0≤(t247:Int):=od;have q24:(t247:Int) < ((t242.length:Int):Int):=od;obtain ⟨go24,co24,eo24,gb24,gl24,cl24,HG24⟩:=Kd.R_form HO244.out (by omega);(cases eo24);have GB24:=aM gb24;have GG24:=aM HG24;clear gb24 gl24 HG24;obtain ⟨ce24,hcl24,hM24,hcc24,hfr24⟩:=Kd.R_elem HO244.out z61 (t247:Int) p24 q24;obtain rfl:=k61_openM hM24;have hx24_0:w32.cell? ⟨go24,(t247:Int).toNat * 3,none⟩=some (.int .i64 ((rd_T61 t242 t247).f0)):=hcc24 0 _ rfl;have hx24_1:w32.cell? ⟨go24,(t247:Int).toNat * 3+1,none⟩=some (.int .i64 ((rd_T61 t242 t247).f1)):=hcc24 1 _ rfl;have hx24_2:w32.cell? ⟨go24,(t247:Int).toNat * 3+2,none⟩=some (.int .i64 ((rd_T61 t242 t247).f2)):=hcc24 2 _ rfl;have hf24_0:w32.frozen? ⟨go24,(t247:Int).toNat * 3,none⟩=false:=hfr24 0;have hf24_1:w32.frozen? ⟨go24,(t247:Int).toNat * 3+1,none⟩=false:=hfr24 1;have hf24_2:w32.frozen? ⟨go24,(t247:Int).toNat * 3+2,none⟩=false:=hfr24 2;clear hcl24 hcc24 hfr24 hM24;replace p24:=eq_true p24;replace q24:=eq_true q24;have HX33:=aM (show Kd.R k61 61 w32 w.heap.size (fun _=>True) (.slice (some ⟨go24,0,none⟩) t242.length co26) t242 from (rR HO244));obtain ⟨ce33,hcl33,hM33,hcc33,hfr33⟩:=Kd.R_elem HX33.out z61 (t247:Int) od (by have h_:(t247:Int) < ((t242.length:Int):Int):=od;exact h_);obtain rfl:=k61_openM hM33;have HP33:=Kd.R_seg HX33.out (t247:Int) od (by have h_:(t247:Int) < ((t242.length:Int):Int):=od;exact h_) (seg:=[.int .i64 t263]) (j:=1) hcl33 hcc33 (show 2≤3 from by decide) (x':=(⟨(rd_T61 t242 t247).f0,t263,(rd_T61 t242 t247).f2⟩:S61)) (k61_mkM _ _ _ (⟨(rd_T61 t242 t247).f0,t263,(rd_T61 t242 t247).f2⟩:S61) ) (fun _ hk=>hk);have hx33_1:=hcc33 1 _ rfl;(try simp only [show (k61).sz=3 from rfl,Nat.mul_one,Nat.add_zero] at hx33_1);have hf33_1:=hfr33 1;(try simp only [show (k61).sz=3 from rfl,Nat.mul_one,Nat.add_zero] at hf33_1);clear hcl33 hcc33 hfr33 hM33)|((with_reducible refine gate_store (t:=3) (p:=30) rfl ?_);refine store_event (t:=3) (p:=30) (v:=?vo_w34) (w1:=(w32.setCell ⟨go24,(t247:Int).toNat * 3+1,none⟩ (.int .i64 t263))) ?hg ?ho ?hn ?hr ?_;(case ho=>rfl);(case hg=>rfl);(case hn=>rfl);(case hr=>(go_simp;done));intro w34 hw;have hg:w32.grownBy w34 (some go24):=(by rw [hw];exact HP33.2);have hp_:Kd.R k61 61 w34 w.heap.size (fun _=>True) (.slice (some ⟨go24,0,none⟩) t242.length co26) y266:=(by rw [hw,Ny266.out];exact HP33.1);clear HP33;replace HI0:=aM (IsS93.grown HI0.out hg (IsS93.own_ne HI0.out HO244.out (by decide)));replace HB:=aM ((by rw [hw];exact below_set (HB.out) (Nat.le_trans HL.out GB24.out):Below w0.heap.size w0 w34));replace HK:=aM (KeepBut.trans HK.out (KeepBut.of_grown hg g) (Kd.R_base2 HO244.out));replace HO244:=aM (hp_);clear hg hw hp_))
   go_ret
   exact ⟨_,rz,rR HO244,by repeat ((with_reducible exact HI0.out)),by repeat ((with_reducible exact HB.out)),by repeat ((with_reducible exact HK.out))⟩
  ·rw [if_neg c20] at H
   have c20b0:(t250 == 1)=false:=beq_eq_false_iff_ne.mpr c20
   have c20b1:(t250 != 1)=true:=bne_iff_ne.mpr c20
   by_cases c35:t250=2
   ·rw [if_pos c35] at H
    have c35b0:(t250 == 2)=true:=beq_iff_eq.mpr c35
    have c35b1:(t250 != 2)=false:=bne_eq_false_iff_eq.mpr c35
    clear c35
    obtain ⟨y267,hy267⟩ : ∃ y_:List Int,y_=(([0,1000,1001]:List Int)):=⟨_,rfl⟩
    replace H:((spec_l1Int.f s0_0 t251 t252 y267).bind fun bt270=>(if 0≤t247 then (if t247 < (t242.length:Int) then (some ((t242.set (t247:Int).toNat (⟨(rd_T61 t242 t247).f0,(rd_T61 t242 t247).f1,bt270.1⟩:S61)),bt270.2.1,bt270.2.2)) else (none)) else (none)))=some (r1,r2,r3):=by (rw [hy267];with_reducible exact H)
    have Ny267:=aM hy267
    clear hy267
    replace H:=Option.bind_eq_some_iff.mp H
    obtain ⟨⟨t270,t271,t272⟩,A360,H⟩:=H
    try dsimp only at H
    have A36:=aM A360
    clear A360
    obtain ⟨c37,H⟩:=ifs H
    have c37b0:decide (0≤t247)=true:=decide_eq_true c37
    clear c37
    obtain ⟨c38,H⟩:=ifs H
    have c38b0:decide (t247 < (t242.length:Int))=true:=decide_eq_true c38
    clear c38
    obtain ⟨y273,hy273⟩ : ∃ y_:List (S61),y_=(t242.set (t247:Int).toNat (⟨(rd_T61 t242 t247).f0,(rd_T61 t242 t247).f1,t270⟩:S61)):=⟨_,rfl⟩
    replace H:(some (y273,t271,t272))=some (r1,r2,r3):=by (rw [hy273];with_reducible exact H)
    have Ny273:=aM hy273
    clear hy273
    simp only [Option.some.injEq,Prod.mk.injEq] at H
    obtain ⟨rfl,rfl,rfl⟩:=H
    go_enter Try.func70,Try.ntmps70
    go_wp2_with (first|((with_reducible refine gate_callee (f:=73) rfl ?_);refine goesL_ (some 6) rfl rfl Try.func73 (by kernel_rfl) rfl #[.pointer (some ⟨g,0,none⟩)] rfl (by (try simp only [List.map_toArray,List.map_cons,List.map_nil]);rfl) ?_;(with_reducible refine (spec_l4Draw.calls k g s0_0 s0_1 s0_2 t242 t245 t246 w0 _ ?side1 ?side2 A2.out).mono ?_);(case side1=>repeat ((with_reducible exact HI0.out)));(case side2=>repeat ((with_reducible exact HB.out)));rintro e w40 ⟨v243,rfl,ho0,hi,hb,hk⟩;refine ⟨_,rfl,?_⟩;have HO244:=aM (Kd.R_lower ho0 (keep_size (w:=w) (g:=g) (row:=none) HK.out));replace HK:=aM (KeepBut.trans HK.out hk (.inl rfl));replace HB:=aM (hb);replace HI0:=aM (hi);(try clear hb);(try clear hk);(try clear hi);(try clear ho0);obtain ⟨Ao41,co41,eo41⟩:=Kd.R_slice HO244.out;subst eo41)|((with_reducible refine gate_callee (f:=74) rfl ?_);refine goesL_ (some 10) rfl rfl Try.func74 (by kernel_rfl) rfl #[.pointer (some ⟨g,0,none⟩),.int .i64 (t242.length:Int)] rfl (by (try simp only [List.map_toArray,List.map_cons,List.map_nil]);rfl) ?_;(with_reducible refine (spec_l1Below.calls g s0_0 t245 t246 (t242.length:Int) t247 t248 t249 w0 _ ?side1 ?side2 A3.out).mono ?_);(case side1=>repeat ((with_reducible exact HI0.out)));(case side2=>repeat ((with_reducible exact HB.out)));rintro e w42 ⟨rfl,hi,hb,hk⟩;refine ⟨_,rfl,?_⟩;replace HO244:=aM (Kd.R_mono (Kd.R_keep (IsS93.apart (show IsS93 w0 _ g s0_0 t245 t246 from by exact HI0.out) (rR HO244) (by decide)) hk (fun _ h=>h.2)) (fun _ h=>h.1));replace HK:=aM (KeepBut.trans HK.out hk (.inl rfl));replace HB:=aM (hb);replace HI0:=aM (hi);(try clear hb);(try clear hk);(try clear hi))|((with_reducible refine gate_callee (f:=74) rfl ?_);refine goesL_ (some 12) rfl rfl Try.func74 (by kernel_rfl) rfl #[.pointer (some ⟨g,0,none⟩),.int .i64 12] rfl (by (try simp only [List.map_toArray,List.map_cons,List.map_nil]);rfl) ?_;(with_reducible refine (spec_l1Below.calls g s0_0 t248 t249 12 t250 t251 t252 w0 _ ?side1 ?side2 A4.out).mono ?_);(case side1=>repeat ((with_reducible exact HI0.out)));(case side2=>repeat ((with_reducible exact HB.out)));rintro e w43 ⟨rfl,hi,hb,hk⟩;refine ⟨_,rfl,?_⟩;replace HO244:=aM (Kd.R_mono (Kd.R_keep (IsS93.apart (show IsS93 w0 _ g s0_0 t248 t249 from by exact HI0.out) (rR HO244) (by decide)) hk (fun _ h=>h.2)) (fun _ h=>h.1));replace HK:=aM (KeepBut.trans HK.out hk (.inl rfl));replace HB:=aM (hb);replace HI0:=aM (hi);(try clear hb);(try clear hk);(try clear hi))|((with_reducible refine gate_dst (N:=36) rfl ?_);refine Kd.R_lit (Kd.int .i64) _ 3 ?hg (N:=36) ?hd (xs:=([0,1000,1001]:List Int)) (inner:=[.int .i64 0,.int .i64 1000,.int .i64 1001]) (ok:=fun _=>True) (okp:=fun _=>True) ?hr ?hp (fun _ hk=>hk) trivial (Below.refl _ _) (Nat.le_refl _) (by simp) ?_;(case hd=>rfl);(case hg=>rfl);(case hr=>(go_simp;done));(case hp=>exact (Reps.one (show Kd.M (Kd.int .i64) _ _ _ 0 [.int .i64 0] from rfl) (Reps.one (show Kd.M (Kd.int .i64) _ _ _ 1000 [.int .i64 1000] from rfl) (Reps.one (show Kd.M (Kd.int .i64) _ _ _ 1001 [.int .i64 1001] from rfl) (Reps.none _ _)))));intro v268 w44 ho45 hb hg_ hnew_;clear hg_ hnew_;(rw [← Ny267.out] at ho45);replace HO244:=rB HO244 hb;have HO269:=aM (Kd.R_lower ho45 (keep_size (w:=w) (g:=g) (row:=none) HK.out));replace HK:=aM (KeepBut.trans HK.out (KeepBut.of_below hb g none) (.inl rfl));replace HB:=aM (below_step HB.out hb);replace HI0:=aM (IsS93.below HI0.out hb);clear hb ho45;obtain ⟨Ao46,co46,eo46⟩:=Kd.R_slice HO269.out;subst eo46)|((with_reducible refine gate_callee (f:=71) rfl ?_);refine goesL_ (some 37) rfl rfl Try.func71 (by kernel_rfl) rfl #[.pointer (some ⟨g,0,none⟩),.slice Ao46 y267.length co46] rfl (by (try simp only [List.map_toArray,List.map_cons,List.map_nil]);rfl) ?_;(with_reducible refine (spec_l1Int.calls g s0_0 t251 t252 _ _ y267 t270 t271 t272 w0 _ ?side1 ?side2 ?side3 ?side4 ?side5 A36.out).mono ?_);(case side1=>repeat ((with_reducible exact HI0.out)));(case side2=>repeat ((with_reducible exact HB.out)));(case side3=>exact sR HO269);(case side4=>exact (Kd.R_reads' HO269.out).2.1);(case side5=>exact far_slice (IsS93.own_ne HI0.out HO269.out (by decide)));rintro e w47 ⟨rfl,hi,hb,hk⟩;refine ⟨_,rfl,?_⟩;replace HO244:=aM (Kd.R_mono (Kd.R_keep (IsS93.apart (show IsS93 w0 _ g s0_0 t251 t252 from by exact HI0.out) (rR HO244) (by decide)) hk (fun _ h=>h.2)) (fun _ h=>h.1));replace HK:=aM (KeepBut.trans HK.out hk (.inl rfl));replace HB:=aM (hb);replace HI0:=aM (hi);clear HO269;(try clear hb);(try clear hk);(try clear hi);have p39:0≤(t247:Int):=od;have q39:(t247:Int) < ((t242.length:Int):Int):=od;obtain ⟨go39,co39,eo39,gb39,gl39,cl39,HG39⟩:=Kd.R_form HO244.out (by omega);(cases eo39);have GB39:=aM gb39;have GG39:=aM HG39;clear gb39 gl39 HG39;obtain ⟨ce39,hcl39,hM39,hcc39,hfr39⟩:=Kd.R_elem HO244.out z61 (t247:Int) p39 q39;obtain rfl:=k61_openM hM39;have hx39_0:w47.cell? ⟨go39,(t247:Int).toNat * 3,none⟩=some (.int .i64 ((rd_T61 t242 t247).f0)):=hcc39 0 _ rfl;have hx39_1:w47.cell? ⟨go39,(t247:Int).toNat * 3+1,none⟩=some (.int .i64 ((rd_T61 t242 t247).f1)):=hcc39 1 _ rfl;have hx39_2:w47.cell? ⟨go39,(t247:Int).toNat * 3+2,none⟩=some (.int .i64 ((rd_T61 t242 t247).f2)):=hcc39 2 _ rfl;have hf39_0:w47.frozen? ⟨go39,(t247:Int).toNat * 3,none⟩=false:=hfr39 0;have hf39_1:w47.frozen? ⟨go39,(t247:Int).toNat * 3+1,none⟩=false:=hfr39 1;have hf39_2:w47.frozen? ⟨go39,(t247:Int).toNat * 3+2,none⟩=false:=hfr39 2;clear hcl39 hcc39 hfr39 hM39;replace p39:=eq_true p39;replace q39:=eq_true q39;have HX48:=aM (show Kd.R k61 61 w47 w.heap.size (fun _=>True) (.slice (some ⟨go39,0,none⟩) t242.length co41) t242 from (rR HO244));obtain ⟨ce48,hcl48,hM48,hcc48,hfr48⟩:=Kd.R_elem HX48.out z61 (t247:Int) od (by have h_:(t247:Int) < ((t242.length:Int):Int):=od;exact h_);obtain rfl:=k61_openM hM48;have HP48:=Kd.R_seg HX48.out (t247:Int) od (by have h_:(t247:Int) < ((t242.length:Int):Int):=od;exact h_) (seg:=[.int .i64 t270]) (j:=2) hcl48 hcc48 (show 3≤3 from by decide) (x':=(⟨(rd_T61 t242 t247).f0,(rd_T61 t242 t247).f1,t270⟩:S61)) (k61_mkM _ _ _ (⟨(rd_T61 t242 t247).f0,(rd_T61 t242 t247).f1,t270⟩:S61) ) (fun _ hk=>hk);have hx48_2:=hcc48 2 _ rfl;(try simp only [show (k61).sz=3 from rfl,Nat.mul_one,Nat.add_zero] at hx48_2);have hf48_2:=hfr48 2;(try simp only [show (k61).sz=3 from rfl,Nat.mul_one,Nat.add_zero] at hf48_2);clear hcl48 hcc48 hfr48 hM48)|((with_reducible refine gate_store (t:=3) (p:=39) rfl ?_);refine store_event (t:=3) (p:=39) (v:=?vo_w49) (w1:=(w47.setCell ⟨go39,(t247:Int).toNat * 3+2,none⟩ (.int .i64 t270))) ?hg ?ho ?hn ?hr ?_;(case ho=>rfl);(case hg=>rfl);(case hn=>rfl);(case hr=>(go_simp;done));intro w49 hw;have hg:w47.grownBy w49 (some go39):=(by rw [hw];exact HP48.2);have hp_:Kd.R k61 61 w49 w.heap.size (fun _=>True) (.slice (some ⟨go39,0,none⟩) t242.length co41) y273:=(by rw [hw,Ny273.out];exact HP48.1);clear HP48;replace HI0:=aM (IsS93.grown HI0.out hg (IsS93.own_ne HI0.out HO244.out (by decide)));replace HB:=aM ((by rw [hw];exact below_set (HB.out) (Nat.le_trans HL.out GB39.out):Below w0.heap.size w0 w49));replace HK:=aM (KeepBut.trans HK.out (KeepBut.of_grown hg g) (Kd.R_base2 HO244.out));replace HO244:=aM (hp_);clear hg hw hp_))
    go_ret
    exact ⟨_,rz,rR HO244,by repeat ((with_reducible exact HI0.out)),by repeat ((with_reducible exact HB.out)),by repeat ((with_reducible exact HK.out))⟩
   ·rw [if_neg c35] at H
    have c35b0:(t250 == 2)=false:=beq_eq_false_iff_ne.mpr c35
    have c35b1:(t250 != 2)=true:=bne_iff_ne.mpr c35
    by_cases c50:t250=3
    ·rw [if_pos c50] at H
     have c50b0:(t250 == 3)=true:=beq_iff_eq.mpr c50
     have c50b1:(t250 != 3)=false:=bne_eq_false_iff_eq.mpr c50
     clear c50
     obtain ⟨c51,H⟩:=ifs H
     have c51b0:=eq_true c51
     have c51b1:decide (0≤(t242.length:Int))=true:=decide_eq_true c51
     clear c51
     obtain ⟨y274,hy274⟩ : ∃ y_:List (S61),y_=(t242.take (0:Int).toNat):=⟨_,rfl⟩
     replace H:(some (y274,t251,t252))=some (r1,r2,r3):=by (rw [hy274];with_reducible exact H)
     have Ny274:=aM hy274
     clear hy274
     simp only [Option.some.injEq,Prod.mk.injEq] at H
     obtain ⟨rfl,rfl,rfl⟩:=H
     go_enter Try.func70,Try.ntmps70
     go_wp2_with (first|((with_reducible refine gate_callee (f:=73) rfl ?_);refine goesL_ (some 6) rfl rfl Try.func73 (by kernel_rfl) rfl #[.pointer (some ⟨g,0,none⟩)] rfl (by (try simp only [List.map_toArray,List.map_cons,List.map_nil]);rfl) ?_;(with_reducible refine (spec_l4Draw.calls k g s0_0 s0_1 s0_2 t242 t245 t246 w0 _ ?side1 ?side2 A2.out).mono ?_);(case side1=>repeat ((with_reducible exact HI0.out)));(case side2=>repeat ((with_reducible exact HB.out)));rintro e w52 ⟨v243,rfl,ho0,hi,hb,hk⟩;refine ⟨_,rfl,?_⟩;have HO244:=aM (Kd.R_lower ho0 (keep_size (w:=w) (g:=g) (row:=none) HK.out));replace HK:=aM (KeepBut.trans HK.out hk (.inl rfl));replace HB:=aM (hb);replace HI0:=aM (hi);(try clear hb);(try clear hk);(try clear hi);(try clear ho0);obtain ⟨Ao53,co53,eo53⟩:=Kd.R_slice HO244.out;subst eo53)|((with_reducible refine gate_callee (f:=74) rfl ?_);refine goesL_ (some 10) rfl rfl Try.func74 (by kernel_rfl) rfl #[.pointer (some ⟨g,0,none⟩),.int .i64 (t242.length:Int)] rfl (by (try simp only [List.map_toArray,List.map_cons,List.map_nil]);rfl) ?_;(with_reducible refine (spec_l1Below.calls g s0_0 t245 t246 (t242.length:Int) t247 t248 t249 w0 _ ?side1 ?side2 A3.out).mono ?_);(case side1=>repeat ((with_reducible exact HI0.out)));(case side2=>repeat ((with_reducible exact HB.out)));rintro e w54 ⟨rfl,hi,hb,hk⟩;refine ⟨_,rfl,?_⟩;replace HO244:=aM (Kd.R_mono (Kd.R_keep (IsS93.apart (show IsS93 w0 _ g s0_0 t245 t246 from by exact HI0.out) (rR HO244) (by decide)) hk (fun _ h=>h.2)) (fun _ h=>h.1));replace HK:=aM (KeepBut.trans HK.out hk (.inl rfl));replace HB:=aM (hb);replace HI0:=aM (hi);(try clear hb);(try clear hk);(try clear hi))|((with_reducible refine gate_callee (f:=74) rfl ?_);refine goesL_ (some 12) rfl rfl Try.func74 (by kernel_rfl) rfl #[.pointer (some ⟨g,0,none⟩),.int .i64 12] rfl (by (try simp only [List.map_toArray,List.map_cons,List.map_nil]);rfl) ?_;(with_reducible refine (spec_l1Below.calls g s0_0 t248 t249 12 t250 t251 t252 w0 _ ?side1 ?side2 A4.out).mono ?_);(case side1=>repeat ((with_reducible exact HI0.out)));(case side2=>repeat ((with_reducible exact HB.out)));rintro e w55 ⟨rfl,hi,hb,hk⟩;refine ⟨_,rfl,?_⟩;replace HO244:=aM (Kd.R_mono (Kd.R_keep (IsS93.apart (show IsS93 w0 _ g s0_0 t248 t249 from by exact HI0.out) (rR HO244) (by decide)) hk (fun _ h=>h.2)) (fun _ h=>h.1));replace HK:=aM (KeepBut.trans HK.out hk (.inl rfl));replace HB:=aM (hb);replace HI0:=aM (hi);(try clear hb);(try clear hk);(try clear hi);have q56:(0:Int)≤((t242.length:Int):Int):=od;obtain ⟨i056,hi056,_,hsz56,_⟩:=info_parts info61;have hcut56:=cut_to (P:=Try.prog) 27 61 .i64 Try.underlying27 hi056 Ao53 t242.length co53 0 (by omega) q56 (Kd.R_reads' HO244.out).2.1;have hr56:=Kd.R_take (m:=(0:Int).toNat) HO244.out (by omega);have hy56:y274.length=(0:Int).toNat:=(by rw [Ny274.out,List.length_take];omega);rw [← Ny274.out] at hr56;rw [← hy56] at hr56 hcut56;clear hy56 hi056 hsz56 HO244;have HO276:=aM hr56;clear hr56;replace q56:=eq_true q56))
     go_ret
     exact ⟨_,rz,rR HO276,by repeat ((with_reducible exact HI0.out)),by repeat ((with_reducible exact HB.out)),by repeat ((with_reducible exact HK.out))⟩
    ·rw [if_neg c50] at H
     have c50b0:(t250 == 3)=false:=beq_eq_false_iff_ne.mpr c50
     have c50b1:(t250 != 3)=true:=bne_iff_ne.mpr c50
     simp only [Option.some.injEq,Prod.mk.injEq] at H
     obtain ⟨rfl,rfl,rfl⟩:=H
     go_enter Try.func70,Try.ntmps70
     go_wp2_with (first|((with_reducible refine gate_callee (f:=73) rfl ?_);refine goesL_ (some 6) rfl rfl Try.func73 (by kernel_rfl) rfl #[.pointer (some ⟨g,0,none⟩)] rfl (by (try simp only [List.map_toArray,List.map_cons,List.map_nil]);rfl) ?_;(with_reducible refine (spec_l4Draw.calls k g s0_0 s0_1 s0_2 t242 t245 t246 w0 _ ?side1 ?side2 A2.out).mono ?_);(case side1=>repeat ((with_reducible exact HI0.out)));(case side2=>repeat ((with_reducible exact HB.out)));rintro e w57 ⟨v243,rfl,ho0,hi,hb,hk⟩;refine ⟨_,rfl,?_⟩;have HO244:=aM (Kd.R_lower ho0 (keep_size (w:=w) (g:=g) (row:=none) HK.out));replace HK:=aM (KeepBut.trans HK.out hk (.inl rfl));replace HB:=aM (hb);replace HI0:=aM (hi);(try clear hb);(try clear hk);(try clear hi);(try clear ho0);obtain ⟨Ao58,co58,eo58⟩:=Kd.R_slice HO244.out;subst eo58)|((with_reducible refine gate_callee (f:=74) rfl ?_);refine goesL_ (some 10) rfl rfl Try.func74 (by kernel_rfl) rfl #[.pointer (some ⟨g,0,none⟩),.int .i64 (t242.length:Int)] rfl (by (try simp only [List.map_toArray,List.map_cons,List.map_nil]);rfl) ?_;(with_reducible refine (spec_l1Below.calls g s0_0 t245 t246 (t242.length:Int) t247 t248 t249 w0 _ ?side1 ?side2 A3.out).mono ?_);(case side1=>repeat ((with_reducible exact HI0.out)));(case side2=>repeat ((with_reducible exact HB.out)));rintro e w59 ⟨rfl,hi,hb,hk⟩;refine ⟨_,rfl,?_⟩;replace HO244:=aM (Kd.R_mono (Kd.R_keep (IsS93.apart (show IsS93 w0 _ g s0_0 t245 t246 from by exact HI0.out) (rR HO244) (by decide)) hk (fun _ h=>h.2)) (fun _ h=>h.1));replace HK:=aM (KeepBut.trans HK.out hk (.inl rfl));replace HB:=aM (hb);replace HI0:=aM (hi);(try clear hb);(try clear hk);(try clear hi))|((with_reducible refine gate_callee (f:=74) rfl ?_);refine goesL_ (some 12) rfl rfl Try.func74 (by kernel_rfl) rfl #[.pointer (some ⟨g,0,none⟩),.int .i64 12] rfl (by (try simp only [List.map_toArray,List.map_cons,List.map_nil]);rfl) ?_;(with_reducible refine (spec_l1Below.calls g s0_0 t248 t249 12 t250 t251 t252 w0 _ ?side1 ?side2 A4.out).mono ?_);(case side1=>repeat ((with_reducible exact HI0.out)));(case side2=>repeat ((with_reducible exact HB.out)));rintro e w60 ⟨rfl,hi,hb,hk⟩;refine ⟨_,rfl,?_⟩;replace HO244:=aM (Kd.R_mono (Kd.R_keep (IsS93.apart (show IsS93 w0 _ g s0_0 t248 t249 from by exact HI0.out) (rR HO244) (by decide)) hk (fun _ h=>h.2)) (fun _ h=>h.1));replace HK:=aM (KeepBut.trans HK.out hk (.inl rfl));replace HB:=aM (hb);replace HI0:=aM (hi);(try clear hb);(try clear hk);(try clear hi)))
     go_ret
     exact ⟨_,rz,rR HO244,by repeat ((with_reducible exact HI0.out)),by repeat ((with_reducible exact HB.out)),by repeat ((with_reducible exact HK.out))⟩
end Go.Proofs.Ytpbjbfimnfghkaa.PFnRebalanced
