/- Trimmed by a program of this session (trim.py). Not trusted: Lean checks it. -/
import Derived.Test.YtbhllgifciaepaaTXPutFilePFnExactPutFilex0
import Derived.Test.YtbhllgifciaepaaTXPutFilePFnExactPutFilex1
namespace Go.Proofs.Ytbhllgifciaepaa.PFnExactPutFile
open Go.RowKit Go.Proofs.YtbhllgifciaepaaW.PrintWords Go.Proofs.YtbhllgifciaepaaW.PrintLast Go.Proofs.YtbhllgifciaepaaW.PrintMore Go.Proofs.Ytbhllgifciaepaa.St
attribute [local go_sem] max2_int min2_int max_two min_two max_three min_three max_four min_four
set_option linter.unusedVariables false
set_option linter.unusedSimpArgs false
def spec_PutFile.f (k:Nat) (a0_0:Int) (a0_1:Int) (a0_2:Int) (a0_3:Bool) (l0_4:List Int):Option (List Int):=(spec_FileOk.f a0_0 a0_1 a0_2 a0_3 l0_4).bind fun t139=>(if t139=true then ((spec_l8Stamp.f k (([]:List Int)) a0_0 a0_1 a0_2).bind fun t146=>((spec_l8Bool.f a0_3).bind fun t149=>((spec_PutNum.f k t146 t149).bind fun t150=>((spec_PutText.f k t150 (strOfNums l0_4)).bind fun t153=>((spec_Crc.f k t153).bind fun t156=>((some (([(t156 / 16777216) % 256,(t156 / 65536) % 256,(t156 / 256) % 256,(t156) % 256]:List Int):List Int)).bind fun y157=>(if t153.length+y157.length < 140737488355328 then (some (t153 ++ y157)) else (none)))))))) else (some (([]:List Int))))
def spec_PutFile.T3:Bool × List (List Nat × List Nat):=(true,[([],[]),([],[]),([1],[1]),([0,2],[0,2]),([],[]),([4],[4]),([5,3],[5]),([3,6,6],[3,6]),([],[]),([8],[8]),([9],[9]),([7,10,7],[7,10]),([11,11,0,1,2,3,4,5,6,7,8,9,10,11],[11])])
def spec_PutFile.B3:List Nat:=[0,0,2,7,0,16,63,127,0,256,768,2047,4095]
theorem spec_PutFile.tab3:rtab .any (opsOf Try.f35 3)=spec_PutFile.T3:=by kernel_rfl
theorem spec_PutFile.bits3:waitsOk spec_PutFile.T3.2 spec_PutFile.B3=true:=by kernel_rfl
set_option maxHeartbeats 8000000 in
set_option maxRecDepth 100000 in
theorem spec_PutFile.calls (k:Nat) (a0_0:Int) (a0_1:Int) (a0_2:Int) (a0_3:Bool) (A0_4:Option Addr) (c0_4:Nat) (l0_4:List Int) (r:List Int) (w:World) (hr0_4:Kd.C (Kd.int .u8) w A0_4 l0_4.length l0_4) (hc0_4:l0_4.length≤c0_4) (h:spec_PutFile.f k a0_0 a0_1 a0_2 a0_3 l0_4=some r) :
  Calls Try.prog 35 #[.agg #[.int .i64 a0_0,.int .i64 a0_1,.int .i64 a0_2,.bool a0_3,.slice A0_4 l0_4.length c0_4]] w fun e w'=>∃ v0_:Value,e = .returned (v0_)∧Kd.R (Kd.int .u8) 5 w' w.heap.size (fun _=>True) v0_ r∧Below w.heap.size w w':=by
 have hu61:=Try.underlying61
 have hu59:=Try.underlying59
 have HR0_4:=Aside0.mk hr0_4
 have HC0_4:=Aside0.mk hc0_4
 clear hr0_4 hc0_4
 have HB:=Aside0.mk (Below.refl w.heap.size w)
 have H:((spec_FileOk.f a0_0 a0_1 a0_2 a0_3 l0_4).bind fun t139=>(if t139=true then ((spec_l8Stamp.f k (([]:List Int)) a0_0 a0_1 a0_2).bind fun t146=>((spec_l8Bool.f a0_3).bind fun t149=>((spec_PutNum.f k t146 t149).bind fun t150=>((spec_PutText.f k t150 (strOfNums l0_4)).bind fun t153=>((spec_Crc.f k t153).bind fun t156=>((some (([(t156 / 16777216) % 256,(t156 / 65536) % 256,(t156 / 256) % 256,(t156) % 256]:List Int):List Int)).bind fun y157=>(if t153.length+y157.length < 140737488355328 then (some (t153 ++ y157)) else (none)))))))) else (some (([]:List Int)))))=some r:=h
 clear h
 replace H:=Option.bind_eq_some_iff.mp H
 obtain ⟨t139,A20,H⟩:=H
 try dsimp only at H
 have A2:=Aside0.mk A20
 clear A20
 by_cases c3:t139=true
 ·subst c3
  rw [if_pos rfl] at H
  obtain ⟨y143,hy143⟩ : ∃ y_:List Int,y_=(([]:List Int)):=⟨_,rfl⟩
  replace H:((spec_l8Stamp.f k y143 a0_0 a0_1 a0_2).bind fun t146=>((spec_l8Bool.f a0_3).bind fun t149=>((spec_PutNum.f k t146 t149).bind fun t150=>((spec_PutText.f k t150 (strOfNums l0_4)).bind fun t153=>((spec_Crc.f k t153).bind fun t156=>((some (([(t156 / 16777216) % 256,(t156 / 65536) % 256,(t156 / 256) % 256,(t156) % 256]:List Int):List Int)).bind fun y157=>(if t153.length+y157.length < 140737488355328 then (some (t153 ++ y157)) else (none))))))))=some r:=by first|(rw [hy143];with_reducible exact H)|(have H2_:=(Option.bind_some _ _).symm.trans H;rw [hy143];with_reducible exact H2_)|(have H2_:=(Option.bind_some _ _).symm.trans H;with_reducible exact H2_)|with_reducible exact H|(rw [hy143];exact H)|exact H
  have Ny143:=Aside0.mk hy143
  clear hy143
  replace H:=Option.bind_eq_some_iff.mp H
  obtain ⟨t146,A40,H⟩:=H
  try dsimp only at H
  have A4:=Aside0.mk A40
  clear A40
  replace H:=Option.bind_eq_some_iff.mp H
  obtain ⟨t149,A50,H⟩:=H
  try dsimp only at H
  have A5:=Aside0.mk A50
  clear A50
  replace H:=Option.bind_eq_some_iff.mp H
  obtain ⟨t150,A60,H⟩:=H
  try dsimp only at H
  have A6:=Aside0.mk A60
  clear A60
  replace H:=Option.bind_eq_some_iff.mp H
  obtain ⟨t153,A70,H⟩:=H
  try dsimp only at H
  have A7:=Aside0.mk A70
  clear A70
  replace H:=Option.bind_eq_some_iff.mp H
  obtain ⟨t156,A80,H⟩:=H
  try dsimp only at H
  have A8:=Aside0.mk A80
  clear A80
  obtain ⟨y157,hy157⟩ : ∃ y_:List Int,y_=(([(t156 / 16777216) % 256,(t156 / 65536) % 256,(t156 / 256) % 256,(t156) % 256]:List Int)):=⟨_,rfl⟩
  replace H:(if t153.length+y157.length < 140737488355328 then (some (t153 ++ y157)) else (none))=some r:=by first|(rw [hy157];with_reducible exact H)|(have H2_:=(Option.bind_some _ _).symm.trans H;rw [hy157];with_reducible exact H2_)|(have H2_:=(Option.bind_some _ _).symm.trans H;with_reducible exact H2_)|with_reducible exact H|(rw [hy157];exact H)|exact H
  have Ny157:=Aside0.mk hy157
  clear hy157
  by_cases c9:t153.length+y157.length < 140737488355328
  ·rw [if_pos c9] at H
   have LMc9:=Aside0.mk c9
   clear c9
   obtain ⟨y160,hy160⟩ : ∃ y_:List Int,y_=(t153 ++ y157):=⟨_,rfl⟩
   replace H:(some y160)=some r:=by first|(rw [hy160];with_reducible exact H)|(have H2_:=(Option.bind_some _ _).symm.trans H;rw [hy160];with_reducible exact H2_)|(have H2_:=(Option.bind_some _ _).symm.trans H;with_reducible exact H2_)|with_reducible exact H|(rw [hy160];exact H)|exact H
   have Ny160:=Aside0.mk hy160
   clear hy160
   obtain rfl:=Option.some.inj H
   go_enter Try.func35,Try.ntmps35
   try go_wp2_with (first|((with_reducible refine gate_dst (N:=1) rfl ?_);refine box_event ?hg (N:=1) ?hd (cs:=#[.int .i64 a0_0,.int .i64 a0_1,.int .i64 a0_2,.bool a0_3,.slice A0_4 l0_4.length c0_4]) (t:=61) ?hr ?_;(case hd=>rfl);(case hg=>rfl);(case hr=>first|(go_simp;done)|(go_simp;rfl));intro gb138 hg w10 hbox hb;have n0_:=bs hb;have n1_:=Aside0.mk (hbox);have n2_:=Aside0.mk ((by rw [hg];exact (below_size be):w.heap.size≤gb138));have n3_:=Aside0.mk ((by rw [hg];exact (below_size be):w.heap.size≤gb138));clear HB;have HB:=n0_;have BK138:=n1_;have GW138:=n2_;have GE138:=n3_;clear n0_ n1_ n2_ n3_;clear hb hbox hg;have hcz11_0:w10.cell? ⟨gb138,0,none⟩=some (.int .i64 a0_0):=(blk_cell BK138.out 0).trans rfl;have hcz11_1:w10.cell? ⟨gb138,1,none⟩=some (.int .i64 a0_1):=(blk_cell BK138.out 1).trans rfl;have hcz11_2:w10.cell? ⟨gb138,2,none⟩=some (.int .i64 a0_2):=(blk_cell BK138.out 2).trans rfl;have hcz11_3:w10.cell? ⟨gb138,3,none⟩=some (.bool a0_3):=(blk_cell BK138.out 3).trans rfl;have hcz11_4:w10.cell? ⟨gb138,4,none⟩=some (.slice A0_4 l0_4.length c0_4):=(blk_cell BK138.out 4).trans rfl;have hfz11_0:=blk_frozen BK138.out 0;have hfz11_1:=blk_frozen BK138.out 1;have hfz11_2:=blk_frozen BK138.out 2;have hfz11_3:=blk_frozen BK138.out 3;have hfz11_4:=blk_frozen BK138.out 4)|((with_reducible refine gate_callee (f:=86) rfl ?_);refine goesL_ (some 6) rfl rfl Try.func86 (by kernel_rfl) rfl #[.agg #[.int .i64 a0_0,.int .i64 a0_1,.int .i64 a0_2,.bool a0_3,.slice A0_4 l0_4.length c0_4]] rfl (by (try simp only [List.map_toArray,List.map_cons,List.map_nil]);first|done|rfl|(simp only [List.length_drop,List.length_take];rfl)) ?_;(with_reducible refine (spec_FileOk.calls a0_0 a0_1 a0_2 a0_3 _ _ l0_4 true _ ?side1 ?side2 A2.out).mono ?_);(case side1=>exact rC HR0_4);(case side2=>exact HC0_4.out);rintro e w12 ⟨rfl,hb⟩;refine ⟨_,rfl,?_⟩;have n0_:=Aside0.mk (blk_below (g:=gb138) (o:=.cells #[.int .i64 a0_0,.int .i64 a0_1,.int .i64 a0_2,.bool a0_3,.slice A0_4 l0_4.length c0_4] 61 (0,0)) (bk BK138) hb);have n1_:=bs hb;clear BK138;clear HB;have BK138:=n0_;have HB:=n1_;clear n0_ n1_;(try clear hb);(try clear hb2);(try clear hk);(try clear hi)))
   have n0_:=Aside0.mk (blk_drew BK138.out)
   have n1_:=Aside0.mk (below_drew1 HB.out)
   clear BK138
   clear HB
   have BK138:=n0_
   have HB:=n1_
   clear n0_ n1_
   refine start_ (n:=13) (S:=fun w'=>w'.cell? ⟨gb138,0,none⟩=some (.int .i64 a0_0)∧w'.cell? ⟨gb138,1,none⟩=some (.int .i64 a0_1)∧w'.cell? ⟨gb138,2,none⟩=some (.int .i64 a0_2)∧w'.cell? ⟨gb138,3,none⟩=some (.bool a0_3)∧w'.cell? ⟨gb138,4,none⟩=some (.slice A0_4 l0_4.length c0_4)∧Kd.C (Kd.int .u8) w' A0_4 l0_4.length l0_4) (ds:=[]) (fl 13 0) (by kernel_rfl) rfl rfl ⟨(blk_cell BK138.out 0).trans rfl,(blk_cell BK138.out 1).trans rfl,(blk_cell BK138.out 2).trans rfl,(blk_cell BK138.out 3).trans rfl,(blk_cell BK138.out 4).trans rfl,Kd.C_below HR0_4.out be⟩ (fun hHeld=>?_);refine with_tabW spec_PutFile.tab3 spec_PutFile.bits3 (fun HT_ HW_=>?_)
   generalize w12.drew=w13 at BK138 HB hHeld ⊢
   refine pt 1 10 (fl 13 2) HT_ ?_
   refine pt 4 13 (fl 13 18) HT_ ?_
   refine pt 8 17 (fl 13 274) HT_ ?_
   refine tt 2 11 (fl 13 278) HT_ HW_ hHeld ?_
   refine tt 5 14 (fl 13 310) HT_ HW_ hHeld ?_
   refine tt 9 18 (fl 13 822) HT_ HW_ hHeld ?_
   refine take_ (i:=10) (N:=some 19) (v:=?_) (a':=?_) (fl 13 1846) rfl rfl (take_ofW HT_.out HW_.out (by kernel_rfl)) (fun _ _ _ h=>h) (Or.inl ⟨by rfl,?_⟩) hHeld ?_ ?_
   rotate_left
   ·rintro w' ⟨s0,s1,s2,s3,s4,s5⟩
    have hcv_:=Kd.C_string (P:=Try.prog) (A:=A0_4) (c:=c0_4) Try.underlying54 Try.underlying5 Try.underlying9 s5
    go_simp
    with_reducible rfl
   rotate_left
   ·simp only [Act.put,List.setIfInBounds_toArray,List.set_cons_zero,List.set_cons_succ,i64_w,i32_w]
    rfl
   refine ot 0 (some 9) (fl 13 1847) HT_ (fun K hK=>?_)
   refine Kd.R_lit_step (Kd.int .u8) _ 5 ?hg (N:=9) ?hd (xs:=([]:List Int)) (inner:=[]) (ok:=fun _=>True) (okp:=fun _=>True) ?hr ?hp (fun _ hk=>hk) trivial (Below.refl _ _) (Nat.le_refl _) (by simp) ?_;(case hd=>rfl);(case hg=>rfl);(case hr=>first|(go_simp;done)|(go_simp;rfl));(case hp=>exact (Reps.none _ _))
   intro v144 w14 ho15 hb hg_ hnew_
   clear hg_ hnew_
   (first|rw [← Ny143.out] at ho15|(simp only [Int.reduceToNat] at ho15;rw [← Ny143.out] at ho15))
   have n0_:=Aside0.mk (Kd.R_lower ho15 (below_size be))
   have n1_:=Aside0.mk (blk_below (g:=gb138) (o:=.cells #[.int .i64 a0_0,.int .i64 a0_1,.int .i64 a0_2,.bool a0_3,.slice A0_4 l0_4.length c0_4] 61 (0,0)) (bk BK138) hb)
   have n2_:=bs hb
   clear BK138
   clear HB
   have HO145:=n0_
   have BK138:=n1_
   have HB:=n2_
   clear n0_ n1_ n2_
   clear hb ho15
   obtain ⟨Ao16,co16,eo16⟩:=Kd.R_slice HO145.out
   (first|subst eo16|(injection eo16 with f1_ f2_ f3_;have f4_:=f1_.symm;have f5_:=f3_.symm;clear f1_ f2_ f3_;subst f4_;subst f5_))
   refine hK.out _ _ ⟨(blk_cell BK138.out 0).trans rfl,(blk_cell BK138.out 1).trans rfl,(blk_cell BK138.out 2).trans rfl,(blk_cell BK138.out 3).trans rfl,(blk_cell BK138.out 4).trans rfl,Kd.C_below HR0_4.out be⟩ (fun hHeld=>?_)
   clear hK K
   refine no 9 ?_
   refine ot 3 (some 12) (fl 13 1855) HT_ (fun K hK=>?_)
   refine goes_ Try.func89 (by kernel_rfl) rfl #[.slice Ao16 y143.length co16,.agg #[.int .i64 a0_0,.int .i64 a0_1,.int .i64 a0_2]] (by rfl) rfl rfl (by (try simp only [List.map_toArray,List.map_cons,List.map_nil]);first|done|rfl|(simp only [List.length_drop,List.length_take];rfl)) ?_
   with_reducible refine (spec_l8Stamp.calls k _ _ y143 a0_0 a0_1 a0_2 t146 _ ?side1 ?side2 A4.out).mono ?_
   (case side1=>exact sR HO145)
   (case side2=>exact (Kd.R_reads' HO145.out).2.1)
   rintro e w17 ⟨v147,rfl,ho0,hb⟩
   refine ⟨_,rfl,?_⟩
   have n0_:=Aside0.mk (Kd.R_elder' (rR HO145) (Kd.R_base ho0) hb)
   have n1_:=Aside0.mk (Kd.R_lower (Kd.R_new' ho0 (Kd.R_lt (rR HO145))) (below_size be))
   have n2_:=Aside0.mk (blk_below (g:=gb138) (o:=.cells #[.int .i64 a0_0,.int .i64 a0_1,.int .i64 a0_2,.bool a0_3,.slice A0_4 l0_4.length c0_4] 61 (0,0)) (bk BK138) hb)
   have n3_:=bs hb
   clear HO145
   clear BK138
   clear HB
   have HO145:=n0_
   have HO148:=n1_
   have BK138:=n2_
   have HB:=n3_
   clear n0_ n1_ n2_ n3_
   (try clear hb)
   (try clear hb2)
   (try clear hk)
   (try clear hi)
   (try clear ho0)
   refine hK.out _ _ ⟨(blk_cell BK138.out 0).trans rfl,(blk_cell BK138.out 1).trans rfl,(blk_cell BK138.out 2).trans rfl,(blk_cell BK138.out 3).trans rfl,(blk_cell BK138.out 4).trans rfl,Kd.C_below HR0_4.out be⟩ (fun hHeld=>?_)
   clear hK K
   refine no 12 ?_
   refine ot 6 (some 15) (fl 13 1919) HT_ (fun K hK=>?_)
   refine goes_ Try.func90 (by kernel_rfl) rfl #[.bool a0_3] (by rfl) rfl rfl (by (try simp only [List.map_toArray,List.map_cons,List.map_nil]);first|done|rfl|(simp only [List.length_drop,List.length_take];rfl)) ?_
   with_reducible refine (spec_l8Bool.calls a0_3 t149 _ A5.out).mono ?_
   rintro e w' ⟨rfl,⟨nd,rfl⟩⟩
   refine ⟨_,rfl,?_⟩
   obtain ⟨Ao18,co18,eo18⟩:=Kd.R_slice HO148.out
   (first|subst eo18|(injection eo18 with f1_ f2_ f3_;have f4_:=f1_.symm;have f5_:=f3_.symm;clear f1_ f2_ f3_;subst f4_;subst f5_))
   refine hK.out _ _ ⟨(blk_cell BK138.out 0).trans rfl,(blk_cell BK138.out 1).trans rfl,(blk_cell BK138.out 2).trans rfl,(blk_cell BK138.out 3).trans rfl,(blk_cell BK138.out 4).trans rfl,Kd.C_below HR0_4.out be⟩ (fun hHeld=>?_)
   clear hK K
   refine no 15 ?_
   refine ot 7 (some 16) (fl 13 2047) HT_ (fun K hK=>?_)
   refine goes_ Try.func88 (by kernel_rfl) rfl #[.slice Ao18 t146.length co18,.int .i64 t149] (by rfl) rfl rfl (by (try simp only [List.map_toArray,List.map_cons,List.map_nil]);first|done|rfl|(simp only [List.length_drop,List.length_take];rfl)) ?_
   with_reducible refine (spec_PutNum.calls k _ _ t146 t149 t150 _ ?side1 ?side2 A6.out).mono ?_
   (case side1=>exact sR HO148)
   (case side2=>exact (Kd.R_reads' HO148.out).2.1)
   rintro e w19 ⟨v151,rfl,ho0,hb⟩
   refine ⟨_,rfl,?_⟩
   have n0_:=Aside0.mk (Kd.R_elder' (rR HO145) (Kd.R_base ho0) hb)
   have n1_:=Aside0.mk (Kd.R_elder' (rR HO148) (Kd.R_base ho0) hb)
   have n2_:=Aside0.mk (Kd.R_lower (Kd.R_new' (Kd.R_new' ho0 (Kd.R_lt (rR HO145))) (Kd.R_lt (rR HO148))) (below_size be))
   have n3_:=Aside0.mk (blk_below (g:=gb138) (o:=.cells #[.int .i64 a0_0,.int .i64 a0_1,.int .i64 a0_2,.bool a0_3,.slice A0_4 l0_4.length c0_4] 61 (0,0)) (bk BK138) hb)
   have n4_:=bs hb
   clear HO145
   clear HO148
   clear BK138
   clear HB
   have HO145:=n0_
   have HO148:=n1_
   have HO152:=n2_
   have BK138:=n3_
   have HB:=n4_
   clear n0_ n1_ n2_ n3_ n4_
   (try clear hb)
   (try clear hb2)
   (try clear hk)
   (try clear hi)
   (try clear ho0)
   have hcv20:=Kd.C_string (P:=Try.prog) (A:=A0_4) (c:=c0_4) Try.underlying54 Try.underlying5 Try.underlying9 (Kd.C_below HR0_4.out HB.out)
   have hcw21:=fun (n_:Nat)=>Kd.C_string (P:=Try.prog) (A:=A0_4) (c:=c0_4) Try.underlying54 Try.underlying5 Try.underlying9 (Kd.C_drewN ((Kd.C_below HR0_4.out HB.out)) n_)
   obtain ⟨Ao23,co23,eo23⟩:=Kd.R_slice HO152.out
   (first|subst eo23|(injection eo23 with f1_ f2_ f3_;have f4_:=f1_.symm;have f5_:=f3_.symm;clear f1_ f2_ f3_;subst f4_;subst f5_))
   refine hK.out _ _ ⟨(blk_cell BK138.out 0).trans rfl,(blk_cell BK138.out 1).trans rfl,(blk_cell BK138.out 2).trans rfl,(blk_cell BK138.out 3).trans rfl,(blk_cell BK138.out 4).trans rfl,Kd.C_below HR0_4.out be⟩ (fun hHeld=>?_)
   clear hK K
   refine no 16 ?_
   refine ot 11 (some 20) (fl 13 4095) HT_ (fun K hK=>?_)
   refine goes_ Try.func87 (by kernel_rfl) rfl #[.slice Ao23 t150.length co23,.string (strOfNums l0_4)] (by rfl) rfl rfl (by (try simp only [List.map_toArray,List.map_cons,List.map_nil]);first|done|rfl|(simp only [List.length_drop,List.length_take];rfl)) ?_
   with_reducible refine (spec_PutText.calls k _ _ t150 (strOfNums l0_4) t153 _ ?side1 ?side2 A7.out).mono ?_
   (case side1=>exact sR HO152)
   (case side2=>exact (Kd.R_reads' HO152.out).2.1)
   rintro e w24 ⟨v154,rfl,ho0,hb⟩
   refine ⟨_,rfl,?_⟩
   have n0_:=Aside0.mk (Kd.R_elder' (rR HO145) (Kd.R_base ho0) hb)
   have n1_:=Aside0.mk (Kd.R_elder' (rR HO148) (Kd.R_base ho0) hb)
   have n2_:=Aside0.mk (Kd.R_elder' (rR HO152) (Kd.R_base ho0) hb)
   have n3_:=Aside0.mk (Kd.R_lower (Kd.R_new' (Kd.R_new' (Kd.R_new' ho0 (Kd.R_lt (rR HO145))) (Kd.R_lt (rR HO148))) (Kd.R_lt (rR HO152))) (below_size be))
   have n4_:=Aside0.mk (blk_below (g:=gb138) (o:=.cells #[.int .i64 a0_0,.int .i64 a0_1,.int .i64 a0_2,.bool a0_3,.slice A0_4 l0_4.length c0_4] 61 (0,0)) (bk BK138) hb)
   have n5_:=bs hb
   clear HO145
   clear HO148
   clear HO152
   clear BK138
   clear HB
   have HO145:=n0_
   have HO148:=n1_
   have HO152:=n2_
   have HO155:=n3_
   have BK138:=n4_
   have HB:=n5_
   clear n0_ n1_ n2_ n3_ n4_ n5_
   (try clear hb)
   (try clear hb2)
   (try clear hk)
   (try clear hi)
   (try clear ho0)
   refine hK.out _ _ ⟨(blk_cell BK138.out 0).trans rfl,(blk_cell BK138.out 1).trans rfl,(blk_cell BK138.out 2).trans rfl,(blk_cell BK138.out 3).trans rfl,(blk_cell BK138.out 4).trans rfl,Kd.C_below HR0_4.out be⟩ (fun hHeld=>?_)
   clear hK K
   refine no 20 ?_
   refine pt 12 3 (fl 13 8191) HT_ ?_
   refine done_ (done_of HT_.out (by kernel_rfl)) ?_
   obtain ⟨Ao25,co25,eo25⟩:=Kd.R_slice HO155.out
   subst eo25
   try go_wp2_with (first|((with_reducible refine gate_callee (f:=91) rfl ?_);refine goesL_ (some 22) rfl rfl Try.func91 (by kernel_rfl) rfl #[.slice Ao25 t153.length co25] rfl (by (try simp only [List.map_toArray,List.map_cons,List.map_nil]);first|done|rfl|(simp only [List.length_drop,List.length_take];rfl)) ?_;(with_reducible refine (spec_Crc.calls k _ _ t153 t156 _ ?side1 ?side2 A8.out).mono ?_);(case side1=>exact sR HO155);(case side2=>exact (Kd.R_reads' HO155.out).2.1);rintro e w' ⟨rfl,⟨nd,rfl⟩⟩;refine ⟨_,rfl,?_⟩)|((with_reducible refine gate_dst (N:=35) rfl ?_);refine Kd.R_lit (Kd.int .u8) _ 5 ?hg (N:=35) ?hd (xs:=([(t156 / 16777216) % 256,(t156 / 65536) % 256,(t156 / 256) % 256,(t156) % 256]:List Int)) (inner:=[.int .u8 ((t156 / 16777216) % 256),.int .u8 ((t156 / 65536) % 256),.int .u8 ((t156 / 256) % 256),.int .u8 ((t156) % 256)]) (ok:=fun _=>True) (okp:=fun _=>True) ?hr ?hp (fun _ hk=>hk) trivial (Below.refl _ _) (Nat.le_refl _) (by simp) ?_;(case hd=>rfl);(case hg=>rfl);(case hr=>first|(go_simp;done)|(go_simp;rfl));(case hp=>exact (Reps.one (show Kd.M (Kd.int .u8) _ _ _ ((t156 / 16777216) % 256) [.int .u8 ((t156 / 16777216) % 256)] from rfl) (Reps.one (show Kd.M (Kd.int .u8) _ _ _ ((t156 / 65536) % 256) [.int .u8 ((t156 / 65536) % 256)] from rfl) (Reps.one (show Kd.M (Kd.int .u8) _ _ _ ((t156 / 256) % 256) [.int .u8 ((t156 / 256) % 256)] from rfl) (Reps.one (show Kd.M (Kd.int .u8) _ _ _ ((t156) % 256) [.int .u8 ((t156) % 256)] from rfl) (Reps.none _ _))))));intro v158 w26 ho27 hb hg_ hnew_;clear hg_ hnew_;(first|rw [← Ny157.out] at ho27|(simp only [Int.reduceToNat] at ho27;rw [← Ny157.out] at ho27));have n0_:=Aside0.mk (Kd.R_elder' (rR HO145) (Kd.R_base ho27) hb);have n1_:=Aside0.mk (Kd.R_elder' (rR HO148) (Kd.R_base ho27) hb);have n2_:=Aside0.mk (Kd.R_elder' (rR HO152) (Kd.R_base ho27) hb);have n3_:=Aside0.mk (Kd.R_elder' (rR HO155) (Kd.R_base ho27) hb);have n4_:=Aside0.mk (Kd.R_lower (Kd.R_new' (Kd.R_new' (Kd.R_new' (Kd.R_new' ho27 (Kd.R_lt (rR HO145))) (Kd.R_lt (rR HO148))) (Kd.R_lt (rR HO152))) (Kd.R_lt (rR HO155))) (below_size be));have n5_:=Aside0.mk (blk_below (g:=gb138) (o:=.cells #[.int .i64 a0_0,.int .i64 a0_1,.int .i64 a0_2,.bool a0_3,.slice A0_4 l0_4.length c0_4] 61 (0,0)) (bk BK138) hb);have n6_:=bs hb;clear HO145;clear HO148;clear HO152;clear HO155;clear BK138;clear HB;have HO145:=n0_;have HO148:=n1_;have HO152:=n2_;have HO155:=n3_;have HO159:=n4_;have BK138:=n5_;have HB:=n6_;clear n0_ n1_ n2_ n3_ n4_ n5_ n6_;clear hb ho27;obtain ⟨Ao29,co29,eo29⟩:=Kd.R_slice HO159.out;subst eo29)|((with_reducible refine gate_builtin (b:=.append) (xs:=#[.tmp 23,.tmp 35]) rfl ?_);at_builtin;refine Kd.R_append_rows (Kd.int .u8) (w0:=w) w.heap.size rfl (.tmp 23) (.tmp 35) 54 5 (.int .u8 0) 1 rfl Try.underlying54 info5 rfl (by decide) (by omega) (.slice Ao25 t153.length co25) t153 y157 _ _ _ (fun k_=>some k_ ≠ (.slice Ao16 y143.length co16:Value).ownBlock∧some k_ ≠ (.slice Ao18 t146.length co18:Value).ownBlock∧some k_ ≠ (.slice Ao23 t150.length co23:Value).ownBlock∧some k_ ≠ (.slice Ao29 y157.length co29:Value).ownBlock) (fun _=>False) rfl rfl ?aO ?aR (fun _ _ h=>h) (fun _ h=>h.elim) ?aF ?aB ?aS ?aL ?_;(case aR=>exact sR HO159);(case aB=>exact be);(case aF=>exact (fun k_ hk=>⟨Kd.fresh' (Kd.R_lt (rR HO145)) k_ hk,Kd.fresh' (Kd.R_lt (rR HO148)) k_ hk,Kd.fresh' (Kd.R_lt (rR HO152)) k_ hk,Kd.fresh' (Kd.R_lt (rR HO159)) k_ hk⟩));(case aO=>exact (by (with_reducible repeat (first|apply Kd.R_alloc|apply Kd.R_drewN|apply Kd.R_drew));exact Kd.R_mono HO155.out (fun _ hk=>⟨hk.1.1.1.2,⟨hk.1.1.2,⟨hk.1.2,hk.2⟩⟩⟩)));(case aS=>exact (below_size be));(case aL=>have:=LMc9.out;omega);intro v161 w28 ho hb hg hat;rw [← Ny160.out] at ho;have n0_:=Aside0.mk (blk_grown (g:=gb138) (o:=.cells #[.int .i64 a0_0,.int .i64 a0_1,.int .i64 a0_2,.bool a0_3,.slice A0_4 l0_4.length c0_4] 61 (0,0)) (bk BK138) hg (Kd.R_ne HO155.out BK138.out (by decide)));have n1_:=Aside0.mk (Kd.R_after (ok:=(fun k_=>some k_ ≠ (.slice Ao18 t146.length co18:Value).ownBlock∧some k_ ≠ (.slice Ao23 t150.length co23:Value).ownBlock∧some k_ ≠ (.slice Ao29 y157.length co29:Value).ownBlock)) (by (with_reducible repeat (first|apply Kd.R_alloc|apply Kd.R_drewN|apply Kd.R_drew));exact Kd.R_mono HO145.out (fun _ hk=>⟨⟨hk.1.1.1.2,⟨hk.1.1.2,hk.2⟩⟩,hk.1.2⟩)) hg hat);have n2_:=Aside0.mk (Kd.R_after (ok:=(fun k_=>some k_ ≠ (.slice Ao16 y143.length co16:Value).ownBlock∧some k_ ≠ (.slice Ao23 t150.length co23:Value).ownBlock∧some k_ ≠ (.slice Ao29 y157.length co29:Value).ownBlock)) (by (with_reducible repeat (first|apply Kd.R_alloc|apply Kd.R_drewN|apply Kd.R_drew));exact Kd.R_mono HO148.out (fun _ hk=>⟨⟨hk.1.1.1.2,⟨hk.1.1.2,hk.2⟩⟩,hk.1.2⟩)) hg hat);have n3_:=Aside0.mk (Kd.R_after (ok:=(fun k_=>some k_ ≠ (.slice Ao16 y143.length co16:Value).ownBlock∧some k_ ≠ (.slice Ao18 t146.length co18:Value).ownBlock∧some k_ ≠ (.slice Ao29 y157.length co29:Value).ownBlock)) (by (with_reducible repeat (first|apply Kd.R_alloc|apply Kd.R_drewN|apply Kd.R_drew));exact Kd.R_mono HO152.out (fun _ hk=>⟨⟨hk.1.1.1.2,⟨hk.1.1.2,hk.2⟩⟩,hk.1.2⟩)) hg hat);have n4_:=Aside0.mk (Kd.R_after (ok:=(fun k_=>some k_ ≠ (.slice Ao16 y143.length co16:Value).ownBlock∧some k_ ≠ (.slice Ao18 t146.length co18:Value).ownBlock∧some k_ ≠ (.slice Ao23 t150.length co23:Value).ownBlock)) (by (with_reducible repeat (first|apply Kd.R_alloc|apply Kd.R_drewN|apply Kd.R_drew));exact Kd.R_mono HO159.out (fun _ hk=>⟨⟨hk.1.1.1.2,⟨hk.1.1.2,hk.1.2⟩⟩,hk.2⟩)) hg hat);have n5_:=Aside0.mk (hb);have n6_:=Aside0.mk (ho);clear BK138;clear HO145;clear HO148;clear HO152;clear HO159;clear HB;clear HO155;have BK138:=n0_;have HO145:=n1_;have HO148:=n2_;have HO152:=n3_;have HO159:=n4_;have HB:=n5_;have HO162:=n6_;clear n0_ n1_ n2_ n3_ n4_ n5_ n6_;clear ho hb hg hat))
   go_ret
   exact ⟨_,rz,by (with_reducible repeat (first|apply Kd.R_alloc|apply Kd.R_drewN|apply Kd.R_drew));exact Kd.R_mono HO162.out (fun _ hk=>trivial),be⟩
  ·rw [if_neg c9] at H
   exact absurd H (by simp)
 ·replace c3:=Bool.eq_false_iff.mpr c3
  subst c3
  have H1:(some (([]:List Int)))=some r:=by rw [if_neg (show ¬ (false=true) by decide)] at H;exact H
  clear H
  have H:=H1
  clear H1
  obtain ⟨y140,hy140⟩ : ∃ y_:List Int,y_=(([]:List Int)):=⟨_,rfl⟩
  replace H:(some y140)=some r:=by first|(rw [hy140];with_reducible exact H)|(have H2_:=(Option.bind_some _ _).symm.trans H;rw [hy140];with_reducible exact H2_)|(have H2_:=(Option.bind_some _ _).symm.trans H;with_reducible exact H2_)|with_reducible exact H|(rw [hy140];exact H)|exact H
  have Ny140:=Aside0.mk hy140
  clear hy140
  obtain rfl:=Option.some.inj H
  go_enter Try.func35,Try.ntmps35
  go_wp2_with (first|((with_reducible refine gate_dst (N:=1) rfl ?_);refine box_event ?hg (N:=1) ?hd (cs:=#[.int .i64 a0_0,.int .i64 a0_1,.int .i64 a0_2,.bool a0_3,.slice A0_4 l0_4.length c0_4]) (t:=61) ?hr ?_;(case hd=>rfl);(case hg=>rfl);(case hr=>first|(go_simp;done)|(go_simp;rfl));intro gb138 hg w30 hbox hb;have n0_:=bs hb;have n1_:=Aside0.mk (hbox);have n2_:=Aside0.mk ((by rw [hg];exact (below_size be):w.heap.size≤gb138));have n3_:=Aside0.mk ((by rw [hg];exact (below_size be):w.heap.size≤gb138));clear HB;have HB:=n0_;have BK138:=n1_;have GW138:=n2_;have GE138:=n3_;clear n0_ n1_ n2_ n3_;clear hb hbox hg;have hcz31_0:w30.cell? ⟨gb138,0,none⟩=some (.int .i64 a0_0):=(blk_cell BK138.out 0).trans rfl;have hcz31_1:w30.cell? ⟨gb138,1,none⟩=some (.int .i64 a0_1):=(blk_cell BK138.out 1).trans rfl;have hcz31_2:w30.cell? ⟨gb138,2,none⟩=some (.int .i64 a0_2):=(blk_cell BK138.out 2).trans rfl;have hcz31_3:w30.cell? ⟨gb138,3,none⟩=some (.bool a0_3):=(blk_cell BK138.out 3).trans rfl;have hcz31_4:w30.cell? ⟨gb138,4,none⟩=some (.slice A0_4 l0_4.length c0_4):=(blk_cell BK138.out 4).trans rfl;have hfz31_0:=blk_frozen BK138.out 0;have hfz31_1:=blk_frozen BK138.out 1;have hfz31_2:=blk_frozen BK138.out 2;have hfz31_3:=blk_frozen BK138.out 3;have hfz31_4:=blk_frozen BK138.out 4)|((with_reducible refine gate_callee (f:=86) rfl ?_);refine goesL_ (some 6) rfl rfl Try.func86 (by kernel_rfl) rfl #[.agg #[.int .i64 a0_0,.int .i64 a0_1,.int .i64 a0_2,.bool a0_3,.slice A0_4 l0_4.length c0_4]] rfl (by (try simp only [List.map_toArray,List.map_cons,List.map_nil]);first|done|rfl|(simp only [List.length_drop,List.length_take];rfl)) ?_;(with_reducible refine (spec_FileOk.calls a0_0 a0_1 a0_2 a0_3 _ _ l0_4 false _ ?side1 ?side2 A2.out).mono ?_);(case side1=>exact rC HR0_4);(case side2=>exact HC0_4.out);rintro e w32 ⟨rfl,hb⟩;refine ⟨_,rfl,?_⟩;have n0_:=Aside0.mk (blk_below (g:=gb138) (o:=.cells #[.int .i64 a0_0,.int .i64 a0_1,.int .i64 a0_2,.bool a0_3,.slice A0_4 l0_4.length c0_4] 61 (0,0)) (bk BK138) hb);have n1_:=bs hb;clear BK138;clear HB;have BK138:=n0_;have HB:=n1_;clear n0_ n1_;(try clear hb);(try clear hb2);(try clear hk);(try clear hi))|((with_reducible refine gate_dst (N:=8) rfl ?_);refine Kd.R_lit (Kd.int .u8) _ 5 ?hg (N:=8) ?hd (xs:=([]:List Int)) (inner:=[]) (ok:=fun _=>True) (okp:=fun _=>True) ?hr ?hp (fun _ hk=>hk) trivial (Below.refl _ _) (Nat.le_refl _) (by simp) ?_;(case hd=>rfl);(case hg=>rfl);(case hr=>first|(go_simp;done)|(go_simp;rfl));(case hp=>exact (Reps.none _ _));intro v141 w33 ho34 hb hg_ hnew_;clear hg_ hnew_;(first|rw [← Ny140.out] at ho34|(simp only [Int.reduceToNat] at ho34;rw [← Ny140.out] at ho34));have n0_:=Aside0.mk (Kd.R_lower ho34 (below_size be));have n1_:=Aside0.mk (blk_below (g:=gb138) (o:=.cells #[.int .i64 a0_0,.int .i64 a0_1,.int .i64 a0_2,.bool a0_3,.slice A0_4 l0_4.length c0_4] 61 (0,0)) (bk BK138) hb);have n2_:=bs hb;clear BK138;clear HB;have HO142:=n0_;have BK138:=n1_;have HB:=n2_;clear n0_ n1_ n2_;clear hb ho34))
  go_ret
  exact ⟨_,rz,rR HO142,be⟩
def laws_toByteS.l0:Nat→List Int→List Int→Int→Option (List Int)
 | 0,_,_,_=>none
 | k+1,x0,x3,x4=>if x4 < (x0.length:Int) then (if 0≤x4 then (if x4 < (x3.length:Int) then (laws_toByteS.l0 k x0 (x3.set (x4:Int).toNat (rd x0 x4)) (wrap64 (x4+1))) else (none)) else (none)) else (some x3)
def laws_toByteS.f (k:Nat) (l0:List Int):Option (List Int):=if 0≤(l0.length:Int) then (if ((l0.length:Int):Int).toNat≤281474976710656 then (laws_toByteS.l0 k l0 (List.replicate ((l0.length:Int):Int).toNat 0) 0) else (none)) else (none)
set_option maxHeartbeats 8000000 in
set_option maxRecDepth 100000 in
theorem laws_toByteS.calls (k:Nat) (A0:Option Addr) (c0:Nat) (l0:List Int) (r:List Int) (w:World) (hr0:Kd.C (Kd.int .u8) w A0 l0.length l0) (hc0:l0.length≤c0) (h:laws_toByteS.f k l0=some r) :
  Calls Try.prog 54 #[.slice A0 l0.length c0] w fun e w'=>∃ v0_:Value,e = .returned (v0_)∧Kd.R (Kd.int .u8) 5 w' w.heap.size (fun _=>True) v0_ r∧Below w.heap.size w w':=by
 have HR0:=Aside0.mk hr0
 have HC0:=Aside0.mk hc0
 clear hr0 hc0
 have HB:=Aside0.mk (Below.refl w.heap.size w)
 have H:(if 0≤(l0.length:Int) then (if ((l0.length:Int):Int).toNat≤281474976710656 then (laws_toByteS.l0 k l0 (List.replicate ((l0.length:Int):Int).toNat 0) 0) else (none)) else (none))=some r:=h
 clear h
 by_cases c2:0≤(l0.length:Int)
 ·rw [if_pos c2] at H
  have c2b0:=eq_true c2
  have c2b1:decide (0≤(l0.length:Int))=true:=decide_eq_true c2
  clear c2
  by_cases c3:((l0.length:Int):Int).toNat≤281474976710656
  ·rw [if_pos c3] at H
   have c3b0:=eq_true c3
   have c3b1:decide (((l0.length:Int):Int).toNat≤281474976710656)=true:=decide_eq_true c3
   clear c3
   obtain ⟨y163,hy163⟩ : ∃ y_:List Int,y_=(List.replicate ((l0.length:Int):Int).toNat 0):=⟨_,rfl⟩
   replace H:(laws_toByteS.l0 k l0 y163 0)=some r:=by first|(rw [hy163];with_reducible exact H)|(have H2_:=(Option.bind_some _ _).symm.trans H;rw [hy163];with_reducible exact H2_)|(have H2_:=(Option.bind_some _ _).symm.trans H;with_reducible exact H2_)|with_reducible exact H|(rw [hy163];exact H)|exact H
   have Ny163:=Aside0.mk hy163
   clear hy163
   have H':=Aside0.mk H
   clear H
   go_enter Try.func54,Try.ntmps54
   go_wp2_with (first|((with_reducible refine gate_dst (N:=7) rfl ?_);refine Kd.R_make (Kd.int .u8) _ 5 rfl (N:=7) rfl 54 _ _ rfl (l0.length:Int) rfl rfl Try.underlying54 (.int .u8 0) 1 info5 rfl (by decide) (by omega) 0 (ok:=fun _=>True) (okp:=fun _=>True) rfl (fun _ hk=>hk) trivial (of_decide_eq_true (by first|(with_reducible assumption)|assumption)) (Nat.le_trans (Nat.mul_le_mul_right _ (of_decide_eq_true (by first|(with_reducible assumption)|assumption):(l0.length:Int).toNat≤281474976710656)) (by omega)) (Below.refl _ _) (Nat.le_refl _) ?_;intro v164 w4 ho5 hb hg_ hnew_;clear hg_ hnew_;(first|rw [← Ny163.out] at ho5|(simp only [Int.reduceToNat] at ho5;rw [← Ny163.out] at ho5));have n0_:=Aside0.mk (Kd.R_lower ho5 (below_size be));have n1_:=bs hb;clear HB;have HO165:=n0_;have HB:=n1_;clear n0_ n1_;clear hb ho5))
   go_loopg [4] k (fun kq v4 w'=>∃ (x3_1:List Int) (x4_1:Int),v4 = .int .i64 x4_1∧Aside0 (laws_toByteS.l0 kq l0 x3_1 x4_1=some r)∧Aside0 (kq≤k)∧Aside0 (Kd.R (Kd.int .u8) 5 w' w.heap.size (fun _=>True) v164 x3_1)∧Aside0 (Below w.heap.size w w'))
   case atStart=>exact ⟨(y163),(0),rd_,H',⟨Nat.le_refl _⟩,⟨rR HO165⟩,⟨be⟩⟩
   case round=>
    clear H'
    try clear c2
    try clear c2b0
    try clear c2b1
    try clear p2
    try clear c3
    try clear c3b0
    try clear c3b1
    try clear c5
    obtain ⟨x3_1,x4_1,rfl,HA,HK1,HO_3,HB⟩:=hrel
    cases gk with
    | zero=>exact absurd HA.out (by simp [laws_toByteS.l0])
    | succ k1=>
     have H:=HA.out
     clear HA
     simp only [laws_toByteS.l0] at H
     by_cases c6:x4_1 < (l0.length:Int)
     ·rw [if_pos c6] at H
      have c6b0:decide (x4_1 < (l0.length:Int))=true:=decide_eq_true c6
      clear c6
      by_cases c7:0≤x4_1
      ·rw [if_pos c7] at H
       have c7b0:decide (0≤x4_1)=true:=decide_eq_true c7
       clear c7
       by_cases c8:x4_1 < (x3_1.length:Int)
       ·rw [if_pos c8] at H
        have c8b0:decide (x4_1 < (x3_1.length:Int))=true:=decide_eq_true c8
        clear c8
        obtain ⟨y167,hy167⟩ : ∃ y_:List Int,y_=(x3_1.set (x4_1:Int).toNat (rd l0 x4_1)):=⟨_,rfl⟩
        replace H:(laws_toByteS.l0 k1 l0 y167 (wrap64 (x4_1+1)))=some r:=by first|(rw [hy167];with_reducible exact H)|(have H2_:=(Option.bind_some _ _).symm.trans H;rw [hy167];with_reducible exact H2_)|(have H2_:=(Option.bind_some _ _).symm.trans H;with_reducible exact H2_)|with_reducible exact H|(rw [hy167];exact H)|exact H
        have Ny167:=Aside0.mk hy167
        clear hy167
        have H':=Aside0.mk H
        clear H
        have p166:0≤(x4_1:Int):=of_decide_eq_true (by first|(with_reducible assumption)|assumption)
        have q166:x4_1 < (l0.length:Int):=of_decide_eq_true (by first|(with_reducible assumption)|assumption)
        obtain ⟨ad166,e166,hx166_0⟩:=Kd.at_int HR0.out x4_1 p166 q166
        cases e166
        replace hx166_0:=(HB.out.cell (World.block_lt_of_cell? w _ hx166_0)).trans hx166_0
        replace p166:=eq_true p166
        replace q166:=eq_true q166
        have p9:0≤(x4_1:Int):=of_decide_eq_true (by first|(with_reducible assumption)|assumption)
        have q9:(x4_1:Int) < ((x3_1.length:Int):Int):=of_decide_eq_true (by first|(with_reducible assumption)|assumption)
        obtain ⟨go9,co9,eo9,gb9,gl9,cl9,HG9⟩:=Kd.R_form HO_3.out (by omega)
        (first|cases eo9|(injection eo9 with ea_ en_ ec_;(first|subst ea_|(injection ea_ with ea_;subst ea_));subst ec_;clear en_))
        have GB9:=Aside0.mk gb9
        have GG9:=Aside0.mk HG9
        clear gb9 gl9 HG9
        obtain ⟨hx9_0,hf9_0⟩:=Kd.R_celln 0 HO_3.out (x4_1:Int) p9 q9
        replace p9:=eq_true p9
        replace q9:=eq_true q9
        have HP10:=Kd.R_putg HO_3.out (x4_1:Int) (rd l0 x4_1)
        go_wp2_with (first|((with_reducible refine gate_store (t:=5) (p:=20) rfl ?_);refine store_event (t:=5) (p:=20) (v:=?vo_w11) (w1:=(wr.setCell ⟨go9,(x4_1:Int).toNat,none⟩ (.int .u8 (rd l0 x4_1)))) ?hg ?ho ?hn ?hr ?_;(case ho=>rfl);(case hg=>rfl);(case hn=>rfl);(case hr=>first|(go_simp;done)|(go_simp;rfl));intro w11 hw;have hg:wr.grownBy w11 (some go9):=(by rw [hw];exact HP10.2);have hp_:Kd.R (Kd.int .u8) 5 w11 w.heap.size (fun _=>True) (.slice (some ⟨go9,0,none⟩) x3_1.length co9) y167:=(by rw [hw,Ny167.out];exact HP10.1);clear HP10;have n0_:=Aside0.mk (hp_);have n1_:=Aside0.mk ((by rw [hw];exact below_set (HB.out) GB9.out:Below w.heap.size w w11));clear HO_3;clear HB;have HO_3:=n0_;have HB:=n1_;clear n0_ n1_;clear hg hw hp_))
        go_roundg k1
        case measure=>have:=HK1.out;omega
        case rel=>exact ⟨(y167),(wrap64 (x4_1+1)),rd_,H',⟨by have:=HK1.out;omega⟩,⟨rR HO_3⟩,⟨be⟩⟩
       ·rw [if_neg c8] at H
        exact absurd H (by simp)
      ·rw [if_neg c7] at H
       exact absurd H (by simp)
     ·rw [if_neg c6] at H
      have c6b0:decide (x4_1 < (l0.length:Int))=false:=decide_eq_false c6
      clear c6
      obtain rfl:=Option.some.inj H
      go_wp2
      go_ret
      exact ⟨_,rz,rR HO_3,be⟩
  ·rw [if_neg c3] at H
   exact absurd H (by simp)
 ·rw [if_neg c2] at H
  exact absurd H (by simp)
def laws_toStamp.f (a0_0:Int) (a0_1:Int) (a0_2:Int):Option (Int × Int × Int):=some (a0_0,a0_1,a0_2)
set_option maxHeartbeats 8000000 in
set_option maxRecDepth 100000 in
theorem laws_toStamp.calls (a0_0:Int) (a0_1:Int) (a0_2:Int) (r1:Int) (r2:Int) (r3:Int) (w:World) (h:laws_toStamp.f a0_0 a0_1 a0_2=some (r1,r2,r3)) :
  Calls Try.prog 92 #[.agg #[.int .i64 a0_0,.int .i64 a0_1,.int .i64 a0_2]] w fun e w'=>e = .returned (.agg #[.int .i64 r1,.int .i64 r2,.int .i64 r3])∧Below w.heap.size w w':=by
 have hu53:=Try.underlying53
 have hu59:=Try.underlying59
 have HB:=Aside0.mk (Below.refl w.heap.size w)
 have H:(some (a0_0,a0_1,a0_2))=some (r1,r2,r3):=h
 clear h
 simp only [Option.some.injEq,Prod.mk.injEq] at H
 obtain ⟨rfl,rfl,rfl⟩:=H
 go_enter Try.func92,Try.ntmps92
 go_wp2_with (first|((with_reducible refine gate_dst (N:=1) rfl ?_);refine box_event ?hg (N:=1) ?hd (cs:=#[.int .i64 a0_0,.int .i64 a0_1,.int .i64 a0_2]) (t:=53) ?hr ?_;(case hd=>rfl);(case hg=>rfl);(case hr=>first|(go_simp;done)|(go_simp;rfl));intro gb168 hg w2 hbox hb;have n0_:=bs hb;have n1_:=Aside0.mk (hbox);have n2_:=Aside0.mk ((by rw [hg];exact (below_size be):w.heap.size≤gb168));have n3_:=Aside0.mk ((by rw [hg];exact (below_size be):w.heap.size≤gb168));clear HB;have HB:=n0_;have BK168:=n1_;have GW168:=n2_;have GE168:=n3_;clear n0_ n1_ n2_ n3_;clear hb hbox hg)|((with_reducible refine gate_dst (N:=2) rfl ?_);refine box_event ?hg (N:=2) ?hd (cs:=#[.int .i64 0,.int .i64 0,.int .i64 0]) (t:=59) ?hr ?_;(case hd=>rfl);(case hg=>rfl);(case hr=>first|(go_simp;done)|(go_simp;rfl));intro gb169 hg w3 hbox hb;have n0_:=Aside0.mk (blk_below (g:=gb168) (o:=.cells #[.int .i64 a0_0,.int .i64 a0_1,.int .i64 a0_2] 53 (0,0)) (bk BK168) hb);have n1_:=bs hb;have n2_:=Aside0.mk (hbox);have n3_:=Aside0.mk ((by rw [hg];exact (below_size be):w.heap.size≤gb169));have n4_:=Aside0.mk ((by rw [hg];exact (below_size be):w.heap.size≤gb169));have n5_:=Aside0.mk ((by rw [hg];exact Nat.ne_of_lt (blk_lt (g:=gb168) (o:=.cells #[.int .i64 a0_0,.int .i64 a0_1,.int .i64 a0_2] 53 (0,0)) (bk BK168)):gb168 ≠ gb169));have n6_:=Aside0.mk ((by rw [hg];exact Nat.ne_of_gt (blk_lt (g:=gb168) (o:=.cells #[.int .i64 a0_0,.int .i64 a0_1,.int .i64 a0_2] 53 (0,0)) (bk BK168)):gb169 ≠ gb168));clear BK168;clear HB;have BK168:=n0_;have HB:=n1_;have BK169:=n2_;have GW169:=n3_;have GE169:=n4_;have NB168_169:=n5_;have NB169_168:=n6_;clear n0_ n1_ n2_ n3_ n4_ n5_ n6_;clear hb hbox hg)|((with_reducible refine gate_dst (N:=3) rfl ?_);refine box_event ?hg (N:=3) ?hd (cs:=#[.int .i64 0,.int .i64 0,.int .i64 0]) (t:=59) ?hr ?_;(case hd=>rfl);(case hg=>rfl);(case hr=>first|(go_simp;done)|(go_simp;rfl));intro gb170 hg w4 hbox hb;have n0_:=Aside0.mk (blk_below (g:=gb168) (o:=.cells #[.int .i64 a0_0,.int .i64 a0_1,.int .i64 a0_2] 53 (0,0)) (bk BK168) hb);have n1_:=Aside0.mk (blk_below (g:=gb169) (o:=.cells #[.int .i64 0,.int .i64 0,.int .i64 0] 59 (0,0)) (bk BK169) hb);have n2_:=bs hb;have n3_:=Aside0.mk (hbox);have n4_:=Aside0.mk ((by rw [hg];exact (below_size be):w.heap.size≤gb170));have n5_:=Aside0.mk ((by rw [hg];exact (below_size be):w.heap.size≤gb170));have n6_:=Aside0.mk ((by rw [hg];exact Nat.ne_of_lt (blk_lt (g:=gb168) (o:=.cells #[.int .i64 a0_0,.int .i64 a0_1,.int .i64 a0_2] 53 (0,0)) (bk BK168)):gb168 ≠ gb170));have n7_:=Aside0.mk ((by rw [hg];exact Nat.ne_of_gt (blk_lt (g:=gb168) (o:=.cells #[.int .i64 a0_0,.int .i64 a0_1,.int .i64 a0_2] 53 (0,0)) (bk BK168)):gb170 ≠ gb168));have n8_:=Aside0.mk ((by rw [hg];exact Nat.ne_of_lt (blk_lt (g:=gb169) (o:=.cells #[.int .i64 0,.int .i64 0,.int .i64 0] 59 (0,0)) (bk BK169)):gb169 ≠ gb170));have n9_:=Aside0.mk ((by rw [hg];exact Nat.ne_of_gt (blk_lt (g:=gb169) (o:=.cells #[.int .i64 0,.int .i64 0,.int .i64 0] 59 (0,0)) (bk BK169)):gb170 ≠ gb169));clear BK168;clear BK169;clear HB;have BK168:=n0_;have BK169:=n1_;have HB:=n2_;have BK170:=n3_;have GW170:=n4_;have GE170:=n5_;have NB168_170:=n6_;have NB170_168:=n7_;have NB169_170:=n8_;have NB170_169:=n9_;clear n0_ n1_ n2_ n3_ n4_ n5_ n6_ n7_ n8_ n9_;clear hb hbox hg;have hnb5:=NB168_169.out;have hnc5:=NB169_168.out;have hnb6:=NB168_170.out;have hnc6:=NB170_168.out;have hcz7_0:w4.cell? ⟨gb168,0,none⟩=some (.int .i64 a0_0):=(blk_cell BK168.out 0).trans rfl;have hcz7_1:w4.cell? ⟨gb168,1,none⟩=some (.int .i64 a0_1):=(blk_cell BK168.out 1).trans rfl;have hcz7_2:w4.cell? ⟨gb168,2,none⟩=some (.int .i64 a0_2):=(blk_cell BK168.out 2).trans rfl;have hfz7_0:=blk_frozen BK168.out 0;have hfz7_1:=blk_frozen BK168.out 1;have hfz7_2:=blk_frozen BK168.out 2;have hnb8:=NB170_169.out;have hnc8:=NB169_170.out;have hcz9_0:w4.cell? ⟨gb170,0,none⟩=some (.int .i64 0):=(blk_cell BK170.out 0).trans rfl;have hcz9_1:w4.cell? ⟨gb170,1,none⟩=some (.int .i64 0):=(blk_cell BK170.out 1).trans rfl;have hcz9_2:w4.cell? ⟨gb170,2,none⟩=some (.int .i64 0):=(blk_cell BK170.out 2).trans rfl;have hfz9_0:=blk_frozen BK170.out 0;have hfz9_1:=blk_frozen BK170.out 1;have hfz9_2:=blk_frozen BK170.out 2;have hcz10_0:w4.cell? ⟨gb169,0,none⟩=some (.int .i64 0):=(blk_cell BK169.out 0).trans rfl;have hcz10_1:w4.cell? ⟨gb169,1,none⟩=some (.int .i64 0):=(blk_cell BK169.out 1).trans rfl;have hcz10_2:w4.cell? ⟨gb169,2,none⟩=some (.int .i64 0):=(blk_cell BK169.out 2).trans rfl;have hfz10_0:=blk_frozen BK169.out 0;have hfz10_1:=blk_frozen BK169.out 1;have hfz10_2:=blk_frozen BK169.out 2))
 refine bodyPost_ret (results_cell_row rfl _ _ gb169 59 #[.int .i64 a0_0,.int .i64 a0_1,.int .i64 a0_2] (0,0) _ rfl (by (with_reducible repeat (first|refine blk_drewN ?_ _|refine blk_drew ?_|refine blk_alloc ?_ _));refine blk_put (cs:=#[.int .i64 a0_0,.int .i64 a0_1,.int .i64 0]) ?_ 2 _ rfl;(with_reducible repeat (first|refine blk_drewN ?_ _|refine blk_drew ?_|refine blk_alloc ?_ _));refine blk_put (cs:=#[.int .i64 a0_0,.int .i64 0,.int .i64 0]) ?_ 1 _ rfl;(with_reducible repeat (first|refine blk_drewN ?_ _|refine blk_drew ?_|refine blk_alloc ?_ _));refine blk_put (cs:=#[.int .i64 0,.int .i64 0,.int .i64 0]) ?_ 0 _ rfl;(with_reducible repeat (first|refine blk_drewN ?_ _|refine blk_drew ?_|refine blk_alloc ?_ _));refine blk_far ?_ NB169_170.out _;(with_reducible repeat (first|refine blk_drewN ?_ _|refine blk_drew ?_|refine blk_alloc ?_ _));refine blk_far ?_ NB169_170.out _;(with_reducible repeat (first|refine blk_drewN ?_ _|refine blk_drew ?_|refine blk_alloc ?_ _));refine blk_far ?_ NB169_170.out _;(with_reducible repeat (first|refine blk_drewN ?_ _|refine blk_drew ?_|refine blk_alloc ?_ _));exact BK169.out) Try.underlying59 rfl (by kernel_rfl)) rfl ?_
 exact ⟨rz,be⟩
def laws_toFile.f (k:Nat) (a0_0:Int) (a0_1:Int) (a0_2:Int) (a0_3:Bool) (l0_4:List Int):Option (Int × Int × Int × Bool × List Int):=(laws_toStamp.f a0_0 a0_1 a0_2).bind fun bt174=>((laws_toByteS.f k l0_4).bind fun t177=>(some (bt174.1,bt174.2.1,bt174.2.2,a0_3,t177)))
set_option maxHeartbeats 8000000 in
set_option maxRecDepth 100000 in
theorem laws_toFile.calls (k:Nat) (a0_0:Int) (a0_1:Int) (a0_2:Int) (a0_3:Bool) (A0_4:Option Addr) (c0_4:Nat) (l0_4:List Int) (r1:Int) (r2:Int) (r3:Int) (r4:Bool) (r5:List Int) (w:World) (hr0_4:Kd.C (Kd.int .u8) w A0_4 l0_4.length l0_4) (hc0_4:l0_4.length≤c0_4) (h:laws_toFile.f k a0_0 a0_1 a0_2 a0_3 l0_4=some (r1,r2,r3,r4,r5)) :
  Calls Try.prog 36 #[.agg #[.int .i64 a0_0,.int .i64 a0_1,.int .i64 a0_2,.bool a0_3,.slice A0_4 l0_4.length c0_4]] w fun e w'=>∃ v4_:Value,e = .returned (.agg #[.int .i64 r1,.int .i64 r2,.int .i64 r3,.bool r4,v4_])∧Kd.R (Kd.int .u8) 5 w' w.heap.size (fun _=>True) v4_ r5∧Below w.heap.size w w':=by
 have hu56:=Try.underlying56
 have hu61:=Try.underlying61
 have hu53:=Try.underlying53
 have hu59:=Try.underlying59
 have HR0_4:=Aside0.mk hr0_4
 have HC0_4:=Aside0.mk hc0_4
 clear hr0_4 hc0_4
 have HB:=Aside0.mk (Below.refl w.heap.size w)
 have H:((laws_toStamp.f a0_0 a0_1 a0_2).bind fun bt174=>((laws_toByteS.f k l0_4).bind fun t177=>(some (bt174.1,bt174.2.1,bt174.2.2,a0_3,t177))))=some (r1,r2,r3,r4,r5):=h
 clear h
 replace H:=Option.bind_eq_some_iff.mp H
 obtain ⟨⟨t174,t175,t176⟩,A20,H⟩:=H
 try dsimp only at H
 have A2:=Aside0.mk A20
 clear A20
 replace H:=Option.bind_eq_some_iff.mp H
 obtain ⟨t177,A30,H⟩:=H
 try dsimp only at H
 have A3:=Aside0.mk A30
 clear A30
 simp only [Option.some.injEq,Prod.mk.injEq] at H
 obtain ⟨rfl,rfl,rfl,rfl,rfl⟩:=H
 go_enter Try.func36,Try.ntmps36
 go_wp2_with (first|((with_reducible refine gate_dst (N:=1) rfl ?_);refine box_event ?hg (N:=1) ?hd (cs:=#[.int .i64 a0_0,.int .i64 a0_1,.int .i64 a0_2,.bool a0_3,.slice A0_4 l0_4.length c0_4]) (t:=56) ?hr ?_;(case hd=>rfl);(case hg=>rfl);(case hr=>first|(go_simp;done)|(go_simp;rfl));intro gb171 hg w4 hbox hb;have n0_:=bs hb;have n1_:=Aside0.mk (hbox);have n2_:=Aside0.mk ((by rw [hg];exact (below_size be):w.heap.size≤gb171));have n3_:=Aside0.mk ((by rw [hg];exact (below_size be):w.heap.size≤gb171));clear HB;have HB:=n0_;have BK171:=n1_;have GW171:=n2_;have GE171:=n3_;clear n0_ n1_ n2_ n3_;clear hb hbox hg)|((with_reducible refine gate_dst (N:=2) rfl ?_);refine box_event ?hg (N:=2) ?hd (cs:=#[.int .i64 0,.int .i64 0,.int .i64 0,.bool false,.slice none 0 0]) (t:=61) ?hr ?_;(case hd=>rfl);(case hg=>rfl);(case hr=>first|(go_simp;done)|(go_simp;rfl));intro gb172 hg w5 hbox hb;have n0_:=Aside0.mk (blk_below (g:=gb171) (o:=.cells #[.int .i64 a0_0,.int .i64 a0_1,.int .i64 a0_2,.bool a0_3,.slice A0_4 l0_4.length c0_4] 56 (0,0)) (bk BK171) hb);have n1_:=bs hb;have n2_:=Aside0.mk (hbox);have n3_:=Aside0.mk ((by rw [hg];exact (below_size be):w.heap.size≤gb172));have n4_:=Aside0.mk ((by rw [hg];exact (below_size be):w.heap.size≤gb172));have n5_:=Aside0.mk ((by rw [hg];exact Nat.ne_of_lt (blk_lt (g:=gb171) (o:=.cells #[.int .i64 a0_0,.int .i64 a0_1,.int .i64 a0_2,.bool a0_3,.slice A0_4 l0_4.length c0_4] 56 (0,0)) (bk BK171)):gb171 ≠ gb172));have n6_:=Aside0.mk ((by rw [hg];exact Nat.ne_of_gt (blk_lt (g:=gb171) (o:=.cells #[.int .i64 a0_0,.int .i64 a0_1,.int .i64 a0_2,.bool a0_3,.slice A0_4 l0_4.length c0_4] 56 (0,0)) (bk BK171)):gb172 ≠ gb171));clear BK171;clear HB;have BK171:=n0_;have HB:=n1_;have BK172:=n2_;have GW172:=n3_;have GE172:=n4_;have NB171_172:=n5_;have NB172_171:=n6_;clear n0_ n1_ n2_ n3_ n4_ n5_ n6_;clear hb hbox hg)|((with_reducible refine gate_dst (N:=3) rfl ?_);refine box_event ?hg (N:=3) ?hd (cs:=#[.int .i64 0,.int .i64 0,.int .i64 0,.bool false,.slice none 0 0]) (t:=61) ?hr ?_;(case hd=>rfl);(case hg=>rfl);(case hr=>first|(go_simp;done)|(go_simp;rfl));intro gb173 hg w6 hbox hb;have n0_:=Aside0.mk (blk_below (g:=gb171) (o:=.cells #[.int .i64 a0_0,.int .i64 a0_1,.int .i64 a0_2,.bool a0_3,.slice A0_4 l0_4.length c0_4] 56 (0,0)) (bk BK171) hb);have n1_:=Aside0.mk (blk_below (g:=gb172) (o:=.cells #[.int .i64 0,.int .i64 0,.int .i64 0,.bool false,.slice none 0 0] 61 (0,0)) (bk BK172) hb);have n2_:=bs hb;have n3_:=Aside0.mk (hbox);have n4_:=Aside0.mk ((by rw [hg];exact (below_size be):w.heap.size≤gb173));have n5_:=Aside0.mk ((by rw [hg];exact (below_size be):w.heap.size≤gb173));have n6_:=Aside0.mk ((by rw [hg];exact Nat.ne_of_lt (blk_lt (g:=gb171) (o:=.cells #[.int .i64 a0_0,.int .i64 a0_1,.int .i64 a0_2,.bool a0_3,.slice A0_4 l0_4.length c0_4] 56 (0,0)) (bk BK171)):gb171 ≠ gb173));have n7_:=Aside0.mk ((by rw [hg];exact Nat.ne_of_gt (blk_lt (g:=gb171) (o:=.cells #[.int .i64 a0_0,.int .i64 a0_1,.int .i64 a0_2,.bool a0_3,.slice A0_4 l0_4.length c0_4] 56 (0,0)) (bk BK171)):gb173 ≠ gb171));have n8_:=Aside0.mk ((by rw [hg];exact Nat.ne_of_lt (blk_lt (g:=gb172) (o:=.cells #[.int .i64 0,.int .i64 0,.int .i64 0,.bool false,.slice none 0 0] 61 (0,0)) (bk BK172)):gb172 ≠ gb173));have n9_:=Aside0.mk ((by rw [hg];exact Nat.ne_of_gt (blk_lt (g:=gb172) (o:=.cells #[.int .i64 0,.int .i64 0,.int .i64 0,.bool false,.slice none 0 0] 61 (0,0)) (bk BK172)):gb173 ≠ gb172));clear BK171;clear BK172;clear HB;have BK171:=n0_;have BK172:=n1_;have HB:=n2_;have BK173:=n3_;have GW173:=n4_;have GE173:=n5_;have NB171_173:=n6_;have NB173_171:=n7_;have NB172_173:=n8_;have NB173_172:=n9_;clear n0_ n1_ n2_ n3_ n4_ n5_ n6_ n7_ n8_ n9_;clear hb hbox hg;have hnb7:=NB171_172.out;have hnc7:=NB172_171.out;have hnb8:=NB171_173.out;have hnc8:=NB173_171.out;have hcz9_0:w6.cell? ⟨gb171,0,none⟩=some (.int .i64 a0_0):=(blk_cell BK171.out 0).trans rfl;have hcz9_1:w6.cell? ⟨gb171,1,none⟩=some (.int .i64 a0_1):=(blk_cell BK171.out 1).trans rfl;have hcz9_2:w6.cell? ⟨gb171,2,none⟩=some (.int .i64 a0_2):=(blk_cell BK171.out 2).trans rfl;have hcz9_3:w6.cell? ⟨gb171,3,none⟩=some (.bool a0_3):=(blk_cell BK171.out 3).trans rfl;have hcz9_4:w6.cell? ⟨gb171,4,none⟩=some (.slice A0_4 l0_4.length c0_4):=(blk_cell BK171.out 4).trans rfl;have hfz9_0:=blk_frozen BK171.out 0;have hfz9_1:=blk_frozen BK171.out 1;have hfz9_2:=blk_frozen BK171.out 2;have hfz9_3:=blk_frozen BK171.out 3;have hfz9_4:=blk_frozen BK171.out 4)|((with_reducible refine gate_callee (f:=92) rfl ?_);refine goesL_ (some 6) rfl rfl Try.func92 (by kernel_rfl) rfl #[.agg #[.int .i64 a0_0,.int .i64 a0_1,.int .i64 a0_2]] rfl (by (try simp only [List.map_toArray,List.map_cons,List.map_nil]);first|done|rfl|(simp only [List.length_drop,List.length_take];rfl)) ?_;(with_reducible refine (laws_toStamp.calls a0_0 a0_1 a0_2 t174 t175 t176 _ A2.out).mono ?_);rintro e w10 ⟨rfl,hb⟩;refine ⟨_,rfl,?_⟩;have n0_:=Aside0.mk (blk_below (g:=gb171) (o:=.cells #[.int .i64 a0_0,.int .i64 a0_1,.int .i64 a0_2,.bool a0_3,.slice A0_4 l0_4.length c0_4] 56 (0,0)) (bk BK171) hb);have n1_:=Aside0.mk (blk_below (g:=gb172) (o:=.cells #[.int .i64 0,.int .i64 0,.int .i64 0,.bool false,.slice none 0 0] 61 (0,0)) (bk BK172) hb);have n2_:=Aside0.mk (blk_below (g:=gb173) (o:=.cells #[.int .i64 0,.int .i64 0,.int .i64 0,.bool false,.slice none 0 0] 61 (0,0)) (bk BK173) hb);have n3_:=bs hb;clear BK171;clear BK172;clear BK173;clear HB;have BK171:=n0_;have BK172:=n1_;have BK173:=n2_;have HB:=n3_;clear n0_ n1_ n2_ n3_;(try clear hb);(try clear hb2);(try clear hk);(try clear hi);have hnb11:=NB173_172.out;have hnc11:=NB172_173.out;have hcz12_0:w10.cell? ⟨gb173,0,none⟩=some (.int .i64 0):=(blk_cell BK173.out 0).trans rfl;have hcz12_1:w10.cell? ⟨gb173,1,none⟩=some (.int .i64 0):=(blk_cell BK173.out 1).trans rfl;have hcz12_2:w10.cell? ⟨gb173,2,none⟩=some (.int .i64 0):=(blk_cell BK173.out 2).trans rfl;have hcz12_3:w10.cell? ⟨gb173,3,none⟩=some (.bool false):=(blk_cell BK173.out 3).trans rfl;have hcz12_4:w10.cell? ⟨gb173,4,none⟩=some (.slice none 0 0):=(blk_cell BK173.out 4).trans rfl;have hfz12_0:=blk_frozen BK173.out 0;have hfz12_1:=blk_frozen BK173.out 1;have hfz12_2:=blk_frozen BK173.out 2;have hfz12_3:=blk_frozen BK173.out 3;have hfz12_4:=blk_frozen BK173.out 4;have hcz13_0:w10.cell? ⟨gb171,0,none⟩=some (.int .i64 a0_0):=(blk_cell BK171.out 0).trans rfl;have hcz13_1:w10.cell? ⟨gb171,1,none⟩=some (.int .i64 a0_1):=(blk_cell BK171.out 1).trans rfl;have hcz13_2:w10.cell? ⟨gb171,2,none⟩=some (.int .i64 a0_2):=(blk_cell BK171.out 2).trans rfl;have hcz13_3:w10.cell? ⟨gb171,3,none⟩=some (.bool a0_3):=(blk_cell BK171.out 3).trans rfl;have hcz13_4:w10.cell? ⟨gb171,4,none⟩=some (.slice A0_4 l0_4.length c0_4):=(blk_cell BK171.out 4).trans rfl;have hfz13_0:=blk_frozen BK171.out 0;have hfz13_1:=blk_frozen BK171.out 1;have hfz13_2:=blk_frozen BK171.out 2;have hfz13_3:=blk_frozen BK171.out 3;have hfz13_4:=blk_frozen BK171.out 4)|((with_reducible refine gate_callee (f:=54) rfl ?_);refine goesL_ (some 13) rfl rfl Try.func54 (by kernel_rfl) rfl #[.slice A0_4 l0_4.length c0_4] rfl (by (try simp only [List.map_toArray,List.map_cons,List.map_nil]);first|done|rfl|(simp only [List.length_drop,List.length_take];rfl)) ?_;(with_reducible refine (laws_toByteS.calls k _ _ l0_4 t177 _ ?side1 ?side2 A3.out).mono ?_);(case side1=>exact Kd.C_below HR0_4.out be);(case side2=>exact HC0_4.out);rintro e w14 ⟨v178,rfl,ho0,hb⟩;refine ⟨_,rfl,?_⟩;have n0_:=Aside0.mk (Kd.R_lower ho0 (below_size be));have n1_:=Aside0.mk (blk_below (g:=gb171) (o:=.cells #[.int .i64 a0_0,.int .i64 a0_1,.int .i64 a0_2,.bool a0_3,.slice A0_4 l0_4.length c0_4] 56 (0,0)) (by (with_reducible repeat (first|refine blk_drewN ?_ _|refine blk_drew ?_|refine blk_alloc ?_ _));refine blk_far ?_ NB171_173.out _;(with_reducible repeat (first|refine blk_drewN ?_ _|refine blk_drew ?_|refine blk_alloc ?_ _));refine blk_far ?_ NB171_173.out _;(with_reducible repeat (first|refine blk_drewN ?_ _|refine blk_drew ?_|refine blk_alloc ?_ _));refine blk_far ?_ NB171_173.out _;(with_reducible repeat (first|refine blk_drewN ?_ _|refine blk_drew ?_|refine blk_alloc ?_ _));refine blk_far ?_ NB171_173.out _;(with_reducible repeat (first|refine blk_drewN ?_ _|refine blk_drew ?_|refine blk_alloc ?_ _));exact BK171.out) hb);have n2_:=Aside0.mk (blk_below (g:=gb172) (o:=.cells #[.int .i64 0,.int .i64 0,.int .i64 0,.bool false,.slice none 0 0] 61 (0,0)) (by (with_reducible repeat (first|refine blk_drewN ?_ _|refine blk_drew ?_|refine blk_alloc ?_ _));refine blk_far ?_ NB172_173.out _;(with_reducible repeat (first|refine blk_drewN ?_ _|refine blk_drew ?_|refine blk_alloc ?_ _));refine blk_far ?_ NB172_173.out _;(with_reducible repeat (first|refine blk_drewN ?_ _|refine blk_drew ?_|refine blk_alloc ?_ _));refine blk_far ?_ NB172_173.out _;(with_reducible repeat (first|refine blk_drewN ?_ _|refine blk_drew ?_|refine blk_alloc ?_ _));refine blk_far ?_ NB172_173.out _;(with_reducible repeat (first|refine blk_drewN ?_ _|refine blk_drew ?_|refine blk_alloc ?_ _));exact BK172.out) hb);have n3_:=Aside0.mk (blk_below (g:=gb173) (o:=.cells #[.int .i64 t174,.int .i64 t175,.int .i64 t176,.bool a0_3,.slice none 0 0] 61 (0,0)) (by (with_reducible repeat (first|refine blk_drewN ?_ _|refine blk_drew ?_|refine blk_alloc ?_ _));refine blk_put (cs:=#[.int .i64 t174,.int .i64 t175,.int .i64 t176,.bool false,.slice none 0 0]) ?_ 3 _ rfl;(with_reducible repeat (first|refine blk_drewN ?_ _|refine blk_drew ?_|refine blk_alloc ?_ _));refine blk_put (cs:=#[.int .i64 t174,.int .i64 t175,.int .i64 0,.bool false,.slice none 0 0]) ?_ 2 _ rfl;(with_reducible repeat (first|refine blk_drewN ?_ _|refine blk_drew ?_|refine blk_alloc ?_ _));refine blk_put (cs:=#[.int .i64 t174,.int .i64 0,.int .i64 0,.bool false,.slice none 0 0]) ?_ 1 _ rfl;(with_reducible repeat (first|refine blk_drewN ?_ _|refine blk_drew ?_|refine blk_alloc ?_ _));refine blk_put (cs:=#[.int .i64 0,.int .i64 0,.int .i64 0,.bool false,.slice none 0 0]) ?_ 0 _ rfl;(with_reducible repeat (first|refine blk_drewN ?_ _|refine blk_drew ?_|refine blk_alloc ?_ _));exact BK173.out) hb);have n4_:=bs hb;clear BK171;clear BK172;clear BK173;clear HB;have HO179:=n0_;have BK171:=n1_;have BK172:=n2_;have BK173:=n3_;have HB:=n4_;clear n0_ n1_ n2_ n3_ n4_;(try clear hb);(try clear hb2);(try clear hk);(try clear hi);(try clear ho0);obtain ⟨Ao15,co15,eo15⟩:=Kd.R_slice HO179.out;subst eo15;have hcz16_0:w14.cell? ⟨gb173,0,none⟩=some (.int .i64 t174):=(blk_cell BK173.out 0).trans rfl;have hcz16_1:w14.cell? ⟨gb173,1,none⟩=some (.int .i64 t175):=(blk_cell BK173.out 1).trans rfl;have hcz16_2:w14.cell? ⟨gb173,2,none⟩=some (.int .i64 t176):=(blk_cell BK173.out 2).trans rfl;have hcz16_3:w14.cell? ⟨gb173,3,none⟩=some (.bool a0_3):=(blk_cell BK173.out 3).trans rfl;have hcz16_4:w14.cell? ⟨gb173,4,none⟩=some (.slice none 0 0):=(blk_cell BK173.out 4).trans rfl;have hfz16_0:=blk_frozen BK173.out 0;have hfz16_1:=blk_frozen BK173.out 1;have hfz16_2:=blk_frozen BK173.out 2;have hfz16_3:=blk_frozen BK173.out 3;have hfz16_4:=blk_frozen BK173.out 4;have hcz17_0:w14.cell? ⟨gb172,0,none⟩=some (.int .i64 0):=(blk_cell BK172.out 0).trans rfl;have hcz17_1:w14.cell? ⟨gb172,1,none⟩=some (.int .i64 0):=(blk_cell BK172.out 1).trans rfl;have hcz17_2:w14.cell? ⟨gb172,2,none⟩=some (.int .i64 0):=(blk_cell BK172.out 2).trans rfl;have hcz17_3:w14.cell? ⟨gb172,3,none⟩=some (.bool false):=(blk_cell BK172.out 3).trans rfl;have hcz17_4:w14.cell? ⟨gb172,4,none⟩=some (.slice none 0 0):=(blk_cell BK172.out 4).trans rfl;have hfz17_0:=blk_frozen BK172.out 0;have hfz17_1:=blk_frozen BK172.out 1;have hfz17_2:=blk_frozen BK172.out 2;have hfz17_3:=blk_frozen BK172.out 3;have hfz17_4:=blk_frozen BK172.out 4))
 refine bodyPost_ret (results_cell_row rfl _ _ gb172 61 #[.int .i64 t174,.int .i64 t175,.int .i64 t176,.bool a0_3,.slice Ao15 t177.length co15] (0,0) _ rfl (by (with_reducible repeat (first|refine blk_drewN ?_ _|refine blk_drew ?_|refine blk_alloc ?_ _));refine blk_put (cs:=#[.int .i64 t174,.int .i64 t175,.int .i64 t176,.bool a0_3,.slice none 0 0]) ?_ 4 _ rfl;(with_reducible repeat (first|refine blk_drewN ?_ _|refine blk_drew ?_|refine blk_alloc ?_ _));refine blk_put (cs:=#[.int .i64 t174,.int .i64 t175,.int .i64 t176,.bool false,.slice none 0 0]) ?_ 3 _ rfl;(with_reducible repeat (first|refine blk_drewN ?_ _|refine blk_drew ?_|refine blk_alloc ?_ _));refine blk_put (cs:=#[.int .i64 t174,.int .i64 t175,.int .i64 0,.bool false,.slice none 0 0]) ?_ 2 _ rfl;(with_reducible repeat (first|refine blk_drewN ?_ _|refine blk_drew ?_|refine blk_alloc ?_ _));refine blk_put (cs:=#[.int .i64 t174,.int .i64 0,.int .i64 0,.bool false,.slice none 0 0]) ?_ 1 _ rfl;(with_reducible repeat (first|refine blk_drewN ?_ _|refine blk_drew ?_|refine blk_alloc ?_ _));refine blk_put (cs:=#[.int .i64 0,.int .i64 0,.int .i64 0,.bool false,.slice none 0 0]) ?_ 0 _ rfl;(with_reducible repeat (first|refine blk_drewN ?_ _|refine blk_drew ?_|refine blk_alloc ?_ _));refine blk_far ?_ NB172_173.out _;(with_reducible repeat (first|refine blk_drewN ?_ _|refine blk_drew ?_|refine blk_alloc ?_ _));exact BK172.out) Try.underlying61 rfl (by kernel_rfl)) rfl ?_
 exact ⟨_,rz,by (with_reducible repeat (first|apply Kd.R_alloc|apply Kd.R_drewN|apply Kd.R_drew));exact Kd.R_mono (Kd.R_far (p:=⟨gb172,4,none⟩) (Kd.R_far (p:=⟨gb172,3,none⟩) (Kd.R_far (p:=⟨gb172,2,none⟩) (Kd.R_far (p:=⟨gb172,1,none⟩) (Kd.R_far (p:=⟨gb172,0,none⟩) (Kd.R_far (p:=⟨gb173,4,none⟩) (Kd.R_types (Kd.R_types HO179.out BK173.out (by decide)) BK172.out (by decide)) (fun _ hk=>hk.1.2) (.slice Ao15 t177.length co15)) (fun _ hk=>hk.2) (.int .i64 t174)) (fun _ hk=>hk.2) (.int .i64 t175)) (fun _ hk=>hk.2) (.int .i64 t176)) (fun _ hk=>hk.2) (.bool a0_3)) (fun _ hk=>hk.2) (.slice Ao15 t177.length co15)) (fun _ hk=>trivial),be⟩
def impl_in.f (a0:Int) (a1:Int) (a2:Int):Option (Bool):=if a0 ≥ a1 then (some (decide (a0≤a2))) else (some false)
set_option maxHeartbeats 8000000 in
set_option maxRecDepth 100000 in
theorem impl_in.calls (a0:Int) (a1:Int) (a2:Int) (r:Bool) (w:World) (h:impl_in.f a0 a1 a2=some r) :
  Calls Try.prog 101 #[.int .i64 a0,.int .i64 a1,.int .i64 a2] w fun e w'=>e = .returned (.bool r)∧Drawn0 w w':=by
 have H:(if a0 ≥ a1 then (some (decide (a0≤a2))) else (some false))=some r:=h
 clear h
 by_cases c4:a0 ≥ a1
 ·rw [if_pos c4] at H
  have c4b0:decide (a1≤a0)=true:=decide_eq_true c4
  clear c4
  obtain rfl:=Option.some.inj H
  go_enter Try.func101,Try.ntmps101
  go_wp2
  go_ret
  exact ⟨by first|rfl|(simp;done)|(simp [*];done),by repeat (first|exact Drawn0.refl _|apply Drawn0.step)⟩
 ·rw [if_neg c4] at H
  have c4b0:decide (a1≤a0)=false:=decide_eq_false c4
  clear c4
  obtain rfl:=Option.some.inj H
  go_enter Try.func101,Try.ntmps101
  go_wp2
  go_ret
  exact ⟨by first|rfl|(simp;done)|(simp [*];done),by repeat (first|exact Drawn0.refl _|apply Drawn0.step)⟩
def impl_StampOk.f (a0_0:Int) (a0_1:Int) (a0_2:Int):Option (Bool):=(impl_in.f a0_0 0 1000000000).bind fun t181=>(if t181=true then ((impl_in.f a0_1 0 1000000).bind fun t182=>(if t182=true then ((impl_in.f a0_2 0 20).bind fun t183=>(some t183)) else (some false))) else (some false))
set_option maxHeartbeats 8000000 in
set_option maxRecDepth 100000 in
theorem impl_StampOk.calls (a0_0:Int) (a0_1:Int) (a0_2:Int) (r:Bool) (w:World) (h:impl_StampOk.f a0_0 a0_1 a0_2=some r) :
  Calls Try.prog 117 #[.agg #[.int .i64 a0_0,.int .i64 a0_1,.int .i64 a0_2]] w fun e w'=>e = .returned (.bool r)∧Below w.heap.size w w':=by
 have hu59:=Try.underlying59
 have HB:=Aside0.mk (Below.refl w.heap.size w)
 have H:((impl_in.f a0_0 0 1000000000).bind fun t181=>(if t181=true then ((impl_in.f a0_1 0 1000000).bind fun t182=>(if t182=true then ((impl_in.f a0_2 0 20).bind fun t183=>(some t183)) else (some false))) else (some false)))=some r:=h
 clear h
 replace H:=Option.bind_eq_some_iff.mp H
 obtain ⟨t181,A20,H⟩:=H
 try dsimp only at H
 have A2:=Aside0.mk A20
 clear A20
 by_cases c3:t181=true
 ·subst c3
  rw [if_pos rfl] at H
  replace H:=Option.bind_eq_some_iff.mp H
  obtain ⟨t182,A40,H⟩:=H
  try dsimp only at H
  have A4:=Aside0.mk A40
  clear A40
  by_cases c5:t182=true
  ·subst c5
   rw [if_pos rfl] at H
   replace H:=Option.bind_eq_some_iff.mp H
   obtain ⟨t183,A60,H⟩:=H
   try dsimp only at H
   have A6:=Aside0.mk A60
   clear A60
   obtain rfl:=Option.some.inj H
   go_enter Try.func117,Try.ntmps117
   go_wp2_with (first|((with_reducible refine gate_dst (N:=1) rfl ?_);refine box_event ?hg (N:=1) ?hd (cs:=#[.int .i64 a0_0,.int .i64 a0_1,.int .i64 a0_2]) (t:=59) ?hr ?_;(case hd=>rfl);(case hg=>rfl);(case hr=>first|(go_simp;done)|(go_simp;rfl));intro gb180 hg w7 hbox hb;have n0_:=bs hb;have n1_:=Aside0.mk (hbox);have n2_:=Aside0.mk ((by rw [hg];exact (below_size be):w.heap.size≤gb180));have n3_:=Aside0.mk ((by rw [hg];exact (below_size be):w.heap.size≤gb180));clear HB;have HB:=n0_;have BK180:=n1_;have GW180:=n2_;have GE180:=n3_;clear n0_ n1_ n2_ n3_;clear hb hbox hg;have hcz8_0:w7.cell? ⟨gb180,0,none⟩=some (.int .i64 a0_0):=(blk_cell BK180.out 0).trans rfl;have hcz8_1:w7.cell? ⟨gb180,1,none⟩=some (.int .i64 a0_1):=(blk_cell BK180.out 1).trans rfl;have hcz8_2:w7.cell? ⟨gb180,2,none⟩=some (.int .i64 a0_2):=(blk_cell BK180.out 2).trans rfl;have hfz8_0:=blk_frozen BK180.out 0;have hfz8_1:=blk_frozen BK180.out 1;have hfz8_2:=blk_frozen BK180.out 2)|((with_reducible refine gate_callee (f:=101) rfl ?_);refine goesL_ (some 5) rfl rfl Try.func101 (by kernel_rfl) rfl #[.int .i64 a0_0,.int .i64 0,.int .i64 1000000000] rfl (by (try simp only [List.map_toArray,List.map_cons,List.map_nil]);first|done|rfl|(simp only [List.length_drop,List.length_take];rfl)) ?_;(with_reducible refine (impl_in.calls a0_0 0 1000000000 true _ A2.out).mono ?_);rintro e w' ⟨rfl,⟨nd,rfl⟩⟩;refine ⟨_,rfl,?_⟩)|(go_at_call 101;(with_reducible refine (impl_in.calls a0_1 0 1000000 true _ A4.out).mono ?_);rintro e w' ⟨rfl,⟨nd,rfl⟩⟩)|(go_at_call 101;(with_reducible refine (impl_in.calls a0_2 0 20 t183 _ A6.out).mono ?_);rintro e w' ⟨rfl,⟨nd,rfl⟩⟩))
   go_ret
   exact ⟨rz,be⟩
  ·replace c5:=Bool.eq_false_iff.mpr c5
   subst c5
   have H1:(some false)=some r:=by rw [if_neg (show ¬ (false=true) by decide)] at H;exact H
   clear H
   have H:=H1
   clear H1
   obtain rfl:=Option.some.inj H
   go_enter Try.func117,Try.ntmps117
   go_wp2_with (first|((with_reducible refine gate_dst (N:=1) rfl ?_);refine box_event ?hg (N:=1) ?hd (cs:=#[.int .i64 a0_0,.int .i64 a0_1,.int .i64 a0_2]) (t:=59) ?hr ?_;(case hd=>rfl);(case hg=>rfl);(case hr=>first|(go_simp;done)|(go_simp;rfl));intro gb180 hg w9 hbox hb;have n0_:=bs hb;have n1_:=Aside0.mk (hbox);have n2_:=Aside0.mk ((by rw [hg];exact (below_size be):w.heap.size≤gb180));have n3_:=Aside0.mk ((by rw [hg];exact (below_size be):w.heap.size≤gb180));clear HB;have HB:=n0_;have BK180:=n1_;have GW180:=n2_;have GE180:=n3_;clear n0_ n1_ n2_ n3_;clear hb hbox hg;have hcz10_0:w9.cell? ⟨gb180,0,none⟩=some (.int .i64 a0_0):=(blk_cell BK180.out 0).trans rfl;have hcz10_1:w9.cell? ⟨gb180,1,none⟩=some (.int .i64 a0_1):=(blk_cell BK180.out 1).trans rfl;have hcz10_2:w9.cell? ⟨gb180,2,none⟩=some (.int .i64 a0_2):=(blk_cell BK180.out 2).trans rfl;have hfz10_0:=blk_frozen BK180.out 0;have hfz10_1:=blk_frozen BK180.out 1;have hfz10_2:=blk_frozen BK180.out 2)|((with_reducible refine gate_callee (f:=101) rfl ?_);refine goesL_ (some 5) rfl rfl Try.func101 (by kernel_rfl) rfl #[.int .i64 a0_0,.int .i64 0,.int .i64 1000000000] rfl (by (try simp only [List.map_toArray,List.map_cons,List.map_nil]);first|done|rfl|(simp only [List.length_drop,List.length_take];rfl)) ?_;(with_reducible refine (impl_in.calls a0_0 0 1000000000 true _ A2.out).mono ?_);rintro e w' ⟨rfl,⟨nd,rfl⟩⟩;refine ⟨_,rfl,?_⟩)|(go_at_call 101;(with_reducible refine (impl_in.calls a0_1 0 1000000 false _ A4.out).mono ?_);rintro e w' ⟨rfl,⟨nd,rfl⟩⟩))
   go_ret
   exact ⟨rz,be⟩
 ·replace c3:=Bool.eq_false_iff.mpr c3
  subst c3
  have H1:(some false)=some r:=by rw [if_neg (show ¬ (false=true) by decide)] at H;exact H
  clear H
  have H:=H1
  clear H1
  obtain rfl:=Option.some.inj H
  go_enter Try.func117,Try.ntmps117
  go_wp2_with (first|((with_reducible refine gate_dst (N:=1) rfl ?_);refine box_event ?hg (N:=1) ?hd (cs:=#[.int .i64 a0_0,.int .i64 a0_1,.int .i64 a0_2]) (t:=59) ?hr ?_;(case hd=>rfl);(case hg=>rfl);(case hr=>first|(go_simp;done)|(go_simp;rfl));intro gb180 hg w11 hbox hb;have n0_:=bs hb;have n1_:=Aside0.mk (hbox);have n2_:=Aside0.mk ((by rw [hg];exact (below_size be):w.heap.size≤gb180));have n3_:=Aside0.mk ((by rw [hg];exact (below_size be):w.heap.size≤gb180));clear HB;have HB:=n0_;have BK180:=n1_;have GW180:=n2_;have GE180:=n3_;clear n0_ n1_ n2_ n3_;clear hb hbox hg;have hcz12_0:w11.cell? ⟨gb180,0,none⟩=some (.int .i64 a0_0):=(blk_cell BK180.out 0).trans rfl;have hcz12_1:w11.cell? ⟨gb180,1,none⟩=some (.int .i64 a0_1):=(blk_cell BK180.out 1).trans rfl;have hcz12_2:w11.cell? ⟨gb180,2,none⟩=some (.int .i64 a0_2):=(blk_cell BK180.out 2).trans rfl;have hfz12_0:=blk_frozen BK180.out 0;have hfz12_1:=blk_frozen BK180.out 1;have hfz12_2:=blk_frozen BK180.out 2)|((with_reducible refine gate_callee (f:=101) rfl ?_);refine goesL_ (some 5) rfl rfl Try.func101 (by kernel_rfl) rfl #[.int .i64 a0_0,.int .i64 0,.int .i64 1000000000] rfl (by (try simp only [List.map_toArray,List.map_cons,List.map_nil]);first|done|rfl|(simp only [List.length_drop,List.length_take];rfl)) ?_;(with_reducible refine (impl_in.calls a0_0 0 1000000000 false _ A2.out).mono ?_);rintro e w' ⟨rfl,⟨nd,rfl⟩⟩;refine ⟨_,rfl,?_⟩))
  go_ret
  exact ⟨rz,be⟩
def impl_FileOk.f (a0_0:Int) (a0_1:Int) (a0_2:Int) (a0_3:Bool) (l0_4:List Int):Option (Bool):=(impl_StampOk.f a0_0 a0_1 a0_2).bind fun t185=>(if t185=true then (if (l0_4.length:Int)≤200 then (if a0_3=true then (some ((l0_4.length:Int) == 0)) else (some true)) else (some false)) else (some false))
set_option maxHeartbeats 8000000 in
set_option maxRecDepth 100000 in
theorem impl_FileOk.calls (a0_0:Int) (a0_1:Int) (a0_2:Int) (a0_3:Bool) (A0_4:Option Addr) (c0_4:Nat) (l0_4:List Int) (r:Bool) (w:World) (hr0_4:Kd.C (Kd.int .u8) w A0_4 l0_4.length l0_4) (hc0_4:l0_4.length≤c0_4) (h:impl_FileOk.f a0_0 a0_1 a0_2 a0_3 l0_4=some r) :
  Calls Try.prog 66 #[.agg #[.int .i64 a0_0,.int .i64 a0_1,.int .i64 a0_2,.bool a0_3,.slice A0_4 l0_4.length c0_4]] w fun e w'=>e = .returned (.bool r)∧Below w.heap.size w w':=by
 have hu61:=Try.underlying61
 have hu59:=Try.underlying59
 have HR0_4:=Aside0.mk hr0_4
 have HC0_4:=Aside0.mk hc0_4
 clear hr0_4 hc0_4
 have HB:=Aside0.mk (Below.refl w.heap.size w)
 have H:((impl_StampOk.f a0_0 a0_1 a0_2).bind fun t185=>(if t185=true then (if (l0_4.length:Int)≤200 then (if a0_3=true then (some ((l0_4.length:Int) == 0)) else (some true)) else (some false)) else (some false)))=some r:=h
 clear h
 replace H:=Option.bind_eq_some_iff.mp H
 obtain ⟨t185,A20,H⟩:=H
 try dsimp only at H
 have A2:=Aside0.mk A20
 clear A20
 by_cases c3:t185=true
 ·subst c3
  rw [if_pos rfl] at H
  by_cases c4:(l0_4.length:Int)≤200
  ·rw [if_pos c4] at H
   have c4b0:decide ((l0_4.length:Int)≤200)=true:=decide_eq_true c4
   have c4b1:decide (l0_4.length≤200)=true:=decide_eq_true (by omega)
   clear c4
   by_cases c5:a0_3=true
   ·subst c5
    rw [if_pos rfl] at H
    obtain rfl:=Option.some.inj H
    go_enter Try.func66,Try.ntmps66
    go_wp2_with (first|((with_reducible refine gate_dst (N:=1) rfl ?_);(try (refine gate_guard (by rfl) ?_;dsimp only));refine box_event ?hg (N:=1) ?hd (cs:=#[.int .i64 a0_0,.int .i64 a0_1,.int .i64 a0_2,.bool true,.slice A0_4 l0_4.length c0_4]) (t:=61) ?hr ?_;(case hd=>rfl);(case hg=>rfl);(case hr=>first|(go_simp;done)|(go_simp;rfl));intro gb184 hg w6 hbox hb;have n0_:=bs hb;have n1_:=Aside0.mk (hbox);have n2_:=Aside0.mk ((by rw [hg];exact (below_size be):w.heap.size≤gb184));have n3_:=Aside0.mk ((by rw [hg];exact (below_size be):w.heap.size≤gb184));clear HB;have HB:=n0_;have BK184:=n1_;have GW184:=n2_;have GE184:=n3_;clear n0_ n1_ n2_ n3_;clear hb hbox hg;have hcz7_0:w6.cell? ⟨gb184,0,none⟩=some (.int .i64 a0_0):=(blk_cell BK184.out 0).trans rfl;have hcz7_1:w6.cell? ⟨gb184,1,none⟩=some (.int .i64 a0_1):=(blk_cell BK184.out 1).trans rfl;have hcz7_2:w6.cell? ⟨gb184,2,none⟩=some (.int .i64 a0_2):=(blk_cell BK184.out 2).trans rfl;have hcz7_3:w6.cell? ⟨gb184,3,none⟩=some (.bool true):=(blk_cell BK184.out 3).trans rfl;have hcz7_4:w6.cell? ⟨gb184,4,none⟩=some (.slice A0_4 l0_4.length c0_4):=(blk_cell BK184.out 4).trans rfl;have hfz7_0:=blk_frozen BK184.out 0;have hfz7_1:=blk_frozen BK184.out 1;have hfz7_2:=blk_frozen BK184.out 2;have hfz7_3:=blk_frozen BK184.out 3;have hfz7_4:=blk_frozen BK184.out 4)|((with_reducible refine gate_callee (f:=117) rfl ?_);refine goesL_ (some 5) rfl rfl Try.func117 (by kernel_rfl) rfl #[.agg #[.int .i64 a0_0,.int .i64 a0_1,.int .i64 a0_2]] rfl (by (try simp only [List.map_toArray,List.map_cons,List.map_nil]);first|done|rfl|(simp only [List.length_drop,List.length_take];rfl)) ?_;(with_reducible refine (impl_StampOk.calls a0_0 a0_1 a0_2 true _ A2.out).mono ?_);rintro e w8 ⟨rfl,hb⟩;refine ⟨_,rfl,?_⟩;have n0_:=Aside0.mk (blk_below (g:=gb184) (o:=.cells #[.int .i64 a0_0,.int .i64 a0_1,.int .i64 a0_2,.bool true,.slice A0_4 l0_4.length c0_4] 61 (0,0)) (bk BK184) hb);have n1_:=bs hb;clear BK184;clear HB;have BK184:=n0_;have HB:=n1_;clear n0_ n1_;(try clear hb);(try clear hb2);(try clear hk);(try clear hi);have hcz9_0:w8.cell? ⟨gb184,0,none⟩=some (.int .i64 a0_0):=(blk_cell BK184.out 0).trans rfl;have hcz9_1:w8.cell? ⟨gb184,1,none⟩=some (.int .i64 a0_1):=(blk_cell BK184.out 1).trans rfl;have hcz9_2:w8.cell? ⟨gb184,2,none⟩=some (.int .i64 a0_2):=(blk_cell BK184.out 2).trans rfl;have hcz9_3:w8.cell? ⟨gb184,3,none⟩=some (.bool true):=(blk_cell BK184.out 3).trans rfl;have hcz9_4:w8.cell? ⟨gb184,4,none⟩=some (.slice A0_4 l0_4.length c0_4):=(blk_cell BK184.out 4).trans rfl;have hfz9_0:=blk_frozen BK184.out 0;have hfz9_1:=blk_frozen BK184.out 1;have hfz9_2:=blk_frozen BK184.out 2;have hfz9_3:=blk_frozen BK184.out 3;have hfz9_4:=blk_frozen BK184.out 4))
    go_ret
    exact ⟨rz,be⟩
   ·replace c5:=Bool.eq_false_iff.mpr c5
    subst c5
    have H1:(some true)=some r:=by rw [if_neg (show ¬ (false=true) by decide)] at H;exact H
    clear H
    have H:=H1
    clear H1
    obtain rfl:=Option.some.inj H
    go_enter Try.func66,Try.ntmps66
    go_wp2_with (first|((with_reducible refine gate_dst (N:=1) rfl ?_);(try (refine gate_guard (by rfl) ?_;dsimp only));refine box_event ?hg (N:=1) ?hd (cs:=#[.int .i64 a0_0,.int .i64 a0_1,.int .i64 a0_2,.bool false,.slice A0_4 l0_4.length c0_4]) (t:=61) ?hr ?_;(case hd=>rfl);(case hg=>rfl);(case hr=>first|(go_simp;done)|(go_simp;rfl));intro gb184 hg w10 hbox hb;have n0_:=bs hb;have n1_:=Aside0.mk (hbox);have n2_:=Aside0.mk ((by rw [hg];exact (below_size be):w.heap.size≤gb184));have n3_:=Aside0.mk ((by rw [hg];exact (below_size be):w.heap.size≤gb184));clear HB;have HB:=n0_;have BK184:=n1_;have GW184:=n2_;have GE184:=n3_;clear n0_ n1_ n2_ n3_;clear hb hbox hg;have hcz11_0:w10.cell? ⟨gb184,0,none⟩=some (.int .i64 a0_0):=(blk_cell BK184.out 0).trans rfl;have hcz11_1:w10.cell? ⟨gb184,1,none⟩=some (.int .i64 a0_1):=(blk_cell BK184.out 1).trans rfl;have hcz11_2:w10.cell? ⟨gb184,2,none⟩=some (.int .i64 a0_2):=(blk_cell BK184.out 2).trans rfl;have hcz11_3:w10.cell? ⟨gb184,3,none⟩=some (.bool false):=(blk_cell BK184.out 3).trans rfl;have hcz11_4:w10.cell? ⟨gb184,4,none⟩=some (.slice A0_4 l0_4.length c0_4):=(blk_cell BK184.out 4).trans rfl;have hfz11_0:=blk_frozen BK184.out 0;have hfz11_1:=blk_frozen BK184.out 1;have hfz11_2:=blk_frozen BK184.out 2;have hfz11_3:=blk_frozen BK184.out 3;have hfz11_4:=blk_frozen BK184.out 4)|((with_reducible refine gate_callee (f:=117) rfl ?_);refine goesL_ (some 5) rfl rfl Try.func117 (by kernel_rfl) rfl #[.agg #[.int .i64 a0_0,.int .i64 a0_1,.int .i64 a0_2]] rfl (by (try simp only [List.map_toArray,List.map_cons,List.map_nil]);first|done|rfl|(simp only [List.length_drop,List.length_take];rfl)) ?_;(with_reducible refine (impl_StampOk.calls a0_0 a0_1 a0_2 true _ A2.out).mono ?_);rintro e w12 ⟨rfl,hb⟩;refine ⟨_,rfl,?_⟩;have n0_:=Aside0.mk (blk_below (g:=gb184) (o:=.cells #[.int .i64 a0_0,.int .i64 a0_1,.int .i64 a0_2,.bool false,.slice A0_4 l0_4.length c0_4] 61 (0,0)) (bk BK184) hb);have n1_:=bs hb;clear BK184;clear HB;have BK184:=n0_;have HB:=n1_;clear n0_ n1_;(try clear hb);(try clear hb2);(try clear hk);(try clear hi);have hcz13_0:w12.cell? ⟨gb184,0,none⟩=some (.int .i64 a0_0):=(blk_cell BK184.out 0).trans rfl;have hcz13_1:w12.cell? ⟨gb184,1,none⟩=some (.int .i64 a0_1):=(blk_cell BK184.out 1).trans rfl;have hcz13_2:w12.cell? ⟨gb184,2,none⟩=some (.int .i64 a0_2):=(blk_cell BK184.out 2).trans rfl;have hcz13_3:w12.cell? ⟨gb184,3,none⟩=some (.bool false):=(blk_cell BK184.out 3).trans rfl;have hcz13_4:w12.cell? ⟨gb184,4,none⟩=some (.slice A0_4 l0_4.length c0_4):=(blk_cell BK184.out 4).trans rfl;have hfz13_0:=blk_frozen BK184.out 0;have hfz13_1:=blk_frozen BK184.out 1;have hfz13_2:=blk_frozen BK184.out 2;have hfz13_3:=blk_frozen BK184.out 3;have hfz13_4:=blk_frozen BK184.out 4))
    go_ret
    exact ⟨rz,be⟩
  ·rw [if_neg c4] at H
   have c4b0:decide ((l0_4.length:Int)≤200)=false:=decide_eq_false c4
   have c4b1:decide (l0_4.length≤200)=false:=decide_eq_false (by omega)
   clear c4
   obtain rfl:=Option.some.inj H
   go_enter Try.func66,Try.ntmps66
   go_wp2_with (first|((with_reducible refine gate_dst (N:=1) rfl ?_);(try (refine gate_guard (by rfl) ?_;dsimp only));refine box_event ?hg (N:=1) ?hd (cs:=#[.int .i64 a0_0,.int .i64 a0_1,.int .i64 a0_2,.bool a0_3,.slice A0_4 l0_4.length c0_4]) (t:=61) ?hr ?_;(case hd=>rfl);(case hg=>rfl);(case hr=>first|(go_simp;done)|(go_simp;rfl));intro gb184 hg w14 hbox hb;have n0_:=bs hb;have n1_:=Aside0.mk (hbox);have n2_:=Aside0.mk ((by rw [hg];exact (below_size be):w.heap.size≤gb184));have n3_:=Aside0.mk ((by rw [hg];exact (below_size be):w.heap.size≤gb184));clear HB;have HB:=n0_;have BK184:=n1_;have GW184:=n2_;have GE184:=n3_;clear n0_ n1_ n2_ n3_;clear hb hbox hg;have hcz15_0:w14.cell? ⟨gb184,0,none⟩=some (.int .i64 a0_0):=(blk_cell BK184.out 0).trans rfl;have hcz15_1:w14.cell? ⟨gb184,1,none⟩=some (.int .i64 a0_1):=(blk_cell BK184.out 1).trans rfl;have hcz15_2:w14.cell? ⟨gb184,2,none⟩=some (.int .i64 a0_2):=(blk_cell BK184.out 2).trans rfl;have hcz15_3:w14.cell? ⟨gb184,3,none⟩=some (.bool a0_3):=(blk_cell BK184.out 3).trans rfl;have hcz15_4:w14.cell? ⟨gb184,4,none⟩=some (.slice A0_4 l0_4.length c0_4):=(blk_cell BK184.out 4).trans rfl;have hfz15_0:=blk_frozen BK184.out 0;have hfz15_1:=blk_frozen BK184.out 1;have hfz15_2:=blk_frozen BK184.out 2;have hfz15_3:=blk_frozen BK184.out 3;have hfz15_4:=blk_frozen BK184.out 4)|((with_reducible refine gate_callee (f:=117) rfl ?_);refine goesL_ (some 5) rfl rfl Try.func117 (by kernel_rfl) rfl #[.agg #[.int .i64 a0_0,.int .i64 a0_1,.int .i64 a0_2]] rfl (by (try simp only [List.map_toArray,List.map_cons,List.map_nil]);first|done|rfl|(simp only [List.length_drop,List.length_take];rfl)) ?_;(with_reducible refine (impl_StampOk.calls a0_0 a0_1 a0_2 true _ A2.out).mono ?_);rintro e w16 ⟨rfl,hb⟩;refine ⟨_,rfl,?_⟩;have n0_:=Aside0.mk (blk_below (g:=gb184) (o:=.cells #[.int .i64 a0_0,.int .i64 a0_1,.int .i64 a0_2,.bool a0_3,.slice A0_4 l0_4.length c0_4] 61 (0,0)) (bk BK184) hb);have n1_:=bs hb;clear BK184;clear HB;have BK184:=n0_;have HB:=n1_;clear n0_ n1_;(try clear hb);(try clear hb2);(try clear hk);(try clear hi);have hcz17_0:w16.cell? ⟨gb184,0,none⟩=some (.int .i64 a0_0):=(blk_cell BK184.out 0).trans rfl;have hcz17_1:w16.cell? ⟨gb184,1,none⟩=some (.int .i64 a0_1):=(blk_cell BK184.out 1).trans rfl;have hcz17_2:w16.cell? ⟨gb184,2,none⟩=some (.int .i64 a0_2):=(blk_cell BK184.out 2).trans rfl;have hcz17_3:w16.cell? ⟨gb184,3,none⟩=some (.bool a0_3):=(blk_cell BK184.out 3).trans rfl;have hcz17_4:w16.cell? ⟨gb184,4,none⟩=some (.slice A0_4 l0_4.length c0_4):=(blk_cell BK184.out 4).trans rfl;have hfz17_0:=blk_frozen BK184.out 0;have hfz17_1:=blk_frozen BK184.out 1;have hfz17_2:=blk_frozen BK184.out 2;have hfz17_3:=blk_frozen BK184.out 3;have hfz17_4:=blk_frozen BK184.out 4))
   go_ret
   exact ⟨rz,be⟩
 ·replace c3:=Bool.eq_false_iff.mpr c3
  subst c3
  have H1:(some false)=some r:=by rw [if_neg (show ¬ (false=true) by decide)] at H;exact H
  clear H
  have H:=H1
  clear H1
  obtain rfl:=Option.some.inj H
  go_enter Try.func66,Try.ntmps66
  go_wp2_with (first|((with_reducible refine gate_dst (N:=1) rfl ?_);(try (refine gate_guard (by rfl) ?_;dsimp only));refine box_event ?hg (N:=1) ?hd (cs:=#[.int .i64 a0_0,.int .i64 a0_1,.int .i64 a0_2,.bool a0_3,.slice A0_4 l0_4.length c0_4]) (t:=61) ?hr ?_;(case hd=>rfl);(case hg=>rfl);(case hr=>first|(go_simp;done)|(go_simp;rfl));intro gb184 hg w18 hbox hb;have n0_:=bs hb;have n1_:=Aside0.mk (hbox);have n2_:=Aside0.mk ((by rw [hg];exact (below_size be):w.heap.size≤gb184));have n3_:=Aside0.mk ((by rw [hg];exact (below_size be):w.heap.size≤gb184));clear HB;have HB:=n0_;have BK184:=n1_;have GW184:=n2_;have GE184:=n3_;clear n0_ n1_ n2_ n3_;clear hb hbox hg;have hcz19_0:w18.cell? ⟨gb184,0,none⟩=some (.int .i64 a0_0):=(blk_cell BK184.out 0).trans rfl;have hcz19_1:w18.cell? ⟨gb184,1,none⟩=some (.int .i64 a0_1):=(blk_cell BK184.out 1).trans rfl;have hcz19_2:w18.cell? ⟨gb184,2,none⟩=some (.int .i64 a0_2):=(blk_cell BK184.out 2).trans rfl;have hcz19_3:w18.cell? ⟨gb184,3,none⟩=some (.bool a0_3):=(blk_cell BK184.out 3).trans rfl;have hcz19_4:w18.cell? ⟨gb184,4,none⟩=some (.slice A0_4 l0_4.length c0_4):=(blk_cell BK184.out 4).trans rfl;have hfz19_0:=blk_frozen BK184.out 0;have hfz19_1:=blk_frozen BK184.out 1;have hfz19_2:=blk_frozen BK184.out 2;have hfz19_3:=blk_frozen BK184.out 3;have hfz19_4:=blk_frozen BK184.out 4)|((with_reducible refine gate_callee (f:=117) rfl ?_);refine goesL_ (some 5) rfl rfl Try.func117 (by kernel_rfl) rfl #[.agg #[.int .i64 a0_0,.int .i64 a0_1,.int .i64 a0_2]] rfl (by (try simp only [List.map_toArray,List.map_cons,List.map_nil]);first|done|rfl|(simp only [List.length_drop,List.length_take];rfl)) ?_;(with_reducible refine (impl_StampOk.calls a0_0 a0_1 a0_2 false _ A2.out).mono ?_);rintro e w20 ⟨rfl,hb⟩;refine ⟨_,rfl,?_⟩;have n0_:=Aside0.mk (blk_below (g:=gb184) (o:=.cells #[.int .i64 a0_0,.int .i64 a0_1,.int .i64 a0_2,.bool a0_3,.slice A0_4 l0_4.length c0_4] 61 (0,0)) (bk BK184) hb);have n1_:=bs hb;clear BK184;clear HB;have BK184:=n0_;have HB:=n1_;clear n0_ n1_;(try clear hb);(try clear hb2);(try clear hk);(try clear hi)))
  go_ret
  exact ⟨rz,be⟩
def impl_addNum.l0:Nat→List Int→Int→Option (List Int)
 | 0,_,_=>none
 | k+1,x0,x1=>if x1 > 127 then (if x0.length < 140737488355328 then (impl_addNum.l0 k (x0 ++ [(wrap64 ((Int.tmod x1 128)+128)) % 256]) (wrap64 (Int.tdiv x1 128))) else (none)) else (if x0.length < 140737488355328 then (some (x0 ++ [(x1) % 256])) else (none))
def impl_addNum.f (k:Nat) (l0:List Int) (a1:Int):Option (List Int):=impl_addNum.l0 k l0 (mx 0 (mn a1 1000000000))
set_option maxHeartbeats 8000000 in
set_option maxRecDepth 100000 in
theorem impl_addNum.calls (k:Nat) (P0_:Nat→Prop) (u9000_:Value) (l0:List Int) (a1:Int) (r:List Int) (w0 w:World) (hB:Below w0.heap.size w0 w) (ho0:Kd.R (Kd.int .u8) 5 w w0.heap.size P0_ u9000_ l0) (h:impl_addNum.f k l0 a1=some r) :
  Calls Try.prog 121 #[u9000_,.int .i64 a1] w fun e w'=>∃ v0_:Value,e = .returned (v0_)∧Kd.R (Kd.int .u8) 5 w' w0.heap.size (fun k_=>(P0_ k_ ∨ w.heap.size≤k_)) v0_ r∧Below w0.heap.size w0 w' ∧ Kept w w' (fun k_=>P0_ k_):=by
 have HO0:=Aside0.mk (show Kd.R (Kd.int .u8) 5 w w0.heap.size (fun k_=>(P0_ k_ ∨ w.heap.size≤k_)) u9000_ l0 from Kd.R_mono ho0 (fun k_ hk=>(.inl hk)))
 have HK:=Aside0.mk (Kept.refl w (fun k_=>P0_ k_))
 have HW0:=Aside0.mk hB.size
 have HB:=Aside0.mk hB
 clear hB
 have H:(impl_addNum.l0 k l0 (mx 0 (mn a1 1000000000)))=some r:=h
 clear h
 obtain ⟨ji3,hji3⟩ : ∃ j_:Int,(mn a1 1000000000)=j_:=⟨_,rfl⟩
 replace H:(impl_addNum.l0 k l0 (mx 0 (ji3)))=some r:=by first|(rw [hji3] at H;exact H)|(simp only [hji3] at H ⊢;exact H)
 (try (have hji3h:ji3≤1000000000:=by (rw [← hji3];unfold mn;(repeat' split) <;> omega)))
 (try (have hji3g:ji3≤64:=by omega))
 have hji3_:(if 1000000000 < a1 then 1000000000 else a1)=ji3:=hji3
 obtain ⟨ji4,hji4⟩ : ∃ j_:Int,(mx 0 (ji3))=j_:=⟨_,rfl⟩
 replace H:(impl_addNum.l0 k l0 ji4)=some r:=by first|(rw [hji4] at H;exact H)|(simp only [hji4] at H ⊢;exact H)
 have hji4_:(if 0 < (ji3) then (ji3) else 0)=ji4:=hji4
 have H':=Aside0.mk H
 clear H
 go_enter Try.func121,Try.ntmps121
 go_wp2
 go_loopg [0,1] k (fun kq v0 v1 w'=>∃ (x0_1:List Int) (x1_1:Int),v1 = .int .i64 x1_1∧Aside0 (impl_addNum.l0 kq x0_1 x1_1=some r)∧Aside0 (kq≤k)∧Aside0 (Kd.R (Kd.int .u8) 5 w' w0.heap.size (fun k_=>(P0_ k_ ∨ w.heap.size≤k_)) v0 x0_1)∧Aside0 (Kept w w' (fun k_=>P0_ k_))∧Aside0 (Below w0.heap.size w0 w'))
 case atStart=>exact ⟨(l0),(ji4),(by first|rfl|(simp;done)|(simp only [← hji4] <;> (first|rfl|simp))|(simp [*];done)),H',⟨Nat.le_refl _⟩,⟨rR HO0⟩,⟨by repeat (first|(with_reducible first|exact HK.out|apply Kept.alloc|apply Kept.drewN|apply Kept.drew)|exact HK.out)⟩,⟨be⟩⟩
 case round=>
  clear H'
  try clear c1
  try clear p2
  obtain ⟨x0_1,x1_1,rfl,HA,HK1,HO_0,HK,HB⟩:=hrel
  cases gk with
  | zero=>exact absurd HA.out (by simp [impl_addNum.l0])
  | succ k1=>
   have H:=HA.out
   clear HA
   simp only [impl_addNum.l0] at H
   by_cases c5:x1_1 > 127
   ·rw [if_pos c5] at H
    have c5b0:decide (127 < x1_1)=true:=decide_eq_true c5
    clear c5
    by_cases c6:x0_1.length < 140737488355328
    ·rw [if_pos c6] at H
     have LMc6:=Aside0.mk c6
     clear c6
     obtain ⟨y186,hy186⟩ : ∃ y_:List Int,y_=(x0_1 ++ [(wrap64 ((Int.tmod x1_1 128)+128)) % 256]):=⟨_,rfl⟩
     replace H:(impl_addNum.l0 k1 y186 (wrap64 (Int.tdiv x1_1 128)))=some r:=by first|(rw [hy186];with_reducible exact H)|(have H2_:=(Option.bind_some _ _).symm.trans H;rw [hy186];with_reducible exact H2_)|(have H2_:=(Option.bind_some _ _).symm.trans H;with_reducible exact H2_)|with_reducible exact H|(rw [hy186];exact H)|exact H
     have Ny186:=Aside0.mk hy186
     clear hy186
     have H':=Aside0.mk H
     clear H
     go_wp2_with (first|((with_reducible refine gate_builtin (b:=.append) (xs:=#[.tmp 10,.tmp 15]) rfl ?_);at_builtin;refine Kd.R_append (Kd.int .u8) (w0:=w0) w0.heap.size rfl (.tmp 10) (.tmp 15) 54 5 (.int .u8 0) 1 rfl Try.underlying54 info5 rfl (by decide) (by omega) u0 x0_1 ((wrap64 ((Int.tmod x1_1 128)+128)) % 256) [.int .u8 ((wrap64 ((Int.tmod x1_1 128)+128)) % 256)] (fun k_=>(P0_ k_ ∨ w.heap.size≤k_)) (fun _=>False) rfl rfl ?aP (fun _ hk=>hk.elim) ?aF ?aO ?aB ?aS ?aL ?_;(case aP=>exact rfl);(case aB=>exact be);(case aF=>exact (fun k_ hk=>(.inr (Nat.le_trans (by first|exact HK.out.1|exact (show Kept w _ (fun k_=>P0_ k_) from by repeat (first|(with_reducible first|exact HK.out|apply Kept.alloc|apply Kept.drewN|apply Kept.drew)|exact HK.out)).1) hk))));(case aO=>exact (rR HO_0));(case aS=>exact (below_size be));(case aL=>have:=LMc6.out;omega);intro v187 w7 ho hb hg hat;rw [← Ny186.out] at ho;have n0_:=Aside0.mk (hb);have n1_:=Aside0.mk (Kept.of_grown (S:=(fun k_=>P0_ k_)) hg (by repeat (first|(with_reducible first|exact HK.out|apply Kept.alloc|apply Kept.drewN|apply Kept.drew)|exact HK.out)) (fun k_ e_=>(HO_0.out.1 k_ e_)));have n2_:=Aside0.mk (ho);clear HB;clear HK;clear HO_0;have HB:=n0_;have HK:=n1_;have HO188:=n2_;clear n0_ n1_ n2_;clear ho hb hg hat))
     go_roundg k1
     case measure=>have:=HK1.out;omega
     case rel=>exact ⟨(y186),(wrap64 (Int.tdiv x1_1 128)),rd_,H',⟨by have:=HK1.out;omega⟩,⟨rR HO188⟩,⟨by repeat (first|(with_reducible first|exact HK.out|apply Kept.alloc|apply Kept.drewN|apply Kept.drew)|exact HK.out)⟩,⟨be⟩⟩
    ·rw [if_neg c6] at H
     exact absurd H (by simp)
   ·rw [if_neg c5] at H
    have c5b0:decide (127 < x1_1)=false:=decide_eq_false c5
    clear c5
    by_cases c8:x0_1.length < 140737488355328
    ·rw [if_pos c8] at H
     have LMc8:=Aside0.mk c8
     clear c8
     obtain ⟨y189,hy189⟩ : ∃ y_:List Int,y_=(x0_1 ++ [(x1_1) % 256]):=⟨_,rfl⟩
     replace H:(some y189)=some r:=by first|(rw [hy189];with_reducible exact H)|(have H2_:=(Option.bind_some _ _).symm.trans H;rw [hy189];with_reducible exact H2_)|(have H2_:=(Option.bind_some _ _).symm.trans H;with_reducible exact H2_)|with_reducible exact H|(rw [hy189];exact H)|exact H
     have Ny189:=Aside0.mk hy189
     clear hy189
     obtain rfl:=Option.some.inj H
     go_wp2_with (first|((with_reducible refine gate_builtin (b:=.append) (xs:=#[.tmp 19,.tmp 22]) rfl ?_);at_builtin;refine Kd.R_append (Kd.int .u8) (w0:=w0) w0.heap.size rfl (.tmp 19) (.tmp 22) 54 5 (.int .u8 0) 1 rfl Try.underlying54 info5 rfl (by decide) (by omega) u0 x0_1 ((x1_1) % 256) [.int .u8 ((x1_1) % 256)] (fun k_=>(P0_ k_ ∨ w.heap.size≤k_)) (fun _=>False) rfl rfl ?aP (fun _ hk=>hk.elim) ?aF ?aO ?aB ?aS ?aL ?_;(case aP=>exact rfl);(case aB=>exact be);(case aF=>exact (fun k_ hk=>(.inr (Nat.le_trans (by first|exact HK.out.1|exact (show Kept w _ (fun k_=>P0_ k_) from by repeat (first|(with_reducible first|exact HK.out|apply Kept.alloc|apply Kept.drewN|apply Kept.drew)|exact HK.out)).1) hk))));(case aO=>exact (rR HO_0));(case aS=>exact (below_size be));(case aL=>have:=LMc8.out;omega);intro v190 w9 ho hb hg hat;rw [← Ny189.out] at ho;have n0_:=Aside0.mk (hb);have n1_:=Aside0.mk (Kept.of_grown (S:=(fun k_=>P0_ k_)) hg (by repeat (first|(with_reducible first|exact HK.out|apply Kept.alloc|apply Kept.drewN|apply Kept.drew)|exact HK.out)) (fun k_ e_=>(HO_0.out.1 k_ e_)));have n2_:=Aside0.mk (ho);clear HB;clear HK;clear HO_0;have HB:=n0_;have HK:=n1_;have HO191:=n2_;clear n0_ n1_ n2_;clear ho hb hg hat))
     go_ret
     exact ⟨_,by first|rfl|(simp [errW_none,errW_some] <;> rfl)|(simp only [← hji3,← hji4];first|rfl|(simp [errW_none,errW_some] <;> rfl))|(simp [*,errW_none,errW_some] <;> rfl),rR HO191,be,by repeat (first|(with_reducible first|exact HK.out|apply Kept.alloc|apply Kept.drewN|apply Kept.drew)|exact HK.out)⟩
    ·rw [if_neg c8] at H
     exact absurd H (by simp)
def impl_addText.f (k:Nat) (l0:List Int) (a1:ByteArray):Option (List Int):=(impl_addNum.f k l0 (a1.size:Int)).bind fun t192=>(if t192.length+a1.size < 140737488355328 then (some (t192 ++ bytesOf a1)) else (none))
set_option maxHeartbeats 8000000 in
set_option maxRecDepth 100000 in
theorem impl_addText.calls (k:Nat) (P0_:Nat→Prop) (u9000_:Value) (l0:List Int) (a1:ByteArray) (r:List Int) (w0 w:World) (hB:Below w0.heap.size w0 w) (ho0:Kd.R (Kd.int .u8) 5 w w0.heap.size P0_ u9000_ l0) (h:impl_addText.f k l0 a1=some r) :
  Calls Try.prog 93 #[u9000_,.string a1] w fun e w'=>∃ v0_:Value,e = .returned (v0_)∧Kd.R (Kd.int .u8) 5 w' w0.heap.size (fun k_=>(P0_ k_ ∨ w.heap.size≤k_)) v0_ r∧Below w0.heap.size w0 w' ∧ Kept w w' (fun k_=>P0_ k_):=by
 have HO0:=Aside0.mk (show Kd.R (Kd.int .u8) 5 w w0.heap.size (fun k_=>(P0_ k_ ∨ w.heap.size≤k_)) u9000_ l0 from Kd.R_mono ho0 (fun k_ hk=>(.inl hk)))
 have HK:=Aside0.mk (Kept.refl w (fun k_=>P0_ k_))
 have HW0:=Aside0.mk hB.size
 have HB:=Aside0.mk hB
 clear hB
 have H:((impl_addNum.f k l0 (a1.size:Int)).bind fun t192=>(if t192.length+a1.size < 140737488355328 then (some (t192 ++ bytesOf a1)) else (none)))=some r:=h
 clear h
 replace H:=Option.bind_eq_some_iff.mp H
 obtain ⟨t192,A30,H⟩:=H
 try dsimp only at H
 have A3:=Aside0.mk A30
 clear A30
 by_cases c4:t192.length+a1.size < 140737488355328
 ·rw [if_pos c4] at H
  have LMc4:=Aside0.mk c4
  clear c4
  obtain ⟨y195,hy195⟩ : ∃ y_:List Int,y_=(t192 ++ bytesOf a1):=⟨_,rfl⟩
  replace H:(some y195)=some r:=by first|(rw [hy195];with_reducible exact H)|(have H2_:=(Option.bind_some _ _).symm.trans H;rw [hy195];with_reducible exact H2_)|(have H2_:=(Option.bind_some _ _).symm.trans H;with_reducible exact H2_)|with_reducible exact H|(rw [hy195];exact H)|exact H
  have Ny195:=Aside0.mk hy195
  clear hy195
  obtain rfl:=Option.some.inj H
  obtain ⟨Ao5,co5,eo5⟩:=Kd.R_slice HO0.out
  subst eo5
  go_enter Try.func93,Try.ntmps93
  go_wp2_with (first|((with_reducible refine gate_callee (f:=121) rfl ?_);refine goesL_ (some 8) rfl rfl Try.func121 (by kernel_rfl) rfl #[.slice Ao5 l0.length co5,.int .i64 (a1.size:Int)] rfl (by (try simp only [List.map_toArray,List.map_cons,List.map_nil]);first|done|rfl|(simp only [List.length_drop,List.length_take];rfl)) ?_;(with_reducible refine (impl_addNum.calls k (fun k_=>some k_=(.slice Ao5 l0.length co5:Value).ownBlock) (.slice Ao5 l0.length co5) l0 (a1.size:Int) t192 w0 _ ?side1 ?side2 A3.out).mono ?_);(case side1=>exact be);(case side2=>exact Kd.R_tight rfl HO0.out);rintro e w6 ⟨v193,rfl,ho0,hb,hkp⟩;refine ⟨_,rfl,?_⟩;have n0_:=Aside0.mk (Kd.R_mono (ok':=fun k_=>(P0_ k_ ∨ w.heap.size≤k_)) ho0 (fun k_ hk_=>Or.elim hk_ (fun hs_=>(HO0.out.1 k_ (hs_).symm)) (fun hn_=>(.inr (Nat.le_trans (by first|exact HK.out.1|exact (show Kept w _ (fun k_=>P0_ k_) from by repeat (first|(with_reducible first|exact HK.out|apply Kept.alloc|apply Kept.drewN|apply Kept.drew)|exact HK.out)).1) hn_)))));have n1_:=Aside0.mk (Kept.then_ (S:=(fun k_=>P0_ k_)) (by repeat (first|(with_reducible first|exact HK.out|apply Kept.alloc|apply Kept.drewN|apply Kept.drew)|exact HK.out)) hkp (fun k_ hs_=>(fun e_=>(HO0.out.1 k_ e_.symm)) hs_));have n2_:=Aside0.mk (hb);clear HK;clear HB;clear HO0;have HO194:=n0_;have HK:=n1_;have HB:=n2_;clear n0_ n1_ n2_;(try clear hb);(try clear hkp);(try clear ho0))|(at_builtin;refine Aid.append_str_at (w0:=w0) w0.heap.size rfl (.tmp 8) _ 54 9 5 rfl Try.underlying54 Try.underlying9 info5 v193 t192 a1 rfl rfl ?aO ?aB ?aS ?aL ?_;(case aB=>exact be);(case aO=>exact (Kd.own_of_R (rR HO194)));(case aS=>exact (below_size be));(case aL=>have:=LMc4.out;omega);intro v196 w7 ho0 hb hg hat;have ho:=Kd.R_of_own (h1:=fun _=>rfl) (ok:=(fun k_=>(P0_ k_ ∨ w.heap.size≤k_))) ho0 (fun k_ hk_=>Or.elim hat (fun he_=>(HO194.out.1 k_ (he_.symm.trans hk_))) (fun ⟨_,hb1_,hb2_⟩=>(fun k_ hk=>(.inr (Nat.le_trans (by first|exact HK.out.1|exact (show Kept w _ (fun k_=>P0_ k_) from by repeat (first|(with_reducible first|exact HK.out|apply Kept.alloc|apply Kept.drewN|apply Kept.drew)|exact HK.out)).1) hk))) k_ (Option.some.inj (hb1_.symm.trans hk_) ▸ hb2_)));clear ho0;rw [← Ny195.out] at ho;change Kd.R (Kd.int .u8) 5 w7 w0.heap.size (fun k_=>(P0_ k_ ∨ w.heap.size≤k_)) v196 y195 at ho;have n0_:=Aside0.mk (hb);have n1_:=Aside0.mk (Kept.of_grown (S:=(fun k_=>P0_ k_)) hg (by repeat (first|(with_reducible first|exact HK.out|apply Kept.alloc|apply Kept.drewN|apply Kept.drew)|exact HK.out)) (fun k_ e_=>(HO194.out.1 k_ e_)));have n2_:=Aside0.mk (ho);clear HB;clear HK;clear HO194;have HB:=n0_;have HK:=n1_;have HO197:=n2_;clear n0_ n1_ n2_;clear ho hb hg hat))
  go_ret
  exact ⟨_,rz,rR HO197,be,by repeat (first|(with_reducible first|exact HK.out|apply Kept.alloc|apply Kept.drewN|apply Kept.drew)|exact HK.out)⟩
 ·rw [if_neg c4] at H
  exact absurd H (by simp)
def impl_bit.f (a0:Bool):Option (Int):=if a0=true then (some 1) else (some 0)
set_option maxHeartbeats 8000000 in
set_option maxRecDepth 100000 in
theorem impl_bit.calls (a0:Bool) (r:Int) (w:World) (h:impl_bit.f a0=some r) :
  Calls Try.prog 122 #[.bool a0] w fun e w'=>e = .returned (.int .i64 r)∧Drawn0 w w':=by
 have H:(if a0=true then (some 1) else (some 0))=some r:=h
 clear h
 by_cases c2:a0=true
 ·subst c2
  rw [if_pos rfl] at H
  obtain rfl:=Option.some.inj H
  go_enter Try.func122,Try.ntmps122
  go_wp2
  go_ret
  exact ⟨by first|rfl|(simp;done)|(simp [*];done),by repeat (first|exact Drawn0.refl _|apply Drawn0.step)⟩
 ·replace c2:=Bool.eq_false_iff.mpr c2
  subst c2
  have H1:(some 0)=some r:=by rw [if_neg (show ¬ (false=true) by decide)] at H;exact H
  clear H
  have H:=H1
  clear H1
  obtain rfl:=Option.some.inj H
  go_enter Try.func122,Try.ntmps122
  go_wp2
  go_ret
  exact ⟨by first|rfl|(simp;done)|(simp [*];done),by repeat (first|exact Drawn0.refl _|apply Drawn0.step)⟩
end Go.Proofs.Ytbhllgifciaepaa.PFnExactPutFile
