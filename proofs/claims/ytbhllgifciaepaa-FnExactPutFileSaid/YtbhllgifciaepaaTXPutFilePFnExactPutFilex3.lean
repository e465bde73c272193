/- Trimmed by a program of this session (trim.py). Not trusted: Lean checks it. -/
import Derived.Test.YtbhllgifciaepaaTXPutFilePFnExactPutFilex0
import Derived.Test.YtbhllgifciaepaaTXPutFilePFnExactPutFilex2
namespace Go.Proofs.Ytbhllgifciaepaa.PFnExactPutFile
open Go.RowKit Go.Proofs.YtbhllgifciaepaaW.PrintWords Go.Proofs.YtbhllgifciaepaaW.PrintLast Go.Proofs.YtbhllgifciaepaaW.PrintMore Go.Proofs.Ytbhllgifciaepaa.St
attribute [local go_sem] max2_int min2_int max_two min_two max_three min_three max_four min_four
set_option linter.unusedVariables false
set_option linter.unusedSimpArgs false
def impl_addStamp.f (k:Nat) (l0:List Int) (a1_0:Int) (a1_1:Int) (a1_2:Int) (a2:Bool):Option (List Int):=(impl_addNum.f k l0 a1_0).bind fun t199=>((impl_addNum.f k t199 a1_1).bind fun t202=>((impl_addNum.f k t202 a1_2).bind fun t205=>((impl_bit.f a2).bind fun t208=>((impl_addNum.f k t205 t208).bind fun t209=>(some t209)))))
def impl_addStamp.T1:Bool × List (List Nat × List Nat):=(true,[([],[]),([],[]),([1],[1]),([0,2],[0,2]),([],[]),([4],[4]),([3,5,3],[3,5]),([],[]),([7],[7]),([6,8,6],[6,8]),([],[]),([10,9],[10]),([9,11,11],[9,11]),([12,12,0,1,2,3,4,5,6,7,8,9,10,11,12],[12])])
def impl_addStamp.B1:List Nat:=[0,0,2,7,0,16,63,0,128,511,0,2047,4095,8191]
theorem impl_addStamp.tab1:rtab .any (opsOf Try.f94 1)=impl_addStamp.T1:=by kernel_rfl
theorem impl_addStamp.bits1:waitsOk impl_addStamp.T1.2 impl_addStamp.B1=true:=by kernel_rfl
set_option maxHeartbeats 8000000 in
set_option maxRecDepth 100000 in
theorem impl_addStamp.calls (k:Nat) (P0_:Nat→Prop) (u9000_:Value) (l0:List Int) (a1_0:Int) (a1_1:Int) (a1_2:Int) (a2:Bool) (r:List Int) (w0 w:World) (hB:Below w0.heap.size w0 w) (ho0:Kd.R (Kd.int .u8) 5 w w0.heap.size P0_ u9000_ l0) (h:impl_addStamp.f k l0 a1_0 a1_1 a1_2 a2=some r) :
  Calls Try.prog 94 #[u9000_,.agg #[.int .i64 a1_0,.int .i64 a1_1,.int .i64 a1_2],.bool a2] w fun e w'=>∃ v0_:Value,e = .returned (v0_)∧Kd.R (Kd.int .u8) 5 w' w0.heap.size (fun k_=>(P0_ k_ ∨ w.heap.size≤k_)) v0_ r∧Below w0.heap.size w0 w' ∧ Kept w w' (fun k_=>P0_ k_):=by
 have hu59:=Try.underlying59
 have HO0:=Aside0.mk (show Kd.R (Kd.int .u8) 5 w w0.heap.size (fun k_=>(P0_ k_ ∨ w.heap.size≤k_)) u9000_ l0 from Kd.R_mono ho0 (fun k_ hk=>(.inl hk)))
 have HK:=Aside0.mk (Kept.refl w (fun k_=>P0_ k_))
 have HW0:=Aside0.mk hB.size
 have HB:=Aside0.mk hB
 clear hB
 have H:((impl_addNum.f k l0 a1_0).bind fun t199=>((impl_addNum.f k t199 a1_1).bind fun t202=>((impl_addNum.f k t202 a1_2).bind fun t205=>((impl_bit.f a2).bind fun t208=>((impl_addNum.f k t205 t208).bind fun t209=>(some t209))))))=some r:=h
 clear h
 replace H:=Option.bind_eq_some_iff.mp H
 obtain ⟨t199,A40,H⟩:=H
 try dsimp only at H
 have A4:=Aside0.mk A40
 clear A40
 replace H:=Option.bind_eq_some_iff.mp H
 obtain ⟨t202,A50,H⟩:=H
 try dsimp only at H
 have A5:=Aside0.mk A50
 clear A50
 replace H:=Option.bind_eq_some_iff.mp H
 obtain ⟨t205,A60,H⟩:=H
 try dsimp only at H
 have A6:=Aside0.mk A60
 clear A60
 replace H:=Option.bind_eq_some_iff.mp H
 obtain ⟨t208,A70,H⟩:=H
 try dsimp only at H
 have A7:=Aside0.mk A70
 clear A70
 replace H:=Option.bind_eq_some_iff.mp H
 obtain ⟨t209,A80,H⟩:=H
 try dsimp only at H
 have A8:=Aside0.mk A80
 clear A80
 obtain rfl:=Option.some.inj H
 go_enter Try.func94,Try.ntmps94
 try go_wp2_with (first|((with_reducible refine gate_dst (N:=4) rfl ?_);refine box_event ?hg (N:=4) ?hd (cs:=#[.int .i64 a1_0,.int .i64 a1_1,.int .i64 a1_2]) (t:=59) ?hr ?_;(case hd=>rfl);(case hg=>rfl);(case hr=>first|(go_simp;done)|(go_simp;rfl));intro gb198 hg w9 hbox hb;have n0_:=Aside0.mk (Kd.R_below (rR HO0) hb);have n1_:=Aside0.mk (Kept.below (S:=(fun k_=>P0_ k_)) (by repeat (first|(with_reducible first|exact HK.out|apply Kept.alloc|apply Kept.drewN|apply Kept.drew)|exact HK.out)) hb);have n2_:=bs hb;have n3_:=Aside0.mk (hbox);have n4_:=Aside0.mk ((by rw [hg];exact (by first|exact HK.out.1|exact (show Kept w _ (fun k_=>P0_ k_) from by repeat (first|(with_reducible first|exact HK.out|apply Kept.alloc|apply Kept.drewN|apply Kept.drew)|exact HK.out)).1):w.heap.size≤gb198));have n5_:=Aside0.mk ((by rw [hg];exact (below_size be):w0.heap.size≤gb198));clear HO0;clear HK;clear HB;have HO0:=n0_;have HK:=n1_;have HB:=n2_;have BK198:=n3_;have GW198:=n4_;have GE198:=n5_;clear n0_ n1_ n2_ n3_ n4_ n5_;clear hb hbox hg))
 have n0_:=Aside0.mk (Kd.R_drew HO0.out)
 have n1_:=Aside0.mk (blk_drew BK198.out)
 have n2_:=Aside0.mk (Kept.drew HK.out)
 have n3_:=Aside0.mk (below_drew1 HB.out)
 clear HO0
 clear BK198
 clear HK
 clear HB
 have HO0:=n0_
 have BK198:=n1_
 have HK:=n2_
 have HB:=n3_
 clear n0_ n1_ n2_ n3_
 obtain ⟨Ao11,co11,eo11⟩:=Kd.R_slice HO0.out
 (first|subst eo11|(injection eo11 with f1_ f2_ f3_;have f4_:=f1_.symm;have f5_:=f3_.symm;clear f1_ f2_ f3_;subst f4_;subst f5_))
 refine start_ (n:=14) (S:=fun w'=>w'.cell? ⟨gb198,0,none⟩=some (.int .i64 a1_0)∧w'.cell? ⟨gb198,1,none⟩=some (.int .i64 a1_1)∧w'.cell? ⟨gb198,2,none⟩=some (.int .i64 a1_2)) (ds:=[]) (fl 14 0) (by kernel_rfl) rfl rfl ⟨(blk_cell BK198.out 0).trans rfl,(blk_cell BK198.out 1).trans rfl,(blk_cell BK198.out 2).trans rfl⟩ (fun hHeld=>?_);refine with_tabW impl_addStamp.tab1 impl_addStamp.bits1 (fun HT_ HW_=>?_)
 generalize w9.drew=w10 at HO0 BK198 HK HB hHeld ⊢
 refine pt 0 7 (fl 14 1) HT_ ?_
 refine pt 1 8 (fl 14 3) HT_ ?_
 refine pt 4 11 (fl 14 19) HT_ ?_
 refine pt 7 14 (fl 14 147) HT_ ?_
 refine pt 10 17 (fl 14 1171) HT_ ?_
 refine tt 2 9 (fl 14 1175) HT_ HW_ hHeld ?_
 refine tt 5 12 (fl 14 1207) HT_ HW_ hHeld ?_
 refine tt 8 15 (fl 14 1463) HT_ HW_ hHeld ?_
 refine ot 3 (some 10) (fl 14 1471) HT_ (fun K hK=>?_)
 refine goes_ Try.func121 (by kernel_rfl) rfl #[.slice Ao11 l0.length co11,.int .i64 a1_0] (by rfl) rfl rfl (by (try simp only [List.map_toArray,List.map_cons,List.map_nil]);first|done|rfl|(simp only [List.length_drop,List.length_take];rfl)) ?_
 with_reducible refine (impl_addNum.calls k (fun k_=>some k_=(.slice Ao11 l0.length co11:Value).ownBlock) (.slice Ao11 l0.length co11) l0 a1_0 t199 w0 _ ?side1 ?side2 A4.out).mono ?_
 (case side1=>exact be)
 (case side2=>exact Kd.R_tight rfl HO0.out)
 rintro e w12 ⟨v200,rfl,ho0,hb,hkp⟩
 refine ⟨_,rfl,?_⟩
 have n0_:=Aside0.mk (blk_kept (bk BK198) hkp (fun hs_=>(fun e_=>(Kd.R_ne HO0.out BK198.out (by decide)) e_) hs_))
 have n1_:=Aside0.mk (Kd.R_mono (ok':=fun k_=>(P0_ k_ ∨ w.heap.size≤k_)) ho0 (fun k_ hk_=>Or.elim hk_ (fun hs_=>(HO0.out.1 k_ (hs_).symm)) (fun hn_=>(.inr (Nat.le_trans (by first|exact HK.out.1|exact (show Kept w _ (fun k_=>P0_ k_) from by repeat (first|(with_reducible first|exact HK.out|apply Kept.alloc|apply Kept.drewN|apply Kept.drew|refine Kept.setCell ?_ (.inr GW198.out) _)|exact HK.out)).1) hn_)))))
 have n2_:=Aside0.mk (Kept.then_ (S:=(fun k_=>P0_ k_)) (by repeat (first|(with_reducible first|exact HK.out|apply Kept.alloc|apply Kept.drewN|apply Kept.drew|refine Kept.setCell ?_ (.inr GW198.out) _)|exact HK.out)) hkp (fun k_ hs_=>(fun e_=>(HO0.out.1 k_ e_.symm)) hs_))
 have n3_:=Aside0.mk (hb)
 clear BK198
 clear HK
 clear HB
 clear HO0
 have BK198:=n0_
 have HO201:=n1_
 have HK:=n2_
 have HB:=n3_
 clear n0_ n1_ n2_ n3_
 (try clear hb)
 (try clear hkp)
 (try clear ho0)
 obtain ⟨Ao13,co13,eo13⟩:=Kd.R_slice HO201.out
 (first|subst eo13|(injection eo13 with f1_ f2_ f3_;have f4_:=f1_.symm;have f5_:=f3_.symm;clear f1_ f2_ f3_;subst f4_;subst f5_))
 refine hK.out _ _ ⟨(blk_cell BK198.out 0).trans rfl,(blk_cell BK198.out 1).trans rfl,(blk_cell BK198.out 2).trans rfl⟩ (fun hHeld=>?_)
 clear hK K
 refine no 10 ?_
 refine ot 6 (some 13) (fl 14 1535) HT_ (fun K hK=>?_)
 refine goes_ Try.func121 (by kernel_rfl) rfl #[.slice Ao13 t199.length co13,.int .i64 a1_1] (by rfl) rfl rfl (by (try simp only [List.map_toArray,List.map_cons,List.map_nil]);first|done|rfl|(simp only [List.length_drop,List.length_take];rfl)) ?_
 with_reducible refine (impl_addNum.calls k (fun k_=>some k_=(.slice Ao13 t199.length co13:Value).ownBlock) (.slice Ao13 t199.length co13) t199 a1_1 t202 w0 _ ?side1 ?side2 A5.out).mono ?_
 (case side1=>exact be)
 (case side2=>exact Kd.R_tight rfl HO201.out)
 rintro e w14 ⟨v203,rfl,ho0,hb,hkp⟩
 refine ⟨_,rfl,?_⟩
 have n0_:=Aside0.mk (blk_kept (bk BK198) hkp (fun hs_=>(fun e_=>(Kd.R_ne HO201.out BK198.out (by decide)) e_) hs_))
 have n1_:=Aside0.mk (Kd.R_mono (ok':=fun k_=>(P0_ k_ ∨ w.heap.size≤k_)) ho0 (fun k_ hk_=>Or.elim hk_ (fun hs_=>(HO201.out.1 k_ (hs_).symm)) (fun hn_=>(.inr (Nat.le_trans (by first|exact HK.out.1|exact (show Kept w _ (fun k_=>P0_ k_) from by repeat (first|(with_reducible first|exact HK.out|apply Kept.alloc|apply Kept.drewN|apply Kept.drew|refine Kept.setCell ?_ (.inr GW198.out) _)|exact HK.out)).1) hn_)))))
 have n2_:=Aside0.mk (Kept.then_ (S:=(fun k_=>P0_ k_)) (by repeat (first|(with_reducible first|exact HK.out|apply Kept.alloc|apply Kept.drewN|apply Kept.drew|refine Kept.setCell ?_ (.inr GW198.out) _)|exact HK.out)) hkp (fun k_ hs_=>(fun e_=>(HO201.out.1 k_ e_.symm)) hs_))
 have n3_:=Aside0.mk (hb)
 clear BK198
 clear HK
 clear HB
 clear HO201
 have BK198:=n0_
 have HO204:=n1_
 have HK:=n2_
 have HB:=n3_
 clear n0_ n1_ n2_ n3_
 (try clear hb)
 (try clear hkp)
 (try clear ho0)
 obtain ⟨Ao15,co15,eo15⟩:=Kd.R_slice HO204.out
 (first|subst eo15|(injection eo15 with f1_ f2_ f3_;have f4_:=f1_.symm;have f5_:=f3_.symm;clear f1_ f2_ f3_;subst f4_;subst f5_))
 refine hK.out _ _ ⟨(blk_cell BK198.out 0).trans rfl,(blk_cell BK198.out 1).trans rfl,(blk_cell BK198.out 2).trans rfl⟩ (fun hHeld=>?_)
 clear hK K
 refine no 13 ?_
 refine ot 9 (some 16) (fl 14 2047) HT_ (fun K hK=>?_)
 refine goes_ Try.func121 (by kernel_rfl) rfl #[.slice Ao15 t202.length co15,.int .i64 a1_2] (by rfl) rfl rfl (by (try simp only [List.map_toArray,List.map_cons,List.map_nil]);first|done|rfl|(simp only [List.length_drop,List.length_take];rfl)) ?_
 with_reducible refine (impl_addNum.calls k (fun k_=>some k_=(.slice Ao15 t202.length co15:Value).ownBlock) (.slice Ao15 t202.length co15) t202 a1_2 t205 w0 _ ?side1 ?side2 A6.out).mono ?_
 (case side1=>exact be)
 (case side2=>exact Kd.R_tight rfl HO204.out)
 rintro e w16 ⟨v206,rfl,ho0,hb,hkp⟩
 refine ⟨_,rfl,?_⟩
 have n0_:=Aside0.mk (blk_kept (bk BK198) hkp (fun hs_=>(fun e_=>(Kd.R_ne HO204.out BK198.out (by decide)) e_) hs_))
 have n1_:=Aside0.mk (Kd.R_mono (ok':=fun k_=>(P0_ k_ ∨ w.heap.size≤k_)) ho0 (fun k_ hk_=>Or.elim hk_ (fun hs_=>(HO204.out.1 k_ (hs_).symm)) (fun hn_=>(.inr (Nat.le_trans (by first|exact HK.out.1|exact (show Kept w _ (fun k_=>P0_ k_) from by repeat (first|(with_reducible first|exact HK.out|apply Kept.alloc|apply Kept.drewN|apply Kept.drew|refine Kept.setCell ?_ (.inr GW198.out) _)|exact HK.out)).1) hn_)))))
 have n2_:=Aside0.mk (Kept.then_ (S:=(fun k_=>P0_ k_)) (by repeat (first|(with_reducible first|exact HK.out|apply Kept.alloc|apply Kept.drewN|apply Kept.drew|refine Kept.setCell ?_ (.inr GW198.out) _)|exact HK.out)) hkp (fun k_ hs_=>(fun e_=>(HO204.out.1 k_ e_.symm)) hs_))
 have n3_:=Aside0.mk (hb)
 clear BK198
 clear HK
 clear HB
 clear HO204
 have BK198:=n0_
 have HO207:=n1_
 have HK:=n2_
 have HB:=n3_
 clear n0_ n1_ n2_ n3_
 (try clear hb)
 (try clear hkp)
 (try clear ho0)
 refine hK.out _ _ ⟨(blk_cell BK198.out 0).trans rfl,(blk_cell BK198.out 1).trans rfl,(blk_cell BK198.out 2).trans rfl⟩ (fun hHeld=>?_)
 clear hK K
 refine no 16 ?_
 refine ot 11 (some 18) (fl 14 4095) HT_ (fun K hK=>?_)
 refine goes_ Try.func122 (by kernel_rfl) rfl #[.bool a2] (by rfl) rfl rfl (by (try simp only [List.map_toArray,List.map_cons,List.map_nil]);first|done|rfl|(simp only [List.length_drop,List.length_take];rfl)) ?_
 with_reducible refine (impl_bit.calls a2 t208 _ A7.out).mono ?_
 rintro e w' ⟨rfl,⟨nd,rfl⟩⟩
 refine ⟨_,rfl,?_⟩
 obtain ⟨Ao17,co17,eo17⟩:=Kd.R_slice HO207.out
 (first|subst eo17|(injection eo17 with f1_ f2_ f3_;have f4_:=f1_.symm;have f5_:=f3_.symm;clear f1_ f2_ f3_;subst f4_;subst f5_))
 refine hK.out _ _ ⟨(blk_cell BK198.out 0).trans rfl,(blk_cell BK198.out 1).trans rfl,(blk_cell BK198.out 2).trans rfl⟩ (fun hHeld=>?_)
 clear hK K
 refine no 18 ?_
 refine ot 12 (some 19) (fl 14 8191) HT_ (fun K hK=>?_)
 refine goes_ Try.func121 (by kernel_rfl) rfl #[.slice Ao17 t205.length co17,.int .i64 t208] (by rfl) rfl rfl (by (try simp only [List.map_toArray,List.map_cons,List.map_nil]);first|done|rfl|(simp only [List.length_drop,List.length_take];rfl)) ?_
 with_reducible refine (impl_addNum.calls k (fun k_=>some k_=(.slice Ao17 t205.length co17:Value).ownBlock) (.slice Ao17 t205.length co17) t205 t208 t209 w0 _ ?side1 ?side2 A8.out).mono ?_
 (case side1=>exact be)
 (case side2=>exact Kd.R_tight rfl HO207.out)
 rintro e w18 ⟨v210,rfl,ho0,hb,hkp⟩
 refine ⟨_,rfl,?_⟩
 have n0_:=Aside0.mk (blk_kept (bk BK198) hkp (fun hs_=>(fun e_=>(Kd.R_ne HO207.out BK198.out (by decide)) e_) hs_))
 have n1_:=Aside0.mk (Kd.R_mono (ok':=fun k_=>(P0_ k_ ∨ w.heap.size≤k_)) ho0 (fun k_ hk_=>Or.elim hk_ (fun hs_=>(HO207.out.1 k_ (hs_).symm)) (fun hn_=>(.inr (Nat.le_trans (by first|exact HK.out.1|exact (show Kept w _ (fun k_=>P0_ k_) from by repeat (first|(with_reducible first|exact HK.out|apply Kept.alloc|apply Kept.drewN|apply Kept.drew|refine Kept.setCell ?_ (.inr GW198.out) _)|exact HK.out)).1) hn_)))))
 have n2_:=Aside0.mk (Kept.then_ (S:=(fun k_=>P0_ k_)) (by repeat (first|(with_reducible first|exact HK.out|apply Kept.alloc|apply Kept.drewN|apply Kept.drew|refine Kept.setCell ?_ (.inr GW198.out) _)|exact HK.out)) hkp (fun k_ hs_=>(fun e_=>(HO207.out.1 k_ e_.symm)) hs_))
 have n3_:=Aside0.mk (hb)
 clear BK198
 clear HK
 clear HB
 clear HO207
 have BK198:=n0_
 have HO211:=n1_
 have HK:=n2_
 have HB:=n3_
 clear n0_ n1_ n2_ n3_
 (try clear hb)
 (try clear hkp)
 (try clear ho0)
 refine hK.out _ _ ⟨(blk_cell BK198.out 0).trans rfl,(blk_cell BK198.out 1).trans rfl,(blk_cell BK198.out 2).trans rfl⟩ (fun hHeld=>?_)
 clear hK K
 refine no 19 ?_
 refine pt 13 6 (fl 14 16383) HT_ ?_
 refine done_ (done_of HT_.out (by kernel_rfl)) ?_
 try go_wp2
 go_ret
 exact ⟨_,rz,rR HO211,be,by repeat (first|(with_reducible first|exact HK.out|apply Kept.alloc|apply Kept.drewN|apply Kept.drew|refine Kept.setCell ?_ (.inr GW198.out) _)|exact HK.out)⟩
mutual
def impl_Crc.l0:Nat→Int→List Int→Int→Int→Option (Int)
 | 0,_,_,_,_=>none
 | k+1,x3,x7,x8,x9=>if x9 < x8 then (if 0≤x9 then (if x9 < (x7.length:Int) then (impl_Crc.l1 k (Go.bits .xor .u32 x3 ((rd x7 x9) % 4294967296)) x7 x8 x9 0) else (none)) else (none)) else (some (wrap64 (Go.bits .xor .u32 4294967295 x3)))
def impl_Crc.l1:Nat→Int→List Int→Int→Int→Int→Option (Int)
 | 0,_,_,_,_,_=>none
 | k+1,x3,x7,x8,x9,x17=>if x17 < 8 then (if (Go.bits .and .u32 x3 1)=1 then (impl_Crc.l1 k (Go.bits .xor .u32 (x3 / 2) 2197175160) x7 x8 x9 (wrap64 (x17+1))) else (impl_Crc.l1 k (x3 / 2) x7 x8 x9 (wrap64 (x17+1)))) else (impl_Crc.l0 k x3 x7 x8 (wrap64 (x9+1)))
end
def impl_Crc.f (k:Nat) (l0:List Int):Option (Int):=impl_Crc.l0 k 4294967295 l0 (l0.length:Int) 0
set_option maxHeartbeats 8000000 in
set_option maxRecDepth 100000 in
theorem impl_Crc.calls (k:Nat) (A0:Option Addr) (c0:Nat) (l0:List Int) (r:Int) (w:World) (hr0:Kd.C (Kd.int .u8) w A0 l0.length l0) (hc0:l0.length≤c0) (h:impl_Crc.f k l0=some r) :
  Calls Try.prog 95 #[.slice A0 l0.length c0] w fun e w'=>e = .returned (.int .i64 r)∧Drawn0 w w':=by
 have HR0:=Aside0.mk hr0
 have HC0:=Aside0.mk hc0
 clear hr0 hc0
 have H:(impl_Crc.l0 k 4294967295 l0 (l0.length:Int) 0)=some r:=h
 clear h
 have H':=Aside0.mk H
 clear H
 go_enter Try.func95,Try.ntmps95
 go_wp2
 go_loopg [3,9] k (fun kq v3 v9 w'=>∃ (x3_1:Int) (x9_1:Int),v3 = .int .u32 x3_1∧v9 = .int .i64 x9_1∧Aside0 (impl_Crc.l0 kq x3_1 l0 (l0.length:Int) x9_1=some r)∧Aside0 (kq≤k)∧Drawn0 w w')
 case atStart=>exact ⟨(4294967295),(0),rd_,rd_,H',⟨Nat.le_refl _⟩,by repeat (first|exact Drawn0.refl _|apply Drawn0.step)⟩
 case round=>
  clear H'
  obtain ⟨x3_1,x9_1,rfl,rfl,HA,HK1,⟨m1,rfl⟩⟩:=hrel
  cases gk with
  | zero=>exact absurd HA.out (by simp [impl_Crc.l0])
  | succ k1=>
   have H:=HA.out
   clear HA
   simp only [impl_Crc.l0] at H
   by_cases c2:x9_1 < (l0.length:Int)
   ·rw [if_pos c2] at H
    have c2b0:decide (x9_1 < (l0.length:Int))=true:=decide_eq_true c2
    clear c2
    by_cases c3:0≤x9_1
    ·rw [if_pos c3] at H
     have c3b0:decide (0≤x9_1)=true:=decide_eq_true c3
     clear c3
     by_cases c4:x9_1 < (l0.length:Int)
     ·rw [if_pos c4] at H
      have c4b0:decide (x9_1 < (l0.length:Int))=true:=decide_eq_true c4
      clear c4
      have H':=Aside0.mk H
      clear H
      have p212:0≤(x9_1:Int):=of_decide_eq_true (by first|(with_reducible assumption)|assumption)
      have q212:x9_1 < (l0.length:Int):=of_decide_eq_true (by first|(with_reducible assumption)|assumption)
      obtain ⟨ad212,e212,hx212_0⟩:=Kd.at_int HR0.out x9_1 p212 q212
      cases e212
      replace p212:=eq_true p212
      replace q212:=eq_true q212
      go_wp2
      go_loopg [3,17] k1 (fun kq v3 v17 w'=>∃ (x3_2:Int) (x17_2:Int),v3 = .int .u32 x3_2∧v17 = .int .i64 x17_2∧Aside0 (impl_Crc.l1 kq x3_2 l0 (l0.length:Int) x9_1 x17_2=some r)∧Aside0 (kq≤k1)∧Drawn0 w w')
      case atStart=>exact ⟨(Go.bits .xor .u32 x3_1 ((rd l0 x9_1) % 4294967296)),(0),rd_,rd_,H',⟨Nat.le_refl _⟩,by repeat (first|exact Drawn0.refl _|apply Drawn0.step)⟩
      case round=>
       clear H'
       try clear c2
       try clear c2b0
       try clear p2
       try clear q2
       try clear hx2
       try clear c3
       try clear c3b0
       try clear c4
       try clear c4b0
       try clear hx212_0
       try clear p212
       try clear q212
       obtain ⟨x3_2,x17_2,rfl,rfl,HA,HK2,⟨m2,rfl⟩⟩:=hrel
       cases gk with
       | zero=>exact absurd HA.out (by simp [impl_Crc.l1])
       | succ k2=>
        have H:=HA.out
        clear HA
        simp only [impl_Crc.l1] at H
        by_cases c5:x17_2 < 8
        ·rw [if_pos c5] at H
         have c5b0:decide (x17_2 < 8)=true:=decide_eq_true c5
         clear c5
         by_cases c6:(Go.bits .and .u32 x3_2 1)=1
         ·rw [if_pos c6] at H
          have c6b0:((Go.bits .and .u32 x3_2 1) == 1)=true:=beq_iff_eq.mpr c6
          have c6b1:((Go.bits .and .u32 x3_2 1) != 1)=false:=bne_eq_false_iff_eq.mpr c6
          clear c6
          have H':=Aside0.mk H
          clear H
          go_wp2
          go_roundg k2
          case measure=>have:=HK1.out;have:=HK2.out;omega
          case rel=>exact ⟨(Go.bits .xor .u32 (x3_2 / 2) 2197175160),(wrap64 (x17_2+1)),rd_,rd_,H',⟨by have:=HK1.out;have:=HK2.out;omega⟩,by repeat (first|exact Drawn0.refl _|apply Drawn0.step)⟩
         ·rw [if_neg c6] at H
          have c6b0:((Go.bits .and .u32 x3_2 1) == 1)=false:=beq_eq_false_iff_ne.mpr c6
          have c6b1:((Go.bits .and .u32 x3_2 1) != 1)=true:=bne_iff_ne.mpr c6
          have H':=Aside0.mk H
          clear H
          go_wp2
          go_roundg k2
          case measure=>have:=HK1.out;have:=HK2.out;omega
          case rel=>exact ⟨(x3_2 / 2),(wrap64 (x17_2+1)),rd_,rd_,H',⟨by have:=HK1.out;have:=HK2.out;omega⟩,by repeat (first|exact Drawn0.refl _|apply Drawn0.step)⟩
        ·rw [if_neg c5] at H
         have c5b0:decide (x17_2 < 8)=false:=decide_eq_false c5
         clear c5
         have H':=Aside0.mk H
         clear H
         go_wp2
         go_roundg k2
         case measure=>have:=HK1.out;have:=HK2.out;omega
         case rel=>exact ⟨(x3_2),(wrap64 (x9_1+1)),rd_,rd_,H',⟨by have:=HK1.out;have:=HK2.out;omega⟩,by repeat (first|exact Drawn0.refl _|apply Drawn0.step)⟩
     ·rw [if_neg c4] at H
      exact absurd H (by simp)
    ·rw [if_neg c3] at H
     exact absurd H (by simp)
   ·rw [if_neg c2] at H
    have c2b0:decide (x9_1 < (l0.length:Int))=false:=decide_eq_false c2
    clear c2
    obtain rfl:=Option.some.inj H
    go_wp2
    go_ret
    exact ⟨by first|rfl|(simp;done)|(simp [*];done),by repeat (first|exact Drawn0.refl _|apply Drawn0.step)⟩
def impl_PutFile.f (k:Nat) (a0_0:Int) (a0_1:Int) (a0_2:Int) (a0_3:Bool) (l0_4:List Int):Option (List Int):=(impl_FileOk.f a0_0 a0_1 a0_2 a0_3 l0_4).bind fun t214=>(if t214=true then ((impl_addStamp.f k ([]:List Int) a0_0 a0_1 a0_2 a0_3).bind fun t215=>((impl_addText.f k t215 (strOfNums l0_4)).bind fun t218=>((impl_Crc.f k t218).bind fun t221=>((some (([(t221 / 16777216) % 256,(t221 / 65536) % 256,(t221 / 256) % 256,(t221) % 256]:List Int):List Int)).bind fun y222=>(if t218.length+y222.length < 140737488355328 then (some (t218 ++ y222)) else (none)))))) else (some ([]:List Int)))
def impl_PutFile.T3:Bool × List (List Nat × List Nat):=(true,[([],[]),([0],[0]),([],[]),([2],[2]),([1,3],[1,3]),([],[]),([5],[5]),([6],[6]),([4,7,4],[4,7]),([8,8,0,1,2,3,4,5,6,7,8],[8])])
def impl_PutFile.B3:List Nat:=[0,1,0,4,15,0,32,96,255,511]
theorem impl_PutFile.tab3:rtab .any (opsOf Try.f37 3)=impl_PutFile.T3:=by kernel_rfl
theorem impl_PutFile.bits3:waitsOk impl_PutFile.T3.2 impl_PutFile.B3=true:=by kernel_rfl
set_option maxHeartbeats 8000000 in
set_option maxRecDepth 100000 in
theorem impl_PutFile.calls (k:Nat) (a0_0:Int) (a0_1:Int) (a0_2:Int) (a0_3:Bool) (A0_4:Option Addr) (c0_4:Nat) (l0_4:List Int) (r:List Int) (w:World) (hr0_4:Kd.C (Kd.int .u8) w A0_4 l0_4.length l0_4) (hc0_4:l0_4.length≤c0_4) (h:impl_PutFile.f k a0_0 a0_1 a0_2 a0_3 l0_4=some r) :
  Calls Try.prog 37 #[.agg #[.int .i64 a0_0,.int .i64 a0_1,.int .i64 a0_2,.bool a0_3,.slice A0_4 l0_4.length c0_4]] w fun e w'=>∃ v0_:Value,e = .returned (v0_)∧Kd.R (Kd.int .u8) 5 w' w.heap.size (fun _=>True) v0_ r∧Below w.heap.size w w':=by
 have hu61:=Try.underlying61
 have hu59:=Try.underlying59
 have HR0_4:=Aside0.mk hr0_4
 have HC0_4:=Aside0.mk hc0_4
 clear hr0_4 hc0_4
 have HB:=Aside0.mk (Below.refl w.heap.size w)
 have H:((impl_FileOk.f a0_0 a0_1 a0_2 a0_3 l0_4).bind fun t214=>(if t214=true then ((impl_addStamp.f k ([]:List Int) a0_0 a0_1 a0_2 a0_3).bind fun t215=>((impl_addText.f k t215 (strOfNums l0_4)).bind fun t218=>((impl_Crc.f k t218).bind fun t221=>((some (([(t221 / 16777216) % 256,(t221 / 65536) % 256,(t221 / 256) % 256,(t221) % 256]:List Int):List Int)).bind fun y222=>(if t218.length+y222.length < 140737488355328 then (some (t218 ++ y222)) else (none)))))) else (some ([]:List Int))))=some r:=h
 clear h
 replace H:=Option.bind_eq_some_iff.mp H
 obtain ⟨t214,A20,H⟩:=H
 try dsimp only at H
 have A2:=Aside0.mk A20
 clear A20
 by_cases c3:t214=true
 ·subst c3
  rw [if_pos rfl] at H
  replace H:=Option.bind_eq_some_iff.mp H
  obtain ⟨t215,A40,H⟩:=H
  try dsimp only at H
  have A4:=Aside0.mk A40
  clear A40
  replace H:=Option.bind_eq_some_iff.mp H
  obtain ⟨t218,A50,H⟩:=H
  try dsimp only at H
  have A5:=Aside0.mk A50
  clear A50
  replace H:=Option.bind_eq_some_iff.mp H
  obtain ⟨t221,A60,H⟩:=H
  try dsimp only at H
  have A6:=Aside0.mk A60
  clear A60
  obtain ⟨y222,hy222⟩ : ∃ y_:List Int,y_=(([(t221 / 16777216) % 256,(t221 / 65536) % 256,(t221 / 256) % 256,(t221) % 256]:List Int)):=⟨_,rfl⟩
  replace H:(if t218.length+y222.length < 140737488355328 then (some (t218 ++ y222)) else (none))=some r:=by first|(rw [hy222];with_reducible exact H)|(have H2_:=(Option.bind_some _ _).symm.trans H;rw [hy222];with_reducible exact H2_)|(have H2_:=(Option.bind_some _ _).symm.trans H;with_reducible exact H2_)|with_reducible exact H|(rw [hy222];exact H)|exact H
  have Ny222:=Aside0.mk hy222
  clear hy222
  by_cases c7:t218.length+y222.length < 140737488355328
  ·rw [if_pos c7] at H
   have LMc7:=Aside0.mk c7
   clear c7
   obtain ⟨y225,hy225⟩ : ∃ y_:List Int,y_=(t218 ++ y222):=⟨_,rfl⟩
   replace H:(some y225)=some r:=by first|(rw [hy225];with_reducible exact H)|(have H2_:=(Option.bind_some _ _).symm.trans H;rw [hy225];with_reducible exact H2_)|(have H2_:=(Option.bind_some _ _).symm.trans H;with_reducible exact H2_)|with_reducible exact H|(rw [hy225];exact H)|exact H
   have Ny225:=Aside0.mk hy225
   clear hy225
   obtain rfl:=Option.some.inj H
   go_enter Try.func37,Try.ntmps37
   try go_wp2_with (first|((with_reducible refine gate_dst (N:=1) rfl ?_);refine box_event ?hg (N:=1) ?hd (cs:=#[.int .i64 a0_0,.int .i64 a0_1,.int .i64 a0_2,.bool a0_3,.slice A0_4 l0_4.length c0_4]) (t:=61) ?hr ?_;(case hd=>rfl);(case hg=>rfl);(case hr=>first|(go_simp;done)|(go_simp;rfl));intro gb213 hg w8 hbox hb;have n0_:=bs hb;have n1_:=Aside0.mk (hbox);have n2_:=Aside0.mk ((by rw [hg];exact (below_size be):w.heap.size≤gb213));have n3_:=Aside0.mk ((by rw [hg];exact (below_size be):w.heap.size≤gb213));clear HB;have HB:=n0_;have BK213:=n1_;have GW213:=n2_;have GE213:=n3_;clear n0_ n1_ n2_ n3_;clear hb hbox hg;have hcz9_0:w8.cell? ⟨gb213,0,none⟩=some (.int .i64 a0_0):=(blk_cell BK213.out 0).trans rfl;have hcz9_1:w8.cell? ⟨gb213,1,none⟩=some (.int .i64 a0_1):=(blk_cell BK213.out 1).trans rfl;have hcz9_2:w8.cell? ⟨gb213,2,none⟩=some (.int .i64 a0_2):=(blk_cell BK213.out 2).trans rfl;have hcz9_3:w8.cell? ⟨gb213,3,none⟩=some (.bool a0_3):=(blk_cell BK213.out 3).trans rfl;have hcz9_4:w8.cell? ⟨gb213,4,none⟩=some (.slice A0_4 l0_4.length c0_4):=(blk_cell BK213.out 4).trans rfl;have hfz9_0:=blk_frozen BK213.out 0;have hfz9_1:=blk_frozen BK213.out 1;have hfz9_2:=blk_frozen BK213.out 2;have hfz9_3:=blk_frozen BK213.out 3;have hfz9_4:=blk_frozen BK213.out 4)|((with_reducible refine gate_callee (f:=66) rfl ?_);refine goesL_ (some 6) rfl rfl Try.func66 (by kernel_rfl) rfl #[.agg #[.int .i64 a0_0,.int .i64 a0_1,.int .i64 a0_2,.bool a0_3,.slice A0_4 l0_4.length c0_4]] rfl (by (try simp only [List.map_toArray,List.map_cons,List.map_nil]);first|done|rfl|(simp only [List.length_drop,List.length_take];rfl)) ?_;(with_reducible refine (impl_FileOk.calls a0_0 a0_1 a0_2 a0_3 _ _ l0_4 true _ ?side1 ?side2 A2.out).mono ?_);(case side1=>exact rC HR0_4);(case side2=>exact HC0_4.out);rintro e w10 ⟨rfl,hb⟩;refine ⟨_,rfl,?_⟩;have n0_:=Aside0.mk (blk_below (g:=gb213) (o:=.cells #[.int .i64 a0_0,.int .i64 a0_1,.int .i64 a0_2,.bool a0_3,.slice A0_4 l0_4.length c0_4] 61 (0,0)) (bk BK213) hb);have n1_:=bs hb;clear BK213;clear HB;have BK213:=n0_;have HB:=n1_;clear n0_ n1_;(try clear hb);(try clear hb2);(try clear hk);(try clear hi)))
   have n0_:=Aside0.mk (blk_drew BK213.out)
   have n1_:=Aside0.mk (below_drew1 HB.out)
   clear BK213
   clear HB
   have BK213:=n0_
   have HB:=n1_
   clear n0_ n1_
   refine start_ (n:=10) (S:=fun w'=>w'.cell? ⟨gb213,0,none⟩=some (.int .i64 a0_0)∧w'.cell? ⟨gb213,1,none⟩=some (.int .i64 a0_1)∧w'.cell? ⟨gb213,2,none⟩=some (.int .i64 a0_2)∧w'.cell? ⟨gb213,3,none⟩=some (.bool a0_3)∧w'.cell? ⟨gb213,4,none⟩=some (.slice A0_4 l0_4.length c0_4)∧Kd.C (Kd.int .u8) w' A0_4 l0_4.length l0_4) (ds:=[]) (fl 10 0) (by kernel_rfl) rfl rfl ⟨(blk_cell BK213.out 0).trans rfl,(blk_cell BK213.out 1).trans rfl,(blk_cell BK213.out 2).trans rfl,(blk_cell BK213.out 3).trans rfl,(blk_cell BK213.out 4).trans rfl,Kd.C_below HR0_4.out be⟩ (fun hHeld=>?_);refine with_tabW impl_PutFile.tab3 impl_PutFile.bits3 (fun HT_ HW_=>?_)
   generalize w10.drew=w11 at BK213 HB hHeld ⊢
   refine pt 0 8 (fl 10 1) HT_ ?_
   refine pt 2 10 (fl 10 5) HT_ ?_
   refine pt 5 13 (fl 10 37) HT_ ?_
   refine tt 1 9 (fl 10 39) HT_ HW_ hHeld ?_
   refine tt 3 11 (fl 10 47) HT_ HW_ hHeld ?_
   refine tt 6 14 (fl 10 111) HT_ HW_ hHeld ?_
   refine take_ (i:=7) (N:=some 15) (v:=?_) (a':=?_) (fl 10 239) rfl rfl (take_ofW HT_.out HW_.out (by kernel_rfl)) (fun _ _ _ h=>h) (Or.inl ⟨by rfl,?_⟩) hHeld ?_ ?_
   rotate_left
   ·rintro w' ⟨s0,s1,s2,s3,s4,s5⟩
    have hcv_:=Kd.C_string (P:=Try.prog) (A:=A0_4) (c:=c0_4) Try.underlying54 Try.underlying5 Try.underlying9 s5
    go_simp
    with_reducible rfl
   rotate_left
   ·simp only [Act.put,List.setIfInBounds_toArray,List.set_cons_zero,List.set_cons_succ,i64_w,i32_w]
    rfl
   refine ot 4 (some 12) (fl 10 255) HT_ (fun K hK=>?_)
   refine goes_ Try.func94 (by kernel_rfl) rfl #[.slice none 0 0,.agg #[.int .i64 a0_0,.int .i64 a0_1,.int .i64 a0_2],.bool a0_3] (by rfl) rfl rfl (by (try simp only [List.map_toArray,List.map_cons,List.map_nil]);first|done|rfl|(simp only [List.length_drop,List.length_take];rfl)) ?_
   refine (impl_addStamp.calls k (fun k_=>some k_=(.slice none 0 0:Value).ownBlock) (.slice none 0 0) ([]:List Int) a0_0 a0_1 a0_2 a0_3 t215 w _ ?side1 ?side2 A4.out).mono ?_
   (case side1=>exact be)
   (case side2=>exact Kd.R_nil _ _ _ _ _)
   rintro e w12 ⟨v216,rfl,ho0,hb,hkp⟩
   refine ⟨_,rfl,?_⟩
   have n0_:=Aside0.mk (blk_kept (bk BK213) hkp (fun hs_=>(fun e_=>by simp [Value.ownBlock] at e_) hs_))
   have n1_:=Aside0.mk (Kd.R_mono (ok':=fun k_=>True) ho0 (fun k_ hk_=>trivial))
   have n2_:=Aside0.mk (hb)
   clear BK213
   clear HB
   have BK213:=n0_
   have HO217:=n1_
   have HB:=n2_
   clear n0_ n1_ n2_
   (try clear hb)
   (try clear hkp)
   (try clear ho0)
   have hcv13:=Kd.C_string (P:=Try.prog) (A:=A0_4) (c:=c0_4) Try.underlying54 Try.underlying5 Try.underlying9 (Kd.C_below HR0_4.out HB.out)
   have hcw14:=fun (n_:Nat)=>Kd.C_string (P:=Try.prog) (A:=A0_4) (c:=c0_4) Try.underlying54 Try.underlying5 Try.underlying9 (Kd.C_drewN ((Kd.C_below HR0_4.out HB.out)) n_)
   obtain ⟨Ao16,co16,eo16⟩:=Kd.R_slice HO217.out
   (first|subst eo16|(injection eo16 with f1_ f2_ f3_;have f4_:=f1_.symm;have f5_:=f3_.symm;clear f1_ f2_ f3_;subst f4_;subst f5_))
   refine hK.out _ _ ⟨(blk_cell BK213.out 0).trans rfl,(blk_cell BK213.out 1).trans rfl,(blk_cell BK213.out 2).trans rfl,(blk_cell BK213.out 3).trans rfl,(blk_cell BK213.out 4).trans rfl,Kd.C_below HR0_4.out be⟩ (fun hHeld=>?_)
   clear hK K
   refine no 12 ?_
   refine ot 8 (some 16) (fl 10 511) HT_ (fun K hK=>?_)
   refine goes_ Try.func93 (by kernel_rfl) rfl #[.slice Ao16 t215.length co16,.string (strOfNums l0_4)] (by rfl) rfl rfl (by (try simp only [List.map_toArray,List.map_cons,List.map_nil]);first|done|rfl|(simp only [List.length_drop,List.length_take];rfl)) ?_
   with_reducible refine (impl_addText.calls k (fun k_=>some k_=(.slice Ao16 t215.length co16:Value).ownBlock) (.slice Ao16 t215.length co16) t215 (strOfNums l0_4) t218 w _ ?side1 ?side2 A5.out).mono ?_
   (case side1=>exact be)
   (case side2=>exact Kd.R_tight rfl HO217.out)
   rintro e w17 ⟨v219,rfl,ho0,hb,hkp⟩
   refine ⟨_,rfl,?_⟩
   have n0_:=Aside0.mk (blk_kept (bk BK213) hkp (fun hs_=>(fun e_=>(Kd.R_ne HO217.out BK213.out (by decide)) e_) hs_))
   have n1_:=Aside0.mk (Kd.R_mono (ok':=fun k_=>True) ho0 (fun k_ hk_=>trivial))
   have n2_:=Aside0.mk (hb)
   clear BK213
   clear HB
   clear HO217
   have BK213:=n0_
   have HO220:=n1_
   have HB:=n2_
   clear n0_ n1_ n2_
   (try clear hb)
   (try clear hkp)
   (try clear ho0)
   refine hK.out _ _ ⟨(blk_cell BK213.out 0).trans rfl,(blk_cell BK213.out 1).trans rfl,(blk_cell BK213.out 2).trans rfl,(blk_cell BK213.out 3).trans rfl,(blk_cell BK213.out 4).trans rfl,Kd.C_below HR0_4.out be⟩ (fun hHeld=>?_)
   clear hK K
   refine no 16 ?_
   refine pt 9 3 (fl 10 1023) HT_ ?_
   refine done_ (done_of HT_.out (by kernel_rfl)) ?_
   obtain ⟨Ao18,co18,eo18⟩:=Kd.R_slice HO220.out
   subst eo18
   try go_wp2_with (first|((with_reducible refine gate_callee (f:=95) rfl ?_);refine goesL_ (some 18) rfl rfl Try.func95 (by kernel_rfl) rfl #[.slice Ao18 t218.length co18] rfl (by (try simp only [List.map_toArray,List.map_cons,List.map_nil]);first|done|rfl|(simp only [List.length_drop,List.length_take];rfl)) ?_;(with_reducible refine (impl_Crc.calls k _ _ t218 t221 _ ?side1 ?side2 A6.out).mono ?_);(case side1=>exact sR HO220);(case side2=>exact (Kd.R_reads' HO220.out).2.1);rintro e w' ⟨rfl,⟨nd,rfl⟩⟩;refine ⟨_,rfl,?_⟩)|((with_reducible refine gate_dst (N:=31) rfl ?_);refine Kd.R_lit (Kd.int .u8) _ 5 ?hg (N:=31) ?hd (xs:=([(t221 / 16777216) % 256,(t221 / 65536) % 256,(t221 / 256) % 256,(t221) % 256]:List Int)) (inner:=[.int .u8 ((t221 / 16777216) % 256),.int .u8 ((t221 / 65536) % 256),.int .u8 ((t221 / 256) % 256),.int .u8 ((t221) % 256)]) (ok:=fun _=>True) (okp:=fun _=>True) ?hr ?hp (fun _ hk=>hk) trivial (Below.refl _ _) (Nat.le_refl _) (by simp) ?_;(case hd=>rfl);(case hg=>rfl);(case hr=>first|(go_simp;done)|(go_simp;rfl));(case hp=>exact (Reps.one (show Kd.M (Kd.int .u8) _ _ _ ((t221 / 16777216) % 256) [.int .u8 ((t221 / 16777216) % 256)] from rfl) (Reps.one (show Kd.M (Kd.int .u8) _ _ _ ((t221 / 65536) % 256) [.int .u8 ((t221 / 65536) % 256)] from rfl) (Reps.one (show Kd.M (Kd.int .u8) _ _ _ ((t221 / 256) % 256) [.int .u8 ((t221 / 256) % 256)] from rfl) (Reps.one (show Kd.M (Kd.int .u8) _ _ _ ((t221) % 256) [.int .u8 ((t221) % 256)] from rfl) (Reps.none _ _))))));intro v223 w19 ho20 hb hg_ hnew_;clear hg_ hnew_;(first|rw [← Ny222.out] at ho20|(simp only [Int.reduceToNat] at ho20;rw [← Ny222.out] at ho20));have n0_:=Aside0.mk (Kd.R_elder' (rR HO220) (Kd.R_base ho20) hb);have n1_:=Aside0.mk (Kd.R_lower (Kd.R_new' ho20 (Kd.R_lt (rR HO220))) (below_size be));have n2_:=Aside0.mk (blk_below (g:=gb213) (o:=.cells #[.int .i64 a0_0,.int .i64 a0_1,.int .i64 a0_2,.bool a0_3,.slice A0_4 l0_4.length c0_4] 61 (0,0)) (bk BK213) hb);have n3_:=bs hb;clear HO220;clear BK213;clear HB;have HO220:=n0_;have HO224:=n1_;have BK213:=n2_;have HB:=n3_;clear n0_ n1_ n2_ n3_;clear hb ho20;obtain ⟨Ao22,co22,eo22⟩:=Kd.R_slice HO224.out;subst eo22)|((with_reducible refine gate_builtin (b:=.append) (xs:=#[.tmp 19,.tmp 31]) rfl ?_);at_builtin;refine Kd.R_append_rows (Kd.int .u8) (w0:=w) w.heap.size rfl (.tmp 19) (.tmp 31) 54 5 (.int .u8 0) 1 rfl Try.underlying54 info5 rfl (by decide) (by omega) (.slice Ao18 t218.length co18) t218 y222 _ _ _ (fun k_=>some k_ ≠ (.slice Ao22 y222.length co22:Value).ownBlock) (fun _=>False) rfl rfl ?aO ?aR (fun _ _ h=>h) (fun _ h=>h.elim) ?aF ?aB ?aS ?aL ?_;(case aR=>exact sR HO224);(case aB=>exact be);(case aF=>exact (fun k_ hk=>Kd.fresh' (Kd.R_lt (rR HO224)) k_ hk));(case aO=>exact (by (with_reducible repeat (first|apply Kd.R_alloc|apply Kd.R_drewN|apply Kd.R_drew));exact Kd.R_mono HO220.out (fun _ hk=>hk.2)));(case aS=>exact (below_size be));(case aL=>have:=LMc7.out;omega);intro v226 w21 ho hb hg hat;rw [← Ny225.out] at ho;have n0_:=Aside0.mk (blk_grown (g:=gb213) (o:=.cells #[.int .i64 a0_0,.int .i64 a0_1,.int .i64 a0_2,.bool a0_3,.slice A0_4 l0_4.length c0_4] 61 (0,0)) (bk BK213) hg (Kd.R_ne HO220.out BK213.out (by decide)));have n1_:=Aside0.mk (Kd.R_after (ok:=(fun _=>True)) (rR HO224) hg hat);have n2_:=Aside0.mk (hb);have n3_:=Aside0.mk (ho);clear BK213;clear HO224;clear HB;clear HO220;have BK213:=n0_;have HO224:=n1_;have HB:=n2_;have HO227:=n3_;clear n0_ n1_ n2_ n3_;clear ho hb hg hat))
   go_ret
   exact ⟨_,rz,by (with_reducible repeat (first|apply Kd.R_alloc|apply Kd.R_drewN|apply Kd.R_drew));exact Kd.R_mono HO227.out (fun _ hk=>trivial),be⟩
  ·rw [if_neg c7] at H
   exact absurd H (by simp)
 ·replace c3:=Bool.eq_false_iff.mpr c3
  subst c3
  have H1:(some ([]:List Int))=some r:=by rw [if_neg (show ¬ (false=true) by decide)] at H;exact H
  clear H
  have H:=H1
  clear H1
  obtain rfl:=Option.some.inj H
  go_enter Try.func37,Try.ntmps37
  go_wp2_with (first|((with_reducible refine gate_dst (N:=1) rfl ?_);refine box_event ?hg (N:=1) ?hd (cs:=#[.int .i64 a0_0,.int .i64 a0_1,.int .i64 a0_2,.bool a0_3,.slice A0_4 l0_4.length c0_4]) (t:=61) ?hr ?_;(case hd=>rfl);(case hg=>rfl);(case hr=>first|(go_simp;done)|(go_simp;rfl));intro gb213 hg w23 hbox hb;have n0_:=bs hb;have n1_:=Aside0.mk (hbox);have n2_:=Aside0.mk ((by rw [hg];exact (below_size be):w.heap.size≤gb213));have n3_:=Aside0.mk ((by rw [hg];exact (below_size be):w.heap.size≤gb213));clear HB;have HB:=n0_;have BK213:=n1_;have GW213:=n2_;have GE213:=n3_;clear n0_ n1_ n2_ n3_;clear hb hbox hg;have hcz24_0:w23.cell? ⟨gb213,0,none⟩=some (.int .i64 a0_0):=(blk_cell BK213.out 0).trans rfl;have hcz24_1:w23.cell? ⟨gb213,1,none⟩=some (.int .i64 a0_1):=(blk_cell BK213.out 1).trans rfl;have hcz24_2:w23.cell? ⟨gb213,2,none⟩=some (.int .i64 a0_2):=(blk_cell BK213.out 2).trans rfl;have hcz24_3:w23.cell? ⟨gb213,3,none⟩=some (.bool a0_3):=(blk_cell BK213.out 3).trans rfl;have hcz24_4:w23.cell? ⟨gb213,4,none⟩=some (.slice A0_4 l0_4.length c0_4):=(blk_cell BK213.out 4).trans rfl;have hfz24_0:=blk_frozen BK213.out 0;have hfz24_1:=blk_frozen BK213.out 1;have hfz24_2:=blk_frozen BK213.out 2;have hfz24_3:=blk_frozen BK213.out 3;have hfz24_4:=blk_frozen BK213.out 4)|((with_reducible refine gate_callee (f:=66) rfl ?_);refine goesL_ (some 6) rfl rfl Try.func66 (by kernel_rfl) rfl #[.agg #[.int .i64 a0_0,.int .i64 a0_1,.int .i64 a0_2,.bool a0_3,.slice A0_4 l0_4.length c0_4]] rfl (by (try simp only [List.map_toArray,List.map_cons,List.map_nil]);first|done|rfl|(simp only [List.length_drop,List.length_take];rfl)) ?_;(with_reducible refine (impl_FileOk.calls a0_0 a0_1 a0_2 a0_3 _ _ l0_4 false _ ?side1 ?side2 A2.out).mono ?_);(case side1=>exact rC HR0_4);(case side2=>exact HC0_4.out);rintro e w25 ⟨rfl,hb⟩;refine ⟨_,rfl,?_⟩;have n0_:=Aside0.mk (blk_below (g:=gb213) (o:=.cells #[.int .i64 a0_0,.int .i64 a0_1,.int .i64 a0_2,.bool a0_3,.slice A0_4 l0_4.length c0_4] 61 (0,0)) (bk BK213) hb);have n1_:=bs hb;clear BK213;clear HB;have BK213:=n0_;have HB:=n1_;clear n0_ n1_;(try clear hb);(try clear hb2);(try clear hk);(try clear hi)))
  go_ret
  exact ⟨_,rz,by first|exact Kd.R_nil _ _ _ _ _|exact Kd.N_nil _ _ _ _ _|exact Kd.V_nil _ _ _ _ _|exact Kd.Q_nil _ _ _ _ _|exact Kd.S_nil _ _ _ _ _,be⟩
def laws_eqByteS.l0:Nat→List Int→List Int→Int→Option (Bool)
 | 0,_,_,_=>none
 | k+1,x0,x1,x5=>if x5 < (x0.length:Int) then (if 0≤x5 then (if x5 < (x1.length:Int) then (if (rd x0 x5)=(rd x1 x5) then (laws_eqByteS.l0 k x0 x1 (wrap64 (x5+1))) else (some false)) else (none)) else (none)) else (some true)
def laws_eqByteS.f (k:Nat) (l0:List Int) (l1:List Int):Option (Bool):=if (l0.length:Int)=(l1.length:Int) then (laws_eqByteS.l0 k l0 l1 0) else (some false)
set_option maxHeartbeats 8000000 in
set_option maxRecDepth 100000 in
theorem laws_eqByteS.calls (k:Nat) (A0:Option Addr) (c0:Nat) (l0:List Int) (A1:Option Addr) (c1:Nat) (l1:List Int) (r:Bool) (w:World) (hr0:Kd.C (Kd.int .u8) w A0 l0.length l0) (hc0:l0.length≤c0) (hr1:Kd.C (Kd.int .u8) w A1 l1.length l1) (hc1:l1.length≤c1) (h:laws_eqByteS.f k l0 l1=some r) :
  Calls Try.prog 38 #[.slice A0 l0.length c0,.slice A1 l1.length c1] w fun e w'=>e = .returned (.bool r)∧Drawn0 w w':=by
 have HR0:=Aside0.mk hr0
 have HC0:=Aside0.mk hc0
 clear hr0 hc0
 have HR1:=Aside0.mk hr1
 have HC1:=Aside0.mk hc1
 clear hr1 hc1
 have H:(if (l0.length:Int)=(l1.length:Int) then (laws_eqByteS.l0 k l0 l1 0) else (some false))=some r:=h
 clear h
 by_cases c3:(l0.length:Int)=(l1.length:Int)
 ·rw [if_pos c3] at H
  have c3b0:((l0.length:Int) == (l1.length:Int))=true:=beq_iff_eq.mpr c3
  have c3b1:((l0.length:Int) != (l1.length:Int))=false:=bne_eq_false_iff_eq.mpr c3
  have c3b2:(l0.length == l1.length)=true:=by first|simpa using c3|(simp at c3 ⊢;omega)
  clear c3
  have H':=Aside0.mk H
  clear H
  go_enter Try.func38,Try.ntmps38
  go_wp2
  repeat (go_quiet (fail);try go_wp2)
  go_loopg [5] k (fun kq v5 w'=>∃ (x5_1:Int),v5 = .int .i64 x5_1∧Aside0 (laws_eqByteS.l0 kq l0 l1 x5_1=some r)∧Aside0 (kq≤k)∧Drawn0 w w')
  case atStart=>exact ⟨(0),rd_,H',⟨Nat.le_refl _⟩,by repeat (first|exact Drawn0.refl _|apply Drawn0.step)⟩
  case round=>
   clear H'
   try clear c1
   try clear p2
   try clear c3
   try clear c3b0
   try clear c3b1
   try clear c3b2
   obtain ⟨x5_1,rfl,HA,HK1,⟨m1,rfl⟩⟩:=hrel
   cases gk with
   | zero=>exact absurd HA.out (by simp [laws_eqByteS.l0])
   | succ k1=>
    have H:=HA.out
    clear HA
    simp only [laws_eqByteS.l0] at H
    by_cases c4:x5_1 < (l0.length:Int)
    ·rw [if_pos c4] at H
     have c4b0:decide (x5_1 < (l0.length:Int))=true:=decide_eq_true c4
     clear c4
     by_cases c5:0≤x5_1
     ·rw [if_pos c5] at H
      have c5b0:decide (0≤x5_1)=true:=decide_eq_true c5
      clear c5
      by_cases c6:x5_1 < (l1.length:Int)
      ·rw [if_pos c6] at H
       have c6b0:decide (x5_1 < (l1.length:Int))=true:=decide_eq_true c6
       clear c6
       by_cases c7:(rd l0 x5_1)=(rd l1 x5_1)
       ·rw [if_pos c7] at H
        have c7b0:((rd l0 x5_1) == (rd l1 x5_1))=true:=beq_iff_eq.mpr c7
        have c7b1:((rd l0 x5_1) != (rd l1 x5_1))=false:=bne_eq_false_iff_eq.mpr c7
        clear c7
        have H':=Aside0.mk H
        clear H
        have p228:0≤(x5_1:Int):=of_decide_eq_true (by first|(with_reducible assumption)|assumption)
        have q228:x5_1 < (l0.length:Int):=of_decide_eq_true (by first|(with_reducible assumption)|assumption)
        obtain ⟨ad228,e228,hx228_0⟩:=Kd.at_int HR0.out x5_1 p228 q228
        cases e228
        replace p228:=eq_true p228
        replace q228:=eq_true q228
        have p229:0≤(x5_1:Int):=of_decide_eq_true (by first|(with_reducible assumption)|assumption)
        have q229:x5_1 < (l1.length:Int):=of_decide_eq_true (by first|(with_reducible assumption)|assumption)
        obtain ⟨ad229,e229,hx229_0⟩:=Kd.at_int HR1.out x5_1 p229 q229
        cases e229
        replace p229:=eq_true p229
        replace q229:=eq_true q229
        go_wp2
        repeat (go_quiet (fail);try go_wp2)
        go_roundg k1
        case measure=>have:=HK1.out;omega
        case rel=>exact ⟨(wrap64 (x5_1+1)),rd_,H',⟨by have:=HK1.out;omega⟩,by repeat (first|exact Drawn0.refl _|apply Drawn0.step)⟩
       ·rw [if_neg c7] at H
        have c7b0:((rd l0 x5_1) == (rd l1 x5_1))=false:=beq_eq_false_iff_ne.mpr c7
        have c7b1:((rd l0 x5_1) != (rd l1 x5_1))=true:=bne_iff_ne.mpr c7
        obtain rfl:=Option.some.inj H
        have p228:0≤(x5_1:Int):=of_decide_eq_true (by first|(with_reducible assumption)|assumption)
        have q228:x5_1 < (l0.length:Int):=of_decide_eq_true (by first|(with_reducible assumption)|assumption)
        obtain ⟨ad228,e228,hx228_0⟩:=Kd.at_int HR0.out x5_1 p228 q228
        cases e228
        replace p228:=eq_true p228
        replace q228:=eq_true q228
        have p229:0≤(x5_1:Int):=of_decide_eq_true (by first|(with_reducible assumption)|assumption)
        have q229:x5_1 < (l1.length:Int):=of_decide_eq_true (by first|(with_reducible assumption)|assumption)
        obtain ⟨ad229,e229,hx229_0⟩:=Kd.at_int HR1.out x5_1 p229 q229
        cases e229
        replace p229:=eq_true p229
        replace q229:=eq_true q229
        go_wp2
        repeat (go_quiet (fail);try go_wp2)
        go_ret
        exact ⟨by first|rfl|(simp;done)|(simp [*];done),by repeat (first|exact Drawn0.refl _|apply Drawn0.step)⟩
      ·rw [if_neg c6] at H
       exact absurd H (by simp)
     ·rw [if_neg c5] at H
      exact absurd H (by simp)
    ·rw [if_neg c4] at H
     have c4b0:decide (x5_1 < (l0.length:Int))=false:=decide_eq_false c4
     clear c4
     obtain rfl:=Option.some.inj H
     go_wp2
     repeat (go_quiet (fail);try go_wp2)
     go_ret
     exact ⟨by first|rfl|(simp;done)|(simp [*];done),by repeat (first|exact Drawn0.refl _|apply Drawn0.step)⟩
 ·rw [if_neg c3] at H
  have c3b0:((l0.length:Int) == (l1.length:Int))=false:=beq_eq_false_iff_ne.mpr c3
  have c3b1:((l0.length:Int) != (l1.length:Int))=true:=bne_iff_ne.mpr c3
  have c3b2:(l0.length == l1.length)=false:=by first|simpa using c3|(simp at c3 ⊢;omega)
  obtain rfl:=Option.some.inj H
  go_enter Try.func38,Try.ntmps38
  go_wp2
  repeat (go_quiet (fail);try go_wp2)
  go_ret
  exact ⟨by first|rfl|(simp;done)|(simp [*];done),by repeat (first|exact Drawn0.refl _|apply Drawn0.step)⟩
def laws_eqStamp.f (a0_0:Int) (a0_1:Int) (a0_2:Int) (a1_0:Int) (a1_1:Int) (a1_2:Int):Option (Bool):=if a0_0=a1_0 then (if a0_1=a1_1 then (if a0_2=a1_2 then (some true) else (some false)) else (some false)) else (some false)
set_option maxHeartbeats 8000000 in
set_option maxRecDepth 100000 in
theorem laws_eqStamp.calls (a0_0:Int) (a0_1:Int) (a0_2:Int) (a1_0:Int) (a1_1:Int) (a1_2:Int) (r:Bool) (w:World) (h:laws_eqStamp.f a0_0 a0_1 a0_2 a1_0 a1_1 a1_2=some r) :
  Calls Try.prog 96 #[.agg #[.int .i64 a0_0,.int .i64 a0_1,.int .i64 a0_2],.agg #[.int .i64 a1_0,.int .i64 a1_1,.int .i64 a1_2]] w fun e w'=>e = .returned (.bool r)∧Below w.heap.size w w':=by
 have hu59:=Try.underlying59
 have HB:=Aside0.mk (Below.refl w.heap.size w)
 have H:(if a0_0=a1_0 then (if a0_1=a1_1 then (if a0_2=a1_2 then (some true) else (some false)) else (some false)) else (some false))=some r:=h
 clear h
 by_cases c3:a0_0=a1_0
 ·rw [if_pos c3] at H
  have c3b0:(a0_0 == a1_0)=true:=beq_iff_eq.mpr c3
  have c3b1:(a0_0 != a1_0)=false:=bne_eq_false_iff_eq.mpr c3
  clear c3
  by_cases c4:a0_1=a1_1
  ·rw [if_pos c4] at H
   have c4b0:(a0_1 == a1_1)=true:=beq_iff_eq.mpr c4
   have c4b1:(a0_1 != a1_1)=false:=bne_eq_false_iff_eq.mpr c4
   clear c4
   by_cases c5:a0_2=a1_2
   ·rw [if_pos c5] at H
    have c5b0:(a0_2 == a1_2)=true:=beq_iff_eq.mpr c5
    have c5b1:(a0_2 != a1_2)=false:=bne_eq_false_iff_eq.mpr c5
    clear c5
    obtain rfl:=Option.some.inj H
    go_enter Try.func96,Try.ntmps96
    go_wp2_with (first|((with_reducible refine gate_dst (N:=2) rfl ?_);refine box_event ?hg (N:=2) ?hd (cs:=#[.int .i64 a0_0,.int .i64 a0_1,.int .i64 a0_2]) (t:=59) ?hr ?_;(case hd=>rfl);(case hg=>rfl);(case hr=>first|(go_simp;done)|(go_simp;rfl));intro gb230 hg w6 hbox hb;have n0_:=bs hb;have n1_:=Aside0.mk (hbox);have n2_:=Aside0.mk ((by rw [hg];exact (below_size be):w.heap.size≤gb230));have n3_:=Aside0.mk ((by rw [hg];exact (below_size be):w.heap.size≤gb230));clear HB;have HB:=n0_;have BK230:=n1_;have GW230:=n2_;have GE230:=n3_;clear n0_ n1_ n2_ n3_;clear hb hbox hg)|((with_reducible refine gate_dst (N:=3) rfl ?_);refine box_event ?hg (N:=3) ?hd (cs:=#[.int .i64 a1_0,.int .i64 a1_1,.int .i64 a1_2]) (t:=59) ?hr ?_;(case hd=>rfl);(case hg=>rfl);(case hr=>first|(go_simp;done)|(go_simp;rfl));intro gb231 hg w7 hbox hb;have n0_:=Aside0.mk (blk_below (g:=gb230) (o:=.cells #[.int .i64 a0_0,.int .i64 a0_1,.int .i64 a0_2] 59 (0,0)) (bk BK230) hb);have n1_:=bs hb;have n2_:=Aside0.mk (hbox);have n3_:=Aside0.mk ((by rw [hg];exact (below_size be):w.heap.size≤gb231));have n4_:=Aside0.mk ((by rw [hg];exact (below_size be):w.heap.size≤gb231));have n5_:=Aside0.mk ((by rw [hg];exact Nat.ne_of_lt (blk_lt (g:=gb230) (o:=.cells #[.int .i64 a0_0,.int .i64 a0_1,.int .i64 a0_2] 59 (0,0)) (bk BK230)):gb230 ≠ gb231));have n6_:=Aside0.mk ((by rw [hg];exact Nat.ne_of_gt (blk_lt (g:=gb230) (o:=.cells #[.int .i64 a0_0,.int .i64 a0_1,.int .i64 a0_2] 59 (0,0)) (bk BK230)):gb231 ≠ gb230));clear BK230;clear HB;have BK230:=n0_;have HB:=n1_;have BK231:=n2_;have GW231:=n3_;have GE231:=n4_;have NB230_231:=n5_;have NB231_230:=n6_;clear n0_ n1_ n2_ n3_ n4_ n5_ n6_;clear hb hbox hg;have hnb8:=NB230_231.out;have hnc8:=NB231_230.out;have hcz9_0:w7.cell? ⟨gb230,0,none⟩=some (.int .i64 a0_0):=(blk_cell BK230.out 0).trans rfl;have hcz9_1:w7.cell? ⟨gb230,1,none⟩=some (.int .i64 a0_1):=(blk_cell BK230.out 1).trans rfl;have hcz9_2:w7.cell? ⟨gb230,2,none⟩=some (.int .i64 a0_2):=(blk_cell BK230.out 2).trans rfl;have hfz9_0:=blk_frozen BK230.out 0;have hfz9_1:=blk_frozen BK230.out 1;have hfz9_2:=blk_frozen BK230.out 2;have hcz10_0:w7.cell? ⟨gb231,0,none⟩=some (.int .i64 a1_0):=(blk_cell BK231.out 0).trans rfl;have hcz10_1:w7.cell? ⟨gb231,1,none⟩=some (.int .i64 a1_1):=(blk_cell BK231.out 1).trans rfl;have hcz10_2:w7.cell? ⟨gb231,2,none⟩=some (.int .i64 a1_2):=(blk_cell BK231.out 2).trans rfl;have hfz10_0:=blk_frozen BK231.out 0;have hfz10_1:=blk_frozen BK231.out 1;have hfz10_2:=blk_frozen BK231.out 2))
    go_ret
    exact ⟨rz,be⟩
   ·rw [if_neg c5] at H
    have c5b0:(a0_2 == a1_2)=false:=beq_eq_false_iff_ne.mpr c5
    have c5b1:(a0_2 != a1_2)=true:=bne_iff_ne.mpr c5
    obtain rfl:=Option.some.inj H
    go_enter Try.func96,Try.ntmps96
    go_wp2_with (first|((with_reducible refine gate_dst (N:=2) rfl ?_);refine box_event ?hg (N:=2) ?hd (cs:=#[.int .i64 a0_0,.int .i64 a0_1,.int .i64 a0_2]) (t:=59) ?hr ?_;(case hd=>rfl);(case hg=>rfl);(case hr=>first|(go_simp;done)|(go_simp;rfl));intro gb230 hg w11 hbox hb;have n0_:=bs hb;have n1_:=Aside0.mk (hbox);have n2_:=Aside0.mk ((by rw [hg];exact (below_size be):w.heap.size≤gb230));have n3_:=Aside0.mk ((by rw [hg];exact (below_size be):w.heap.size≤gb230));clear HB;have HB:=n0_;have BK230:=n1_;have GW230:=n2_;have GE230:=n3_;clear n0_ n1_ n2_ n3_;clear hb hbox hg)|((with_reducible refine gate_dst (N:=3) rfl ?_);refine box_event ?hg (N:=3) ?hd (cs:=#[.int .i64 a1_0,.int .i64 a1_1,.int .i64 a1_2]) (t:=59) ?hr ?_;(case hd=>rfl);(case hg=>rfl);(case hr=>first|(go_simp;done)|(go_simp;rfl));intro gb231 hg w12 hbox hb;have n0_:=Aside0.mk (blk_below (g:=gb230) (o:=.cells #[.int .i64 a0_0,.int .i64 a0_1,.int .i64 a0_2] 59 (0,0)) (bk BK230) hb);have n1_:=bs hb;have n2_:=Aside0.mk (hbox);have n3_:=Aside0.mk ((by rw [hg];exact (below_size be):w.heap.size≤gb231));have n4_:=Aside0.mk ((by rw [hg];exact (below_size be):w.heap.size≤gb231));have n5_:=Aside0.mk ((by rw [hg];exact Nat.ne_of_lt (blk_lt (g:=gb230) (o:=.cells #[.int .i64 a0_0,.int .i64 a0_1,.int .i64 a0_2] 59 (0,0)) (bk BK230)):gb230 ≠ gb231));have n6_:=Aside0.mk ((by rw [hg];exact Nat.ne_of_gt (blk_lt (g:=gb230) (o:=.cells #[.int .i64 a0_0,.int .i64 a0_1,.int .i64 a0_2] 59 (0,0)) (bk BK230)):gb231 ≠ gb230));clear BK230;clear HB;have BK230:=n0_;have HB:=n1_;have BK231:=n2_;have GW231:=n3_;have GE231:=n4_;have NB230_231:=n5_;have NB231_230:=n6_;clear n0_ n1_ n2_ n3_ n4_ n5_ n6_;clear hb hbox hg;have hnb13:=NB230_231.out;have hnc13:=NB231_230.out;have hcz14_0:w12.cell? ⟨gb230,0,none⟩=some (.int .i64 a0_0):=(blk_cell BK230.out 0).trans rfl;have hcz14_1:w12.cell? ⟨gb230,1,none⟩=some (.int .i64 a0_1):=(blk_cell BK230.out 1).trans rfl;have hcz14_2:w12.cell? ⟨gb230,2,none⟩=some (.int .i64 a0_2):=(blk_cell BK230.out 2).trans rfl;have hfz14_0:=blk_frozen BK230.out 0;have hfz14_1:=blk_frozen BK230.out 1;have hfz14_2:=blk_frozen BK230.out 2;have hcz15_0:w12.cell? ⟨gb231,0,none⟩=some (.int .i64 a1_0):=(blk_cell BK231.out 0).trans rfl;have hcz15_1:w12.cell? ⟨gb231,1,none⟩=some (.int .i64 a1_1):=(blk_cell BK231.out 1).trans rfl;have hcz15_2:w12.cell? ⟨gb231,2,none⟩=some (.int .i64 a1_2):=(blk_cell BK231.out 2).trans rfl;have hfz15_0:=blk_frozen BK231.out 0;have hfz15_1:=blk_frozen BK231.out 1;have hfz15_2:=blk_frozen BK231.out 2))
    go_ret
    exact ⟨rz,be⟩
  ·rw [if_neg c4] at H
   have c4b0:(a0_1 == a1_1)=false:=beq_eq_false_iff_ne.mpr c4
   have c4b1:(a0_1 != a1_1)=true:=bne_iff_ne.mpr c4
   obtain rfl:=Option.some.inj H
   go_enter Try.func96,Try.ntmps96
   go_wp2_with (first|((with_reducible refine gate_dst (N:=2) rfl ?_);refine box_event ?hg (N:=2) ?hd (cs:=#[.int .i64 a0_0,.int .i64 a0_1,.int .i64 a0_2]) (t:=59) ?hr ?_;(case hd=>rfl);(case hg=>rfl);(case hr=>first|(go_simp;done)|(go_simp;rfl));intro gb230 hg w16 hbox hb;have n0_:=bs hb;have n1_:=Aside0.mk (hbox);have n2_:=Aside0.mk ((by rw [hg];exact (below_size be):w.heap.size≤gb230));have n3_:=Aside0.mk ((by rw [hg];exact (below_size be):w.heap.size≤gb230));clear HB;have HB:=n0_;have BK230:=n1_;have GW230:=n2_;have GE230:=n3_;clear n0_ n1_ n2_ n3_;clear hb hbox hg)|((with_reducible refine gate_dst (N:=3) rfl ?_);refine box_event ?hg (N:=3) ?hd (cs:=#[.int .i64 a1_0,.int .i64 a1_1,.int .i64 a1_2]) (t:=59) ?hr ?_;(case hd=>rfl);(case hg=>rfl);(case hr=>first|(go_simp;done)|(go_simp;rfl));intro gb231 hg w17 hbox hb;have n0_:=Aside0.mk (blk_below (g:=gb230) (o:=.cells #[.int .i64 a0_0,.int .i64 a0_1,.int .i64 a0_2] 59 (0,0)) (bk BK230) hb);have n1_:=bs hb;have n2_:=Aside0.mk (hbox);have n3_:=Aside0.mk ((by rw [hg];exact (below_size be):w.heap.size≤gb231));have n4_:=Aside0.mk ((by rw [hg];exact (below_size be):w.heap.size≤gb231));have n5_:=Aside0.mk ((by rw [hg];exact Nat.ne_of_lt (blk_lt (g:=gb230) (o:=.cells #[.int .i64 a0_0,.int .i64 a0_1,.int .i64 a0_2] 59 (0,0)) (bk BK230)):gb230 ≠ gb231));have n6_:=Aside0.mk ((by rw [hg];exact Nat.ne_of_gt (blk_lt (g:=gb230) (o:=.cells #[.int .i64 a0_0,.int .i64 a0_1,.int .i64 a0_2] 59 (0,0)) (bk BK230)):gb231 ≠ gb230));clear BK230;clear HB;have BK230:=n0_;have HB:=n1_;have BK231:=n2_;have GW231:=n3_;have GE231:=n4_;have NB230_231:=n5_;have NB231_230:=n6_;clear n0_ n1_ n2_ n3_ n4_ n5_ n6_;clear hb hbox hg;have hnb18:=NB230_231.out;have hnc18:=NB231_230.out;have hcz19_0:w17.cell? ⟨gb230,0,none⟩=some (.int .i64 a0_0):=(blk_cell BK230.out 0).trans rfl;have hcz19_1:w17.cell? ⟨gb230,1,none⟩=some (.int .i64 a0_1):=(blk_cell BK230.out 1).trans rfl;have hcz19_2:w17.cell? ⟨gb230,2,none⟩=some (.int .i64 a0_2):=(blk_cell BK230.out 2).trans rfl;have hfz19_0:=blk_frozen BK230.out 0;have hfz19_1:=blk_frozen BK230.out 1;have hfz19_2:=blk_frozen BK230.out 2;have hcz20_0:w17.cell? ⟨gb231,0,none⟩=some (.int .i64 a1_0):=(blk_cell BK231.out 0).trans rfl;have hcz20_1:w17.cell? ⟨gb231,1,none⟩=some (.int .i64 a1_1):=(blk_cell BK231.out 1).trans rfl;have hcz20_2:w17.cell? ⟨gb231,2,none⟩=some (.int .i64 a1_2):=(blk_cell BK231.out 2).trans rfl;have hfz20_0:=blk_frozen BK231.out 0;have hfz20_1:=blk_frozen BK231.out 1;have hfz20_2:=blk_frozen BK231.out 2))
   go_ret
   exact ⟨rz,be⟩
 ·rw [if_neg c3] at H
  have c3b0:(a0_0 == a1_0)=false:=beq_eq_false_iff_ne.mpr c3
  have c3b1:(a0_0 != a1_0)=true:=bne_iff_ne.mpr c3
  obtain rfl:=Option.some.inj H
  go_enter Try.func96,Try.ntmps96
  go_wp2_with (first|((with_reducible refine gate_dst (N:=2) rfl ?_);refine box_event ?hg (N:=2) ?hd (cs:=#[.int .i64 a0_0,.int .i64 a0_1,.int .i64 a0_2]) (t:=59) ?hr ?_;(case hd=>rfl);(case hg=>rfl);(case hr=>first|(go_simp;done)|(go_simp;rfl));intro gb230 hg w21 hbox hb;have n0_:=bs hb;have n1_:=Aside0.mk (hbox);have n2_:=Aside0.mk ((by rw [hg];exact (below_size be):w.heap.size≤gb230));have n3_:=Aside0.mk ((by rw [hg];exact (below_size be):w.heap.size≤gb230));clear HB;have HB:=n0_;have BK230:=n1_;have GW230:=n2_;have GE230:=n3_;clear n0_ n1_ n2_ n3_;clear hb hbox hg)|((with_reducible refine gate_dst (N:=3) rfl ?_);refine box_event ?hg (N:=3) ?hd (cs:=#[.int .i64 a1_0,.int .i64 a1_1,.int .i64 a1_2]) (t:=59) ?hr ?_;(case hd=>rfl);(case hg=>rfl);(case hr=>first|(go_simp;done)|(go_simp;rfl));intro gb231 hg w22 hbox hb;have n0_:=Aside0.mk (blk_below (g:=gb230) (o:=.cells #[.int .i64 a0_0,.int .i64 a0_1,.int .i64 a0_2] 59 (0,0)) (bk BK230) hb);have n1_:=bs hb;have n2_:=Aside0.mk (hbox);have n3_:=Aside0.mk ((by rw [hg];exact (below_size be):w.heap.size≤gb231));have n4_:=Aside0.mk ((by rw [hg];exact (below_size be):w.heap.size≤gb231));have n5_:=Aside0.mk ((by rw [hg];exact Nat.ne_of_lt (blk_lt (g:=gb230) (o:=.cells #[.int .i64 a0_0,.int .i64 a0_1,.int .i64 a0_2] 59 (0,0)) (bk BK230)):gb230 ≠ gb231));have n6_:=Aside0.mk ((by rw [hg];exact Nat.ne_of_gt (blk_lt (g:=gb230) (o:=.cells #[.int .i64 a0_0,.int .i64 a0_1,.int .i64 a0_2] 59 (0,0)) (bk BK230)):gb231 ≠ gb230));clear BK230;clear HB;have BK230:=n0_;have HB:=n1_;have BK231:=n2_;have GW231:=n3_;have GE231:=n4_;have NB230_231:=n5_;have NB231_230:=n6_;clear n0_ n1_ n2_ n3_ n4_ n5_ n6_;clear hb hbox hg;have hnb23:=NB230_231.out;have hnc23:=NB231_230.out;have hcz24_0:w22.cell? ⟨gb230,0,none⟩=some (.int .i64 a0_0):=(blk_cell BK230.out 0).trans rfl;have hcz24_1:w22.cell? ⟨gb230,1,none⟩=some (.int .i64 a0_1):=(blk_cell BK230.out 1).trans rfl;have hcz24_2:w22.cell? ⟨gb230,2,none⟩=some (.int .i64 a0_2):=(blk_cell BK230.out 2).trans rfl;have hfz24_0:=blk_frozen BK230.out 0;have hfz24_1:=blk_frozen BK230.out 1;have hfz24_2:=blk_frozen BK230.out 2;have hcz25_0:w22.cell? ⟨gb231,0,none⟩=some (.int .i64 a1_0):=(blk_cell BK231.out 0).trans rfl;have hcz25_1:w22.cell? ⟨gb231,1,none⟩=some (.int .i64 a1_1):=(blk_cell BK231.out 1).trans rfl;have hcz25_2:w22.cell? ⟨gb231,2,none⟩=some (.int .i64 a1_2):=(blk_cell BK231.out 2).trans rfl;have hfz25_0:=blk_frozen BK231.out 0;have hfz25_1:=blk_frozen BK231.out 1;have hfz25_2:=blk_frozen BK231.out 2))
  go_ret
  exact ⟨rz,be⟩
def laws_eqFile.f (k:Nat) (a0_0:Int) (a0_1:Int) (a0_2:Int) (a0_3:Bool) (l0_4:List Int) (a1_0:Int) (a1_1:Int) (a1_2:Int) (a1_3:Bool) (l1_4:List Int):Option (Bool):=(laws_eqStamp.f a0_0 a0_1 a0_2 a1_0 a1_1 a1_2).bind fun t234=>(if t234=true then (if (a0_3 != a1_3)=true then (some false) else ((laws_eqByteS.f k l0_4 l1_4).bind fun t235=>(if t235=true then (some true) else (some false)))) else (some false))
set_option maxHeartbeats 8000000 in
set_option maxRecDepth 100000 in
theorem laws_eqFile.calls (k:Nat) (a0_0:Int) (a0_1:Int) (a0_2:Int) (a0_3:Bool) (A0_4:Option Addr) (c0_4:Nat) (l0_4:List Int) (a1_0:Int) (a1_1:Int) (a1_2:Int) (a1_3:Bool) (A1_4:Option Addr) (c1_4:Nat) (l1_4:List Int) (r:Bool) (w:World) (hr0_4:Kd.C (Kd.int .u8) w A0_4 l0_4.length l0_4) (hc0_4:l0_4.length≤c0_4) (hr1_4:Kd.C (Kd.int .u8) w A1_4 l1_4.length l1_4) (hc1_4:l1_4.length≤c1_4) (h:laws_eqFile.f k a0_0 a0_1 a0_2 a0_3 l0_4 a1_0 a1_1 a1_2 a1_3 l1_4=some r) :
  Calls Try.prog 39 #[.agg #[.int .i64 a0_0,.int .i64 a0_1,.int .i64 a0_2,.bool a0_3,.slice A0_4 l0_4.length c0_4],.agg #[.int .i64 a1_0,.int .i64 a1_1,.int .i64 a1_2,.bool a1_3,.slice A1_4 l1_4.length c1_4]] w fun e w'=>e = .returned (.bool r)∧Below w.heap.size w w':=by
 have hu61:=Try.underlying61
 have hu59:=Try.underlying59
 have HR0_4:=Aside0.mk hr0_4
 have HC0_4:=Aside0.mk hc0_4
 clear hr0_4 hc0_4
 have HR1_4:=Aside0.mk hr1_4
 have HC1_4:=Aside0.mk hc1_4
 clear hr1_4 hc1_4
 have HB:=Aside0.mk (Below.refl w.heap.size w)
 have H:((laws_eqStamp.f a0_0 a0_1 a0_2 a1_0 a1_1 a1_2).bind fun t234=>(if t234=true then (if (a0_3 != a1_3)=true then (some false) else ((laws_eqByteS.f k l0_4 l1_4).bind fun t235=>(if t235=true then (some true) else (some false)))) else (some false)))=some r:=h
 clear h
 replace H:=Option.bind_eq_some_iff.mp H
 obtain ⟨t234,A30,H⟩:=H
 try dsimp only at H
 have A3:=Aside0.mk A30
 clear A30
 by_cases c4:t234=true
 ·subst c4
  rw [if_pos rfl] at H
  by_cases c5:(a0_3 != a1_3)=true
  ·rw [if_pos c5] at H
   have c5b0:(a0_3 != a1_3)=true:=c5
   (try (have c5b1:decide (a0_3=a1_3)=false:=by simpa using c5))
   (try (have c5b2:(a0_3 == a1_3)=false:=by simpa using c5))
   (try (have c5b3 : ¬ (a0_3=a1_3):=by simpa using c5))
   clear c5
   obtain rfl:=Option.some.inj H
   go_enter Try.func39,Try.ntmps39
   go_wp2_with (first|((with_reducible refine gate_dst (N:=2) rfl ?_);refine box_event ?hg (N:=2) ?hd (cs:=#[.int .i64 a0_0,.int .i64 a0_1,.int .i64 a0_2,.bool a0_3,.slice A0_4 l0_4.length c0_4]) (t:=61) ?hr ?_;(case hd=>rfl);(case hg=>rfl);(case hr=>first|(go_simp;done)|(go_simp;rfl));intro gb232 hg w6 hbox hb;have n0_:=bs hb;have n1_:=Aside0.mk (hbox);have n2_:=Aside0.mk ((by rw [hg];exact (below_size be):w.heap.size≤gb232));have n3_:=Aside0.mk ((by rw [hg];exact (below_size be):w.heap.size≤gb232));clear HB;have HB:=n0_;have BK232:=n1_;have GW232:=n2_;have GE232:=n3_;clear n0_ n1_ n2_ n3_;clear hb hbox hg)|((with_reducible refine gate_dst (N:=3) rfl ?_);refine box_event ?hg (N:=3) ?hd (cs:=#[.int .i64 a1_0,.int .i64 a1_1,.int .i64 a1_2,.bool a1_3,.slice A1_4 l1_4.length c1_4]) (t:=61) ?hr ?_;(case hd=>rfl);(case hg=>rfl);(case hr=>first|(go_simp;done)|(go_simp;rfl));intro gb233 hg w7 hbox hb;have n0_:=Aside0.mk (blk_below (g:=gb232) (o:=.cells #[.int .i64 a0_0,.int .i64 a0_1,.int .i64 a0_2,.bool a0_3,.slice A0_4 l0_4.length c0_4] 61 (0,0)) (bk BK232) hb);have n1_:=bs hb;have n2_:=Aside0.mk (hbox);have n3_:=Aside0.mk ((by rw [hg];exact (below_size be):w.heap.size≤gb233));have n4_:=Aside0.mk ((by rw [hg];exact (below_size be):w.heap.size≤gb233));have n5_:=Aside0.mk ((by rw [hg];exact Nat.ne_of_lt (blk_lt (g:=gb232) (o:=.cells #[.int .i64 a0_0,.int .i64 a0_1,.int .i64 a0_2,.bool a0_3,.slice A0_4 l0_4.length c0_4] 61 (0,0)) (bk BK232)):gb232 ≠ gb233));have n6_:=Aside0.mk ((by rw [hg];exact Nat.ne_of_gt (blk_lt (g:=gb232) (o:=.cells #[.int .i64 a0_0,.int .i64 a0_1,.int .i64 a0_2,.bool a0_3,.slice A0_4 l0_4.length c0_4] 61 (0,0)) (bk BK232)):gb233 ≠ gb232));clear BK232;clear HB;have BK232:=n0_;have HB:=n1_;have BK233:=n2_;have GW233:=n3_;have GE233:=n4_;have NB232_233:=n5_;have NB233_232:=n6_;clear n0_ n1_ n2_ n3_ n4_ n5_ n6_;clear hb hbox hg;have hnb8:=NB232_233.out;have hnc8:=NB233_232.out;have hcz9_0:w7.cell? ⟨gb232,0,none⟩=some (.int .i64 a0_0):=(blk_cell BK232.out 0).trans rfl;have hcz9_1:w7.cell? ⟨gb232,1,none⟩=some (.int .i64 a0_1):=(blk_cell BK232.out 1).trans rfl;have hcz9_2:w7.cell? ⟨gb232,2,none⟩=some (.int .i64 a0_2):=(blk_cell BK232.out 2).trans rfl;have hcz9_3:w7.cell? ⟨gb232,3,none⟩=some (.bool a0_3):=(blk_cell BK232.out 3).trans rfl;have hcz9_4:w7.cell? ⟨gb232,4,none⟩=some (.slice A0_4 l0_4.length c0_4):=(blk_cell BK232.out 4).trans rfl;have hfz9_0:=blk_frozen BK232.out 0;have hfz9_1:=blk_frozen BK232.out 1;have hfz9_2:=blk_frozen BK232.out 2;have hfz9_3:=blk_frozen BK232.out 3;have hfz9_4:=blk_frozen BK232.out 4;have hcz10_0:w7.cell? ⟨gb233,0,none⟩=some (.int .i64 a1_0):=(blk_cell BK233.out 0).trans rfl;have hcz10_1:w7.cell? ⟨gb233,1,none⟩=some (.int .i64 a1_1):=(blk_cell BK233.out 1).trans rfl;have hcz10_2:w7.cell? ⟨gb233,2,none⟩=some (.int .i64 a1_2):=(blk_cell BK233.out 2).trans rfl;have hcz10_3:w7.cell? ⟨gb233,3,none⟩=some (.bool a1_3):=(blk_cell BK233.out 3).trans rfl;have hcz10_4:w7.cell? ⟨gb233,4,none⟩=some (.slice A1_4 l1_4.length c1_4):=(blk_cell BK233.out 4).trans rfl;have hfz10_0:=blk_frozen BK233.out 0;have hfz10_1:=blk_frozen BK233.out 1;have hfz10_2:=blk_frozen BK233.out 2;have hfz10_3:=blk_frozen BK233.out 3;have hfz10_4:=blk_frozen BK233.out 4)|((with_reducible refine gate_callee (f:=96) rfl ?_);refine goesL_ (some 9) rfl rfl Try.func96 (by kernel_rfl) rfl #[.agg #[.int .i64 a0_0,.int .i64 a0_1,.int .i64 a0_2],.agg #[.int .i64 a1_0,.int .i64 a1_1,.int .i64 a1_2]] rfl (by (try simp only [List.map_toArray,List.map_cons,List.map_nil]);first|done|rfl|(simp only [List.length_drop,List.length_take];rfl)) ?_;(with_reducible refine (laws_eqStamp.calls a0_0 a0_1 a0_2 a1_0 a1_1 a1_2 true _ A3.out).mono ?_);rintro e w11 ⟨rfl,hb⟩;refine ⟨_,rfl,?_⟩;have n0_:=Aside0.mk (blk_below (g:=gb232) (o:=.cells #[.int .i64 a0_0,.int .i64 a0_1,.int .i64 a0_2,.bool a0_3,.slice A0_4 l0_4.length c0_4] 61 (0,0)) (bk BK232) hb);have n1_:=Aside0.mk (blk_below (g:=gb233) (o:=.cells #[.int .i64 a1_0,.int .i64 a1_1,.int .i64 a1_2,.bool a1_3,.slice A1_4 l1_4.length c1_4] 61 (0,0)) (bk BK233) hb);have n2_:=bs hb;clear BK232;clear BK233;clear HB;have BK232:=n0_;have BK233:=n1_;have HB:=n2_;clear n0_ n1_ n2_;(try clear hb);(try clear hb2);(try clear hk);(try clear hi);have hcz12_0:w11.cell? ⟨gb232,0,none⟩=some (.int .i64 a0_0):=(blk_cell BK232.out 0).trans rfl;have hcz12_1:w11.cell? ⟨gb232,1,none⟩=some (.int .i64 a0_1):=(blk_cell BK232.out 1).trans rfl;have hcz12_2:w11.cell? ⟨gb232,2,none⟩=some (.int .i64 a0_2):=(blk_cell BK232.out 2).trans rfl;have hcz12_3:w11.cell? ⟨gb232,3,none⟩=some (.bool a0_3):=(blk_cell BK232.out 3).trans rfl;have hcz12_4:w11.cell? ⟨gb232,4,none⟩=some (.slice A0_4 l0_4.length c0_4):=(blk_cell BK232.out 4).trans rfl;have hfz12_0:=blk_frozen BK232.out 0;have hfz12_1:=blk_frozen BK232.out 1;have hfz12_2:=blk_frozen BK232.out 2;have hfz12_3:=blk_frozen BK232.out 3;have hfz12_4:=blk_frozen BK232.out 4;have hcz13_0:w11.cell? ⟨gb233,0,none⟩=some (.int .i64 a1_0):=(blk_cell BK233.out 0).trans rfl;have hcz13_1:w11.cell? ⟨gb233,1,none⟩=some (.int .i64 a1_1):=(blk_cell BK233.out 1).trans rfl;have hcz13_2:w11.cell? ⟨gb233,2,none⟩=some (.int .i64 a1_2):=(blk_cell BK233.out 2).trans rfl;have hcz13_3:w11.cell? ⟨gb233,3,none⟩=some (.bool a1_3):=(blk_cell BK233.out 3).trans rfl;have hcz13_4:w11.cell? ⟨gb233,4,none⟩=some (.slice A1_4 l1_4.length c1_4):=(blk_cell BK233.out 4).trans rfl;have hfz13_0:=blk_frozen BK233.out 0;have hfz13_1:=blk_frozen BK233.out 1;have hfz13_2:=blk_frozen BK233.out 2;have hfz13_3:=blk_frozen BK233.out 3;have hfz13_4:=blk_frozen BK233.out 4))
   go_ret
   exact ⟨rz,be⟩
  ·rw [if_neg c5] at H
   have c5b0:(a0_3 != a1_3)=false:=by simpa using c5
   (try (have c5b1:decide (a0_3=a1_3)=true:=by simpa using c5))
   (try (have c5b2:(a0_3 == a1_3)=true:=by simpa using c5))
   clear c5
   replace H:=Option.bind_eq_some_iff.mp H
   obtain ⟨t235,A140,H⟩:=H
   try dsimp only at H
   have A14:=Aside0.mk A140
   clear A140
   by_cases c15:t235=true
   ·subst c15
    rw [if_pos rfl] at H
    obtain rfl:=Option.some.inj H
    go_enter Try.func39,Try.ntmps39
    go_wp2_with (first|((with_reducible refine gate_dst (N:=2) rfl ?_);refine box_event ?hg (N:=2) ?hd (cs:=#[.int .i64 a0_0,.int .i64 a0_1,.int .i64 a0_2,.bool a0_3,.slice A0_4 l0_4.length c0_4]) (t:=61) ?hr ?_;(case hd=>rfl);(case hg=>rfl);(case hr=>first|(go_simp;done)|(go_simp;rfl));intro gb232 hg w16 hbox hb;have n0_:=bs hb;have n1_:=Aside0.mk (hbox);have n2_:=Aside0.mk ((by rw [hg];exact (below_size be):w.heap.size≤gb232));have n3_:=Aside0.mk ((by rw [hg];exact (below_size be):w.heap.size≤gb232));clear HB;have HB:=n0_;have BK232:=n1_;have GW232:=n2_;have GE232:=n3_;clear n0_ n1_ n2_ n3_;clear hb hbox hg)|((with_reducible refine gate_dst (N:=3) rfl ?_);refine box_event ?hg (N:=3) ?hd (cs:=#[.int .i64 a1_0,.int .i64 a1_1,.int .i64 a1_2,.bool a1_3,.slice A1_4 l1_4.length c1_4]) (t:=61) ?hr ?_;(case hd=>rfl);(case hg=>rfl);(case hr=>first|(go_simp;done)|(go_simp;rfl));intro gb233 hg w17 hbox hb;have n0_:=Aside0.mk (blk_below (g:=gb232) (o:=.cells #[.int .i64 a0_0,.int .i64 a0_1,.int .i64 a0_2,.bool a0_3,.slice A0_4 l0_4.length c0_4] 61 (0,0)) (bk BK232) hb);have n1_:=bs hb;have n2_:=Aside0.mk (hbox);have n3_:=Aside0.mk ((by rw [hg];exact (below_size be):w.heap.size≤gb233));have n4_:=Aside0.mk ((by rw [hg];exact (below_size be):w.heap.size≤gb233));have n5_:=Aside0.mk ((by rw [hg];exact Nat.ne_of_lt (blk_lt (g:=gb232) (o:=.cells #[.int .i64 a0_0,.int .i64 a0_1,.int .i64 a0_2,.bool a0_3,.slice A0_4 l0_4.length c0_4] 61 (0,0)) (bk BK232)):gb232 ≠ gb233));have n6_:=Aside0.mk ((by rw [hg];exact Nat.ne_of_gt (blk_lt (g:=gb232) (o:=.cells #[.int .i64 a0_0,.int .i64 a0_1,.int .i64 a0_2,.bool a0_3,.slice A0_4 l0_4.length c0_4] 61 (0,0)) (bk BK232)):gb233 ≠ gb232));clear BK232;clear HB;have BK232:=n0_;have HB:=n1_;have BK233:=n2_;have GW233:=n3_;have GE233:=n4_;have NB232_233:=n5_;have NB233_232:=n6_;clear n0_ n1_ n2_ n3_ n4_ n5_ n6_;clear hb hbox hg;have hnb18:=NB232_233.out;have hnc18:=NB233_232.out;have hcz19_0:w17.cell? ⟨gb232,0,none⟩=some (.int .i64 a0_0):=(blk_cell BK232.out 0).trans rfl;have hcz19_1:w17.cell? ⟨gb232,1,none⟩=some (.int .i64 a0_1):=(blk_cell BK232.out 1).trans rfl;have hcz19_2:w17.cell? ⟨gb232,2,none⟩=some (.int .i64 a0_2):=(blk_cell BK232.out 2).trans rfl;have hcz19_3:w17.cell? ⟨gb232,3,none⟩=some (.bool a0_3):=(blk_cell BK232.out 3).trans rfl;have hcz19_4:w17.cell? ⟨gb232,4,none⟩=some (.slice A0_4 l0_4.length c0_4):=(blk_cell BK232.out 4).trans rfl;have hfz19_0:=blk_frozen BK232.out 0;have hfz19_1:=blk_frozen BK232.out 1;have hfz19_2:=blk_frozen BK232.out 2;have hfz19_3:=blk_frozen BK232.out 3;have hfz19_4:=blk_frozen BK232.out 4;have hcz20_0:w17.cell? ⟨gb233,0,none⟩=some (.int .i64 a1_0):=(blk_cell BK233.out 0).trans rfl;have hcz20_1:w17.cell? ⟨gb233,1,none⟩=some (.int .i64 a1_1):=(blk_cell BK233.out 1).trans rfl;have hcz20_2:w17.cell? ⟨gb233,2,none⟩=some (.int .i64 a1_2):=(blk_cell BK233.out 2).trans rfl;have hcz20_3:w17.cell? ⟨gb233,3,none⟩=some (.bool a1_3):=(blk_cell BK233.out 3).trans rfl;have hcz20_4:w17.cell? ⟨gb233,4,none⟩=some (.slice A1_4 l1_4.length c1_4):=(blk_cell BK233.out 4).trans rfl;have hfz20_0:=blk_frozen BK233.out 0;have hfz20_1:=blk_frozen BK233.out 1;have hfz20_2:=blk_frozen BK233.out 2;have hfz20_3:=blk_frozen BK233.out 3;have hfz20_4:=blk_frozen BK233.out 4)|((with_reducible refine gate_callee (f:=96) rfl ?_);refine goesL_ (some 9) rfl rfl Try.func96 (by kernel_rfl) rfl #[.agg #[.int .i64 a0_0,.int .i64 a0_1,.int .i64 a0_2],.agg #[.int .i64 a1_0,.int .i64 a1_1,.int .i64 a1_2]] rfl (by (try simp only [List.map_toArray,List.map_cons,List.map_nil]);first|done|rfl|(simp only [List.length_drop,List.length_take];rfl)) ?_;(with_reducible refine (laws_eqStamp.calls a0_0 a0_1 a0_2 a1_0 a1_1 a1_2 true _ A3.out).mono ?_);rintro e w21 ⟨rfl,hb⟩;refine ⟨_,rfl,?_⟩;have n0_:=Aside0.mk (blk_below (g:=gb232) (o:=.cells #[.int .i64 a0_0,.int .i64 a0_1,.int .i64 a0_2,.bool a0_3,.slice A0_4 l0_4.length c0_4] 61 (0,0)) (bk BK232) hb);have n1_:=Aside0.mk (blk_below (g:=gb233) (o:=.cells #[.int .i64 a1_0,.int .i64 a1_1,.int .i64 a1_2,.bool a1_3,.slice A1_4 l1_4.length c1_4] 61 (0,0)) (bk BK233) hb);have n2_:=bs hb;clear BK232;clear BK233;clear HB;have BK232:=n0_;have BK233:=n1_;have HB:=n2_;clear n0_ n1_ n2_;(try clear hb);(try clear hb2);(try clear hk);(try clear hi);have hcz22_0:w21.cell? ⟨gb232,0,none⟩=some (.int .i64 a0_0):=(blk_cell BK232.out 0).trans rfl;have hcz22_1:w21.cell? ⟨gb232,1,none⟩=some (.int .i64 a0_1):=(blk_cell BK232.out 1).trans rfl;have hcz22_2:w21.cell? ⟨gb232,2,none⟩=some (.int .i64 a0_2):=(blk_cell BK232.out 2).trans rfl;have hcz22_3:w21.cell? ⟨gb232,3,none⟩=some (.bool a0_3):=(blk_cell BK232.out 3).trans rfl;have hcz22_4:w21.cell? ⟨gb232,4,none⟩=some (.slice A0_4 l0_4.length c0_4):=(blk_cell BK232.out 4).trans rfl;have hfz22_0:=blk_frozen BK232.out 0;have hfz22_1:=blk_frozen BK232.out 1;have hfz22_2:=blk_frozen BK232.out 2;have hfz22_3:=blk_frozen BK232.out 3;have hfz22_4:=blk_frozen BK232.out 4;have hcz23_0:w21.cell? ⟨gb233,0,none⟩=some (.int .i64 a1_0):=(blk_cell BK233.out 0).trans rfl;have hcz23_1:w21.cell? ⟨gb233,1,none⟩=some (.int .i64 a1_1):=(blk_cell BK233.out 1).trans rfl;have hcz23_2:w21.cell? ⟨gb233,2,none⟩=some (.int .i64 a1_2):=(blk_cell BK233.out 2).trans rfl;have hcz23_3:w21.cell? ⟨gb233,3,none⟩=some (.bool a1_3):=(blk_cell BK233.out 3).trans rfl;have hcz23_4:w21.cell? ⟨gb233,4,none⟩=some (.slice A1_4 l1_4.length c1_4):=(blk_cell BK233.out 4).trans rfl;have hfz23_0:=blk_frozen BK233.out 0;have hfz23_1:=blk_frozen BK233.out 1;have hfz23_2:=blk_frozen BK233.out 2;have hfz23_3:=blk_frozen BK233.out 3;have hfz23_4:=blk_frozen BK233.out 4)|((with_reducible refine gate_callee (f:=38) rfl ?_);refine goesL_ (some 20) rfl rfl Try.func38 (by kernel_rfl) rfl #[.slice A0_4 l0_4.length c0_4,.slice A1_4 l1_4.length c1_4] rfl (by (try simp only [List.map_toArray,List.map_cons,List.map_nil]);first|done|rfl|(simp only [List.length_drop,List.length_take];rfl)) ?_;(with_reducible refine (laws_eqByteS.calls k _ _ l0_4 _ _ l1_4 true _ ?side1 ?side2 ?side3 ?side4 A14.out).mono ?_);(case side1=>exact rC HR0_4);(case side2=>exact HC0_4.out);(case side3=>exact rC HR1_4);(case side4=>exact HC1_4.out);rintro e w' ⟨rfl,⟨nd,rfl⟩⟩;refine ⟨_,rfl,?_⟩))
    go_ret
    exact ⟨rz,be⟩
   ·replace c15:=Bool.eq_false_iff.mpr c15
    subst c15
    have H1:(some false)=some r:=by rw [if_neg (show ¬ (false=true) by decide)] at H;exact H
    clear H
    have H:=H1
    clear H1
    obtain rfl:=Option.some.inj H
    go_enter Try.func39,Try.ntmps39
    go_wp2_with (first|((with_reducible refine gate_dst (N:=2) rfl ?_);refine box_event ?hg (N:=2) ?hd (cs:=#[.int .i64 a0_0,.int .i64 a0_1,.int .i64 a0_2,.bool a0_3,.slice A0_4 l0_4.length c0_4]) (t:=61) ?hr ?_;(case hd=>rfl);(case hg=>rfl);(case hr=>first|(go_simp;done)|(go_simp;rfl));intro gb232 hg w24 hbox hb;have n0_:=bs hb;have n1_:=Aside0.mk (hbox);have n2_:=Aside0.mk ((by rw [hg];exact (below_size be):w.heap.size≤gb232));have n3_:=Aside0.mk ((by rw [hg];exact (below_size be):w.heap.size≤gb232));clear HB;have HB:=n0_;have BK232:=n1_;have GW232:=n2_;have GE232:=n3_;clear n0_ n1_ n2_ n3_;clear hb hbox hg)|((with_reducible refine gate_dst (N:=3) rfl ?_);refine box_event ?hg (N:=3) ?hd (cs:=#[.int .i64 a1_0,.int .i64 a1_1,.int .i64 a1_2,.bool a1_3,.slice A1_4 l1_4.length c1_4]) (t:=61) ?hr ?_;(case hd=>rfl);(case hg=>rfl);(case hr=>first|(go_simp;done)|(go_simp;rfl));intro gb233 hg w25 hbox hb;have n0_:=Aside0.mk (blk_below (g:=gb232) (o:=.cells #[.int .i64 a0_0,.int .i64 a0_1,.int .i64 a0_2,.bool a0_3,.slice A0_4 l0_4.length c0_4] 61 (0,0)) (bk BK232) hb);have n1_:=bs hb;have n2_:=Aside0.mk (hbox);have n3_:=Aside0.mk ((by rw [hg];exact (below_size be):w.heap.size≤gb233));have n4_:=Aside0.mk ((by rw [hg];exact (below_size be):w.heap.size≤gb233));have n5_:=Aside0.mk ((by rw [hg];exact Nat.ne_of_lt (blk_lt (g:=gb232) (o:=.cells #[.int .i64 a0_0,.int .i64 a0_1,.int .i64 a0_2,.bool a0_3,.slice A0_4 l0_4.length c0_4] 61 (0,0)) (bk BK232)):gb232 ≠ gb233));have n6_:=Aside0.mk ((by rw [hg];exact Nat.ne_of_gt (blk_lt (g:=gb232) (o:=.cells #[.int .i64 a0_0,.int .i64 a0_1,.int .i64 a0_2,.bool a0_3,.slice A0_4 l0_4.length c0_4] 61 (0,0)) (bk BK232)):gb233 ≠ gb232));clear BK232;clear HB;have BK232:=n0_;have HB:=n1_;have BK233:=n2_;have GW233:=n3_;have GE233:=n4_;have NB232_233:=n5_;have NB233_232:=n6_;clear n0_ n1_ n2_ n3_ n4_ n5_ n6_;clear hb hbox hg;have hnb26:=NB232_233.out;have hnc26:=NB233_232.out;have hcz27_0:w25.cell? ⟨gb232,0,none⟩=some (.int .i64 a0_0):=(blk_cell BK232.out 0).trans rfl;have hcz27_1:w25.cell? ⟨gb232,1,none⟩=some (.int .i64 a0_1):=(blk_cell BK232.out 1).trans rfl;have hcz27_2:w25.cell? ⟨gb232,2,none⟩=some (.int .i64 a0_2):=(blk_cell BK232.out 2).trans rfl;have hcz27_3:w25.cell? ⟨gb232,3,none⟩=some (.bool a0_3):=(blk_cell BK232.out 3).trans rfl;have hcz27_4:w25.cell? ⟨gb232,4,none⟩=some (.slice A0_4 l0_4.length c0_4):=(blk_cell BK232.out 4).trans rfl;have hfz27_0:=blk_frozen BK232.out 0;have hfz27_1:=blk_frozen BK232.out 1;have hfz27_2:=blk_frozen BK232.out 2;have hfz27_3:=blk_frozen BK232.out 3;have hfz27_4:=blk_frozen BK232.out 4;have hcz28_0:w25.cell? ⟨gb233,0,none⟩=some (.int .i64 a1_0):=(blk_cell BK233.out 0).trans rfl;have hcz28_1:w25.cell? ⟨gb233,1,none⟩=some (.int .i64 a1_1):=(blk_cell BK233.out 1).trans rfl;have hcz28_2:w25.cell? ⟨gb233,2,none⟩=some (.int .i64 a1_2):=(blk_cell BK233.out 2).trans rfl;have hcz28_3:w25.cell? ⟨gb233,3,none⟩=some (.bool a1_3):=(blk_cell BK233.out 3).trans rfl;have hcz28_4:w25.cell? ⟨gb233,4,none⟩=some (.slice A1_4 l1_4.length c1_4):=(blk_cell BK233.out 4).trans rfl;have hfz28_0:=blk_frozen BK233.out 0;have hfz28_1:=blk_frozen BK233.out 1;have hfz28_2:=blk_frozen BK233.out 2;have hfz28_3:=blk_frozen BK233.out 3;have hfz28_4:=blk_frozen BK233.out 4)|((with_reducible refine gate_callee (f:=96) rfl ?_);refine goesL_ (some 9) rfl rfl Try.func96 (by kernel_rfl) rfl #[.agg #[.int .i64 a0_0,.int .i64 a0_1,.int .i64 a0_2],.agg #[.int .i64 a1_0,.int .i64 a1_1,.int .i64 a1_2]] rfl (by (try simp only [List.map_toArray,List.map_cons,List.map_nil]);first|done|rfl|(simp only [List.length_drop,List.length_take];rfl)) ?_;(with_reducible refine (laws_eqStamp.calls a0_0 a0_1 a0_2 a1_0 a1_1 a1_2 true _ A3.out).mono ?_);rintro e w29 ⟨rfl,hb⟩;refine ⟨_,rfl,?_⟩;have n0_:=Aside0.mk (blk_below (g:=gb232) (o:=.cells #[.int .i64 a0_0,.int .i64 a0_1,.int .i64 a0_2,.bool a0_3,.slice A0_4 l0_4.length c0_4] 61 (0,0)) (bk BK232) hb);have n1_:=Aside0.mk (blk_below (g:=gb233) (o:=.cells #[.int .i64 a1_0,.int .i64 a1_1,.int .i64 a1_2,.bool a1_3,.slice A1_4 l1_4.length c1_4] 61 (0,0)) (bk BK233) hb);have n2_:=bs hb;clear BK232;clear BK233;clear HB;have BK232:=n0_;have BK233:=n1_;have HB:=n2_;clear n0_ n1_ n2_;(try clear hb);(try clear hb2);(try clear hk);(try clear hi);have hcz30_0:w29.cell? ⟨gb232,0,none⟩=some (.int .i64 a0_0):=(blk_cell BK232.out 0).trans rfl;have hcz30_1:w29.cell? ⟨gb232,1,none⟩=some (.int .i64 a0_1):=(blk_cell BK232.out 1).trans rfl;have hcz30_2:w29.cell? ⟨gb232,2,none⟩=some (.int .i64 a0_2):=(blk_cell BK232.out 2).trans rfl;have hcz30_3:w29.cell? ⟨gb232,3,none⟩=some (.bool a0_3):=(blk_cell BK232.out 3).trans rfl;have hcz30_4:w29.cell? ⟨gb232,4,none⟩=some (.slice A0_4 l0_4.length c0_4):=(blk_cell BK232.out 4).trans rfl;have hfz30_0:=blk_frozen BK232.out 0;have hfz30_1:=blk_frozen BK232.out 1;have hfz30_2:=blk_frozen BK232.out 2;have hfz30_3:=blk_frozen BK232.out 3;have hfz30_4:=blk_frozen BK232.out 4;have hcz31_0:w29.cell? ⟨gb233,0,none⟩=some (.int .i64 a1_0):=(blk_cell BK233.out 0).trans rfl;have hcz31_1:w29.cell? ⟨gb233,1,none⟩=some (.int .i64 a1_1):=(blk_cell BK233.out 1).trans rfl;have hcz31_2:w29.cell? ⟨gb233,2,none⟩=some (.int .i64 a1_2):=(blk_cell BK233.out 2).trans rfl;have hcz31_3:w29.cell? ⟨gb233,3,none⟩=some (.bool a1_3):=(blk_cell BK233.out 3).trans rfl;have hcz31_4:w29.cell? ⟨gb233,4,none⟩=some (.slice A1_4 l1_4.length c1_4):=(blk_cell BK233.out 4).trans rfl;have hfz31_0:=blk_frozen BK233.out 0;have hfz31_1:=blk_frozen BK233.out 1;have hfz31_2:=blk_frozen BK233.out 2;have hfz31_3:=blk_frozen BK233.out 3;have hfz31_4:=blk_frozen BK233.out 4)|((with_reducible refine gate_callee (f:=38) rfl ?_);refine goesL_ (some 20) rfl rfl Try.func38 (by kernel_rfl) rfl #[.slice A0_4 l0_4.length c0_4,.slice A1_4 l1_4.length c1_4] rfl (by (try simp only [List.map_toArray,List.map_cons,List.map_nil]);first|done|rfl|(simp only [List.length_drop,List.length_take];rfl)) ?_;(with_reducible refine (laws_eqByteS.calls k _ _ l0_4 _ _ l1_4 false _ ?side1 ?side2 ?side3 ?side4 A14.out).mono ?_);(case side1=>exact rC HR0_4);(case side2=>exact HC0_4.out);(case side3=>exact rC HR1_4);(case side4=>exact HC1_4.out);rintro e w' ⟨rfl,⟨nd,rfl⟩⟩;refine ⟨_,rfl,?_⟩))
    go_ret
    exact ⟨rz,be⟩
 ·replace c4:=Bool.eq_false_iff.mpr c4
  subst c4
  have H1:(some false)=some r:=by rw [if_neg (show ¬ (false=true) by decide)] at H;exact H
  clear H
  have H:=H1
  clear H1
  obtain rfl:=Option.some.inj H
  go_enter Try.func39,Try.ntmps39
  go_wp2_with (first|((with_reducible refine gate_dst (N:=2) rfl ?_);refine box_event ?hg (N:=2) ?hd (cs:=#[.int .i64 a0_0,.int .i64 a0_1,.int .i64 a0_2,.bool a0_3,.slice A0_4 l0_4.length c0_4]) (t:=61) ?hr ?_;(case hd=>rfl);(case hg=>rfl);(case hr=>first|(go_simp;done)|(go_simp;rfl));intro gb232 hg w32 hbox hb;have n0_:=bs hb;have n1_:=Aside0.mk (hbox);have n2_:=Aside0.mk ((by rw [hg];exact (below_size be):w.heap.size≤gb232));have n3_:=Aside0.mk ((by rw [hg];exact (below_size be):w.heap.size≤gb232));clear HB;have HB:=n0_;have BK232:=n1_;have GW232:=n2_;have GE232:=n3_;clear n0_ n1_ n2_ n3_;clear hb hbox hg)|((with_reducible refine gate_dst (N:=3) rfl ?_);refine box_event ?hg (N:=3) ?hd (cs:=#[.int .i64 a1_0,.int .i64 a1_1,.int .i64 a1_2,.bool a1_3,.slice A1_4 l1_4.length c1_4]) (t:=61) ?hr ?_;(case hd=>rfl);(case hg=>rfl);(case hr=>first|(go_simp;done)|(go_simp;rfl));intro gb233 hg w33 hbox hb;have n0_:=Aside0.mk (blk_below (g:=gb232) (o:=.cells #[.int .i64 a0_0,.int .i64 a0_1,.int .i64 a0_2,.bool a0_3,.slice A0_4 l0_4.length c0_4] 61 (0,0)) (bk BK232) hb);have n1_:=bs hb;have n2_:=Aside0.mk (hbox);have n3_:=Aside0.mk ((by rw [hg];exact (below_size be):w.heap.size≤gb233));have n4_:=Aside0.mk ((by rw [hg];exact (below_size be):w.heap.size≤gb233));have n5_:=Aside0.mk ((by rw [hg];exact Nat.ne_of_lt (blk_lt (g:=gb232) (o:=.cells #[.int .i64 a0_0,.int .i64 a0_1,.int .i64 a0_2,.bool a0_3,.slice A0_4 l0_4.length c0_4] 61 (0,0)) (bk BK232)):gb232 ≠ gb233));have n6_:=Aside0.mk ((by rw [hg];exact Nat.ne_of_gt (blk_lt (g:=gb232) (o:=.cells #[.int .i64 a0_0,.int .i64 a0_1,.int .i64 a0_2,.bool a0_3,.slice A0_4 l0_4.length c0_4] 61 (0,0)) (bk BK232)):gb233 ≠ gb232));clear BK232;clear HB;have BK232:=n0_;have HB:=n1_;have BK233:=n2_;have GW233:=n3_;have GE233:=n4_;have NB232_233:=n5_;have NB233_232:=n6_;clear n0_ n1_ n2_ n3_ n4_ n5_ n6_;clear hb hbox hg;have hnb34:=NB232_233.out;have hnc34:=NB233_232.out;have hcz35_0:w33.cell? ⟨gb232,0,none⟩=some (.int .i64 a0_0):=(blk_cell BK232.out 0).trans rfl;have hcz35_1:w33.cell? ⟨gb232,1,none⟩=some (.int .i64 a0_1):=(blk_cell BK232.out 1).trans rfl;have hcz35_2:w33.cell? ⟨gb232,2,none⟩=some (.int .i64 a0_2):=(blk_cell BK232.out 2).trans rfl;have hcz35_3:w33.cell? ⟨gb232,3,none⟩=some (.bool a0_3):=(blk_cell BK232.out 3).trans rfl;have hcz35_4:w33.cell? ⟨gb232,4,none⟩=some (.slice A0_4 l0_4.length c0_4):=(blk_cell BK232.out 4).trans rfl;have hfz35_0:=blk_frozen BK232.out 0;have hfz35_1:=blk_frozen BK232.out 1;have hfz35_2:=blk_frozen BK232.out 2;have hfz35_3:=blk_frozen BK232.out 3;have hfz35_4:=blk_frozen BK232.out 4;have hcz36_0:w33.cell? ⟨gb233,0,none⟩=some (.int .i64 a1_0):=(blk_cell BK233.out 0).trans rfl;have hcz36_1:w33.cell? ⟨gb233,1,none⟩=some (.int .i64 a1_1):=(blk_cell BK233.out 1).trans rfl;have hcz36_2:w33.cell? ⟨gb233,2,none⟩=some (.int .i64 a1_2):=(blk_cell BK233.out 2).trans rfl;have hcz36_3:w33.cell? ⟨gb233,3,none⟩=some (.bool a1_3):=(blk_cell BK233.out 3).trans rfl;have hcz36_4:w33.cell? ⟨gb233,4,none⟩=some (.slice A1_4 l1_4.length c1_4):=(blk_cell BK233.out 4).trans rfl;have hfz36_0:=blk_frozen BK233.out 0;have hfz36_1:=blk_frozen BK233.out 1;have hfz36_2:=blk_frozen BK233.out 2;have hfz36_3:=blk_frozen BK233.out 3;have hfz36_4:=blk_frozen BK233.out 4)|((with_reducible refine gate_callee (f:=96) rfl ?_);refine goesL_ (some 9) rfl rfl Try.func96 (by kernel_rfl) rfl #[.agg #[.int .i64 a0_0,.int .i64 a0_1,.int .i64 a0_2],.agg #[.int .i64 a1_0,.int .i64 a1_1,.int .i64 a1_2]] rfl (by (try simp only [List.map_toArray,List.map_cons,List.map_nil]);first|done|rfl|(simp only [List.length_drop,List.length_take];rfl)) ?_;(with_reducible refine (laws_eqStamp.calls a0_0 a0_1 a0_2 a1_0 a1_1 a1_2 false _ A3.out).mono ?_);rintro e w37 ⟨rfl,hb⟩;refine ⟨_,rfl,?_⟩;have n0_:=Aside0.mk (blk_below (g:=gb232) (o:=.cells #[.int .i64 a0_0,.int .i64 a0_1,.int .i64 a0_2,.bool a0_3,.slice A0_4 l0_4.length c0_4] 61 (0,0)) (bk BK232) hb);have n1_:=Aside0.mk (blk_below (g:=gb233) (o:=.cells #[.int .i64 a1_0,.int .i64 a1_1,.int .i64 a1_2,.bool a1_3,.slice A1_4 l1_4.length c1_4] 61 (0,0)) (bk BK233) hb);have n2_:=bs hb;clear BK232;clear BK233;clear HB;have BK232:=n0_;have BK233:=n1_;have HB:=n2_;clear n0_ n1_ n2_;(try clear hb);(try clear hb2);(try clear hk);(try clear hi)))
  go_ret
  exact ⟨rz,be⟩
end Go.Proofs.Ytbhllgifciaepaa.PFnExactPutFile
