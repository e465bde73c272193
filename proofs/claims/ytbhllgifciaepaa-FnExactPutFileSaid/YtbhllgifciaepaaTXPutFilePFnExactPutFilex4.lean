/- Trimmed by a program of this session (trim.py). Not trusted: Lean checks it. -/
import Derived.Test.YtbhllgifciaepaaTXPutFilePFnExactPutFilex0
import Derived.Test.YtbhllgifciaepaaTXPutFilePFnExactPutFilex1
import Derived.Test.YtbhllgifciaepaaTXPutFilePFnExactPutFilex2
import Derived.Test.YtbhllgifciaepaaTXPutFilePFnExactPutFilex3
namespace Go.Proofs.Ytbhllgifciaepaa.PFnExactPutFile
open Go.RowKit Go.Proofs.YtbhllgifciaepaaW.PrintWords Go.Proofs.YtbhllgifciaepaaW.PrintLast Go.Proofs.YtbhllgifciaepaaW.PrintMore Go.Proofs.Ytbhllgifciaepaa.St
attribute [local go_sem] max2_int min2_int max_two min_two max_three min_three max_four min_four
set_option linter.unusedVariables false
set_option linter.unusedSimpArgs false
def laws_markByteS.l0:Nat→List Int→Int→Int→Option (Int × List Int)
 | 0,_,_,_=>none
 | k+1,x0,x1,x5=>if x5 < (x0.length:Int) then (if 0≤x5 then (laws_markByteS.l0 k (x0.set (x5:Int).toNat ((x1) % 256)) (wrap64 (x1+1)) (wrap64 (x5+1))) else (none)) else (some (x1,x0))
def laws_markByteS.f (k:Nat) (l0:List Int) (a1:Int):Option (Int × List Int):=laws_markByteS.l0 k l0 a1 0
set_option maxHeartbeats 8000000 in
set_option maxRecDepth 100000 in
theorem laws_markByteS.calls (k:Nat) (P0_:Nat→Prop) (u9000_:Value) (l0:List Int) (a1:Int) (r1:Int) (r2:List Int) (w0 w:World) (hB:Below w0.heap.size w0 w) (ho0:Kd.R (Kd.int .u8) 5 w w0.heap.size P0_ u9000_ l0) (h:laws_markByteS.f k l0 a1=some (r1,r2)) :
  Calls Try.prog 41 #[u9000_,.int .i64 a1] w fun e w'=>e = .returned (.int .i64 r1)∧Kd.R (Kd.int .u8) 5 w' w0.heap.size (fun k_=>(P0_ k_ ∨ w.heap.size≤k_)) u9000_ r2∧Below w0.heap.size w0 w' ∧ Kept w w' (fun k_=>P0_ k_):=by
 have HO0:=Aside0.mk (show Kd.R (Kd.int .u8) 5 w w0.heap.size (fun k_=>(P0_ k_ ∨ w.heap.size≤k_)) u9000_ l0 from Kd.R_mono ho0 (fun k_ hk=>(.inl hk)))
 have HK:=Aside0.mk (Kept.refl w (fun k_=>P0_ k_))
 have HW0:=Aside0.mk hB.size
 have HB:=Aside0.mk hB
 clear hB
 have H:(laws_markByteS.l0 k l0 a1 0)=some (r1,r2):=h
 clear h
 have H':=Aside0.mk H
 clear H
 go_enter Try.func41,Try.ntmps41
 go_wp2
 go_loopg [1,5] k (fun kq v1 v5 w'=>∃ (x0_1:List Int) (x1_1:Int) (x5_1:Int),v1 = .int .i64 x1_1∧v5 = .int .i64 x5_1∧Aside0 (laws_markByteS.l0 kq x0_1 x1_1 x5_1=some (r1,r2))∧Aside0 (kq≤k)∧Aside0 (Kd.R (Kd.int .u8) 5 w' w0.heap.size (fun k_=>(P0_ k_ ∨ w.heap.size≤k_)) u9000_ x0_1)∧Aside0 (Kept w w' (fun k_=>P0_ k_))∧Aside0 (Below w0.heap.size w0 w'))
 case atStart=>exact ⟨(l0),(a1),(0),rd_,rd_,H',⟨Nat.le_refl _⟩,⟨rR HO0⟩,⟨by repeat (first|(with_reducible first|exact HK.out|apply Kept.alloc|apply Kept.drewN|apply Kept.drew)|exact HK.out)⟩,⟨be⟩⟩
 case round=>
  clear H'
  try clear p2
  obtain ⟨x0_1,x1_1,x5_1,rfl,rfl,HA,HK1,HO_0,HK,HB⟩:=hrel
  cases gk with
  | zero=>exact absurd HA.out (by simp [laws_markByteS.l0])
  | succ k1=>
   have H:=HA.out
   clear HA
   simp only [laws_markByteS.l0] at H
   by_cases c3:x5_1 < (x0_1.length:Int)
   ·rw [if_pos c3] at H
    have c3b0:decide (x5_1 < (x0_1.length:Int))=true:=decide_eq_true c3
    clear c3
    by_cases c4:0≤x5_1
    ·rw [if_pos c4] at H
     have c4b0:decide (0≤x5_1)=true:=decide_eq_true c4
     clear c4
     obtain ⟨y236,hy236⟩ : ∃ y_:List Int,y_=(x0_1.set (x5_1:Int).toNat ((x1_1) % 256)):=⟨_,rfl⟩
     replace H:(laws_markByteS.l0 k1 y236 (wrap64 (x1_1+1)) (wrap64 (x5_1+1)))=some (r1,r2):=by first|(rw [hy236];with_reducible exact H)|(have H2_:=(Option.bind_some _ _).symm.trans H;rw [hy236];with_reducible exact H2_)|(have H2_:=(Option.bind_some _ _).symm.trans H;with_reducible exact H2_)|with_reducible exact H|(rw [hy236];exact H)|exact H
     have Ny236:=Aside0.mk hy236
     clear hy236
     have H':=Aside0.mk H
     clear H
     obtain ⟨Ao6,co6,eo6⟩:=Kd.R_slice HO_0.out
     subst eo6
     have p5:0≤(x5_1:Int):=of_decide_eq_true (by first|(with_reducible assumption)|assumption)
     have q5:(x5_1:Int) < ((x0_1.length:Int):Int):=of_decide_eq_true (by first|(with_reducible assumption)|assumption)
     obtain ⟨go5,co5,eo5,gb5,gl5,cl5,HG5⟩:=Kd.R_form HO_0.out (by omega)
     (first|cases eo5|(injection eo5 with ea_ en_ ec_;(first|subst ea_|(injection ea_ with ea_;subst ea_));subst ec_;clear en_))
     have GB5:=Aside0.mk gb5
     have GG5:=Aside0.mk HG5
     clear gb5 gl5 HG5
     have HMgo5:=Aside0.mk (show (P0_ go5 ∨ w.heap.size≤go5) from (HO_0.out.1 _ rfl))
     obtain ⟨hx5_0,hf5_0⟩:=Kd.R_celln 0 HO_0.out (x5_1:Int) p5 q5
     replace p5:=eq_true p5
     replace q5:=eq_true q5
     have HP7:=Kd.R_putg HO_0.out (x5_1:Int) ((x1_1) % 256)
     go_wp2_with (first|((with_reducible refine gate_store (t:=5) (p:=16) rfl ?_);refine store_event (t:=5) (p:=16) (v:=?vo_w8) (w1:=(wr.setCell ⟨go5,(x5_1:Int).toNat,none⟩ (.int .u8 ((x1_1) % 256)))) ?hg ?ho ?hn ?hr ?_;(case ho=>rfl);(case hg=>rfl);(case hn=>rfl);(case hr=>first|(go_simp;done)|(go_simp;rfl));intro w8 hw;have hg:wr.grownBy w8 (some go5):=(by rw [hw];exact HP7.2);have hp_:Kd.R (Kd.int .u8) 5 w8 w0.heap.size (fun k_=>(P0_ k_ ∨ w.heap.size≤k_)) (.slice (some ⟨go5,0,none⟩) x0_1.length co6) y236:=(by rw [hw,Ny236.out];exact HP7.1);clear HP7;have n0_:=Aside0.mk (hp_);have n1_:=Aside0.mk ((by rw [hw];exact below_set (HB.out) GB5.out:Below w0.heap.size w0 w8));have n2_:=Aside0.mk (Kept.of_grown (S:=(fun k_=>P0_ k_)) hg (by repeat (first|(with_reducible first|exact HK.out|apply Kept.alloc|apply Kept.drewN|apply Kept.drew)|exact HK.out)) (fun k_ e_=>(HO_0.out.1 k_ e_)));clear HO_0;clear HB;clear HK;have HO_0:=n0_;have HB:=n1_;have HK:=n2_;clear n0_ n1_ n2_;clear hg hw hp_))
     go_roundg k1
     case measure=>have:=HK1.out;omega
     case rel=>exact ⟨(y236),(wrap64 (x1_1+1)),(wrap64 (x5_1+1)),rd_,rd_,H',⟨by have:=HK1.out;omega⟩,⟨rR HO_0⟩,⟨by repeat (first|(with_reducible first|exact HK.out|apply Kept.alloc|apply Kept.drewN|apply Kept.drew)|exact HK.out)⟩,⟨be⟩⟩
    ·rw [if_neg c4] at H
     exact absurd H (by simp)
   ·rw [if_neg c3] at H
    have c3b0:decide (x5_1 < (x0_1.length:Int))=false:=decide_eq_false c3
    clear c3
    simp only [Option.some.injEq,Prod.mk.injEq] at H
    obtain ⟨rfl,rfl⟩:=H
    obtain ⟨Ao9,co9,eo9⟩:=Kd.R_slice HO_0.out
    subst eo9
    go_wp2
    go_ret
    exact ⟨rz,rR HO_0,be,by repeat (first|(with_reducible first|exact HK.out|apply Kept.alloc|apply Kept.drewN|apply Kept.drew)|exact HK.out)⟩
def laws_markFile.f (k:Nat) (a0_0:Int) (a0_1:Int) (a0_2:Int) (a0_3:Bool) (l0_4:List Int) (a1:Int):Option (Int × List Int):=(laws_markByteS.f k l0_4 a1).bind fun bt238=>(some (bt238.1,bt238.2))
set_option maxHeartbeats 8000000 in
set_option maxRecDepth 100000 in
theorem laws_markFile.calls (k:Nat) (a0_0:Int) (a0_1:Int) (a0_2:Int) (a0_3:Bool) (P0_4_:Nat→Prop) (u9000_:Value) (l0_4:List Int) (a1:Int) (r1:Int) (r2:List Int) (w0 w:World) (hB:Below w0.heap.size w0 w) (ho0_4:Kd.R (Kd.int .u8) 5 w w0.heap.size P0_4_ u9000_ l0_4) (h:laws_markFile.f k a0_0 a0_1 a0_2 a0_3 l0_4 a1=some (r1,r2)) :
  Calls Try.prog 40 #[.agg #[.int .i64 a0_0,.int .i64 a0_1,.int .i64 a0_2,.bool a0_3,u9000_],.int .i64 a1] w fun e w'=>e = .returned (.int .i64 r1)∧Kd.R (Kd.int .u8) 5 w' w0.heap.size (fun k_=>(P0_4_ k_ ∨ w.heap.size≤k_)) u9000_ r2∧Below w0.heap.size w0 w' ∧ Kept w w' (fun k_=>P0_4_ k_):=by
 have hu61:=Try.underlying61
 have HO0_4:=Aside0.mk (show Kd.R (Kd.int .u8) 5 w w0.heap.size (fun k_=>(P0_4_ k_ ∨ w.heap.size≤k_)) u9000_ l0_4 from Kd.R_mono ho0_4 (fun k_ hk=>(.inl hk)))
 have HK:=Aside0.mk (Kept.refl w (fun k_=>P0_4_ k_))
 have HW0:=Aside0.mk hB.size
 have HB:=Aside0.mk hB
 clear hB
 have H:((laws_markByteS.f k l0_4 a1).bind fun bt238=>(some (bt238.1,bt238.2)))=some (r1,r2):=h
 clear h
 replace H:=Option.bind_eq_some_iff.mp H
 obtain ⟨⟨t238,t239⟩,A30,H⟩:=H
 try dsimp only at H
 have A3:=Aside0.mk A30
 clear A30
 simp only [Option.some.injEq,Prod.mk.injEq] at H
 obtain ⟨rfl,rfl⟩:=H
 obtain ⟨Ao4,co4,eo4⟩:=Kd.R_slice HO0_4.out
 subst eo4
 go_enter Try.func40,Try.ntmps40
 go_wp2_with (first|((with_reducible refine gate_dst (N:=2) rfl ?_);refine box_event ?hg (N:=2) ?hd (cs:=#[.int .i64 a0_0,.int .i64 a0_1,.int .i64 a0_2,.bool a0_3,.slice Ao4 l0_4.length co4]) (t:=61) ?hr ?_;(case hd=>rfl);(case hg=>rfl);(case hr=>first|(go_simp;done)|(go_simp;rfl));intro gb237 hg w5 hbox hb;have n0_:=Aside0.mk (Kd.R_below (rR HO0_4) hb);have n1_:=Aside0.mk (Kept.below (S:=(fun k_=>P0_4_ k_)) (by repeat (first|(with_reducible first|exact HK.out|apply Kept.alloc|apply Kept.drewN|apply Kept.drew)|exact HK.out)) hb);have n2_:=bs hb;have n3_:=Aside0.mk (hbox);have n4_:=Aside0.mk ((by rw [hg];exact (by first|exact HK.out.1|exact (show Kept w _ (fun k_=>P0_4_ k_) from by repeat (first|(with_reducible first|exact HK.out|apply Kept.alloc|apply Kept.drewN|apply Kept.drew)|exact HK.out)).1):w.heap.size≤gb237));have n5_:=Aside0.mk ((by rw [hg];exact (below_size be):w0.heap.size≤gb237));clear HO0_4;clear HK;clear HB;have HO0_4:=n0_;have HK:=n1_;have HB:=n2_;have BK237:=n3_;have GW237:=n4_;have GE237:=n5_;clear n0_ n1_ n2_ n3_ n4_ n5_;clear hb hbox hg;have hcz6_0:w5.cell? ⟨gb237,0,none⟩=some (.int .i64 a0_0):=(blk_cell BK237.out 0).trans rfl;have hcz6_1:w5.cell? ⟨gb237,1,none⟩=some (.int .i64 a0_1):=(blk_cell BK237.out 1).trans rfl;have hcz6_2:w5.cell? ⟨gb237,2,none⟩=some (.int .i64 a0_2):=(blk_cell BK237.out 2).trans rfl;have hcz6_3:w5.cell? ⟨gb237,3,none⟩=some (.bool a0_3):=(blk_cell BK237.out 3).trans rfl;have hcz6_4:w5.cell? ⟨gb237,4,none⟩=some (.slice Ao4 l0_4.length co4):=(blk_cell BK237.out 4).trans rfl;have hfz6_0:=blk_frozen BK237.out 0;have hfz6_1:=blk_frozen BK237.out 1;have hfz6_2:=blk_frozen BK237.out 2;have hfz6_3:=blk_frozen BK237.out 3;have hfz6_4:=blk_frozen BK237.out 4)|((with_reducible refine gate_callee (f:=41) rfl ?_);refine goesL_ (some 8) rfl rfl Try.func41 (by kernel_rfl) rfl #[.slice Ao4 l0_4.length co4,.int .i64 a1] rfl (by (try simp only [List.map_toArray,List.map_cons,List.map_nil]);first|done|rfl|(simp only [List.length_drop,List.length_take];rfl)) ?_;(with_reducible refine (laws_markByteS.calls k (fun k_=>some k_=(.slice Ao4 l0_4.length co4:Value).ownBlock) (.slice Ao4 l0_4.length co4) l0_4 a1 t238 t239 w0 _ ?side1 ?side2 A3.out).mono ?_);(case side1=>exact be);(case side2=>exact Kd.R_tight rfl HO0_4.out);rintro e w7 ⟨rfl,hy0,hb,hkp⟩;refine ⟨_,rfl,?_⟩;have n0_:=Aside0.mk (Kd.R_reok rfl hy0 (fun k_ e_=>HO0_4.out.1 k_ e_));have n1_:=Aside0.mk (blk_kept (bk BK237) hkp (fun hs_=>(fun e_=>(Kd.R_ne HO0_4.out BK237.out (by decide)) e_) hs_));have n2_:=Aside0.mk (Kept.then_ (S:=(fun k_=>P0_4_ k_)) (by repeat (first|(with_reducible first|exact HK.out|apply Kept.alloc|apply Kept.drewN|apply Kept.drew|refine Kept.setCell ?_ (.inr GW237.out) _)|exact HK.out)) hkp (fun k_ hs_=>(fun e_=>(HO0_4.out.1 k_ e_.symm)) hs_));have n3_:=Aside0.mk (hb);clear HO0_4;clear BK237;clear HK;clear HB;have HO0_4:=n0_;have BK237:=n1_;have HK:=n2_;have HB:=n3_;clear n0_ n1_ n2_ n3_;(try clear hb);(try clear hkp);(try clear hy0)))
 go_ret
 exact ⟨rz,rR HO0_4,be,by repeat (first|(with_reducible first|exact HK.out|apply Kept.alloc|apply Kept.drewN|apply Kept.drew|refine Kept.setCell ?_ (.inr GW237.out) _)|exact HK.out)⟩
def laws_heldByteS.l0:Nat→List Int→Int→Int→Option (Int)
 | 0,_,_,_=>none
 | k+1,x0,x1,x5=>if x5 < (x0.length:Int) then (if 0≤x5 then (if (rd x0 x5)=((x1) % 256) then (laws_heldByteS.l0 k x0 (wrap64 (x1+1)) (wrap64 (x5+1))) else (some (-1))) else (none)) else (some x1)
def laws_heldByteS.f (k:Nat) (l0:List Int) (a1:Int):Option (Int):=laws_heldByteS.l0 k l0 a1 0
set_option maxHeartbeats 8000000 in
set_option maxRecDepth 100000 in
theorem laws_heldByteS.calls (k:Nat) (A0:Option Addr) (c0:Nat) (l0:List Int) (a1:Int) (r:Int) (w:World) (hr0:Kd.C (Kd.int .u8) w A0 l0.length l0) (hc0:l0.length≤c0) (h:laws_heldByteS.f k l0 a1=some r) :
  Calls Try.prog 42 #[.slice A0 l0.length c0,.int .i64 a1] w fun e w'=>e = .returned (.int .i64 r)∧Drawn0 w w':=by
 have HR0:=Aside0.mk hr0
 have HC0:=Aside0.mk hc0
 clear hr0 hc0
 have H:(laws_heldByteS.l0 k l0 a1 0)=some r:=h
 clear h
 have H':=Aside0.mk H
 clear H
 go_enter Try.func42,Try.ntmps42
 go_wp2
 go_loopg [1,5] k (fun kq v1 v5 w'=>∃ (x1_1:Int) (x5_1:Int),v1 = .int .i64 x1_1∧v5 = .int .i64 x5_1∧Aside0 (laws_heldByteS.l0 kq l0 x1_1 x5_1=some r)∧Aside0 (kq≤k)∧Drawn0 w w')
 case atStart=>exact ⟨(a1),(0),rd_,rd_,H',⟨Nat.le_refl _⟩,by repeat (first|exact Drawn0.refl _|apply Drawn0.step)⟩
 case round=>
  clear H'
  try clear p2
  obtain ⟨x1_1,x5_1,rfl,rfl,HA,HK1,⟨m1,rfl⟩⟩:=hrel
  cases gk with
  | zero=>exact absurd HA.out (by simp [laws_heldByteS.l0])
  | succ k1=>
   have H:=HA.out
   clear HA
   simp only [laws_heldByteS.l0] at H
   by_cases c3:x5_1 < (l0.length:Int)
   ·rw [if_pos c3] at H
    have c3b0:decide (x5_1 < (l0.length:Int))=true:=decide_eq_true c3
    clear c3
    by_cases c4:0≤x5_1
    ·rw [if_pos c4] at H
     have c4b0:decide (0≤x5_1)=true:=decide_eq_true c4
     clear c4
     by_cases c5:(rd l0 x5_1)=((x1_1) % 256)
     ·rw [if_pos c5] at H
      have c5b0:((rd l0 x5_1) == ((x1_1) % 256))=true:=beq_iff_eq.mpr c5
      have c5b1:((rd l0 x5_1) != ((x1_1) % 256))=false:=bne_eq_false_iff_eq.mpr c5
      clear c5
      have H':=Aside0.mk H
      clear H
      have p240:0≤(x5_1:Int):=of_decide_eq_true (by first|(with_reducible assumption)|assumption)
      have q240:x5_1 < (l0.length:Int):=of_decide_eq_true (by first|(with_reducible assumption)|assumption)
      obtain ⟨ad240,e240,hx240_0⟩:=Kd.at_int HR0.out x5_1 p240 q240
      cases e240
      replace p240:=eq_true p240
      replace q240:=eq_true q240
      go_wp2
      go_roundg k1
      case measure=>have:=HK1.out;omega
      case rel=>exact ⟨(wrap64 (x1_1+1)),(wrap64 (x5_1+1)),rd_,rd_,H',⟨by have:=HK1.out;omega⟩,by repeat (first|exact Drawn0.refl _|apply Drawn0.step)⟩
     ·rw [if_neg c5] at H
      have c5b0:((rd l0 x5_1) == ((x1_1) % 256))=false:=beq_eq_false_iff_ne.mpr c5
      have c5b1:((rd l0 x5_1) != ((x1_1) % 256))=true:=bne_iff_ne.mpr c5
      obtain rfl:=Option.some.inj H
      have p240:0≤(x5_1:Int):=of_decide_eq_true (by first|(with_reducible assumption)|assumption)
      have q240:x5_1 < (l0.length:Int):=of_decide_eq_true (by first|(with_reducible assumption)|assumption)
      obtain ⟨ad240,e240,hx240_0⟩:=Kd.at_int HR0.out x5_1 p240 q240
      cases e240
      replace p240:=eq_true p240
      replace q240:=eq_true q240
      go_wp2
      go_ret
      exact ⟨by first|rfl|(simp;done)|(simp [*];done),by repeat (first|exact Drawn0.refl _|apply Drawn0.step)⟩
    ·rw [if_neg c4] at H
     exact absurd H (by simp)
   ·rw [if_neg c3] at H
    have c3b0:decide (x5_1 < (l0.length:Int))=false:=decide_eq_false c3
    clear c3
    obtain rfl:=Option.some.inj H
    go_wp2
    go_ret
    exact ⟨by first|rfl|(simp;done)|(simp [*];done),by repeat (first|exact Drawn0.refl _|apply Drawn0.step)⟩
def laws_FnExactPutFile.j0:Nat→List Int→List Int→Bool→Int→Int→Int→Bool→List Int→Option (Bool)
 | 0,_,_,_,_,_,_,_,_=>none
 | k+1,x4,x6,x42,x242000,x242001,x242002,x242003,x242004=>if x42=true then (some false) else ((laws_markByteS.f k x6 1).bind fun bt276=>((laws_heldByteS.f k bt276.2 1).bind fun t278=>(if t278 < 0 then (some false) else (if t278=bt276.1 then ((laws_toFile.f k x242000 x242001 x242002 x242003 x242004).bind fun bt279=>((impl_PutFile.f k bt279.1 bt279.2.1 bt279.2.2.1 bt279.2.2.2.1 bt279.2.2.2.2).bind fun t286=>((laws_eqByteS.f k t286 x4).bind fun t289=>(if t289=true then ((laws_heldByteS.f k bt276.2 1).bind fun t290=>(if t290 < 0 then (some false) else (if t290=bt276.1 then (some true) else (some false)))) else (some false))))) else (some false)))))
def laws_FnExactPutFile.f (k:Nat) (a0_0:Int) (a0_1:Int) (a0_2:Int) (a0_3:Bool) (l0_4:List Int):Option (Bool):=(laws_szFile.f a0_0 a0_1 a0_2 a0_3 l0_4 1048576).bind fun t242=>(if t242 < 0 then (some true) else ((laws_toFile.f k a0_0 a0_1 a0_2 a0_3 l0_4).bind fun bt243=>((spec_PutFile.f k bt243.1 bt243.2.1 bt243.2.2.1 bt243.2.2.2.1 bt243.2.2.2.2).bind fun t250=>((laws_toFile.f k a0_0 a0_1 a0_2 a0_3 l0_4).bind fun bt253=>((impl_PutFile.f k bt253.1 bt253.2.1 bt253.2.2.1 bt253.2.2.2.1 bt253.2.2.2.2).bind fun t261=>((laws_eqByteS.f k t261 t250).bind fun t264=>(if t264=true then ((laws_toFile.f k a0_0 a0_1 a0_2 a0_3 l0_4).bind fun bt265=>((laws_eqFile.f k bt253.1 bt253.2.1 bt253.2.2.1 bt253.2.2.2.1 bt253.2.2.2.2 bt265.1 bt265.2.1 bt265.2.2.1 bt265.2.2.2.1 bt265.2.2.2.2).bind fun t272=>(if t272=true then ((laws_markFile.f k bt253.1 bt253.2.1 bt253.2.2.1 bt253.2.2.2.1 bt253.2.2.2.2 1).bind fun bt273=>(if bt273.1 < 0 then (laws_FnExactPutFile.j0 k t250 t261 true a0_0 a0_1 a0_2 a0_3 l0_4) else ((laws_eqByteS.f k t261 t250).bind fun t275=>(laws_FnExactPutFile.j0 k t250 t261 (!t275) a0_0 a0_1 a0_2 a0_3 l0_4)))) else (some false)))) else (some false))))))))
set_option maxHeartbeats 8000000 in
set_option maxRecDepth 100000 in
theorem laws_FnExactPutFile.calls (k:Nat) (a0_0:Int) (a0_1:Int) (a0_2:Int) (a0_3:Bool) (A0_4:Option Addr) (c0_4:Nat) (l0_4:List Int) (r:Bool) (w:World) (hr0_4:Kd.C (Kd.int .u8) w A0_4 l0_4.length l0_4) (hc0_4:l0_4.length≤c0_4) (h:laws_FnExactPutFile.f k a0_0 a0_1 a0_2 a0_3 l0_4=some r) (hr_:Aside0 (r=true)) :
  Calls Try.prog 6 #[.agg #[.int .i64 a0_0,.int .i64 a0_1,.int .i64 a0_2,.bool a0_3,.slice A0_4 l0_4.length c0_4]] w fun e w'=>e = .returned (.bool r)∧Below w.heap.size w w':=by
 have hu56:=Try.underlying56
 have hu61:=Try.underlying61
 have HR0_4:=Aside0.mk hr0_4
 have HC0_4:=Aside0.mk hc0_4
 clear hr0_4 hc0_4
 have HB:=Aside0.mk (Below.refl w.heap.size w)
 have H:((laws_szFile.f a0_0 a0_1 a0_2 a0_3 l0_4 1048576).bind fun t242=>(if t242 < 0 then (some true) else ((laws_toFile.f k a0_0 a0_1 a0_2 a0_3 l0_4).bind fun bt243=>((spec_PutFile.f k bt243.1 bt243.2.1 bt243.2.2.1 bt243.2.2.2.1 bt243.2.2.2.2).bind fun t250=>((laws_toFile.f k a0_0 a0_1 a0_2 a0_3 l0_4).bind fun bt253=>((impl_PutFile.f k bt253.1 bt253.2.1 bt253.2.2.1 bt253.2.2.2.1 bt253.2.2.2.2).bind fun t261=>((laws_eqByteS.f k t261 t250).bind fun t264=>(if t264=true then ((laws_toFile.f k a0_0 a0_1 a0_2 a0_3 l0_4).bind fun bt265=>((laws_eqFile.f k bt253.1 bt253.2.1 bt253.2.2.1 bt253.2.2.2.1 bt253.2.2.2.2 bt265.1 bt265.2.1 bt265.2.2.1 bt265.2.2.2.1 bt265.2.2.2.2).bind fun t272=>(if t272=true then ((laws_markFile.f k bt253.1 bt253.2.1 bt253.2.2.1 bt253.2.2.2.1 bt253.2.2.2.2 1).bind fun bt273=>(if bt273.1 < 0 then (laws_FnExactPutFile.j0 k t250 t261 true a0_0 a0_1 a0_2 a0_3 l0_4) else ((laws_eqByteS.f k t261 t250).bind fun t275=>(laws_FnExactPutFile.j0 k t250 t261 (!t275) a0_0 a0_1 a0_2 a0_3 l0_4)))) else (some false)))) else (some false)))))))))=some r:=h
 clear h
 replace H:=Option.bind_eq_some_iff.mp H
 obtain ⟨t242,A20,H⟩:=H
 try dsimp only at H
 have A2:=Aside0.mk A20
 clear A20
 by_cases c3:t242 < 0
 ·rw [if_pos c3] at H
  have c3b0:decide (t242 < 0)=true:=decide_eq_true c3
  clear c3
  obtain rfl:=Option.some.inj H
  go_enter Try.func6,Try.ntmps6
  go_wp2_with (first|((with_reducible refine gate_dst (N:=1) rfl ?_);refine box_event ?hg (N:=1) ?hd (cs:=#[.int .i64 a0_0,.int .i64 a0_1,.int .i64 a0_2,.bool a0_3,.slice A0_4 l0_4.length c0_4]) (t:=56) ?hr ?_;(case hd=>rfl);(case hg=>rfl);(case hr=>first|(go_simp;done)|(go_simp;rfl));intro gb241 hg w4 hbox hb;have n0_:=bs hb;have n1_:=Aside0.mk (hbox);have n2_:=Aside0.mk ((by rw [hg];exact (below_size be):w.heap.size≤gb241));have n3_:=Aside0.mk ((by rw [hg];exact (below_size be):w.heap.size≤gb241));clear HB;have HB:=n0_;have BK241:=n1_;have GW241:=n2_;have GE241:=n3_;clear n0_ n1_ n2_ n3_;clear hb hbox hg;have hcz5_0:w4.cell? ⟨gb241,0,none⟩=some (.int .i64 a0_0):=(blk_cell BK241.out 0).trans rfl;have hcz5_1:w4.cell? ⟨gb241,1,none⟩=some (.int .i64 a0_1):=(blk_cell BK241.out 1).trans rfl;have hcz5_2:w4.cell? ⟨gb241,2,none⟩=some (.int .i64 a0_2):=(blk_cell BK241.out 2).trans rfl;have hcz5_3:w4.cell? ⟨gb241,3,none⟩=some (.bool a0_3):=(blk_cell BK241.out 3).trans rfl;have hcz5_4:w4.cell? ⟨gb241,4,none⟩=some (.slice A0_4 l0_4.length c0_4):=(blk_cell BK241.out 4).trans rfl;have hfz5_0:=blk_frozen BK241.out 0;have hfz5_1:=blk_frozen BK241.out 1;have hfz5_2:=blk_frozen BK241.out 2;have hfz5_3:=blk_frozen BK241.out 3;have hfz5_4:=blk_frozen BK241.out 4)|((with_reducible refine gate_callee (f:=34) rfl ?_);refine goesL_ (some 13) rfl rfl Try.func34 (by kernel_rfl) rfl #[.agg #[.int .i64 a0_0,.int .i64 a0_1,.int .i64 a0_2,.bool a0_3,.slice A0_4 l0_4.length c0_4],.int .i64 1048576] rfl (by (try simp only [List.map_toArray,List.map_cons,List.map_nil]);first|done|rfl|(simp only [List.length_drop,List.length_take];rfl)) ?_;(with_reducible refine (laws_szFile.calls a0_0 a0_1 a0_2 a0_3 _ _ l0_4 1048576 t242 _ ?side1 ?side2 A2.out).mono ?_);(case side1=>exact rC HR0_4);(case side2=>exact HC0_4.out);rintro e w6 ⟨rfl,hb⟩;refine ⟨_,rfl,?_⟩;have n0_:=Aside0.mk (blk_below (g:=gb241) (o:=.cells #[.int .i64 a0_0,.int .i64 a0_1,.int .i64 a0_2,.bool a0_3,.slice A0_4 l0_4.length c0_4] 56 (0,0)) (bk BK241) hb);have n1_:=bs hb;clear BK241;clear HB;have BK241:=n0_;have HB:=n1_;clear n0_ n1_;(try clear hb);(try clear hb2);(try clear hk);(try clear hi)))
  go_ret
  exact ⟨rz,be⟩
 ·rw [if_neg c3] at H
  have c3b0:decide (t242 < 0)=false:=decide_eq_false c3
  clear c3
  replace H:=Option.bind_eq_some_iff.mp H
  obtain ⟨⟨t243,t244,t245,t246,t247⟩,A70,H⟩:=H
  try dsimp only at H
  have A7:=Aside0.mk A70
  clear A70
  replace H:=Option.bind_eq_some_iff.mp H
  obtain ⟨t250,A80,H⟩:=H
  try dsimp only at H
  have A8:=Aside0.mk A80
  clear A80
  replace H:=Option.bind_eq_some_iff.mp H
  obtain ⟨⟨t253,t254,t255,t256,t257⟩,A90,H⟩:=H
  try dsimp only at H
  have A9:=Aside0.mk A90
  clear A90
  replace H:=Option.bind_eq_some_iff.mp H
  obtain ⟨t261,A100,H⟩:=H
  try dsimp only at H
  have A10:=Aside0.mk A100
  clear A100
  replace H:=Option.bind_eq_some_iff.mp H
  obtain ⟨t264,A110,H⟩:=H
  try dsimp only at H
  have A11:=Aside0.mk A110
  clear A110
  by_cases c12:t264=true
  ·subst c12
   rw [if_pos rfl] at H
   replace H:=Option.bind_eq_some_iff.mp H
   obtain ⟨⟨t265,t266,t267,t268,t269⟩,A130,H⟩:=H
   try dsimp only at H
   have A13:=Aside0.mk A130
   clear A130
   replace H:=Option.bind_eq_some_iff.mp H
   obtain ⟨t272,A140,H⟩:=H
   try dsimp only at H
   have A14:=Aside0.mk A140
   clear A140
   by_cases c15:t272=true
   ·subst c15
    rw [if_pos rfl] at H
    replace H:=Option.bind_eq_some_iff.mp H
    obtain ⟨⟨t273,t274⟩,A160,H⟩:=H
    try dsimp only at H
    have A16:=Aside0.mk A160
    clear A160
    have HC17:=Aside0.mk H
    clear H
    go_enter Try.func6,Try.ntmps6
    try go_wp2_with (first|((with_reducible refine gate_dst (N:=1) rfl ?_);refine box_event ?hg (N:=1) ?hd (cs:=#[.int .i64 a0_0,.int .i64 a0_1,.int .i64 a0_2,.bool a0_3,.slice A0_4 l0_4.length c0_4]) (t:=56) ?hr ?_;(case hd=>rfl);(case hg=>rfl);(case hr=>first|(go_simp;done)|(go_simp;rfl));intro gb241 hg w18 hbox hb;have n0_:=bs hb;have n1_:=Aside0.mk (hbox);have n2_:=Aside0.mk ((by rw [hg];exact (below_size be):w.heap.size≤gb241));have n3_:=Aside0.mk ((by rw [hg];exact (below_size be):w.heap.size≤gb241));clear HB;have HB:=n0_;have BK241:=n1_;have GW241:=n2_;have GE241:=n3_;clear n0_ n1_ n2_ n3_;clear hb hbox hg;have hcz19_0:w18.cell? ⟨gb241,0,none⟩=some (.int .i64 a0_0):=(blk_cell BK241.out 0).trans rfl;have hcz19_1:w18.cell? ⟨gb241,1,none⟩=some (.int .i64 a0_1):=(blk_cell BK241.out 1).trans rfl;have hcz19_2:w18.cell? ⟨gb241,2,none⟩=some (.int .i64 a0_2):=(blk_cell BK241.out 2).trans rfl;have hcz19_3:w18.cell? ⟨gb241,3,none⟩=some (.bool a0_3):=(blk_cell BK241.out 3).trans rfl;have hcz19_4:w18.cell? ⟨gb241,4,none⟩=some (.slice A0_4 l0_4.length c0_4):=(blk_cell BK241.out 4).trans rfl;have hfz19_0:=blk_frozen BK241.out 0;have hfz19_1:=blk_frozen BK241.out 1;have hfz19_2:=blk_frozen BK241.out 2;have hfz19_3:=blk_frozen BK241.out 3;have hfz19_4:=blk_frozen BK241.out 4)|((with_reducible refine gate_callee (f:=34) rfl ?_);refine goesL_ (some 13) rfl rfl Try.func34 (by kernel_rfl) rfl #[.agg #[.int .i64 a0_0,.int .i64 a0_1,.int .i64 a0_2,.bool a0_3,.slice A0_4 l0_4.length c0_4],.int .i64 1048576] rfl (by (try simp only [List.map_toArray,List.map_cons,List.map_nil]);first|done|rfl|(simp only [List.length_drop,List.length_take];rfl)) ?_;(with_reducible refine (laws_szFile.calls a0_0 a0_1 a0_2 a0_3 _ _ l0_4 1048576 t242 _ ?side1 ?side2 A2.out).mono ?_);(case side1=>exact rC HR0_4);(case side2=>exact HC0_4.out);rintro e w20 ⟨rfl,hb⟩;refine ⟨_,rfl,?_⟩;have n0_:=Aside0.mk (blk_below (g:=gb241) (o:=.cells #[.int .i64 a0_0,.int .i64 a0_1,.int .i64 a0_2,.bool a0_3,.slice A0_4 l0_4.length c0_4] 56 (0,0)) (bk BK241) hb);have n1_:=bs hb;clear BK241;clear HB;have BK241:=n0_;have HB:=n1_;clear n0_ n1_;(try clear hb);(try clear hb2);(try clear hk);(try clear hi);have hcz21_0:w20.cell? ⟨gb241,0,none⟩=some (.int .i64 a0_0):=(blk_cell BK241.out 0).trans rfl;have hcz21_1:w20.cell? ⟨gb241,1,none⟩=some (.int .i64 a0_1):=(blk_cell BK241.out 1).trans rfl;have hcz21_2:w20.cell? ⟨gb241,2,none⟩=some (.int .i64 a0_2):=(blk_cell BK241.out 2).trans rfl;have hcz21_3:w20.cell? ⟨gb241,3,none⟩=some (.bool a0_3):=(blk_cell BK241.out 3).trans rfl;have hcz21_4:w20.cell? ⟨gb241,4,none⟩=some (.slice A0_4 l0_4.length c0_4):=(blk_cell BK241.out 4).trans rfl;have hfz21_0:=blk_frozen BK241.out 0;have hfz21_1:=blk_frozen BK241.out 1;have hfz21_2:=blk_frozen BK241.out 2;have hfz21_3:=blk_frozen BK241.out 3;have hfz21_4:=blk_frozen BK241.out 4)|((with_reducible refine gate_callee (f:=36) rfl ?_);refine goesL_ (some 17) rfl rfl Try.func36 (by kernel_rfl) rfl #[.agg #[.int .i64 a0_0,.int .i64 a0_1,.int .i64 a0_2,.bool a0_3,.slice A0_4 l0_4.length c0_4]] rfl (by (try simp only [List.map_toArray,List.map_cons,List.map_nil]);first|done|rfl|(simp only [List.length_drop,List.length_take];rfl)) ?_;(with_reducible refine (laws_toFile.calls k a0_0 a0_1 a0_2 a0_3 _ _ l0_4 t243 t244 t245 t246 t247 _ ?side1 ?side2 A7.out).mono ?_);(case side1=>exact rC HR0_4);(case side2=>exact HC0_4.out);rintro e w22 ⟨v248,rfl,ho0,hb⟩;refine ⟨_,rfl,?_⟩;have n0_:=Aside0.mk (Kd.R_lower ho0 (below_size be));have n1_:=Aside0.mk (blk_below (g:=gb241) (o:=.cells #[.int .i64 a0_0,.int .i64 a0_1,.int .i64 a0_2,.bool a0_3,.slice A0_4 l0_4.length c0_4] 56 (0,0)) (bk BK241) hb);have n2_:=bs hb;clear BK241;clear HB;have HO249:=n0_;have BK241:=n1_;have HB:=n2_;clear n0_ n1_ n2_;(try clear hb);(try clear hb2);(try clear hk);(try clear hi);(try clear ho0);obtain ⟨Ao23,co23,eo23⟩:=Kd.R_slice HO249.out;subst eo23)|((with_reducible refine gate_callee (f:=35) rfl ?_);refine goesL_ (some 18) rfl rfl Try.func35 (by kernel_rfl) rfl #[.agg #[.int .i64 t243,.int .i64 t244,.int .i64 t245,.bool t246,.slice Ao23 t247.length co23]] rfl (by (try simp only [List.map_toArray,List.map_cons,List.map_nil]);first|done|rfl|(simp only [List.length_drop,List.length_take];rfl)) ?_;(with_reducible refine (spec_PutFile.calls k t243 t244 t245 t246 _ _ t247 t250 _ ?side1 ?side2 A8.out).mono ?_);(case side1=>exact sR HO249);(case side2=>exact (Kd.R_reads' HO249.out).2.1);rintro e w24 ⟨v251,rfl,ho0,hb⟩;refine ⟨_,rfl,?_⟩;have n0_:=Aside0.mk (Kd.R_elder' (rR HO249) (Kd.R_base ho0) hb);have n1_:=Aside0.mk (Kd.R_lower (Kd.R_new' ho0 (Kd.R_lt (rR HO249))) (below_size be));have n2_:=Aside0.mk (blk_below (g:=gb241) (o:=.cells #[.int .i64 a0_0,.int .i64 a0_1,.int .i64 a0_2,.bool a0_3,.slice A0_4 l0_4.length c0_4] 56 (0,0)) (bk BK241) hb);have n3_:=bs hb;clear HO249;clear BK241;clear HB;have HO249:=n0_;have HO252:=n1_;have BK241:=n2_;have HB:=n3_;clear n0_ n1_ n2_ n3_;(try clear hb);(try clear hb2);(try clear hk);(try clear hi);(try clear ho0);have hcz25_0:w24.cell? ⟨gb241,0,none⟩=some (.int .i64 a0_0):=(blk_cell BK241.out 0).trans rfl;have hcz25_1:w24.cell? ⟨gb241,1,none⟩=some (.int .i64 a0_1):=(blk_cell BK241.out 1).trans rfl;have hcz25_2:w24.cell? ⟨gb241,2,none⟩=some (.int .i64 a0_2):=(blk_cell BK241.out 2).trans rfl;have hcz25_3:w24.cell? ⟨gb241,3,none⟩=some (.bool a0_3):=(blk_cell BK241.out 3).trans rfl;have hcz25_4:w24.cell? ⟨gb241,4,none⟩=some (.slice A0_4 l0_4.length c0_4):=(blk_cell BK241.out 4).trans rfl;have hfz25_0:=blk_frozen BK241.out 0;have hfz25_1:=blk_frozen BK241.out 1;have hfz25_2:=blk_frozen BK241.out 2;have hfz25_3:=blk_frozen BK241.out 3;have hfz25_4:=blk_frozen BK241.out 4)|((with_reducible refine gate_callee (f:=36) rfl ?_);refine goesL_ (some 20) rfl rfl Try.func36 (by kernel_rfl) rfl #[.agg #[.int .i64 a0_0,.int .i64 a0_1,.int .i64 a0_2,.bool a0_3,.slice A0_4 l0_4.length c0_4]] rfl (by (try simp only [List.map_toArray,List.map_cons,List.map_nil]);first|done|rfl|(simp only [List.length_drop,List.length_take];rfl)) ?_;(with_reducible refine (laws_toFile.calls k a0_0 a0_1 a0_2 a0_3 _ _ l0_4 t253 t254 t255 t256 t257 _ ?side1 ?side2 A9.out).mono ?_);(case side1=>exact rC HR0_4);(case side2=>exact HC0_4.out);rintro e w26 ⟨v258,rfl,ho0,hb⟩;refine ⟨_,rfl,?_⟩;have n0_:=Aside0.mk (Kd.R_elder' (rR HO249) (Kd.R_base ho0) hb);have n1_:=Aside0.mk (Kd.R_elder' (rR HO252) (Kd.R_base ho0) hb);have n2_:=Aside0.mk (Kd.R_lower (Kd.R_new' (Kd.R_new' ho0 (Kd.R_lt (rR HO249))) (Kd.R_lt (rR HO252))) (below_size be));have n3_:=Aside0.mk (blk_below (g:=gb241) (o:=.cells #[.int .i64 a0_0,.int .i64 a0_1,.int .i64 a0_2,.bool a0_3,.slice A0_4 l0_4.length c0_4] 56 (0,0)) (bk BK241) hb);have n4_:=bs hb;clear HO249;clear HO252;clear BK241;clear HB;have HO249:=n0_;have HO252:=n1_;have HO259:=n2_;have BK241:=n3_;have HB:=n4_;clear n0_ n1_ n2_ n3_ n4_;(try clear hb);(try clear hb2);(try clear hk);(try clear hi);(try clear ho0))|((with_reducible refine gate_dst (N:=5) rfl ?_);refine box_event ?hg (N:=5) ?hd (cs:=#[.int .i64 0,.int .i64 0,.int .i64 0,.bool false,.slice none 0 0]) (t:=61) ?hr ?_;(case hd=>rfl);(case hg=>rfl);(case hr=>first|(go_simp;done)|(go_simp;rfl));intro gb260 hg w27 hbox hb;have n0_:=Aside0.mk (Kd.R_below (rR HO249) hb);have n1_:=Aside0.mk (Kd.R_below (rR HO252) hb);have n2_:=Aside0.mk (Kd.R_below (rR HO259) hb);have n3_:=Aside0.mk (blk_below (g:=gb241) (o:=.cells #[.int .i64 a0_0,.int .i64 a0_1,.int .i64 a0_2,.bool a0_3,.slice A0_4 l0_4.length c0_4] 56 (0,0)) (bk BK241) hb);have n4_:=bs hb;have n5_:=Aside0.mk (hbox);have n6_:=Aside0.mk ((by rw [hg];exact (below_size be):w.heap.size≤gb260));have n7_:=Aside0.mk ((by rw [hg];exact (below_size be):w.heap.size≤gb260));have n8_:=Aside0.mk ((by rw [hg];exact Nat.ne_of_lt (blk_lt (g:=gb241) (o:=.cells #[.int .i64 a0_0,.int .i64 a0_1,.int .i64 a0_2,.bool a0_3,.slice A0_4 l0_4.length c0_4] 56 (0,0)) (bk BK241)):gb241 ≠ gb260));have n9_:=Aside0.mk ((by rw [hg];exact Nat.ne_of_gt (blk_lt (g:=gb241) (o:=.cells #[.int .i64 a0_0,.int .i64 a0_1,.int .i64 a0_2,.bool a0_3,.slice A0_4 l0_4.length c0_4] 56 (0,0)) (bk BK241)):gb260 ≠ gb241));clear HO249;clear HO252;clear HO259;clear BK241;clear HB;have HO249:=n0_;have HO252:=n1_;have HO259:=n2_;have BK241:=n3_;have HB:=n4_;have BK260:=n5_;have GW260:=n6_;have GE260:=n7_;have NB241_260:=n8_;have NB260_241:=n9_;clear n0_ n1_ n2_ n3_ n4_ n5_ n6_ n7_ n8_ n9_;clear hb hbox hg;have hnb28:=NB260_241.out;have hnc28:=NB241_260.out;have hcz29_0:w27.cell? ⟨gb260,0,none⟩=some (.int .i64 0):=(blk_cell BK260.out 0).trans rfl;have hcz29_1:w27.cell? ⟨gb260,1,none⟩=some (.int .i64 0):=(blk_cell BK260.out 1).trans rfl;have hcz29_2:w27.cell? ⟨gb260,2,none⟩=some (.int .i64 0):=(blk_cell BK260.out 2).trans rfl;have hcz29_3:w27.cell? ⟨gb260,3,none⟩=some (.bool false):=(blk_cell BK260.out 3).trans rfl;have hcz29_4:w27.cell? ⟨gb260,4,none⟩=some (.slice none 0 0):=(blk_cell BK260.out 4).trans rfl;have hfz29_0:=blk_frozen BK260.out 0;have hfz29_1:=blk_frozen BK260.out 1;have hfz29_2:=blk_frozen BK260.out 2;have hfz29_3:=blk_frozen BK260.out 3;have hfz29_4:=blk_frozen BK260.out 4;obtain ⟨Ao30,co30,eo30⟩:=Kd.R_slice HO259.out;subst eo30)|((with_reducible refine gate_callee (f:=37) rfl ?_);refine goesL_ (some 22) rfl rfl Try.func37 (by kernel_rfl) rfl #[.agg #[.int .i64 t253,.int .i64 t254,.int .i64 t255,.bool t256,.slice Ao30 t257.length co30]] rfl (by (try simp only [List.map_toArray,List.map_cons,List.map_nil]);first|done|rfl|(simp only [List.length_drop,List.length_take];rfl)) ?_;(with_reducible refine (impl_PutFile.calls k t253 t254 t255 t256 _ _ t257 t261 _ ?side1 ?side2 A10.out).mono ?_);(case side1=>refine (Kd.R_reads' (e:=5) (base:=w.heap.size) (ok:=fun k_=>((True∧some k_ ≠ (.slice Ao23 t247.length co23:Value).ownBlock)∧some k_ ≠ (v251:Value).ownBlock)) (n:=t257.length) (c:=co30) ?_).2.2;exact (by (with_reducible repeat (first|apply Kd.R_alloc|apply Kd.R_drewN|apply Kd.R_drew));exact (Kd.R_mono (Kd.R_far (p:=⟨gb260,4,none⟩) (Kd.R_far (p:=⟨gb260,3,none⟩) (Kd.R_far (p:=⟨gb260,2,none⟩) (Kd.R_far (p:=⟨gb260,1,none⟩) (Kd.R_far (p:=⟨gb260,0,none⟩) (Kd.R_types HO259.out BK260.out (by decide)) (fun _ hk=>hk.2) (.int .i64 t253)) (fun _ hk=>hk.2) (.int .i64 t254)) (fun _ hk=>hk.2) (.int .i64 t255)) (fun _ hk=>hk.2) (.bool t256)) (fun _ hk=>hk.2) (.slice Ao30 t257.length co30)) (fun _ h_=>h_.1))));(case side2=>exact (Kd.R_reads' HO259.out).2.1);rintro e w31 ⟨v262,rfl,ho0,hb⟩;refine ⟨_,rfl,?_⟩;have n0_:=Aside0.mk (Kd.R_elder' (by (with_reducible repeat (first|apply Kd.R_alloc|apply Kd.R_drewN|apply Kd.R_drew));exact (Kd.R_mono (Kd.R_far (p:=⟨gb260,4,none⟩) (Kd.R_far (p:=⟨gb260,3,none⟩) (Kd.R_far (p:=⟨gb260,2,none⟩) (Kd.R_far (p:=⟨gb260,1,none⟩) (Kd.R_far (p:=⟨gb260,0,none⟩) (Kd.R_types HO249.out BK260.out (by decide)) (fun _ hk=>hk.2) (.int .i64 t253)) (fun _ hk=>hk.2) (.int .i64 t254)) (fun _ hk=>hk.2) (.int .i64 t255)) (fun _ hk=>hk.2) (.bool t256)) (fun _ hk=>hk.2) (.slice Ao30 t257.length co30)) (fun _ h_=>h_.1))) (Kd.R_base ho0) hb);have n1_:=Aside0.mk (Kd.R_elder' (by (with_reducible repeat (first|apply Kd.R_alloc|apply Kd.R_drewN|apply Kd.R_drew));exact (Kd.R_mono (Kd.R_far (p:=⟨gb260,4,none⟩) (Kd.R_far (p:=⟨gb260,3,none⟩) (Kd.R_far (p:=⟨gb260,2,none⟩) (Kd.R_far (p:=⟨gb260,1,none⟩) (Kd.R_far (p:=⟨gb260,0,none⟩) (Kd.R_types HO252.out BK260.out (by decide)) (fun _ hk=>hk.2) (.int .i64 t253)) (fun _ hk=>hk.2) (.int .i64 t254)) (fun _ hk=>hk.2) (.int .i64 t255)) (fun _ hk=>hk.2) (.bool t256)) (fun _ hk=>hk.2) (.slice Ao30 t257.length co30)) (fun _ h_=>h_.1))) (Kd.R_base ho0) hb);have n2_:=Aside0.mk (Kd.R_elder' (by (with_reducible repeat (first|apply Kd.R_alloc|apply Kd.R_drewN|apply Kd.R_drew));exact (Kd.R_mono (Kd.R_far (p:=⟨gb260,4,none⟩) (Kd.R_far (p:=⟨gb260,3,none⟩) (Kd.R_far (p:=⟨gb260,2,none⟩) (Kd.R_far (p:=⟨gb260,1,none⟩) (Kd.R_far (p:=⟨gb260,0,none⟩) (Kd.R_types HO259.out BK260.out (by decide)) (fun _ hk=>hk.2) (.int .i64 t253)) (fun _ hk=>hk.2) (.int .i64 t254)) (fun _ hk=>hk.2) (.int .i64 t255)) (fun _ hk=>hk.2) (.bool t256)) (fun _ hk=>hk.2) (.slice Ao30 t257.length co30)) (fun _ h_=>h_.1))) (Kd.R_base ho0) hb);have n3_:=Aside0.mk (Kd.R_lower (Kd.R_new' (Kd.R_new' (Kd.R_new' ho0 (Kd.R_lt (by (with_reducible repeat (first|apply Kd.R_alloc|apply Kd.R_drewN|apply Kd.R_drew));exact (Kd.R_mono (Kd.R_far (p:=⟨gb260,4,none⟩) (Kd.R_far (p:=⟨gb260,3,none⟩) (Kd.R_far (p:=⟨gb260,2,none⟩) (Kd.R_far (p:=⟨gb260,1,none⟩) (Kd.R_far (p:=⟨gb260,0,none⟩) (Kd.R_types HO249.out BK260.out (by decide)) (fun _ hk=>hk.2) (.int .i64 t253)) (fun _ hk=>hk.2) (.int .i64 t254)) (fun _ hk=>hk.2) (.int .i64 t255)) (fun _ hk=>hk.2) (.bool t256)) (fun _ hk=>hk.2) (.slice Ao30 t257.length co30)) (fun _ h_=>h_.1))))) (Kd.R_lt (by (with_reducible repeat (first|apply Kd.R_alloc|apply Kd.R_drewN|apply Kd.R_drew));exact (Kd.R_mono (Kd.R_far (p:=⟨gb260,4,none⟩) (Kd.R_far (p:=⟨gb260,3,none⟩) (Kd.R_far (p:=⟨gb260,2,none⟩) (Kd.R_far (p:=⟨gb260,1,none⟩) (Kd.R_far (p:=⟨gb260,0,none⟩) (Kd.R_types HO252.out BK260.out (by decide)) (fun _ hk=>hk.2) (.int .i64 t253)) (fun _ hk=>hk.2) (.int .i64 t254)) (fun _ hk=>hk.2) (.int .i64 t255)) (fun _ hk=>hk.2) (.bool t256)) (fun _ hk=>hk.2) (.slice Ao30 t257.length co30)) (fun _ h_=>h_.1))))) (Kd.R_lt (by (with_reducible repeat (first|apply Kd.R_alloc|apply Kd.R_drewN|apply Kd.R_drew));exact (Kd.R_mono (Kd.R_far (p:=⟨gb260,4,none⟩) (Kd.R_far (p:=⟨gb260,3,none⟩) (Kd.R_far (p:=⟨gb260,2,none⟩) (Kd.R_far (p:=⟨gb260,1,none⟩) (Kd.R_far (p:=⟨gb260,0,none⟩) (Kd.R_types HO259.out BK260.out (by decide)) (fun _ hk=>hk.2) (.int .i64 t253)) (fun _ hk=>hk.2) (.int .i64 t254)) (fun _ hk=>hk.2) (.int .i64 t255)) (fun _ hk=>hk.2) (.bool t256)) (fun _ hk=>hk.2) (.slice Ao30 t257.length co30)) (fun _ h_=>h_.1))))) (below_size be));have n4_:=Aside0.mk (blk_below (g:=gb241) (o:=.cells #[.int .i64 a0_0,.int .i64 a0_1,.int .i64 a0_2,.bool a0_3,.slice A0_4 l0_4.length c0_4] 56 (0,0)) (by (with_reducible repeat (first|refine blk_drewN ?_ _|refine blk_drew ?_|refine blk_alloc ?_ _));refine blk_far ?_ NB241_260.out _;(with_reducible repeat (first|refine blk_drewN ?_ _|refine blk_drew ?_|refine blk_alloc ?_ _));refine blk_far ?_ NB241_260.out _;(with_reducible repeat (first|refine blk_drewN ?_ _|refine blk_drew ?_|refine blk_alloc ?_ _));refine blk_far ?_ NB241_260.out _;(with_reducible repeat (first|refine blk_drewN ?_ _|refine blk_drew ?_|refine blk_alloc ?_ _));refine blk_far ?_ NB241_260.out _;(with_reducible repeat (first|refine blk_drewN ?_ _|refine blk_drew ?_|refine blk_alloc ?_ _));refine blk_far ?_ NB241_260.out _;(with_reducible repeat (first|refine blk_drewN ?_ _|refine blk_drew ?_|refine blk_alloc ?_ _));exact BK241.out) hb);have n5_:=Aside0.mk (blk_below (g:=gb260) (o:=.cells #[.int .i64 t253,.int .i64 t254,.int .i64 t255,.bool t256,.slice Ao30 t257.length co30] 61 (0,0)) (by (with_reducible repeat (first|refine blk_drewN ?_ _|refine blk_drew ?_|refine blk_alloc ?_ _));refine blk_put (cs:=#[.int .i64 t253,.int .i64 t254,.int .i64 t255,.bool t256,.slice none 0 0]) ?_ 4 _ rfl;(with_reducible repeat (first|refine blk_drewN ?_ _|refine blk_drew ?_|refine blk_alloc ?_ _));refine blk_put (cs:=#[.int .i64 t253,.int .i64 t254,.int .i64 t255,.bool false,.slice none 0 0]) ?_ 3 _ rfl;(with_reducible repeat (first|refine blk_drewN ?_ _|refine blk_drew ?_|refine blk_alloc ?_ _));refine blk_put (cs:=#[.int .i64 t253,.int .i64 t254,.int .i64 0,.bool false,.slice none 0 0]) ?_ 2 _ rfl;(with_reducible repeat (first|refine blk_drewN ?_ _|refine blk_drew ?_|refine blk_alloc ?_ _));refine blk_put (cs:=#[.int .i64 t253,.int .i64 0,.int .i64 0,.bool false,.slice none 0 0]) ?_ 1 _ rfl;(with_reducible repeat (first|refine blk_drewN ?_ _|refine blk_drew ?_|refine blk_alloc ?_ _));refine blk_put (cs:=#[.int .i64 0,.int .i64 0,.int .i64 0,.bool false,.slice none 0 0]) ?_ 0 _ rfl;(with_reducible repeat (first|refine blk_drewN ?_ _|refine blk_drew ?_|refine blk_alloc ?_ _));exact BK260.out) hb);have n6_:=bs hb;clear HO249;clear HO252;clear HO259;clear BK241;clear BK260;clear HB;have HO249:=n0_;have HO252:=n1_;have HO259:=n2_;have HO263:=n3_;have BK241:=n4_;have BK260:=n5_;have HB:=n6_;clear n0_ n1_ n2_ n3_ n4_ n5_ n6_;(try clear hb);(try clear hb2);(try clear hk);(try clear hi);(try clear ho0);obtain ⟨Ao32,co32,eo32⟩:=Kd.R_slice HO263.out;subst eo32;obtain ⟨Ao33,co33,eo33⟩:=Kd.R_slice HO252.out;subst eo33)|((with_reducible refine gate_callee (f:=38) rfl ?_);refine goesL_ (some 25) rfl rfl Try.func38 (by kernel_rfl) rfl #[.slice Ao32 t261.length co32,.slice Ao33 t250.length co33] rfl (by (try simp only [List.map_toArray,List.map_cons,List.map_nil]);first|done|rfl|(simp only [List.length_drop,List.length_take];rfl)) ?_;(with_reducible refine (laws_eqByteS.calls k _ _ t261 _ _ t250 true _ ?side1 ?side2 ?side3 ?side4 A11.out).mono ?_);(case side1=>exact sR HO263);(case side2=>exact (Kd.R_reads' HO263.out).2.1);(case side3=>exact sR HO252);(case side4=>exact (Kd.R_reads' HO252.out).2.1);rintro e w' ⟨rfl,⟨nd,rfl⟩⟩;refine ⟨_,rfl,?_⟩))
    (try (rw [drewN_self w31];generalize hq_:World.drewN w31 _=w31;have n0_:Aside0 (Kd.R (Kd.int .u8) 5 w31 w.heap.size (fun k_=>(((True∧some k_ ≠ (.slice Ao33 t250.length co33:Value).ownBlock)∧some k_ ≠ (.slice Ao30 t257.length co30:Value).ownBlock)∧some k_ ≠ (.slice Ao32 t261.length co32:Value).ownBlock)) (.slice Ao23 t247.length co23) t247):=⟨by rw [← hq_];exact (rR HO249)⟩;have n1_:Aside0 (Kd.R (Kd.int .u8) 5 w31 w.heap.size (fun k_=>(((True∧some k_ ≠ (.slice Ao23 t247.length co23:Value).ownBlock)∧some k_ ≠ (.slice Ao30 t257.length co30:Value).ownBlock)∧some k_ ≠ (.slice Ao32 t261.length co32:Value).ownBlock)) (.slice Ao33 t250.length co33) t250):=⟨by rw [← hq_];exact (rR HO252)⟩;have n2_:Aside0 (Kd.R (Kd.int .u8) 5 w31 w.heap.size (fun k_=>(((True∧some k_ ≠ (.slice Ao23 t247.length co23:Value).ownBlock)∧some k_ ≠ (.slice Ao33 t250.length co33:Value).ownBlock)∧some k_ ≠ (.slice Ao32 t261.length co32:Value).ownBlock)) (.slice Ao30 t257.length co30) t257):=⟨by rw [← hq_];exact (rR HO259)⟩;have n3_:Aside0 (Kd.R (Kd.int .u8) 5 w31 w.heap.size (fun k_=>(((True∧some k_ ≠ (.slice Ao23 t247.length co23:Value).ownBlock)∧some k_ ≠ (.slice Ao33 t250.length co33:Value).ownBlock)∧some k_ ≠ (.slice Ao30 t257.length co30:Value).ownBlock)) (.slice Ao32 t261.length co32) t261):=⟨by rw [← hq_];exact (rR HO263)⟩;have n4_:Aside0 (w31.heap[gb241]?=some (.cells #[.int .i64 a0_0,.int .i64 a0_1,.int .i64 a0_2,.bool a0_3,.slice A0_4 l0_4.length c0_4] 56 (0,0))):=⟨by rw [← hq_];exact (bk BK241)⟩;have n5_:Aside0 (w31.heap[gb260]?=some (.cells #[.int .i64 t253,.int .i64 t254,.int .i64 t255,.bool t256,.slice Ao30 t257.length co30] 61 (0,0))):=⟨by rw [← hq_];exact (bk BK260)⟩;have n6_:Aside0 (Below w.heap.size w w31):=⟨by rw [← hq_];exact be⟩;clear HO249 HO252 HO259 HO263 BK241 BK260 HB hq_;have HO249:=n0_;have HO252:=n1_;have HO259:=n2_;have HO263:=n3_;have BK241:=n4_;have BK260:=n5_;have HB:=n6_;clear n0_ n1_ n2_ n3_ n4_ n5_ n6_))
    have n0_:=Aside0.mk (Kd.R_drew HO249.out)
    have n1_:=Aside0.mk (Kd.R_drew HO252.out)
    have n2_:=Aside0.mk (Kd.R_drew HO259.out)
    have n3_:=Aside0.mk (Kd.R_drew HO263.out)
    have n4_:=Aside0.mk (blk_drew BK241.out)
    have n5_:=Aside0.mk (blk_drew BK260.out)
    have n6_:=Aside0.mk (below_drew1 HB.out)
    clear HO249
    clear HO252
    clear HO259
    clear HO263
    clear BK241
    clear BK260
    clear HB
    have HO249:=n0_
    have HO252:=n1_
    have HO259:=n2_
    have HO263:=n3_
    have BK241:=n4_
    have BK260:=n5_
    have HB:=n6_
    clear n0_ n1_ n2_ n3_ n4_ n5_ n6_
    refine start_ (n:=5) (S:=fun w'=>w'.cell? ⟨gb260,0,none⟩=some (.int .i64 t253)∧w'.cell? ⟨gb260,1,none⟩=some (.int .i64 t254)∧w'.cell? ⟨gb260,2,none⟩=some (.int .i64 t255)∧w'.cell? ⟨gb260,3,none⟩=some (.bool t256)∧w'.cell? ⟨gb260,4,none⟩=some (.slice Ao30 t257.length co30)∧w'.cell? ⟨gb241,0,none⟩=some (.int .i64 a0_0)∧w'.cell? ⟨gb241,1,none⟩=some (.int .i64 a0_1)∧w'.cell? ⟨gb241,2,none⟩=some (.int .i64 a0_2)∧w'.cell? ⟨gb241,3,none⟩=some (.bool a0_3)∧w'.cell? ⟨gb241,4,none⟩=some (.slice A0_4 l0_4.length c0_4)) (ds:=[]) (fl 5 0) (by kernel_rfl) rfl rfl ⟨(blk_cell BK260.out 0).trans rfl,(blk_cell BK260.out 1).trans rfl,(blk_cell BK260.out 2).trans rfl,(blk_cell BK260.out 3).trans rfl,(blk_cell BK260.out 4).trans rfl,(blk_cell BK241.out 0).trans rfl,(blk_cell BK241.out 1).trans rfl,(blk_cell BK241.out 2).trans rfl,(blk_cell BK241.out 3).trans rfl,(blk_cell BK241.out 4).trans rfl⟩ (fun hHeld=>?_)
    generalize w31.drew=w34 at HO249 HO252 HO259 HO263 BK241 BK260 HB hHeld ⊢
    refine ta 0 27 (fl 5 1) hHeld ?_
    refine ta 1 28 (fl 5 3) hHeld ?_
    refine on 2 (some 29) (fl 5 7) (fun K hK=>?_)
    refine goes_ Try.func36 (by kernel_rfl) rfl #[.agg #[.int .i64 a0_0,.int .i64 a0_1,.int .i64 a0_2,.bool a0_3,.slice A0_4 l0_4.length c0_4]] (by rfl) rfl rfl (by (try simp only [List.map_toArray,List.map_cons,List.map_nil]);first|done|rfl|(simp only [List.length_drop,List.length_take];rfl)) ?_
    with_reducible refine (laws_toFile.calls k a0_0 a0_1 a0_2 a0_3 _ _ l0_4 t265 t266 t267 t268 t269 _ ?side1 ?side2 A13.out).mono ?_
    (case side1=>exact rC HR0_4)
    (case side2=>exact HC0_4.out)
    rintro e w35 ⟨v270,rfl,ho0,hb⟩
    refine ⟨_,rfl,?_⟩
    have n0_:=Aside0.mk (Kd.R_elder' (rR HO249) (Kd.R_base ho0) hb)
    have n1_:=Aside0.mk (Kd.R_elder' (rR HO252) (Kd.R_base ho0) hb)
    have n2_:=Aside0.mk (Kd.R_elder' (rR HO259) (Kd.R_base ho0) hb)
    have n3_:=Aside0.mk (Kd.R_elder' (rR HO263) (Kd.R_base ho0) hb)
    have n4_:=Aside0.mk (Kd.R_lower (Kd.R_new' (Kd.R_new' (Kd.R_new' (Kd.R_new' ho0 (Kd.R_lt (rR HO249))) (Kd.R_lt (rR HO252))) (Kd.R_lt (rR HO259))) (Kd.R_lt (rR HO263))) (below_size be))
    have n5_:=Aside0.mk (blk_below (g:=gb241) (o:=.cells #[.int .i64 a0_0,.int .i64 a0_1,.int .i64 a0_2,.bool a0_3,.slice A0_4 l0_4.length c0_4] 56 (0,0)) (bk BK241) hb)
    have n6_:=Aside0.mk (blk_below (g:=gb260) (o:=.cells #[.int .i64 t253,.int .i64 t254,.int .i64 t255,.bool t256,.slice Ao30 t257.length co30] 61 (0,0)) (bk BK260) hb)
    have n7_:=bs hb
    clear HO249
    clear HO252
    clear HO259
    clear HO263
    clear BK241
    clear BK260
    clear HB
    have HO249:=n0_
    have HO252:=n1_
    have HO259:=n2_
    have HO263:=n3_
    have HO271:=n4_
    have BK241:=n5_
    have BK260:=n6_
    have HB:=n7_
    clear n0_ n1_ n2_ n3_ n4_ n5_ n6_ n7_
    (try clear hb)
    (try clear hb2)
    (try clear hk)
    (try clear hi)
    (try clear ho0)
    obtain ⟨Ao36,co36,eo36⟩:=Kd.R_slice HO271.out
    (first|subst eo36|(injection eo36 with f1_ f2_ f3_;have f4_:=f1_.symm;have f5_:=f3_.symm;clear f1_ f2_ f3_;subst f4_;subst f5_))
    refine hK.out _ _ ⟨(blk_cell BK260.out 0).trans rfl,(blk_cell BK260.out 1).trans rfl,(blk_cell BK260.out 2).trans rfl,(blk_cell BK260.out 3).trans rfl,(blk_cell BK260.out 4).trans rfl,(blk_cell BK241.out 0).trans rfl,(blk_cell BK241.out 1).trans rfl,(blk_cell BK241.out 2).trans rfl,(blk_cell BK241.out 3).trans rfl,(blk_cell BK241.out 4).trans rfl⟩ (fun hHeld=>?_)
    clear hK K
    refine no 29 ?_
    refine on 3 (some 30) (fl 5 15) (fun K hK=>?_)
    refine goes_ Try.func39 (by kernel_rfl) rfl #[.agg #[.int .i64 t253,.int .i64 t254,.int .i64 t255,.bool t256,.slice Ao30 t257.length co30],.agg #[.int .i64 t265,.int .i64 t266,.int .i64 t267,.bool t268,.slice Ao36 t269.length co36]] (by rfl) rfl rfl (by (try simp only [List.map_toArray,List.map_cons,List.map_nil]);first|done|rfl|(simp only [List.length_drop,List.length_take];rfl)) ?_
    with_reducible refine (laws_eqFile.calls k t253 t254 t255 t256 _ _ t257 t265 t266 t267 t268 _ _ t269 true _ ?side1 ?side2 ?side3 ?side4 A14.out).mono ?_
    (case side1=>exact sR HO259)
    (case side2=>exact (Kd.R_reads' HO259.out).2.1)
    (case side3=>exact sR HO271)
    (case side4=>exact (Kd.R_reads' HO271.out).2.1)
    rintro e w37 ⟨rfl,hb⟩
    refine ⟨_,rfl,?_⟩
    have n0_:=Aside0.mk (Kd.R_below ((rR HO249)) hb)
    have n1_:=Aside0.mk (Kd.R_below ((rR HO252)) hb)
    have n2_:=Aside0.mk (Kd.R_below ((rR HO259)) hb)
    have n3_:=Aside0.mk (Kd.R_below ((rR HO263)) hb)
    have n4_:=Aside0.mk (Kd.R_below ((rR HO271)) hb)
    have n5_:=Aside0.mk (blk_below (g:=gb241) (o:=.cells #[.int .i64 a0_0,.int .i64 a0_1,.int .i64 a0_2,.bool a0_3,.slice A0_4 l0_4.length c0_4] 56 (0,0)) (bk BK241) hb)
    have n6_:=Aside0.mk (blk_below (g:=gb260) (o:=.cells #[.int .i64 t253,.int .i64 t254,.int .i64 t255,.bool t256,.slice Ao30 t257.length co30] 61 (0,0)) (bk BK260) hb)
    have n7_:=bs hb
    clear HO249
    clear HO252
    clear HO259
    clear HO263
    clear HO271
    clear BK241
    clear BK260
    clear HB
    have HO249:=n0_
    have HO252:=n1_
    have HO259:=n2_
    have HO263:=n3_
    have HO271:=n4_
    have BK241:=n5_
    have BK260:=n6_
    have HB:=n7_
    clear n0_ n1_ n2_ n3_ n4_ n5_ n6_ n7_
    (try clear hb)
    (try clear hb2)
    (try clear hk)
    (try clear hi)
    refine hK.out _ _ ⟨(blk_cell BK260.out 0).trans rfl,(blk_cell BK260.out 1).trans rfl,(blk_cell BK260.out 2).trans rfl,(blk_cell BK260.out 3).trans rfl,(blk_cell BK260.out 4).trans rfl,(blk_cell BK241.out 0).trans rfl,(blk_cell BK241.out 1).trans rfl,(blk_cell BK241.out 2).trans rfl,(blk_cell BK241.out 3).trans rfl,(blk_cell BK241.out 4).trans rfl⟩ (fun hHeld=>?_)
    clear hK K
    refine no 30 ?_
    refine pu 4 31 (fl 5 31) ?_
    refine done_ (by kernel_rfl) ?_
    have hcz38_0:w37.cell? ⟨gb260,0,none⟩=some (.int .i64 t253):=(blk_cell BK260.out 0).trans rfl
    have hcz38_1:w37.cell? ⟨gb260,1,none⟩=some (.int .i64 t254):=(blk_cell BK260.out 1).trans rfl
    have hcz38_2:w37.cell? ⟨gb260,2,none⟩=some (.int .i64 t255):=(blk_cell BK260.out 2).trans rfl
    have hcz38_3:w37.cell? ⟨gb260,3,none⟩=some (.bool t256):=(blk_cell BK260.out 3).trans rfl
    have hcz38_4:w37.cell? ⟨gb260,4,none⟩=some (.slice Ao30 t257.length co30):=(blk_cell BK260.out 4).trans rfl
    have hfz38_0:=blk_frozen BK260.out 0
    have hfz38_1:=blk_frozen BK260.out 1
    have hfz38_2:=blk_frozen BK260.out 2
    have hfz38_3:=blk_frozen BK260.out 3
    have hfz38_4:=blk_frozen BK260.out 4
    go_upto_region 14 with (first|((with_reducible refine gate_callee (f:=40) rfl ?_);refine goesL_ (some 34) rfl rfl Try.func40 (by kernel_rfl) rfl #[.agg #[.int .i64 t253,.int .i64 t254,.int .i64 t255,.bool t256,.slice Ao30 t257.length co30],.int .i64 1] rfl (by (try simp only [List.map_toArray,List.map_cons,List.map_nil]);first|done|rfl|(simp only [List.length_drop,List.length_take];rfl)) ?_;(with_reducible refine (laws_markFile.calls k t253 t254 t255 t256 (fun k_=>some k_=(.slice Ao30 t257.length co30:Value).ownBlock) (.slice Ao30 t257.length co30) t257 1 t273 t274 w _ ?side1 ?side2 A16.out).mono ?_);(case side1=>exact be);(case side2=>exact Kd.R_tight rfl HO259.out);rintro e w39 ⟨rfl,hy0,hb,hkp⟩;refine ⟨_,rfl,?_⟩;have n0_:=Aside0.mk (blk_kept (bk BK241) hkp (fun hs_=>(fun e_=>(Kd.R_ne HO259.out BK241.out (by decide)) e_) hs_));have n1_:=Aside0.mk (Kd.R_mono (ok':=fun k_=>some k_ ≠ (.slice Ao33 t250.length co33:Value).ownBlock∧some k_ ≠ (.slice Ao30 t257.length co30:Value).ownBlock∧some k_ ≠ (.slice Ao32 t261.length co32:Value).ownBlock∧some k_ ≠ (.slice Ao36 t269.length co36:Value).ownBlock) (Kd.R_keptB (HO249.out) hkp (fun k_ hk_ hs_=>(hk_.1.1.2) hs_)) (fun k_ hk_=>⟨hk_.1.1.1.1.2,hk_.1.1.1.2,hk_.1.1.2,hk_.1.2⟩));have n2_:=Aside0.mk (Kd.R_mono (ok':=fun k_=>some k_ ≠ (.slice Ao23 t247.length co23:Value).ownBlock∧some k_ ≠ (.slice Ao30 t257.length co30:Value).ownBlock∧some k_ ≠ (.slice Ao32 t261.length co32:Value).ownBlock∧some k_ ≠ (.slice Ao36 t269.length co36:Value).ownBlock) (Kd.R_keptB (HO252.out) hkp (fun k_ hk_ hs_=>(hk_.1.1.2) hs_)) (fun k_ hk_=>⟨hk_.1.1.1.1.2,hk_.1.1.1.2,hk_.1.1.2,hk_.1.2⟩));have n3_:=Aside0.mk (Kd.R_reok rfl hy0 (fun k_ e_=>HO259.out.1 k_ e_));have n4_:=Aside0.mk (blk_kept (bk BK260) hkp (fun hs_=>(fun e_=>(Kd.R_ne HO259.out BK260.out (by decide)) e_) hs_));have n5_:=Aside0.mk (Kd.R_mono (ok':=fun k_=>some k_ ≠ (.slice Ao23 t247.length co23:Value).ownBlock∧some k_ ≠ (.slice Ao33 t250.length co33:Value).ownBlock∧some k_ ≠ (.slice Ao30 t257.length co30:Value).ownBlock∧some k_ ≠ (.slice Ao36 t269.length co36:Value).ownBlock) (Kd.R_keptB (HO263.out) hkp (fun k_ hk_ hs_=>(hk_.1.2) hs_)) (fun k_ hk_=>⟨hk_.1.1.1.1.2,hk_.1.1.1.2,hk_.1.1.2,hk_.1.2⟩));have n6_:=Aside0.mk (Kd.R_mono (ok':=fun k_=>some k_ ≠ (.slice Ao23 t247.length co23:Value).ownBlock∧some k_ ≠ (.slice Ao33 t250.length co33:Value).ownBlock∧some k_ ≠ (.slice Ao30 t257.length co30:Value).ownBlock∧some k_ ≠ (.slice Ao32 t261.length co32:Value).ownBlock) (Kd.R_keptB (HO271.out) hkp (fun k_ hk_ hs_=>(hk_.1.2) hs_)) (fun k_ hk_=>⟨hk_.1.1.1.1.2,hk_.1.1.1.2,hk_.1.1.2,hk_.1.2⟩));have n7_:=Aside0.mk (hb);clear BK241;clear HO249;clear HO252;clear HO259;clear BK260;clear HO263;clear HO271;clear HB;have BK241:=n0_;have HO249:=n1_;have HO252:=n2_;have HO259:=n3_;have BK260:=n4_;have HO263:=n5_;have HO271:=n6_;have HB:=n7_;clear n0_ n1_ n2_ n3_ n4_ n5_ n6_ n7_;(try clear hb);(try clear hkp);(try clear hy0)))
    (try simp only [Act.put,List.setIfInBounds_toArray,List.set_cons_zero,List.set_cons_succ])
    go_cut [42] (fun v42 wc=>∃ (kq:Nat) (x42_16:Bool),v42 = .bool x42_16∧Aside0 (laws_FnExactPutFile.j0 kq t250 t261 x42_16 a0_0 a0_1 a0_2 a0_3 l0_4=some r)∧Aside0 (kq≤k)∧Aside0 (Kd.R (Kd.int .u8) 5 wc w.heap.size (fun k_=>some k_ ≠ ((.slice Ao32 t261.length co32):Value).ownBlock∧some k_ ≠ ((.slice Ao30 t257.length co30):Value).ownBlock) (.slice Ao33 t250.length co33) t250)∧Aside0 (Kd.R (Kd.int .u8) 5 wc w.heap.size (fun k_=>some k_ ≠ ((.slice Ao33 t250.length co33):Value).ownBlock∧some k_ ≠ ((.slice Ao30 t257.length co30):Value).ownBlock) (.slice Ao32 t261.length co32) t261)∧Aside0 (Kd.R (Kd.int .u8) 5 wc w.heap.size (fun k_=>some k_ ≠ ((.slice Ao33 t250.length co33):Value).ownBlock∧some k_ ≠ ((.slice Ao32 t261.length co32):Value).ownBlock) (.slice Ao30 t257.length co30) t274)∧Aside0 (wc.heap[gb241]?=some (.cells #[.int .i64 a0_0,.int .i64 a0_1,.int .i64 a0_2,.bool a0_3,(.slice A0_4 l0_4.length c0_4)] 56 (0,0)))∧Aside0 (wc.heap[gb260]?=some (.cells #[.int .i64 t253,.int .i64 t254,.int .i64 t255,.bool t256,(.slice Ao30 t257.length co30)] 61 (0,0)))∧Aside0 (Below w.heap.size w wc))
    case first=>
     have H:=HC17.out
     clear HC17
     by_cases c40:t273 < 0
     ·rw [if_pos c40] at H
      have c40b0:decide (t273 < 0)=true:=decide_eq_true c40
      clear c40
      (first|rw [c40b0]|(simp only [i64_w,i32_w];rw [c40b0])|skip)
      have H':=Aside0.mk H
      clear H
      go_wp2
      go_meet
      case rel=>exact ⟨_,(true),rd_,H',⟨by first|omega|exact Nat.le_refl _⟩,⟨by (with_reducible repeat (first|apply Kd.R_alloc|apply Kd.R_drewN|apply Kd.R_drew));exact Kd.R_mono HO252.out (fun _ hk=>⟨hk.2.2.1,hk.2.1⟩)⟩,⟨by (with_reducible repeat (first|apply Kd.R_alloc|apply Kd.R_drewN|apply Kd.R_drew));exact Kd.R_mono HO263.out (fun _ hk=>⟨hk.2.1,hk.2.2.1⟩)⟩,⟨by (with_reducible repeat (first|apply Kd.R_alloc|apply Kd.R_drewN|apply Kd.R_drew));exact Kd.R_mono HO259.out (fun _ hk=>⟨hk.1.1.2,hk.1.2⟩)⟩,⟨bk BK241⟩,⟨bk BK260⟩,⟨be⟩⟩
     ·rw [if_neg c40] at H
      have c40b0:decide (t273 < 0)=false:=decide_eq_false c40
      clear c40
      (first|rw [c40b0]|(simp only [i64_w,i32_w];rw [c40b0])|skip)
      replace H:=Option.bind_eq_some_iff.mp H
      obtain ⟨t275,A410,H⟩:=H
      try dsimp only at H
      have A41:=Aside0.mk A410
      clear A410
      have H':=Aside0.mk H
      clear H
      go_wp2_with (first|(go_at_call 38;(with_reducible refine (laws_eqByteS.calls k _ _ t261 _ _ t250 t275 _ ?side1 ?side2 ?side3 ?side4 A41.out).mono ?_);(case side1=>exact sR HO263);(case side2=>exact (Kd.R_reads' HO263.out).2.1);(case side3=>exact sR HO252);(case side4=>exact (Kd.R_reads' HO252.out).2.1);rintro e w' ⟨rfl,⟨nd,rfl⟩⟩))
      go_meet
      case rel=>exact ⟨_,(!t275),rd_,H',⟨by first|omega|exact Nat.le_refl _⟩,⟨by (with_reducible repeat (first|apply Kd.R_alloc|apply Kd.R_drewN|apply Kd.R_drew));exact Kd.R_mono HO252.out (fun _ hk=>⟨hk.2.2.1,hk.2.1⟩)⟩,⟨by (with_reducible repeat (first|apply Kd.R_alloc|apply Kd.R_drewN|apply Kd.R_drew));exact Kd.R_mono HO263.out (fun _ hk=>⟨hk.2.1,hk.2.2.1⟩)⟩,⟨by (with_reducible repeat (first|apply Kd.R_alloc|apply Kd.R_drewN|apply Kd.R_drew));exact Kd.R_mono HO259.out (fun _ hk=>⟨hk.1.1.2,hk.1.2⟩)⟩,⟨bk BK241⟩,⟨bk BK260⟩,⟨be⟩⟩
    case rest=>
     clear HC17
     try clear c1
     try clear c2
     try clear p2
     try clear c3
     try clear c3b0
     try clear c4
     try clear c6
     try clear c12
     try clear c15
     try clear c28
     try clear c34
     try clear c35
     try clear c36
     try clear c37
     try clear c38
     try clear c39
     try clear c40
     try clear c40b0
     try clear hcz19_0
     try clear hcz19_1
     try clear hcz19_2
     try clear hcz19_3
     try clear hcz19_4
     try clear hcz21_0
     try clear hcz21_1
     try clear hcz21_2
     try clear hcz21_3
     try clear hcz21_4
     try clear hcz25_0
     try clear hcz25_1
     try clear hcz25_2
     try clear hcz25_3
     try clear hcz25_4
     try clear hcz29_0
     try clear hcz29_1
     try clear hcz29_2
     try clear hcz29_3
     try clear hcz29_4
     try clear hcz38_0
     try clear hcz38_1
     try clear hcz38_2
     try clear hcz38_3
     try clear hcz38_4
     try clear hcz5_0
     try clear hcz5_1
     try clear hcz5_2
     try clear hcz5_3
     try clear hcz5_4
     try clear hfz19_0
     try clear hfz19_1
     try clear hfz19_2
     try clear hfz19_3
     try clear hfz19_4
     try clear hfz21_0
     try clear hfz21_1
     try clear hfz21_2
     try clear hfz21_3
     try clear hfz21_4
     try clear hfz25_0
     try clear hfz25_1
     try clear hfz25_2
     try clear hfz25_3
     try clear hfz25_4
     try clear hfz29_0
     try clear hfz29_1
     try clear hfz29_2
     try clear hfz29_3
     try clear hfz29_4
     try clear hfz38_0
     try clear hfz38_1
     try clear hfz38_2
     try clear hfz38_3
     try clear hfz38_4
     try clear hfz5_0
     try clear hfz5_1
     try clear hfz5_2
     try clear hfz5_3
     try clear hfz5_4
     obtain ⟨kq,x42_16,rfl,HA,HJ16,HO_4,HO_6,HO_261004,BK241,BK260,HB⟩:=hcut
     have hl261004_16:=(Kd.R_reads' HO_261004.out).1
     rw [hl261004_16] at HO_261004
     (try simp only [hl261004_16])
     (try simp only [hl261004_16] at BK241)
     (try simp only [hl261004_16] at BK260)
     (try simp only [hl261004_16] at HO_4)
     (try simp only [hl261004_16] at HO_6)
     cases kq with
     | zero=>exact absurd HA.out (by simp [laws_FnExactPutFile.j0])
     | succ kj16=>
      have H:=HA.out
      clear HA
      simp only [laws_FnExactPutFile.j0] at H
      by_cases c42:x42_16=true
      ·subst c42
       rw [if_pos rfl] at H
       exact absurd ((Option.some.inj H).trans hr_.out) (by decide)
      ·replace c42:=Bool.eq_false_iff.mpr c42
       subst c42
       have H1:((laws_markByteS.f kj16 t261 1).bind fun bt276=>((laws_heldByteS.f kj16 bt276.2 1).bind fun t278=>(if t278 < 0 then (some false) else (if t278=bt276.1 then ((laws_toFile.f kj16 a0_0 a0_1 a0_2 a0_3 l0_4).bind fun bt279=>((impl_PutFile.f kj16 bt279.1 bt279.2.1 bt279.2.2.1 bt279.2.2.2.1 bt279.2.2.2.2).bind fun t286=>((laws_eqByteS.f kj16 t286 t250).bind fun t289=>(if t289=true then ((laws_heldByteS.f kj16 bt276.2 1).bind fun t290=>(if t290 < 0 then (some false) else (if t290=bt276.1 then (some true) else (some false)))) else (some false))))) else (some false)))))=some r:=by rw [if_neg (show ¬ (false=true) by decide)] at H;exact H
       clear H
       have H:=H1
       clear H1
       replace H:=Option.bind_eq_some_iff.mp H
       obtain ⟨⟨t276,t277⟩,A430,H⟩:=H
       try dsimp only at H
       have A43:=Aside0.mk A430
       clear A430
       replace H:=Option.bind_eq_some_iff.mp H
       obtain ⟨t278,A440,H⟩:=H
       try dsimp only at H
       have A44:=Aside0.mk A440
       clear A440
       by_cases c45:t278 < 0
       ·rw [if_pos c45] at H
        have c45b0:decide (t278 < 0)=true:=decide_eq_true c45
        clear c45
        exact absurd ((Option.some.inj H).trans hr_.out) (by decide)
       ·rw [if_neg c45] at H
        have c45b0:decide (t278 < 0)=false:=decide_eq_false c45
        clear c45
        by_cases c46:t278=t276
        ·rw [if_pos c46] at H
         have c46b0:(t278 == t276)=true:=beq_iff_eq.mpr c46
         have c46b1:(t278 != t276)=false:=bne_eq_false_iff_eq.mpr c46
         clear c46
         replace H:=Option.bind_eq_some_iff.mp H
         obtain ⟨⟨t279,t280,t281,t282,t283⟩,A470,H⟩:=H
         try dsimp only at H
         have A47:=Aside0.mk A470
         clear A470
         replace H:=Option.bind_eq_some_iff.mp H
         obtain ⟨t286,A480,H⟩:=H
         try dsimp only at H
         have A48:=Aside0.mk A480
         clear A480
         replace H:=Option.bind_eq_some_iff.mp H
         obtain ⟨t289,A490,H⟩:=H
         try dsimp only at H
         have A49:=Aside0.mk A490
         clear A490
         by_cases c50:t289=true
         ·subst c50
          rw [if_pos rfl] at H
          replace H:=Option.bind_eq_some_iff.mp H
          obtain ⟨t290,A510,H⟩:=H
          try dsimp only at H
          have A51:=Aside0.mk A510
          clear A510
          by_cases c52:t290 < 0
          ·rw [if_pos c52] at H
           have c52b0:decide (t290 < 0)=true:=decide_eq_true c52
           clear c52
           exact absurd ((Option.some.inj H).trans hr_.out) (by decide)
          ·rw [if_neg c52] at H
           have c52b0:decide (t290 < 0)=false:=decide_eq_false c52
           clear c52
           by_cases c53:t290=t276
           ·rw [if_pos c53] at H
            have c53b0:(t290 == t276)=true:=beq_iff_eq.mpr c53
            have c53b1:(t290 != t276)=false:=bne_eq_false_iff_eq.mpr c53
            clear c53
            obtain rfl:=Option.some.inj H
            go_wp2_with (first|((with_reducible refine gate_callee (f:=41) rfl ?_);refine goesL_ (some 45) rfl rfl Try.func41 (by kernel_rfl) rfl #[.slice Ao32 t261.length co32,.int .i64 1] rfl (by (try simp only [List.map_toArray,List.map_cons,List.map_nil]);first|done|rfl|(simp only [List.length_drop,List.length_take];rfl)) ?_;(with_reducible refine (laws_markByteS.calls kj16 (fun k_=>some k_=(.slice Ao32 t261.length co32:Value).ownBlock) (.slice Ao32 t261.length co32) t261 1 t276 t277 w _ ?side1 ?side2 A43.out).mono ?_);(case side1=>exact be);(case side2=>exact Kd.R_tight rfl HO_6.out);rintro e w54 ⟨rfl,hy0,hb,hkp⟩;refine ⟨_,rfl,?_⟩;have n0_:=Aside0.mk (Kd.R_mono (ok':=fun k_=>some k_ ≠ (.slice Ao32 t261.length co32:Value).ownBlock∧some k_ ≠ (.slice Ao30 t274.length co30:Value).ownBlock) (Kd.R_keptB (HO_4.out) hkp (fun k_ hk_ hs_=>(hk_.1) hs_)) (fun k_ hk_=>⟨hk_.1.1,hk_.1.2⟩));have n1_:=Aside0.mk (Kd.R_reok rfl hy0 (fun k_ e_=>HO_6.out.1 k_ e_));have n2_:=Aside0.mk (Kd.R_mono (ok':=fun k_=>some k_ ≠ (.slice Ao33 t250.length co33:Value).ownBlock∧some k_ ≠ (.slice Ao32 t261.length co32:Value).ownBlock) (Kd.R_keptB (HO_261004.out) hkp (fun k_ hk_ hs_=>(hk_.2) hs_)) (fun k_ hk_=>⟨hk_.1.1,hk_.1.2⟩));have n3_:=Aside0.mk (blk_kept (bk BK241) hkp (fun hs_=>(fun e_=>(Kd.R_ne HO_6.out BK241.out (by decide)) e_) hs_));have n4_:=Aside0.mk (blk_kept (bk BK260) hkp (fun hs_=>(fun e_=>(Kd.R_ne HO_6.out BK260.out (by decide)) e_) hs_));have n5_:=Aside0.mk (hb);clear HO_4;clear HO_6;clear HO_261004;clear BK241;clear BK260;clear HB;have HO_4:=n0_;have HO_6:=n1_;have HO_261004:=n2_;have BK241:=n3_;have BK260:=n4_;have HB:=n5_;clear n0_ n1_ n2_ n3_ n4_ n5_;(try clear hb);(try clear hkp);(try clear hy0))|((with_reducible refine gate_callee (f:=42) rfl ?_);refine goesL_ (some 48) rfl rfl Try.func42 (by kernel_rfl) rfl #[.slice Ao32 t277.length co32,.int .i64 1] rfl (by (try simp only [List.map_toArray,List.map_cons,List.map_nil]);first|done|(rw [show t277.length=t261.length from (Kd.R_reads' HO_6.out).1.symm] <;> rfl)|rfl|(simp only [List.length_drop,List.length_take];rfl)) ?_;(with_reducible refine (laws_heldByteS.calls kj16 _ _ t277 1 t278 _ ?side1 ?side2 A44.out).mono ?_);(case side1=>exact sR HO_6);(case side2=>rw [show t277.length=t261.length from (Kd.R_reads' HO_6.out).1.symm];exact (Kd.R_reads' HO_6.out).2.1);rintro e w' ⟨rfl,⟨nd,rfl⟩⟩;refine ⟨_,rfl,?_⟩;have hnb55:=NB241_260.out;have hnc55:=NB260_241.out;have hcz56_0:w54.cell? ⟨gb241,0,none⟩=some (.int .i64 a0_0):=(blk_cell BK241.out 0).trans rfl;have hcz56_1:w54.cell? ⟨gb241,1,none⟩=some (.int .i64 a0_1):=(blk_cell BK241.out 1).trans rfl;have hcz56_2:w54.cell? ⟨gb241,2,none⟩=some (.int .i64 a0_2):=(blk_cell BK241.out 2).trans rfl;have hcz56_3:w54.cell? ⟨gb241,3,none⟩=some (.bool a0_3):=(blk_cell BK241.out 3).trans rfl;have hcz56_4:w54.cell? ⟨gb241,4,none⟩=some (.slice A0_4 l0_4.length c0_4):=(blk_cell BK241.out 4).trans rfl;have hfz56_0:=blk_frozen BK241.out 0;have hfz56_1:=blk_frozen BK241.out 1;have hfz56_2:=blk_frozen BK241.out 2;have hfz56_3:=blk_frozen BK241.out 3;have hfz56_4:=blk_frozen BK241.out 4)|((with_reducible refine gate_callee (f:=36) rfl ?_);refine goesL_ (some 55) rfl rfl Try.func36 (by kernel_rfl) rfl #[.agg #[.int .i64 a0_0,.int .i64 a0_1,.int .i64 a0_2,.bool a0_3,.slice A0_4 l0_4.length c0_4]] rfl (by (try simp only [List.map_toArray,List.map_cons,List.map_nil]);first|done|rfl|(simp only [List.length_drop,List.length_take];rfl)) ?_;(with_reducible refine (laws_toFile.calls kj16 a0_0 a0_1 a0_2 a0_3 _ _ l0_4 t279 t280 t281 t282 t283 _ ?side1 ?side2 A47.out).mono ?_);(case side1=>exact rC HR0_4);(case side2=>exact HC0_4.out);rintro e w57 ⟨v284,rfl,ho0,hb⟩;refine ⟨_,rfl,?_⟩;have n0_:=Aside0.mk (Kd.R_elder' (rR HO_4) (Kd.R_base ho0) hb);have n1_:=Aside0.mk (Kd.R_elder' (rR HO_6) (Kd.R_base ho0) hb);have n2_:=Aside0.mk (Kd.R_elder' (rR HO_261004) (Kd.R_base ho0) hb);have n3_:=Aside0.mk (Kd.R_lower (Kd.R_new' (Kd.R_new' (Kd.R_new' ho0 (Kd.R_lt (rR HO_4))) (Kd.R_lt (rR HO_6))) (Kd.R_lt (rR HO_261004))) (below_size be));have n4_:=Aside0.mk (blk_below (g:=gb241) (o:=.cells #[.int .i64 a0_0,.int .i64 a0_1,.int .i64 a0_2,.bool a0_3,.slice A0_4 l0_4.length c0_4] 56 (0,0)) (bk BK241) hb);have n5_:=Aside0.mk (blk_below (g:=gb260) (o:=.cells #[.int .i64 t253,.int .i64 t254,.int .i64 t255,.bool t256,.slice Ao30 t274.length co30] 61 (0,0)) (bk BK260) hb);have n6_:=bs hb;clear HO_4;clear HO_6;clear HO_261004;clear BK241;clear BK260;clear HB;have HO_4:=n0_;have HO_6:=n1_;have HO_261004:=n2_;have HO285:=n3_;have BK241:=n4_;have BK260:=n5_;have HB:=n6_;clear n0_ n1_ n2_ n3_ n4_ n5_ n6_;(try clear hb);(try clear hb2);(try clear hk);(try clear hi);(try clear ho0);obtain ⟨Ao58,co58,eo58⟩:=Kd.R_slice HO285.out;subst eo58)|((with_reducible refine gate_callee (f:=37) rfl ?_);refine goesL_ (some 56) rfl rfl Try.func37 (by kernel_rfl) rfl #[.agg #[.int .i64 t279,.int .i64 t280,.int .i64 t281,.bool t282,.slice Ao58 t283.length co58]] rfl (by (try simp only [List.map_toArray,List.map_cons,List.map_nil]);first|done|rfl|(simp only [List.length_drop,List.length_take];rfl)) ?_;(with_reducible refine (impl_PutFile.calls kj16 t279 t280 t281 t282 _ _ t283 t286 _ ?side1 ?side2 A48.out).mono ?_);(case side1=>exact sR HO285);(case side2=>exact (Kd.R_reads' HO285.out).2.1);rintro e w59 ⟨v287,rfl,ho0,hb⟩;refine ⟨_,rfl,?_⟩;have n0_:=Aside0.mk (Kd.R_elder' (rR HO_4) (Kd.R_base ho0) hb);have n1_:=Aside0.mk (Kd.R_elder' (rR HO_6) (Kd.R_base ho0) hb);have n2_:=Aside0.mk (Kd.R_elder' (rR HO_261004) (Kd.R_base ho0) hb);have n3_:=Aside0.mk (Kd.R_elder' (rR HO285) (Kd.R_base ho0) hb);have n4_:=Aside0.mk (Kd.R_lower (Kd.R_new' (Kd.R_new' (Kd.R_new' (Kd.R_new' ho0 (Kd.R_lt (rR HO_4))) (Kd.R_lt (rR HO_6))) (Kd.R_lt (rR HO_261004))) (Kd.R_lt (rR HO285))) (below_size be));have n5_:=Aside0.mk (blk_below (g:=gb241) (o:=.cells #[.int .i64 a0_0,.int .i64 a0_1,.int .i64 a0_2,.bool a0_3,.slice A0_4 l0_4.length c0_4] 56 (0,0)) (bk BK241) hb);have n6_:=Aside0.mk (blk_below (g:=gb260) (o:=.cells #[.int .i64 t253,.int .i64 t254,.int .i64 t255,.bool t256,.slice Ao30 t274.length co30] 61 (0,0)) (bk BK260) hb);have n7_:=bs hb;clear HO_4;clear HO_6;clear HO_261004;clear HO285;clear BK241;clear BK260;clear HB;have HO_4:=n0_;have HO_6:=n1_;have HO_261004:=n2_;have HO285:=n3_;have HO288:=n4_;have BK241:=n5_;have BK260:=n6_;have HB:=n7_;clear n0_ n1_ n2_ n3_ n4_ n5_ n6_ n7_;(try clear hb);(try clear hb2);(try clear hk);(try clear hi);(try clear ho0);obtain ⟨Ao60,co60,eo60⟩:=Kd.R_slice HO288.out;subst eo60)|((with_reducible refine gate_callee (f:=38) rfl ?_);refine goesL_ (some 59) rfl rfl Try.func38 (by kernel_rfl) rfl #[.slice Ao60 t286.length co60,.slice Ao33 t250.length co33] rfl (by (try simp only [List.map_toArray,List.map_cons,List.map_nil]);first|done|rfl|(simp only [List.length_drop,List.length_take];rfl)) ?_;(with_reducible refine (laws_eqByteS.calls kj16 _ _ t286 _ _ t250 true _ ?side1 ?side2 ?side3 ?side4 A49.out).mono ?_);(case side1=>exact sR HO288);(case side2=>exact (Kd.R_reads' HO288.out).2.1);(case side3=>exact sR HO_4);(case side4=>exact (Kd.R_reads' HO_4.out).2.1);rintro e w' ⟨rfl,⟨nd,rfl⟩⟩;refine ⟨_,rfl,?_⟩)|((with_reducible refine gate_callee (f:=42) rfl ?_);refine goesL_ (some 63) rfl rfl Try.func42 (by kernel_rfl) rfl #[.slice Ao32 t277.length co32,.int .i64 1] rfl (by (try simp only [List.map_toArray,List.map_cons,List.map_nil]);first|done|(rw [show t277.length=t261.length from (Kd.R_reads' HO_6.out).1.symm] <;> rfl)|rfl|(simp only [List.length_drop,List.length_take];rfl)) ?_;(with_reducible refine (laws_heldByteS.calls kj16 _ _ t277 1 t290 _ ?side1 ?side2 A51.out).mono ?_);(case side1=>exact sR HO_6);(case side2=>rw [show t277.length=t261.length from (Kd.R_reads' HO_6.out).1.symm];exact (Kd.R_reads' HO_6.out).2.1);rintro e w' ⟨rfl,⟨nd,rfl⟩⟩;refine ⟨_,rfl,?_⟩))
            go_ret
            exact ⟨rz,be⟩
           ·rw [if_neg c53] at H
            have c53b0:(t290 == t276)=false:=beq_eq_false_iff_ne.mpr c53
            have c53b1:(t290 != t276)=true:=bne_iff_ne.mpr c53
            exact absurd ((Option.some.inj H).trans hr_.out) (by decide)
         ·replace c50:=Bool.eq_false_iff.mpr c50
          subst c50
          have H1:(some false)=some r:=by rw [if_neg (show ¬ (false=true) by decide)] at H;exact H
          clear H
          have H:=H1
          clear H1
          exact absurd ((Option.some.inj H).trans hr_.out) (by decide)
        ·rw [if_neg c46] at H
         have c46b0:(t278 == t276)=false:=beq_eq_false_iff_ne.mpr c46
         have c46b1:(t278 != t276)=true:=bne_iff_ne.mpr c46
         exact absurd ((Option.some.inj H).trans hr_.out) (by decide)
   ·replace c15:=Bool.eq_false_iff.mpr c15
    subst c15
    have H1:(some false)=some r:=by rw [if_neg (show ¬ (false=true) by decide)] at H;exact H
    clear H
    have H:=H1
    clear H1
    exact absurd ((Option.some.inj H).trans hr_.out) (by decide)
  ·replace c12:=Bool.eq_false_iff.mpr c12
   subst c12
   have H1:(some false)=some r:=by rw [if_neg (show ¬ (false=true) by decide)] at H;exact H
   clear H
   have H:=H1
   clear H1
   exact absurd ((Option.some.inj H).trans hr_.out) (by decide)
end Go.Proofs.Ytbhllgifciaepaa.PFnExactPutFile
