/- Trimmed by a program of this session (trim.py). Not trusted: Lean checks it. -/
import Derived.Test.YtnoglmdicdpabaaDoorTLStampOrderPFnStampOrderx0
import Derived.Test.YtnoglmdicdpabaaDoorTLStampOrderPFnStampOrderx2
namespace Go.Proofs.YtnoglmdicdpabaaDoor.PFnStampOrder
open Go.RowKit Go.Proofs.YtnoglmdicdpabaaDoorW.PrintWords Go.Proofs.YtnoglmdicdpabaaDoorW.PrintLast Go.Proofs.YtnoglmdicdpabaaDoorW.PrintMore Go.Proofs.YtnoglmdicdpabaaDoor.St
attribute [local go_sem] max2_int min2_int max_two min_two max_three min_three max_four min_four
set_option linter.unusedVariables false
set_option linter.unusedSimpArgs false
def impl_ParseStamp.f (k:Nat) (a0:ByteArray):Option (Int × Int × Int × Bool):=(impl_numbersOf.f k a0 (⟨#[46]⟩:ByteArray) 3).bind fun bt121=>(if bt121.2=true then (if 0 < (bt121.1.length:Int) then (if 1 < (bt121.1.length:Int) then (if 2 < (bt121.1.length:Int) then ((impl_StampOk.f (rd bt121.1 0) (rd bt121.1 1) (rd bt121.1 2)).bind fun t129=>(if t129=true then ((impl_StampText.f (rd bt121.1 0) (rd bt121.1 1) (rd bt121.1 2)).bind fun t130=>(if t130.toList=a0.toList then (some (rd bt121.1 0,rd bt121.1 1,rd bt121.1 2,true)) else (some (0,0,0,false)))) else (some (0,0,0,false)))) else (none)) else (none)) else (none)) else (some (0,0,0,false)))
def impl_ParseStamp.T4:Bool × List (List Nat × List Nat):=(true,[([],[]),([0],[0]),([1],[1]),([],[]),([3],[3]),([4],[4]),([],[]),([6],[6]),([7],[7]),([2,5,8],[2,5,8]),([],[]),([10,9,0,1,2,3,4,5,6,7,8,9,10],[9,10])])
def impl_ParseStamp.B4:List Nat:=[0,1,3,0,8,24,0,64,192,511,0,2047]
theorem impl_ParseStamp.tab4:rtab .any (opsOf Tryd.f20 4)=impl_ParseStamp.T4:=by kernel_rfl
theorem impl_ParseStamp.bits4:waitsOk impl_ParseStamp.T4.2 impl_ParseStamp.B4=true:=by kernel_rfl
set_option maxHeartbeats 8000000 in
set_option maxRecDepth 100000 in
theorem impl_ParseStamp.calls (k:Nat) (a0:ByteArray) (r1:Int) (r2:Int) (r3:Int) (r4:Bool) (w:World) (hL:Aside0 (Laid w)) (h:impl_ParseStamp.f k a0=some (r1,r2,r3,r4)) :
  Calls Tryd.prog 20 #[.string a0] w fun e w'=>e = .returned (.tuple #[.agg #[.int .i64 r1,.int .i64 r2,.int .i64 r3],.bool r4])∧Below w.heap.size w w':=by
 have hu25:=Tryd.underlying25
 have HB:=Aside0.mk (Below.refl w.heap.size w)
 have H:((impl_numbersOf.f k a0 (⟨#[46]⟩:ByteArray) 3).bind fun bt121=>(if bt121.2=true then (if 0 < (bt121.1.length:Int) then (if 1 < (bt121.1.length:Int) then (if 2 < (bt121.1.length:Int) then ((impl_StampOk.f (rd bt121.1 0) (rd bt121.1 1) (rd bt121.1 2)).bind fun t129=>(if t129=true then ((impl_StampText.f (rd bt121.1 0) (rd bt121.1 1) (rd bt121.1 2)).bind fun t130=>(if t130.toList=a0.toList then (some (rd bt121.1 0,rd bt121.1 1,rd bt121.1 2,true)) else (some (0,0,0,false)))) else (some (0,0,0,false)))) else (none)) else (none)) else (none)) else (some (0,0,0,false))))=some (r1,r2,r3,r4):=h
 clear h
 replace H:=Option.bind_eq_some_iff.mp H
 obtain ⟨⟨t121,t122⟩,A20,H⟩:=H
 try dsimp only at H
 have A2:=Aside0.mk A20
 clear A20
 by_cases c3:t122=true
 ·subst c3
  rw [if_pos rfl] at H
  by_cases c4:0 < (t121.length:Int)
  ·rw [if_pos c4] at H
   have c4b0:decide (0 < (t121.length:Int))=true:=decide_eq_true c4
   have c4b1:decide (0 < t121.length)=true:=decide_eq_true (by omega)
   clear c4
   by_cases c5:1 < (t121.length:Int)
   ·rw [if_pos c5] at H
    have c5b0:decide (1 < (t121.length:Int))=true:=decide_eq_true c5
    have c5b1:decide (1 < t121.length)=true:=decide_eq_true (by omega)
    clear c5
    by_cases c6:2 < (t121.length:Int)
    ·rw [if_pos c6] at H
     have c6b0:decide (2 < (t121.length:Int))=true:=decide_eq_true c6
     have c6b1:decide (2 < t121.length)=true:=decide_eq_true (by omega)
     clear c6
     replace H:=Option.bind_eq_some_iff.mp H
     obtain ⟨t129,A70,H⟩:=H
     try dsimp only at H
     have A7:=Aside0.mk A70
     clear A70
     by_cases c8:t129=true
     ·subst c8
      rw [if_pos rfl] at H
      replace H:=Option.bind_eq_some_iff.mp H
      obtain ⟨t130,A90,H⟩:=H
      try dsimp only at H
      have A9:=Aside0.mk A90
      clear A90
      by_cases c10:t130.toList=a0.toList
      ·rw [if_pos c10] at H
       have c10b0:(t130.toList == a0.toList)=true:=beq_iff_eq.mpr c10
       have c10b1:(t130.toList != a0.toList)=false:=bne_eq_false_iff_eq.mpr c10
       clear c10
       simp only [Option.some.injEq,Prod.mk.injEq] at H
       obtain ⟨rfl,rfl,rfl,rfl⟩:=H
       go_enter Tryd.func20,Tryd.ntmps20
       try go_wp2_with (first|((with_reducible refine gate_dst (N:=2) rfl ?_);refine box_event ?hg (N:=2) ?hd (cs:=#[.int .i64 0,.int .i64 0,.int .i64 0]) (t:=25) ?hr ?_;(case hd=>rfl);(case hg=>rfl);(case hr=>first|(go_simp;done)|(go_simp;rfl));intro gb120 hg w11 hbox hb;have n0_:=bs hb;have n1_:=Aside0.mk (hbox);have n2_:=Aside0.mk ((by rw [hg];exact (below_size be):w.heap.size≤gb120));have n3_:=Aside0.mk ((by rw [hg];exact (below_size be):w.heap.size≤gb120));clear HB;have HB:=n0_;have BK120:=n1_;have GW120:=n2_;have GE120:=n3_;clear n0_ n1_ n2_ n3_;clear hb hbox hg)|((with_reducible refine gate_callee (f:=48) rfl ?_);refine goesL_ (some 9) rfl rfl Tryd.func48 (by kernel_rfl) rfl #[.string a0,.string (⟨#[46]⟩:ByteArray),.int .i64 3] rfl (by (try simp only [List.map_toArray,List.map_cons,List.map_nil]);first|done|rfl|(simp only [List.length_drop,List.length_take];rfl)) ?_;(with_reducible refine (impl_numbersOf.calls k a0 (⟨#[46]⟩:ByteArray) 3 t121 true _ ?side1 A2.out).mono ?_);(case side1=>exact lb hL);rintro e w12 ⟨v123,rfl,ho0,hb⟩;refine ⟨_,rfl,?_⟩;have n0_:=Aside0.mk (Kd.R_lower ho0 (below_size be));have n1_:=Aside0.mk (blk_below (g:=gb120) (o:=.cells #[.int .i64 0,.int .i64 0,.int .i64 0] 25 (0,0)) (bk BK120) hb);have n2_:=bs hb;clear BK120;clear HB;have HO124:=n0_;have BK120:=n1_;have HB:=n2_;clear n0_ n1_ n2_;(try clear hb);(try clear hb2);(try clear hk);(try clear hi);(try clear ho0)))
       have n0_:=Aside0.mk (Kd.R_drew HO124.out)
       have n1_:=Aside0.mk (blk_drew BK120.out)
       have n2_:=Aside0.mk (below_drew1 HB.out)
       clear HO124
       clear BK120
       clear HB
       have HO124:=n0_
       have BK120:=n1_
       have HB:=n2_
       clear n0_ n1_ n2_
       obtain ⟨Ao14,co14,eo14⟩:=Kd.R_slice HO124.out
       (first|subst eo14|(injection eo14 with f1_ f2_ f3_;have f4_:=f1_.symm;have f5_:=f3_.symm;clear f1_ f2_ f3_;subst f4_;subst f5_))
       have p125:0≤(0:Int):=(by omega)
       have q125:0 < (t121.length:Int):=of_decide_eq_true (by first|(with_reducible assumption)|assumption)
       obtain ⟨ad125,e125,hx125_0⟩:=Kd.at_int (Kd.R_reads' HO124.out).2.2 0 p125 q125
       cases e125
       have qi125:(0 < t121.length)=True:=eq_true (by omega)
       (try rw [show ((0:Int)).toNat=0 from rfl] at hx125_0)
       (try rw [Addr.add_zero'] at hx125_0)
       replace p125:=eq_true p125
       replace q125:=eq_true q125
       have p126:0≤(1:Int):=(by omega)
       have q126:1 < (t121.length:Int):=of_decide_eq_true (by first|(with_reducible assumption)|assumption)
       obtain ⟨ad126,e126,hx126_0⟩:=Kd.at_int (Kd.R_reads' HO124.out).2.2 1 p126 q126
       obtain rfl:ad125=ad126:=(by injection e126)
       (try simp only [show (1:Int).toNat=1 from rfl,Nat.reduceMul,Nat.reduceEqDiff,Go.Addr.add,↓reduceIte] at hx126_0)
       have qi126:(1 < t121.length)=True:=eq_true (by omega)
       (try rw [show ((1:Int)).toNat=1 from rfl] at hx126_0)
       replace p126:=eq_true p126
       replace q126:=eq_true q126
       have p127:0≤(2:Int):=(by omega)
       have q127:2 < (t121.length:Int):=of_decide_eq_true (by first|(with_reducible assumption)|assumption)
       obtain ⟨ad127,e127,hx127_0⟩:=Kd.at_int (Kd.R_reads' HO124.out).2.2 2 p127 q127
       obtain rfl:ad125=ad127:=(by injection e127)
       (try simp only [show (2:Int).toNat=2 from rfl,Nat.reduceMul,Nat.reduceEqDiff,Go.Addr.add,↓reduceIte] at hx127_0)
       have qi127:(2 < t121.length)=True:=eq_true (by omega)
       (try rw [show ((2:Int)).toNat=2 from rfl] at hx127_0)
       replace p127:=eq_true p127
       replace q127:=eq_true q127
       refine start_ (n:=12) (S:=fun w'=>w'.cell? ad125=some (.int .i64 (rd t121 0))∧w'.cell? ⟨ad125.block,ad125.off+1,none⟩=some (.int .i64 (rd t121 1))∧w'.cell? ⟨ad125.block,ad125.off+2,none⟩=some (.int .i64 (rd t121 2))) (ds:=[]) (fl 12 0) (by kernel_rfl) rfl rfl ⟨hx125_0,hx126_0,hx127_0⟩ (fun hHeld=>?_);refine with_tabW impl_ParseStamp.tab4 impl_ParseStamp.bits4 (fun HT_ HW_=>?_)
       generalize w12.drew=w13 at HO124 BK120 HB hx125_0 hx126_0 hx127_0 hHeld ⊢
       refine pt 0 15 (fl 12 1) HT_ ?_
       refine pt 1 16 (fl 12 3) HT_ ?_
       refine pt 3 18 (fl 12 11) HT_ ?_
       refine pt 4 19 (fl 12 27) HT_ ?_
       refine pt 6 21 (fl 12 91) HT_ ?_
       refine pt 7 22 (fl 12 219) HT_ ?_
       refine tt 2 17 (fl 12 223) HT_ HW_ hHeld ?_
       refine tt 5 20 (fl 12 255) HT_ HW_ hHeld ?_
       refine tt 8 23 (fl 12 511) HT_ HW_ hHeld ?_
       refine pt 9 24 (fl 12 1023) HT_ ?_
       refine ot 10 (some 6) (fl 12 2047) HT_ (fun K hK=>?_)
       refine box_step ?hg (N:=6) ?hd (cs:=#[.int .i64 0,.int .i64 0,.int .i64 0]) (t:=25) ?hr ?_;(case hd=>rfl);(case hg=>rfl);(case hr=>first|(go_simp;done)|(go_simp;rfl))
       intro gb128 hg w15 hbox hb
       have HS0_:=(hb.cell (World.block_lt_of_cell? _ _ (hHeld.1))).trans (hHeld.1)
       have HS1_:=(hb.cell (World.block_lt_of_cell? _ _ (hHeld.2.1))).trans (hHeld.2.1)
       have HS2_:=(hb.cell (World.block_lt_of_cell? _ _ (hHeld.2.2))).trans (hHeld.2.2)
       have n0_:=Aside0.mk (Kd.R_below (rR HO124) hb)
       have n1_:=Aside0.mk (blk_below (g:=gb120) (o:=.cells #[.int .i64 0,.int .i64 0,.int .i64 0] 25 (0,0)) (bk BK120) hb)
       have n2_:=bs hb
       have n3_:=Aside0.mk (hbox)
       have n4_:=Aside0.mk ((by rw [hg];exact (below_size be):w.heap.size≤gb128))
       have n5_:=Aside0.mk ((by rw [hg];exact (below_size be):w.heap.size≤gb128))
       have n6_:=Aside0.mk ((by rw [hg];exact Nat.ne_of_lt (blk_lt (g:=gb120) (o:=.cells #[.int .i64 0,.int .i64 0,.int .i64 0] 25 (0,0)) (bk BK120)):gb120 ≠ gb128))
       have n7_:=Aside0.mk ((by rw [hg];exact Nat.ne_of_gt (blk_lt (g:=gb120) (o:=.cells #[.int .i64 0,.int .i64 0,.int .i64 0] 25 (0,0)) (bk BK120)):gb128 ≠ gb120))
       clear HO124
       clear BK120
       clear HB
       have HO124:=n0_
       have BK120:=n1_
       have HB:=n2_
       have BK128:=n3_
       have GW128:=n4_
       have GE128:=n5_
       have NB120_128:=n6_
       have NB128_120:=n7_
       clear n0_ n1_ n2_ n3_ n4_ n5_ n6_ n7_
       clear hb hbox hg
       refine hK.out _ _ ⟨HS0_,HS1_,HS2_⟩ (fun hHeld=>?_)
       clear hK K
       refine no 6 ?_
       refine ot 11 none (fl 12 4095) HT_ (fun K hK=>?_)
       have hs16:w15.cell? ⟨gb128,0,none⟩=some (.int .i64 0):=(blk_cell BK128.out 0).trans rfl
       have hfs16:=blk_frozen BK128.out 0
       have hns16_0:=NB120_128.out
       have hms16_0:=NB128_120.out
       have hs17:w15.cell? ⟨gb128,1,none⟩=some (.int .i64 0):=(blk_cell BK128.out 1).trans rfl
       have hfs17:=blk_frozen BK128.out 1
       have hns17_0:=NB120_128.out
       have hms17_0:=NB128_120.out
       have hs18:w15.cell? ⟨gb128,2,none⟩=some (.int .i64 0):=(blk_cell BK128.out 2).trans rfl
       have hfs18:=blk_frozen BK128.out 2
       have hns18_0:=NB120_128.out
       have hms18_0:=NB128_120.out
       refine skip_ (w1:=?_) (by rfl) rfl ?_ ?_
       rotate_left
       ·go_simp
        rfl
       refine hK.out _ _ ⟨((cell_far (p:=⟨gb128,_,none⟩) (by first|exact Kd.own_blk (Kd.R_ne HO124.out BK128.out (by decide))|(rw [add_block];exact Kd.own_blk (Kd.R_ne HO124.out BK128.out (by decide)))|(show (Addr.add _ _).block ≠ _;rw [add_block];exact Kd.own_blk (Kd.R_ne HO124.out BK128.out (by decide)))|(dsimp only;exact Kd.own_blk (Kd.R_ne HO124.out BK128.out (by decide)))) _).trans (((cell_far (p:=⟨gb128,_,none⟩) (by first|exact Kd.own_blk (Kd.R_ne HO124.out BK128.out (by decide))|(rw [add_block];exact Kd.own_blk (Kd.R_ne HO124.out BK128.out (by decide)))|(show (Addr.add _ _).block ≠ _;rw [add_block];exact Kd.own_blk (Kd.R_ne HO124.out BK128.out (by decide)))|(dsimp only;exact Kd.own_blk (Kd.R_ne HO124.out BK128.out (by decide)))) _).trans (((cell_far (p:=⟨gb128,_,none⟩) (by first|exact Kd.own_blk (Kd.R_ne HO124.out BK128.out (by decide))|(rw [add_block];exact Kd.own_blk (Kd.R_ne HO124.out BK128.out (by decide)))|(show (Addr.add _ _).block ≠ _;rw [add_block];exact Kd.own_blk (Kd.R_ne HO124.out BK128.out (by decide)))|(dsimp only;exact Kd.own_blk (Kd.R_ne HO124.out BK128.out (by decide)))) _).trans (hHeld.1)))))),((cell_far (p:=⟨gb128,_,none⟩) (by first|exact Kd.own_blk (Kd.R_ne HO124.out BK128.out (by decide))|(rw [add_block];exact Kd.own_blk (Kd.R_ne HO124.out BK128.out (by decide)))|(show (Addr.add _ _).block ≠ _;rw [add_block];exact Kd.own_blk (Kd.R_ne HO124.out BK128.out (by decide)))|(dsimp only;exact Kd.own_blk (Kd.R_ne HO124.out BK128.out (by decide)))) _).trans (((cell_far (p:=⟨gb128,_,none⟩) (by first|exact Kd.own_blk (Kd.R_ne HO124.out BK128.out (by decide))|(rw [add_block];exact Kd.own_blk (Kd.R_ne HO124.out BK128.out (by decide)))|(show (Addr.add _ _).block ≠ _;rw [add_block];exact Kd.own_blk (Kd.R_ne HO124.out BK128.out (by decide)))|(dsimp only;exact Kd.own_blk (Kd.R_ne HO124.out BK128.out (by decide)))) _).trans (((cell_far (p:=⟨gb128,_,none⟩) (by first|exact Kd.own_blk (Kd.R_ne HO124.out BK128.out (by decide))|(rw [add_block];exact Kd.own_blk (Kd.R_ne HO124.out BK128.out (by decide)))|(show (Addr.add _ _).block ≠ _;rw [add_block];exact Kd.own_blk (Kd.R_ne HO124.out BK128.out (by decide)))|(dsimp only;exact Kd.own_blk (Kd.R_ne HO124.out BK128.out (by decide)))) _).trans (hHeld.2.1)))))),((cell_far (p:=⟨gb128,_,none⟩) (by first|exact Kd.own_blk (Kd.R_ne HO124.out BK128.out (by decide))|(rw [add_block];exact Kd.own_blk (Kd.R_ne HO124.out BK128.out (by decide)))|(show (Addr.add _ _).block ≠ _;rw [add_block];exact Kd.own_blk (Kd.R_ne HO124.out BK128.out (by decide)))|(dsimp only;exact Kd.own_blk (Kd.R_ne HO124.out BK128.out (by decide)))) _).trans (((cell_far (p:=⟨gb128,_,none⟩) (by first|exact Kd.own_blk (Kd.R_ne HO124.out BK128.out (by decide))|(rw [add_block];exact Kd.own_blk (Kd.R_ne HO124.out BK128.out (by decide)))|(show (Addr.add _ _).block ≠ _;rw [add_block];exact Kd.own_blk (Kd.R_ne HO124.out BK128.out (by decide)))|(dsimp only;exact Kd.own_blk (Kd.R_ne HO124.out BK128.out (by decide)))) _).trans (((cell_far (p:=⟨gb128,_,none⟩) (by first|exact Kd.own_blk (Kd.R_ne HO124.out BK128.out (by decide))|(rw [add_block];exact Kd.own_blk (Kd.R_ne HO124.out BK128.out (by decide)))|(show (Addr.add _ _).block ≠ _;rw [add_block];exact Kd.own_blk (Kd.R_ne HO124.out BK128.out (by decide)))|(dsimp only;exact Kd.own_blk (Kd.R_ne HO124.out BK128.out (by decide)))) _).trans (hHeld.2.2))))))⟩ (fun hHeld=>?_)
       clear hK K
       refine done_ (done_of HT_.out (by kernel_rfl)) ?_
       have hnb19:=NB128_120.out
       have hnc19:=NB120_128.out
       have hcz20_0:w15.cell? ⟨gb128,0,none⟩=some (.int .i64 0):=(blk_cell BK128.out 0).trans rfl
       have hcz20_1:w15.cell? ⟨gb128,1,none⟩=some (.int .i64 0):=(blk_cell BK128.out 1).trans rfl
       have hcz20_2:w15.cell? ⟨gb128,2,none⟩=some (.int .i64 0):=(blk_cell BK128.out 2).trans rfl
       have hfz20_0:=blk_frozen BK128.out 0
       have hfz20_1:=blk_frozen BK128.out 1
       have hfz20_2:=blk_frozen BK128.out 2
       try go_wp2_with (first|((with_reducible refine gate_callee (f:=27) rfl ?_);refine goesL_ (some 26) rfl rfl Tryd.func27 (by kernel_rfl) rfl #[.agg #[.int .i64 (rd t121 0),.int .i64 (rd t121 1),.int .i64 (rd t121 2)]] rfl (by (try simp only [List.map_toArray,List.map_cons,List.map_nil]);first|done|rfl|(simp only [List.length_drop,List.length_take];rfl)) ?_;(with_reducible refine (impl_StampOk.calls (rd t121 0) (rd t121 1) (rd t121 2) true _ A7.out).mono ?_);rintro e w21 ⟨rfl,hb⟩;refine ⟨_,rfl,?_⟩;have n0_:=Aside0.mk (Kd.R_below ((by (with_reducible repeat (first|apply Kd.R_alloc|apply Kd.R_drewN|apply Kd.R_drew));exact (Kd.R_mono (Kd.R_far (p:=⟨gb128,2,none⟩) (Kd.R_far (p:=⟨gb128,1,none⟩) (Kd.R_far (p:=⟨gb128,0,none⟩) (Kd.R_types HO124.out BK128.out (by decide)) (fun _ hk=>hk.2) (.int .i64 (rd t121 0))) (fun _ hk=>hk.2) (.int .i64 (rd t121 1))) (fun _ hk=>hk.2) (.int .i64 (rd t121 2))) (fun _ h_=>h_.1)))) hb);have n1_:=Aside0.mk (blk_below (g:=gb120) (o:=.cells #[.int .i64 0,.int .i64 0,.int .i64 0] 25 (0,0)) (by (with_reducible repeat (first|refine blk_drewN ?_ _|refine blk_drew ?_|refine blk_alloc ?_ _));refine blk_far ?_ NB120_128.out _;(with_reducible repeat (first|refine blk_drewN ?_ _|refine blk_drew ?_|refine blk_alloc ?_ _));refine blk_far ?_ NB120_128.out _;(with_reducible repeat (first|refine blk_drewN ?_ _|refine blk_drew ?_|refine blk_alloc ?_ _));refine blk_far ?_ NB120_128.out _;(with_reducible repeat (first|refine blk_drewN ?_ _|refine blk_drew ?_|refine blk_alloc ?_ _));exact BK120.out) hb);have n2_:=Aside0.mk (blk_below (g:=gb128) (o:=.cells #[.int .i64 (rd t121 0),.int .i64 (rd t121 1),.int .i64 (rd t121 2)] 25 (0,0)) (by (with_reducible repeat (first|refine blk_drewN ?_ _|refine blk_drew ?_|refine blk_alloc ?_ _));refine blk_put (cs:=#[.int .i64 (rd t121 0),.int .i64 (rd t121 1),.int .i64 0]) ?_ 2 _ rfl;(with_reducible repeat (first|refine blk_drewN ?_ _|refine blk_drew ?_|refine blk_alloc ?_ _));refine blk_put (cs:=#[.int .i64 (rd t121 0),.int .i64 0,.int .i64 0]) ?_ 1 _ rfl;(with_reducible repeat (first|refine blk_drewN ?_ _|refine blk_drew ?_|refine blk_alloc ?_ _));refine blk_put (cs:=#[.int .i64 0,.int .i64 0,.int .i64 0]) ?_ 0 _ rfl;(with_reducible repeat (first|refine blk_drewN ?_ _|refine blk_drew ?_|refine blk_alloc ?_ _));exact BK128.out) hb);have n3_:=bs hb;clear HO124;clear BK120;clear BK128;clear HB;have HO124:=n0_;have BK120:=n1_;have BK128:=n2_;have HB:=n3_;clear n0_ n1_ n2_ n3_;(try clear hb);(try clear hb2);(try clear hk);(try clear hi);have hcz22_0:w21.cell? ⟨gb128,0,none⟩=some (.int .i64 (rd t121 0)):=(blk_cell BK128.out 0).trans rfl;have hcz22_1:w21.cell? ⟨gb128,1,none⟩=some (.int .i64 (rd t121 1)):=(blk_cell BK128.out 1).trans rfl;have hcz22_2:w21.cell? ⟨gb128,2,none⟩=some (.int .i64 (rd t121 2)):=(blk_cell BK128.out 2).trans rfl;have hfz22_0:=blk_frozen BK128.out 0;have hfz22_1:=blk_frozen BK128.out 1;have hfz22_2:=blk_frozen BK128.out 2)|(go_at_call 13;(with_reducible refine (impl_StampText.calls (rd t121 0) (rd t121 1) (rd t121 2) t130 _ ?side1 A9.out).mono ?_);(case side1=>exact lb hL);rintro e w23 ⟨rfl,hb⟩;have n0_:=Aside0.mk (Kd.R_below ((rR HO124)) hb);have n1_:=Aside0.mk (blk_below (g:=gb120) (o:=.cells #[.int .i64 0,.int .i64 0,.int .i64 0] 25 (0,0)) (bk BK120) hb);have n2_:=Aside0.mk (blk_below (g:=gb128) (o:=.cells #[.int .i64 (rd t121 0),.int .i64 (rd t121 1),.int .i64 (rd t121 2)] 25 (0,0)) (bk BK128) hb);have n3_:=bs hb;clear HO124;clear BK120;clear BK128;clear HB;have HO124:=n0_;have BK120:=n1_;have BK128:=n2_;have HB:=n3_;clear n0_ n1_ n2_ n3_;(try clear hb);(try clear hb2);(try clear hk);(try clear hi);have hcz24_0:w23.cell? ⟨gb128,0,none⟩=some (.int .i64 (rd t121 0)):=(blk_cell BK128.out 0).trans rfl;have hcz24_1:w23.cell? ⟨gb128,1,none⟩=some (.int .i64 (rd t121 1)):=(blk_cell BK128.out 1).trans rfl;have hcz24_2:w23.cell? ⟨gb128,2,none⟩=some (.int .i64 (rd t121 2)):=(blk_cell BK128.out 2).trans rfl;have hfz24_0:=blk_frozen BK128.out 0;have hfz24_1:=blk_frozen BK128.out 1;have hfz24_2:=blk_frozen BK128.out 2;have hcz25_0:w23.cell? ⟨gb120,0,none⟩=some (.int .i64 0):=(blk_cell BK120.out 0).trans rfl;have hcz25_1:w23.cell? ⟨gb120,1,none⟩=some (.int .i64 0):=(blk_cell BK120.out 1).trans rfl;have hcz25_2:w23.cell? ⟨gb120,2,none⟩=some (.int .i64 0):=(blk_cell BK120.out 2).trans rfl;have hfz25_0:=blk_frozen BK120.out 0;have hfz25_1:=blk_frozen BK120.out 1;have hfz25_2:=blk_frozen BK120.out 2))
       refine bodyPost_ret (results_ct rfl _ _ gb120 25 #[.int .i64 (rd t121 0),.int .i64 (rd t121 1),.int .i64 (rd t121 2)] (0,0) _ rfl (by (with_reducible repeat (first|refine blk_drewN ?_ _|refine blk_drew ?_|refine blk_alloc ?_ _));refine blk_put (cs:=#[.int .i64 (rd t121 0),.int .i64 (rd t121 1),.int .i64 0]) ?_ 2 _ rfl;(with_reducible repeat (first|refine blk_drewN ?_ _|refine blk_drew ?_|refine blk_alloc ?_ _));refine blk_put (cs:=#[.int .i64 (rd t121 0),.int .i64 0,.int .i64 0]) ?_ 1 _ rfl;(with_reducible repeat (first|refine blk_drewN ?_ _|refine blk_drew ?_|refine blk_alloc ?_ _));refine blk_put (cs:=#[.int .i64 0,.int .i64 0,.int .i64 0]) ?_ 0 _ rfl;(with_reducible repeat (first|refine blk_drewN ?_ _|refine blk_drew ?_|refine blk_alloc ?_ _));exact BK120.out) Tryd.underlying25 rfl (by kernel_rfl)) rfl ?_
       exact ⟨rz,be⟩
      ·rw [if_neg c10] at H
       have c10b0:(t130.toList == a0.toList)=false:=beq_eq_false_iff_ne.mpr c10
       have c10b1:(t130.toList != a0.toList)=true:=bne_iff_ne.mpr c10
       simp only [Option.some.injEq,Prod.mk.injEq] at H
       obtain ⟨rfl,rfl,rfl,rfl⟩:=H
       go_enter Tryd.func20,Tryd.ntmps20
       try go_wp2_with (first|((with_reducible refine gate_dst (N:=2) rfl ?_);refine box_event ?hg (N:=2) ?hd (cs:=#[.int .i64 0,.int .i64 0,.int .i64 0]) (t:=25) ?hr ?_;(case hd=>rfl);(case hg=>rfl);(case hr=>first|(go_simp;done)|(go_simp;rfl));intro gb120 hg w26 hbox hb;have n0_:=bs hb;have n1_:=Aside0.mk (hbox);have n2_:=Aside0.mk ((by rw [hg];exact (below_size be):w.heap.size≤gb120));have n3_:=Aside0.mk ((by rw [hg];exact (below_size be):w.heap.size≤gb120));clear HB;have HB:=n0_;have BK120:=n1_;have GW120:=n2_;have GE120:=n3_;clear n0_ n1_ n2_ n3_;clear hb hbox hg)|((with_reducible refine gate_callee (f:=48) rfl ?_);refine goesL_ (some 9) rfl rfl Tryd.func48 (by kernel_rfl) rfl #[.string a0,.string (⟨#[46]⟩:ByteArray),.int .i64 3] rfl (by (try simp only [List.map_toArray,List.map_cons,List.map_nil]);first|done|rfl|(simp only [List.length_drop,List.length_take];rfl)) ?_;(with_reducible refine (impl_numbersOf.calls k a0 (⟨#[46]⟩:ByteArray) 3 t121 true _ ?side1 A2.out).mono ?_);(case side1=>exact lb hL);rintro e w27 ⟨v123,rfl,ho0,hb⟩;refine ⟨_,rfl,?_⟩;have n0_:=Aside0.mk (Kd.R_lower ho0 (below_size be));have n1_:=Aside0.mk (blk_below (g:=gb120) (o:=.cells #[.int .i64 0,.int .i64 0,.int .i64 0] 25 (0,0)) (bk BK120) hb);have n2_:=bs hb;clear BK120;clear HB;have HO124:=n0_;have BK120:=n1_;have HB:=n2_;clear n0_ n1_ n2_;(try clear hb);(try clear hb2);(try clear hk);(try clear hi);(try clear ho0)))
       have n0_:=Aside0.mk (Kd.R_drew HO124.out)
       have n1_:=Aside0.mk (blk_drew BK120.out)
       have n2_:=Aside0.mk (below_drew1 HB.out)
       clear HO124
       clear BK120
       clear HB
       have HO124:=n0_
       have BK120:=n1_
       have HB:=n2_
       clear n0_ n1_ n2_
       obtain ⟨Ao29,co29,eo29⟩:=Kd.R_slice HO124.out
       (first|subst eo29|(injection eo29 with f1_ f2_ f3_;have f4_:=f1_.symm;have f5_:=f3_.symm;clear f1_ f2_ f3_;subst f4_;subst f5_))
       have p125:0≤(0:Int):=(by omega)
       have q125:0 < (t121.length:Int):=of_decide_eq_true (by first|(with_reducible assumption)|assumption)
       obtain ⟨ad125,e125,hx125_0⟩:=Kd.at_int (Kd.R_reads' HO124.out).2.2 0 p125 q125
       cases e125
       have qi125:(0 < t121.length)=True:=eq_true (by omega)
       (try rw [show ((0:Int)).toNat=0 from rfl] at hx125_0)
       (try rw [Addr.add_zero'] at hx125_0)
       replace p125:=eq_true p125
       replace q125:=eq_true q125
       have p126:0≤(1:Int):=(by omega)
       have q126:1 < (t121.length:Int):=of_decide_eq_true (by first|(with_reducible assumption)|assumption)
       obtain ⟨ad126,e126,hx126_0⟩:=Kd.at_int (Kd.R_reads' HO124.out).2.2 1 p126 q126
       obtain rfl:ad125=ad126:=(by injection e126)
       (try simp only [show (1:Int).toNat=1 from rfl,Nat.reduceMul,Nat.reduceEqDiff,Go.Addr.add,↓reduceIte] at hx126_0)
       have qi126:(1 < t121.length)=True:=eq_true (by omega)
       (try rw [show ((1:Int)).toNat=1 from rfl] at hx126_0)
       replace p126:=eq_true p126
       replace q126:=eq_true q126
       have p127:0≤(2:Int):=(by omega)
       have q127:2 < (t121.length:Int):=of_decide_eq_true (by first|(with_reducible assumption)|assumption)
       obtain ⟨ad127,e127,hx127_0⟩:=Kd.at_int (Kd.R_reads' HO124.out).2.2 2 p127 q127
       obtain rfl:ad125=ad127:=(by injection e127)
       (try simp only [show (2:Int).toNat=2 from rfl,Nat.reduceMul,Nat.reduceEqDiff,Go.Addr.add,↓reduceIte] at hx127_0)
       have qi127:(2 < t121.length)=True:=eq_true (by omega)
       (try rw [show ((2:Int)).toNat=2 from rfl] at hx127_0)
       replace p127:=eq_true p127
       replace q127:=eq_true q127
       refine start_ (n:=12) (S:=fun w'=>w'.cell? ad125=some (.int .i64 (rd t121 0))∧w'.cell? ⟨ad125.block,ad125.off+1,none⟩=some (.int .i64 (rd t121 1))∧w'.cell? ⟨ad125.block,ad125.off+2,none⟩=some (.int .i64 (rd t121 2))) (ds:=[]) (fl 12 0) (by kernel_rfl) rfl rfl ⟨hx125_0,hx126_0,hx127_0⟩ (fun hHeld=>?_);refine with_tabW impl_ParseStamp.tab4 impl_ParseStamp.bits4 (fun HT_ HW_=>?_)
       generalize w27.drew=w28 at HO124 BK120 HB hx125_0 hx126_0 hx127_0 hHeld ⊢
       refine pt 0 15 (fl 12 1) HT_ ?_
       refine pt 1 16 (fl 12 3) HT_ ?_
       refine pt 3 18 (fl 12 11) HT_ ?_
       refine pt 4 19 (fl 12 27) HT_ ?_
       refine pt 6 21 (fl 12 91) HT_ ?_
       refine pt 7 22 (fl 12 219) HT_ ?_
       refine tt 2 17 (fl 12 223) HT_ HW_ hHeld ?_
       refine tt 5 20 (fl 12 255) HT_ HW_ hHeld ?_
       refine tt 8 23 (fl 12 511) HT_ HW_ hHeld ?_
       refine pt 9 24 (fl 12 1023) HT_ ?_
       refine ot 10 (some 6) (fl 12 2047) HT_ (fun K hK=>?_)
       refine box_step ?hg (N:=6) ?hd (cs:=#[.int .i64 0,.int .i64 0,.int .i64 0]) (t:=25) ?hr ?_;(case hd=>rfl);(case hg=>rfl);(case hr=>first|(go_simp;done)|(go_simp;rfl))
       intro gb128 hg w30 hbox hb
       have HS0_:=(hb.cell (World.block_lt_of_cell? _ _ (hHeld.1))).trans (hHeld.1)
       have HS1_:=(hb.cell (World.block_lt_of_cell? _ _ (hHeld.2.1))).trans (hHeld.2.1)
       have HS2_:=(hb.cell (World.block_lt_of_cell? _ _ (hHeld.2.2))).trans (hHeld.2.2)
       have n0_:=Aside0.mk (Kd.R_below (rR HO124) hb)
       have n1_:=Aside0.mk (blk_below (g:=gb120) (o:=.cells #[.int .i64 0,.int .i64 0,.int .i64 0] 25 (0,0)) (bk BK120) hb)
       have n2_:=bs hb
       have n3_:=Aside0.mk (hbox)
       have n4_:=Aside0.mk ((by rw [hg];exact (below_size be):w.heap.size≤gb128))
       have n5_:=Aside0.mk ((by rw [hg];exact (below_size be):w.heap.size≤gb128))
       have n6_:=Aside0.mk ((by rw [hg];exact Nat.ne_of_lt (blk_lt (g:=gb120) (o:=.cells #[.int .i64 0,.int .i64 0,.int .i64 0] 25 (0,0)) (bk BK120)):gb120 ≠ gb128))
       have n7_:=Aside0.mk ((by rw [hg];exact Nat.ne_of_gt (blk_lt (g:=gb120) (o:=.cells #[.int .i64 0,.int .i64 0,.int .i64 0] 25 (0,0)) (bk BK120)):gb128 ≠ gb120))
       clear HO124
       clear BK120
       clear HB
       have HO124:=n0_
       have BK120:=n1_
       have HB:=n2_
       have BK128:=n3_
       have GW128:=n4_
       have GE128:=n5_
       have NB120_128:=n6_
       have NB128_120:=n7_
       clear n0_ n1_ n2_ n3_ n4_ n5_ n6_ n7_
       clear hb hbox hg
       refine hK.out _ _ ⟨HS0_,HS1_,HS2_⟩ (fun hHeld=>?_)
       clear hK K
       refine no 6 ?_
       refine ot 11 none (fl 12 4095) HT_ (fun K hK=>?_)
       have hs31:w30.cell? ⟨gb128,0,none⟩=some (.int .i64 0):=(blk_cell BK128.out 0).trans rfl
       have hfs31:=blk_frozen BK128.out 0
       have hns31_0:=NB120_128.out
       have hms31_0:=NB128_120.out
       have hs32:w30.cell? ⟨gb128,1,none⟩=some (.int .i64 0):=(blk_cell BK128.out 1).trans rfl
       have hfs32:=blk_frozen BK128.out 1
       have hns32_0:=NB120_128.out
       have hms32_0:=NB128_120.out
       have hs33:w30.cell? ⟨gb128,2,none⟩=some (.int .i64 0):=(blk_cell BK128.out 2).trans rfl
       have hfs33:=blk_frozen BK128.out 2
       have hns33_0:=NB120_128.out
       have hms33_0:=NB128_120.out
       refine skip_ (w1:=?_) (by rfl) rfl ?_ ?_
       rotate_left
       ·go_simp
        rfl
       refine hK.out _ _ ⟨((cell_far (p:=⟨gb128,_,none⟩) (by first|exact Kd.own_blk (Kd.R_ne HO124.out BK128.out (by decide))|(rw [add_block];exact Kd.own_blk (Kd.R_ne HO124.out BK128.out (by decide)))|(show (Addr.add _ _).block ≠ _;rw [add_block];exact Kd.own_blk (Kd.R_ne HO124.out BK128.out (by decide)))|(dsimp only;exact Kd.own_blk (Kd.R_ne HO124.out BK128.out (by decide)))) _).trans (((cell_far (p:=⟨gb128,_,none⟩) (by first|exact Kd.own_blk (Kd.R_ne HO124.out BK128.out (by decide))|(rw [add_block];exact Kd.own_blk (Kd.R_ne HO124.out BK128.out (by decide)))|(show (Addr.add _ _).block ≠ _;rw [add_block];exact Kd.own_blk (Kd.R_ne HO124.out BK128.out (by decide)))|(dsimp only;exact Kd.own_blk (Kd.R_ne HO124.out BK128.out (by decide)))) _).trans (((cell_far (p:=⟨gb128,_,none⟩) (by first|exact Kd.own_blk (Kd.R_ne HO124.out BK128.out (by decide))|(rw [add_block];exact Kd.own_blk (Kd.R_ne HO124.out BK128.out (by decide)))|(show (Addr.add _ _).block ≠ _;rw [add_block];exact Kd.own_blk (Kd.R_ne HO124.out BK128.out (by decide)))|(dsimp only;exact Kd.own_blk (Kd.R_ne HO124.out BK128.out (by decide)))) _).trans (hHeld.1)))))),((cell_far (p:=⟨gb128,_,none⟩) (by first|exact Kd.own_blk (Kd.R_ne HO124.out BK128.out (by decide))|(rw [add_block];exact Kd.own_blk (Kd.R_ne HO124.out BK128.out (by decide)))|(show (Addr.add _ _).block ≠ _;rw [add_block];exact Kd.own_blk (Kd.R_ne HO124.out BK128.out (by decide)))|(dsimp only;exact Kd.own_blk (Kd.R_ne HO124.out BK128.out (by decide)))) _).trans (((cell_far (p:=⟨gb128,_,none⟩) (by first|exact Kd.own_blk (Kd.R_ne HO124.out BK128.out (by decide))|(rw [add_block];exact Kd.own_blk (Kd.R_ne HO124.out BK128.out (by decide)))|(show (Addr.add _ _).block ≠ _;rw [add_block];exact Kd.own_blk (Kd.R_ne HO124.out BK128.out (by decide)))|(dsimp only;exact Kd.own_blk (Kd.R_ne HO124.out BK128.out (by decide)))) _).trans (((cell_far (p:=⟨gb128,_,none⟩) (by first|exact Kd.own_blk (Kd.R_ne HO124.out BK128.out (by decide))|(rw [add_block];exact Kd.own_blk (Kd.R_ne HO124.out BK128.out (by decide)))|(show (Addr.add _ _).block ≠ _;rw [add_block];exact Kd.own_blk (Kd.R_ne HO124.out BK128.out (by decide)))|(dsimp only;exact Kd.own_blk (Kd.R_ne HO124.out BK128.out (by decide)))) _).trans (hHeld.2.1)))))),((cell_far (p:=⟨gb128,_,none⟩) (by first|exact Kd.own_blk (Kd.R_ne HO124.out BK128.out (by decide))|(rw [add_block];exact Kd.own_blk (Kd.R_ne HO124.out BK128.out (by decide)))|(show (Addr.add _ _).block ≠ _;rw [add_block];exact Kd.own_blk (Kd.R_ne HO124.out BK128.out (by decide)))|(dsimp only;exact Kd.own_blk (Kd.R_ne HO124.out BK128.out (by decide)))) _).trans (((cell_far (p:=⟨gb128,_,none⟩) (by first|exact Kd.own_blk (Kd.R_ne HO124.out BK128.out (by decide))|(rw [add_block];exact Kd.own_blk (Kd.R_ne HO124.out BK128.out (by decide)))|(show (Addr.add _ _).block ≠ _;rw [add_block];exact Kd.own_blk (Kd.R_ne HO124.out BK128.out (by decide)))|(dsimp only;exact Kd.own_blk (Kd.R_ne HO124.out BK128.out (by decide)))) _).trans (((cell_far (p:=⟨gb128,_,none⟩) (by first|exact Kd.own_blk (Kd.R_ne HO124.out BK128.out (by decide))|(rw [add_block];exact Kd.own_blk (Kd.R_ne HO124.out BK128.out (by decide)))|(show (Addr.add _ _).block ≠ _;rw [add_block];exact Kd.own_blk (Kd.R_ne HO124.out BK128.out (by decide)))|(dsimp only;exact Kd.own_blk (Kd.R_ne HO124.out BK128.out (by decide)))) _).trans (hHeld.2.2))))))⟩ (fun hHeld=>?_)
       clear hK K
       refine done_ (done_of HT_.out (by kernel_rfl)) ?_
       have hnb34:=NB128_120.out
       have hnc34:=NB120_128.out
       have hcz35_0:w30.cell? ⟨gb128,0,none⟩=some (.int .i64 0):=(blk_cell BK128.out 0).trans rfl
       have hcz35_1:w30.cell? ⟨gb128,1,none⟩=some (.int .i64 0):=(blk_cell BK128.out 1).trans rfl
       have hcz35_2:w30.cell? ⟨gb128,2,none⟩=some (.int .i64 0):=(blk_cell BK128.out 2).trans rfl
       have hfz35_0:=blk_frozen BK128.out 0
       have hfz35_1:=blk_frozen BK128.out 1
       have hfz35_2:=blk_frozen BK128.out 2
       try go_wp2_with (first|((with_reducible refine gate_callee (f:=27) rfl ?_);refine goesL_ (some 26) rfl rfl Tryd.func27 (by kernel_rfl) rfl #[.agg #[.int .i64 (rd t121 0),.int .i64 (rd t121 1),.int .i64 (rd t121 2)]] rfl (by (try simp only [List.map_toArray,List.map_cons,List.map_nil]);first|done|rfl|(simp only [List.length_drop,List.length_take];rfl)) ?_;(with_reducible refine (impl_StampOk.calls (rd t121 0) (rd t121 1) (rd t121 2) true _ A7.out).mono ?_);rintro e w36 ⟨rfl,hb⟩;refine ⟨_,rfl,?_⟩;have n0_:=Aside0.mk (Kd.R_below ((by (with_reducible repeat (first|apply Kd.R_alloc|apply Kd.R_drewN|apply Kd.R_drew));exact (Kd.R_mono (Kd.R_far (p:=⟨gb128,2,none⟩) (Kd.R_far (p:=⟨gb128,1,none⟩) (Kd.R_far (p:=⟨gb128,0,none⟩) (Kd.R_types HO124.out BK128.out (by decide)) (fun _ hk=>hk.2) (.int .i64 (rd t121 0))) (fun _ hk=>hk.2) (.int .i64 (rd t121 1))) (fun _ hk=>hk.2) (.int .i64 (rd t121 2))) (fun _ h_=>h_.1)))) hb);have n1_:=Aside0.mk (blk_below (g:=gb120) (o:=.cells #[.int .i64 0,.int .i64 0,.int .i64 0] 25 (0,0)) (by (with_reducible repeat (first|refine blk_drewN ?_ _|refine blk_drew ?_|refine blk_alloc ?_ _));refine blk_far ?_ NB120_128.out _;(with_reducible repeat (first|refine blk_drewN ?_ _|refine blk_drew ?_|refine blk_alloc ?_ _));refine blk_far ?_ NB120_128.out _;(with_reducible repeat (first|refine blk_drewN ?_ _|refine blk_drew ?_|refine blk_alloc ?_ _));refine blk_far ?_ NB120_128.out _;(with_reducible repeat (first|refine blk_drewN ?_ _|refine blk_drew ?_|refine blk_alloc ?_ _));exact BK120.out) hb);have n2_:=Aside0.mk (blk_below (g:=gb128) (o:=.cells #[.int .i64 (rd t121 0),.int .i64 (rd t121 1),.int .i64 (rd t121 2)] 25 (0,0)) (by (with_reducible repeat (first|refine blk_drewN ?_ _|refine blk_drew ?_|refine blk_alloc ?_ _));refine blk_put (cs:=#[.int .i64 (rd t121 0),.int .i64 (rd t121 1),.int .i64 0]) ?_ 2 _ rfl;(with_reducible repeat (first|refine blk_drewN ?_ _|refine blk_drew ?_|refine blk_alloc ?_ _));refine blk_put (cs:=#[.int .i64 (rd t121 0),.int .i64 0,.int .i64 0]) ?_ 1 _ rfl;(with_reducible repeat (first|refine blk_drewN ?_ _|refine blk_drew ?_|refine blk_alloc ?_ _));refine blk_put (cs:=#[.int .i64 0,.int .i64 0,.int .i64 0]) ?_ 0 _ rfl;(with_reducible repeat (first|refine blk_drewN ?_ _|refine blk_drew ?_|refine blk_alloc ?_ _));exact BK128.out) hb);have n3_:=bs hb;clear HO124;clear BK120;clear BK128;clear HB;have HO124:=n0_;have BK120:=n1_;have BK128:=n2_;have HB:=n3_;clear n0_ n1_ n2_ n3_;(try clear hb);(try clear hb2);(try clear hk);(try clear hi);have hcz37_0:w36.cell? ⟨gb128,0,none⟩=some (.int .i64 (rd t121 0)):=(blk_cell BK128.out 0).trans rfl;have hcz37_1:w36.cell? ⟨gb128,1,none⟩=some (.int .i64 (rd t121 1)):=(blk_cell BK128.out 1).trans rfl;have hcz37_2:w36.cell? ⟨gb128,2,none⟩=some (.int .i64 (rd t121 2)):=(blk_cell BK128.out 2).trans rfl;have hfz37_0:=blk_frozen BK128.out 0;have hfz37_1:=blk_frozen BK128.out 1;have hfz37_2:=blk_frozen BK128.out 2)|(go_at_call 13;(with_reducible refine (impl_StampText.calls (rd t121 0) (rd t121 1) (rd t121 2) t130 _ ?side1 A9.out).mono ?_);(case side1=>exact lb hL);rintro e w38 ⟨rfl,hb⟩;have n0_:=Aside0.mk (Kd.R_below ((rR HO124)) hb);have n1_:=Aside0.mk (blk_below (g:=gb120) (o:=.cells #[.int .i64 0,.int .i64 0,.int .i64 0] 25 (0,0)) (bk BK120) hb);have n2_:=Aside0.mk (blk_below (g:=gb128) (o:=.cells #[.int .i64 (rd t121 0),.int .i64 (rd t121 1),.int .i64 (rd t121 2)] 25 (0,0)) (bk BK128) hb);have n3_:=bs hb;clear HO124;clear BK120;clear BK128;clear HB;have HO124:=n0_;have BK120:=n1_;have BK128:=n2_;have HB:=n3_;clear n0_ n1_ n2_ n3_;(try clear hb);(try clear hb2);(try clear hk);(try clear hi);have hcz39_0:w38.cell? ⟨gb120,0,none⟩=some (.int .i64 0):=(blk_cell BK120.out 0).trans rfl;have hcz39_1:w38.cell? ⟨gb120,1,none⟩=some (.int .i64 0):=(blk_cell BK120.out 1).trans rfl;have hcz39_2:w38.cell? ⟨gb120,2,none⟩=some (.int .i64 0):=(blk_cell BK120.out 2).trans rfl;have hfz39_0:=blk_frozen BK120.out 0;have hfz39_1:=blk_frozen BK120.out 1;have hfz39_2:=blk_frozen BK120.out 2))
       refine bodyPost_ret (results_ct rfl _ _ gb120 25 #[.int .i64 0,.int .i64 0,.int .i64 0] (0,0) _ rfl (by (with_reducible repeat (first|refine blk_drewN ?_ _|refine blk_drew ?_|refine blk_alloc ?_ _));refine blk_put (cs:=#[.int .i64 0,.int .i64 0,.int .i64 0]) ?_ 2 _ rfl;(with_reducible repeat (first|refine blk_drewN ?_ _|refine blk_drew ?_|refine blk_alloc ?_ _));refine blk_put (cs:=#[.int .i64 0,.int .i64 0,.int .i64 0]) ?_ 1 _ rfl;(with_reducible repeat (first|refine blk_drewN ?_ _|refine blk_drew ?_|refine blk_alloc ?_ _));refine blk_put (cs:=#[.int .i64 0,.int .i64 0,.int .i64 0]) ?_ 0 _ rfl;(with_reducible repeat (first|refine blk_drewN ?_ _|refine blk_drew ?_|refine blk_alloc ?_ _));exact BK120.out) Tryd.underlying25 rfl (by kernel_rfl)) rfl ?_
       exact ⟨rz,be⟩
     ·replace c8:=Bool.eq_false_iff.mpr c8
      subst c8
      have H1:(some (0,0,0,false))=some (r1,r2,r3,r4):=by rw [if_neg (show ¬ (false=true) by decide)] at H;exact H
      clear H
      have H:=H1
      clear H1
      simp only [Option.some.injEq,Prod.mk.injEq] at H
      obtain ⟨rfl,rfl,rfl,rfl⟩:=H
      go_enter Tryd.func20,Tryd.ntmps20
      try go_wp2_with (first|((with_reducible refine gate_dst (N:=2) rfl ?_);refine box_event ?hg (N:=2) ?hd (cs:=#[.int .i64 0,.int .i64 0,.int .i64 0]) (t:=25) ?hr ?_;(case hd=>rfl);(case hg=>rfl);(case hr=>first|(go_simp;done)|(go_simp;rfl));intro gb120 hg w40 hbox hb;have n0_:=bs hb;have n1_:=Aside0.mk (hbox);have n2_:=Aside0.mk ((by rw [hg];exact (below_size be):w.heap.size≤gb120));have n3_:=Aside0.mk ((by rw [hg];exact (below_size be):w.heap.size≤gb120));clear HB;have HB:=n0_;have BK120:=n1_;have GW120:=n2_;have GE120:=n3_;clear n0_ n1_ n2_ n3_;clear hb hbox hg)|((with_reducible refine gate_callee (f:=48) rfl ?_);refine goesL_ (some 9) rfl rfl Tryd.func48 (by kernel_rfl) rfl #[.string a0,.string (⟨#[46]⟩:ByteArray),.int .i64 3] rfl (by (try simp only [List.map_toArray,List.map_cons,List.map_nil]);first|done|rfl|(simp only [List.length_drop,List.length_take];rfl)) ?_;(with_reducible refine (impl_numbersOf.calls k a0 (⟨#[46]⟩:ByteArray) 3 t121 true _ ?side1 A2.out).mono ?_);(case side1=>exact lb hL);rintro e w41 ⟨v123,rfl,ho0,hb⟩;refine ⟨_,rfl,?_⟩;have n0_:=Aside0.mk (Kd.R_lower ho0 (below_size be));have n1_:=Aside0.mk (blk_below (g:=gb120) (o:=.cells #[.int .i64 0,.int .i64 0,.int .i64 0] 25 (0,0)) (bk BK120) hb);have n2_:=bs hb;clear BK120;clear HB;have HO124:=n0_;have BK120:=n1_;have HB:=n2_;clear n0_ n1_ n2_;(try clear hb);(try clear hb2);(try clear hk);(try clear hi);(try clear ho0)))
      have n0_:=Aside0.mk (Kd.R_drew HO124.out)
      have n1_:=Aside0.mk (blk_drew BK120.out)
      have n2_:=Aside0.mk (below_drew1 HB.out)
      clear HO124
      clear BK120
      clear HB
      have HO124:=n0_
      have BK120:=n1_
      have HB:=n2_
      clear n0_ n1_ n2_
      obtain ⟨Ao43,co43,eo43⟩:=Kd.R_slice HO124.out
      (first|subst eo43|(injection eo43 with f1_ f2_ f3_;have f4_:=f1_.symm;have f5_:=f3_.symm;clear f1_ f2_ f3_;subst f4_;subst f5_))
      have p125:0≤(0:Int):=(by omega)
      have q125:0 < (t121.length:Int):=of_decide_eq_true (by first|(with_reducible assumption)|assumption)
      obtain ⟨ad125,e125,hx125_0⟩:=Kd.at_int (Kd.R_reads' HO124.out).2.2 0 p125 q125
      cases e125
      have qi125:(0 < t121.length)=True:=eq_true (by omega)
      (try rw [show ((0:Int)).toNat=0 from rfl] at hx125_0)
      (try rw [Addr.add_zero'] at hx125_0)
      replace p125:=eq_true p125
      replace q125:=eq_true q125
      have p126:0≤(1:Int):=(by omega)
      have q126:1 < (t121.length:Int):=of_decide_eq_true (by first|(with_reducible assumption)|assumption)
      obtain ⟨ad126,e126,hx126_0⟩:=Kd.at_int (Kd.R_reads' HO124.out).2.2 1 p126 q126
      obtain rfl:ad125=ad126:=(by injection e126)
      (try simp only [show (1:Int).toNat=1 from rfl,Nat.reduceMul,Nat.reduceEqDiff,Go.Addr.add,↓reduceIte] at hx126_0)
      have qi126:(1 < t121.length)=True:=eq_true (by omega)
      (try rw [show ((1:Int)).toNat=1 from rfl] at hx126_0)
      replace p126:=eq_true p126
      replace q126:=eq_true q126
      have p127:0≤(2:Int):=(by omega)
      have q127:2 < (t121.length:Int):=of_decide_eq_true (by first|(with_reducible assumption)|assumption)
      obtain ⟨ad127,e127,hx127_0⟩:=Kd.at_int (Kd.R_reads' HO124.out).2.2 2 p127 q127
      obtain rfl:ad125=ad127:=(by injection e127)
      (try simp only [show (2:Int).toNat=2 from rfl,Nat.reduceMul,Nat.reduceEqDiff,Go.Addr.add,↓reduceIte] at hx127_0)
      have qi127:(2 < t121.length)=True:=eq_true (by omega)
      (try rw [show ((2:Int)).toNat=2 from rfl] at hx127_0)
      replace p127:=eq_true p127
      replace q127:=eq_true q127
      refine start_ (n:=12) (S:=fun w'=>w'.cell? ad125=some (.int .i64 (rd t121 0))∧w'.cell? ⟨ad125.block,ad125.off+1,none⟩=some (.int .i64 (rd t121 1))∧w'.cell? ⟨ad125.block,ad125.off+2,none⟩=some (.int .i64 (rd t121 2))) (ds:=[]) (fl 12 0) (by kernel_rfl) rfl rfl ⟨hx125_0,hx126_0,hx127_0⟩ (fun hHeld=>?_);refine with_tabW impl_ParseStamp.tab4 impl_ParseStamp.bits4 (fun HT_ HW_=>?_)
      generalize w41.drew=w42 at HO124 BK120 HB hx125_0 hx126_0 hx127_0 hHeld ⊢
      refine pt 0 15 (fl 12 1) HT_ ?_
      refine pt 1 16 (fl 12 3) HT_ ?_
      refine pt 3 18 (fl 12 11) HT_ ?_
      refine pt 4 19 (fl 12 27) HT_ ?_
      refine pt 6 21 (fl 12 91) HT_ ?_
      refine pt 7 22 (fl 12 219) HT_ ?_
      refine tt 2 17 (fl 12 223) HT_ HW_ hHeld ?_
      refine tt 5 20 (fl 12 255) HT_ HW_ hHeld ?_
      refine tt 8 23 (fl 12 511) HT_ HW_ hHeld ?_
      refine pt 9 24 (fl 12 1023) HT_ ?_
      refine ot 10 (some 6) (fl 12 2047) HT_ (fun K hK=>?_)
      refine box_step ?hg (N:=6) ?hd (cs:=#[.int .i64 0,.int .i64 0,.int .i64 0]) (t:=25) ?hr ?_;(case hd=>rfl);(case hg=>rfl);(case hr=>first|(go_simp;done)|(go_simp;rfl))
      intro gb128 hg w44 hbox hb
      have HS0_:=(hb.cell (World.block_lt_of_cell? _ _ (hHeld.1))).trans (hHeld.1)
      have HS1_:=(hb.cell (World.block_lt_of_cell? _ _ (hHeld.2.1))).trans (hHeld.2.1)
      have HS2_:=(hb.cell (World.block_lt_of_cell? _ _ (hHeld.2.2))).trans (hHeld.2.2)
      have n0_:=Aside0.mk (Kd.R_below (rR HO124) hb)
      have n1_:=Aside0.mk (blk_below (g:=gb120) (o:=.cells #[.int .i64 0,.int .i64 0,.int .i64 0] 25 (0,0)) (bk BK120) hb)
      have n2_:=bs hb
      have n3_:=Aside0.mk (hbox)
      have n4_:=Aside0.mk ((by rw [hg];exact (below_size be):w.heap.size≤gb128))
      have n5_:=Aside0.mk ((by rw [hg];exact (below_size be):w.heap.size≤gb128))
      have n6_:=Aside0.mk ((by rw [hg];exact Nat.ne_of_lt (blk_lt (g:=gb120) (o:=.cells #[.int .i64 0,.int .i64 0,.int .i64 0] 25 (0,0)) (bk BK120)):gb120 ≠ gb128))
      have n7_:=Aside0.mk ((by rw [hg];exact Nat.ne_of_gt (blk_lt (g:=gb120) (o:=.cells #[.int .i64 0,.int .i64 0,.int .i64 0] 25 (0,0)) (bk BK120)):gb128 ≠ gb120))
      clear HO124
      clear BK120
      clear HB
      have HO124:=n0_
      have BK120:=n1_
      have HB:=n2_
      have BK128:=n3_
      have GW128:=n4_
      have GE128:=n5_
      have NB120_128:=n6_
      have NB128_120:=n7_
      clear n0_ n1_ n2_ n3_ n4_ n5_ n6_ n7_
      clear hb hbox hg
      refine hK.out _ _ ⟨HS0_,HS1_,HS2_⟩ (fun hHeld=>?_)
      clear hK K
      refine no 6 ?_
      refine ot 11 none (fl 12 4095) HT_ (fun K hK=>?_)
      have hs45:w44.cell? ⟨gb128,0,none⟩=some (.int .i64 0):=(blk_cell BK128.out 0).trans rfl
      have hfs45:=blk_frozen BK128.out 0
      have hns45_0:=NB120_128.out
      have hms45_0:=NB128_120.out
      have hs46:w44.cell? ⟨gb128,1,none⟩=some (.int .i64 0):=(blk_cell BK128.out 1).trans rfl
      have hfs46:=blk_frozen BK128.out 1
      have hns46_0:=NB120_128.out
      have hms46_0:=NB128_120.out
      have hs47:w44.cell? ⟨gb128,2,none⟩=some (.int .i64 0):=(blk_cell BK128.out 2).trans rfl
      have hfs47:=blk_frozen BK128.out 2
      have hns47_0:=NB120_128.out
      have hms47_0:=NB128_120.out
      refine skip_ (w1:=?_) (by rfl) rfl ?_ ?_
      rotate_left
      ·go_simp
       rfl
      refine hK.out _ _ ⟨((cell_far (p:=⟨gb128,_,none⟩) (by first|exact Kd.own_blk (Kd.R_ne HO124.out BK128.out (by decide))|(rw [add_block];exact Kd.own_blk (Kd.R_ne HO124.out BK128.out (by decide)))|(show (Addr.add _ _).block ≠ _;rw [add_block];exact Kd.own_blk (Kd.R_ne HO124.out BK128.out (by decide)))|(dsimp only;exact Kd.own_blk (Kd.R_ne HO124.out BK128.out (by decide)))) _).trans (((cell_far (p:=⟨gb128,_,none⟩) (by first|exact Kd.own_blk (Kd.R_ne HO124.out BK128.out (by decide))|(rw [add_block];exact Kd.own_blk (Kd.R_ne HO124.out BK128.out (by decide)))|(show (Addr.add _ _).block ≠ _;rw [add_block];exact Kd.own_blk (Kd.R_ne HO124.out BK128.out (by decide)))|(dsimp only;exact Kd.own_blk (Kd.R_ne HO124.out BK128.out (by decide)))) _).trans (((cell_far (p:=⟨gb128,_,none⟩) (by first|exact Kd.own_blk (Kd.R_ne HO124.out BK128.out (by decide))|(rw [add_block];exact Kd.own_blk (Kd.R_ne HO124.out BK128.out (by decide)))|(show (Addr.add _ _).block ≠ _;rw [add_block];exact Kd.own_blk (Kd.R_ne HO124.out BK128.out (by decide)))|(dsimp only;exact Kd.own_blk (Kd.R_ne HO124.out BK128.out (by decide)))) _).trans (hHeld.1)))))),((cell_far (p:=⟨gb128,_,none⟩) (by first|exact Kd.own_blk (Kd.R_ne HO124.out BK128.out (by decide))|(rw [add_block];exact Kd.own_blk (Kd.R_ne HO124.out BK128.out (by decide)))|(show (Addr.add _ _).block ≠ _;rw [add_block];exact Kd.own_blk (Kd.R_ne HO124.out BK128.out (by decide)))|(dsimp only;exact Kd.own_blk (Kd.R_ne HO124.out BK128.out (by decide)))) _).trans (((cell_far (p:=⟨gb128,_,none⟩) (by first|exact Kd.own_blk (Kd.R_ne HO124.out BK128.out (by decide))|(rw [add_block];exact Kd.own_blk (Kd.R_ne HO124.out BK128.out (by decide)))|(show (Addr.add _ _).block ≠ _;rw [add_block];exact Kd.own_blk (Kd.R_ne HO124.out BK128.out (by decide)))|(dsimp only;exact Kd.own_blk (Kd.R_ne HO124.out BK128.out (by decide)))) _).trans (((cell_far (p:=⟨gb128,_,none⟩) (by first|exact Kd.own_blk (Kd.R_ne HO124.out BK128.out (by decide))|(rw [add_block];exact Kd.own_blk (Kd.R_ne HO124.out BK128.out (by decide)))|(show (Addr.add _ _).block ≠ _;rw [add_block];exact Kd.own_blk (Kd.R_ne HO124.out BK128.out (by decide)))|(dsimp only;exact Kd.own_blk (Kd.R_ne HO124.out BK128.out (by decide)))) _).trans (hHeld.2.1)))))),((cell_far (p:=⟨gb128,_,none⟩) (by first|exact Kd.own_blk (Kd.R_ne HO124.out BK128.out (by decide))|(rw [add_block];exact Kd.own_blk (Kd.R_ne HO124.out BK128.out (by decide)))|(show (Addr.add _ _).block ≠ _;rw [add_block];exact Kd.own_blk (Kd.R_ne HO124.out BK128.out (by decide)))|(dsimp only;exact Kd.own_blk (Kd.R_ne HO124.out BK128.out (by decide)))) _).trans (((cell_far (p:=⟨gb128,_,none⟩) (by first|exact Kd.own_blk (Kd.R_ne HO124.out BK128.out (by decide))|(rw [add_block];exact Kd.own_blk (Kd.R_ne HO124.out BK128.out (by decide)))|(show (Addr.add _ _).block ≠ _;rw [add_block];exact Kd.own_blk (Kd.R_ne HO124.out BK128.out (by decide)))|(dsimp only;exact Kd.own_blk (Kd.R_ne HO124.out BK128.out (by decide)))) _).trans (((cell_far (p:=⟨gb128,_,none⟩) (by first|exact Kd.own_blk (Kd.R_ne HO124.out BK128.out (by decide))|(rw [add_block];exact Kd.own_blk (Kd.R_ne HO124.out BK128.out (by decide)))|(show (Addr.add _ _).block ≠ _;rw [add_block];exact Kd.own_blk (Kd.R_ne HO124.out BK128.out (by decide)))|(dsimp only;exact Kd.own_blk (Kd.R_ne HO124.out BK128.out (by decide)))) _).trans (hHeld.2.2))))))⟩ (fun hHeld=>?_)
      clear hK K
      refine done_ (done_of HT_.out (by kernel_rfl)) ?_
      have hnb48:=NB128_120.out
      have hnc48:=NB120_128.out
      have hcz49_0:w44.cell? ⟨gb128,0,none⟩=some (.int .i64 0):=(blk_cell BK128.out 0).trans rfl
      have hcz49_1:w44.cell? ⟨gb128,1,none⟩=some (.int .i64 0):=(blk_cell BK128.out 1).trans rfl
      have hcz49_2:w44.cell? ⟨gb128,2,none⟩=some (.int .i64 0):=(blk_cell BK128.out 2).trans rfl
      have hfz49_0:=blk_frozen BK128.out 0
      have hfz49_1:=blk_frozen BK128.out 1
      have hfz49_2:=blk_frozen BK128.out 2
      try go_wp2_with (first|((with_reducible refine gate_callee (f:=27) rfl ?_);refine goesL_ (some 26) rfl rfl Tryd.func27 (by kernel_rfl) rfl #[.agg #[.int .i64 (rd t121 0),.int .i64 (rd t121 1),.int .i64 (rd t121 2)]] rfl (by (try simp only [List.map_toArray,List.map_cons,List.map_nil]);first|done|rfl|(simp only [List.length_drop,List.length_take];rfl)) ?_;(with_reducible refine (impl_StampOk.calls (rd t121 0) (rd t121 1) (rd t121 2) false _ A7.out).mono ?_);rintro e w50 ⟨rfl,hb⟩;refine ⟨_,rfl,?_⟩;have n0_:=Aside0.mk (Kd.R_below ((by (with_reducible repeat (first|apply Kd.R_alloc|apply Kd.R_drewN|apply Kd.R_drew));exact (Kd.R_mono (Kd.R_far (p:=⟨gb128,2,none⟩) (Kd.R_far (p:=⟨gb128,1,none⟩) (Kd.R_far (p:=⟨gb128,0,none⟩) (Kd.R_types HO124.out BK128.out (by decide)) (fun _ hk=>hk.2) (.int .i64 (rd t121 0))) (fun _ hk=>hk.2) (.int .i64 (rd t121 1))) (fun _ hk=>hk.2) (.int .i64 (rd t121 2))) (fun _ h_=>h_.1)))) hb);have n1_:=Aside0.mk (blk_below (g:=gb120) (o:=.cells #[.int .i64 0,.int .i64 0,.int .i64 0] 25 (0,0)) (by (with_reducible repeat (first|refine blk_drewN ?_ _|refine blk_drew ?_|refine blk_alloc ?_ _));refine blk_far ?_ NB120_128.out _;(with_reducible repeat (first|refine blk_drewN ?_ _|refine blk_drew ?_|refine blk_alloc ?_ _));refine blk_far ?_ NB120_128.out _;(with_reducible repeat (first|refine blk_drewN ?_ _|refine blk_drew ?_|refine blk_alloc ?_ _));refine blk_far ?_ NB120_128.out _;(with_reducible repeat (first|refine blk_drewN ?_ _|refine blk_drew ?_|refine blk_alloc ?_ _));exact BK120.out) hb);have n2_:=Aside0.mk (blk_below (g:=gb128) (o:=.cells #[.int .i64 (rd t121 0),.int .i64 (rd t121 1),.int .i64 (rd t121 2)] 25 (0,0)) (by (with_reducible repeat (first|refine blk_drewN ?_ _|refine blk_drew ?_|refine blk_alloc ?_ _));refine blk_put (cs:=#[.int .i64 (rd t121 0),.int .i64 (rd t121 1),.int .i64 0]) ?_ 2 _ rfl;(with_reducible repeat (first|refine blk_drewN ?_ _|refine blk_drew ?_|refine blk_alloc ?_ _));refine blk_put (cs:=#[.int .i64 (rd t121 0),.int .i64 0,.int .i64 0]) ?_ 1 _ rfl;(with_reducible repeat (first|refine blk_drewN ?_ _|refine blk_drew ?_|refine blk_alloc ?_ _));refine blk_put (cs:=#[.int .i64 0,.int .i64 0,.int .i64 0]) ?_ 0 _ rfl;(with_reducible repeat (first|refine blk_drewN ?_ _|refine blk_drew ?_|refine blk_alloc ?_ _));exact BK128.out) hb);have n3_:=bs hb;clear HO124;clear BK120;clear BK128;clear HB;have HO124:=n0_;have BK120:=n1_;have BK128:=n2_;have HB:=n3_;clear n0_ n1_ n2_ n3_;(try clear hb);(try clear hb2);(try clear hk);(try clear hi);have hcz51_0:w50.cell? ⟨gb120,0,none⟩=some (.int .i64 0):=(blk_cell BK120.out 0).trans rfl;have hcz51_1:w50.cell? ⟨gb120,1,none⟩=some (.int .i64 0):=(blk_cell BK120.out 1).trans rfl;have hcz51_2:w50.cell? ⟨gb120,2,none⟩=some (.int .i64 0):=(blk_cell BK120.out 2).trans rfl;have hfz51_0:=blk_frozen BK120.out 0;have hfz51_1:=blk_frozen BK120.out 1;have hfz51_2:=blk_frozen BK120.out 2))
      refine bodyPost_ret (results_ct rfl _ _ gb120 25 #[.int .i64 0,.int .i64 0,.int .i64 0] (0,0) _ rfl (by (with_reducible repeat (first|refine blk_drewN ?_ _|refine blk_drew ?_|refine blk_alloc ?_ _));refine blk_put (cs:=#[.int .i64 0,.int .i64 0,.int .i64 0]) ?_ 2 _ rfl;(with_reducible repeat (first|refine blk_drewN ?_ _|refine blk_drew ?_|refine blk_alloc ?_ _));refine blk_put (cs:=#[.int .i64 0,.int .i64 0,.int .i64 0]) ?_ 1 _ rfl;(with_reducible repeat (first|refine blk_drewN ?_ _|refine blk_drew ?_|refine blk_alloc ?_ _));refine blk_put (cs:=#[.int .i64 0,.int .i64 0,.int .i64 0]) ?_ 0 _ rfl;(with_reducible repeat (first|refine blk_drewN ?_ _|refine blk_drew ?_|refine blk_alloc ?_ _));exact BK120.out) Tryd.underlying25 rfl (by kernel_rfl)) rfl ?_
      exact ⟨rz,be⟩
    ·rw [if_neg c6] at H
     exact absurd H (by simp)
   ·rw [if_neg c5] at H
    exact absurd H (by simp)
  ·rw [if_neg c4] at H
   exact absurd H (by simp)
 ·replace c3:=Bool.eq_false_iff.mpr c3
  subst c3
  have H1:(some (0,0,0,false))=some (r1,r2,r3,r4):=by rw [if_neg (show ¬ (false=true) by decide)] at H;exact H
  clear H
  have H:=H1
  clear H1
  simp only [Option.some.injEq,Prod.mk.injEq] at H
  obtain ⟨rfl,rfl,rfl,rfl⟩:=H
  go_enter Tryd.func20,Tryd.ntmps20
  go_wp2_with (first|((with_reducible refine gate_dst (N:=2) rfl ?_);refine box_event ?hg (N:=2) ?hd (cs:=#[.int .i64 0,.int .i64 0,.int .i64 0]) (t:=25) ?hr ?_;(case hd=>rfl);(case hg=>rfl);(case hr=>first|(go_simp;done)|(go_simp;rfl));intro gb120 hg w52 hbox hb;have n0_:=bs hb;have n1_:=Aside0.mk (hbox);have n2_:=Aside0.mk ((by rw [hg];exact (below_size be):w.heap.size≤gb120));have n3_:=Aside0.mk ((by rw [hg];exact (below_size be):w.heap.size≤gb120));clear HB;have HB:=n0_;have BK120:=n1_;have GW120:=n2_;have GE120:=n3_;clear n0_ n1_ n2_ n3_;clear hb hbox hg)|((with_reducible refine gate_callee (f:=48) rfl ?_);refine goesL_ (some 9) rfl rfl Tryd.func48 (by kernel_rfl) rfl #[.string a0,.string (⟨#[46]⟩:ByteArray),.int .i64 3] rfl (by (try simp only [List.map_toArray,List.map_cons,List.map_nil]);first|done|rfl|(simp only [List.length_drop,List.length_take];rfl)) ?_;(with_reducible refine (impl_numbersOf.calls k a0 (⟨#[46]⟩:ByteArray) 3 t121 false _ ?side1 A2.out).mono ?_);(case side1=>exact lb hL);rintro e w53 ⟨v123,rfl,ho0,hb⟩;refine ⟨_,rfl,?_⟩;have n0_:=Aside0.mk (Kd.R_lower ho0 (below_size be));have n1_:=Aside0.mk (blk_below (g:=gb120) (o:=.cells #[.int .i64 0,.int .i64 0,.int .i64 0] 25 (0,0)) (bk BK120) hb);have n2_:=bs hb;clear BK120;clear HB;have HO124:=n0_;have BK120:=n1_;have HB:=n2_;clear n0_ n1_ n2_;(try clear hb);(try clear hb2);(try clear hk);(try clear hi);(try clear ho0);have hcz54_0:w53.cell? ⟨gb120,0,none⟩=some (.int .i64 0):=(blk_cell BK120.out 0).trans rfl;have hcz54_1:w53.cell? ⟨gb120,1,none⟩=some (.int .i64 0):=(blk_cell BK120.out 1).trans rfl;have hcz54_2:w53.cell? ⟨gb120,2,none⟩=some (.int .i64 0):=(blk_cell BK120.out 2).trans rfl;have hfz54_0:=blk_frozen BK120.out 0;have hfz54_1:=blk_frozen BK120.out 1;have hfz54_2:=blk_frozen BK120.out 2))
  refine bodyPost_ret (results_ct rfl _ _ gb120 25 #[.int .i64 0,.int .i64 0,.int .i64 0] (0,0) _ rfl (by (with_reducible repeat (first|refine blk_drewN ?_ _|refine blk_drew ?_|refine blk_alloc ?_ _));refine blk_put (cs:=#[.int .i64 0,.int .i64 0,.int .i64 0]) ?_ 2 _ rfl;(with_reducible repeat (first|refine blk_drewN ?_ _|refine blk_drew ?_|refine blk_alloc ?_ _));refine blk_put (cs:=#[.int .i64 0,.int .i64 0,.int .i64 0]) ?_ 1 _ rfl;(with_reducible repeat (first|refine blk_drewN ?_ _|refine blk_drew ?_|refine blk_alloc ?_ _));refine blk_put (cs:=#[.int .i64 0,.int .i64 0,.int .i64 0]) ?_ 0 _ rfl;(with_reducible repeat (first|refine blk_drewN ?_ _|refine blk_drew ?_|refine blk_alloc ?_ _));exact BK120.out) Tryd.underlying25 rfl (by kernel_rfl)) rfl ?_
  exact ⟨rz,be⟩
def laws_big.f (l0:List Int):Option (Bool):=some (decide ((l0.length:Int) > 1048576))
set_option maxHeartbeats 8000000 in
set_option maxRecDepth 100000 in
theorem laws_big.calls (A0:Option Addr) (c0:Nat) (l0:List Int) (r:Bool) (w:World) (hr0:Kd.C (Kd.int .u8) w A0 l0.length l0) (hc0:l0.length≤c0) (h:laws_big.f l0=some r) :
  Calls Tryd.prog 22 #[.slice A0 l0.length c0] w fun e w'=>e = .returned (.bool r)∧Drawn0 w w':=by
 have HR0:=Aside0.mk hr0
 have HC0:=Aside0.mk hc0
 clear hr0 hc0
 have H:(some (decide ((l0.length:Int) > 1048576)))=some r:=h
 clear h
 obtain rfl:=Option.some.inj H
 go_enter Tryd.func22,Tryd.ntmps22
 go_wp2
 go_ret
 exact ⟨by first|rfl|(simp;done)|(simp [*];done),by repeat (first|exact Drawn0.refl _|apply Drawn0.step)⟩
def IsS87 (w0 W:World) (g:Nat) (f0:List Int) (f1:Int) (f2:Int):Prop:=∃ A0 c0,W.heap[g]?=some (.cells #[.slice A0 f0.length c0,.int .i64 f1,.int .i64 f2] 87 (0,0))∧w0.heap.size≤g∧Kd.C (Kd.int .u8) w0 A0 f0.length f0
theorem IsS87.grown {w0 W:World} {g:Nat} {f0:List Int} {f1:Int} {f2:Int} {W1:World} {row:Option Nat} (h:IsS87 w0 W g f0 f1 f2) (hw:W.grownBy W1 row) (hne:some g ≠ row):IsS87 w0 W1 g f0 f1 f2:=by
 obtain ⟨A0,c0,hb,hg,hr0⟩:=h
 exact ⟨A0,c0,blk_grown hb hw hne,hg,hr0⟩
theorem IsS87.kept {w0 W:World} {g:Nat} {f0:List Int} {f1:Int} {f2:Int} {W1:World} {S:Nat→Prop} (h:IsS87 w0 W g f0 f1 f2) (hk:Kept W W1 S) (hne : ¬ S g):IsS87 w0 W1 g f0 f1 f2:=by
 obtain ⟨A0,c0,hb,hg,hr0⟩:=h
 exact ⟨A0,c0,blk_kept hb hk hne,hg,hr0⟩
theorem IsS87.below {w0 W:World} {g:Nat} {f0:List Int} {f1:Int} {f2:Int} {W1:World} (h:IsS87 w0 W g f0 f1 f2) (hw:Below W.heap.size W W1):IsS87 w0 W1 g f0 f1 f2:=h.grown (grown_of_below hw none) (by simp)
theorem IsS87.alloc {w0 W:World} {g:Nat} {f0:List Int} {f1:Int} {f2:Int} (h:IsS87 w0 W g f0 f1 f2) (o:Obj):IsS87 w0 (W.alloc o) g f0 f1 f2:=h.below (below_alloc (Below.refl _ _) o)
theorem IsS87.drewN {w0 W:World} {g:Nat} {f0:List Int} {f1:Int} {f2:Int} (h:IsS87 w0 W g f0 f1 f2) (m:Nat):IsS87 w0 (W.drewN m) g f0 f1 f2:=h
theorem IsS87.drew {w0 W:World} {g:Nat} {f0:List Int} {f1:Int} {f2:Int} (h:IsS87 w0 W g f0 f1 f2):IsS87 w0 W.drew g f0 f1 f2:=h
theorem IsS87.apart {w0 W:World} {g:Nat} {f0:List Int} {f1:Int} {f2:Int} {α:Type} {d:Kd α} {e:Nat} {base:Nat} {ok:Nat→Prop} {v:Value} {xs:List α} (h:IsS87 w0 W g f0 f1 f2) (ho:d.R e W base ok v xs) (ht : ∀ q,q∈e :: d.E→q ≠ 87):d.R e W base (fun k=>ok k∧k ≠ g) v xs:=by
 obtain ⟨A0,c0,hb,hg,hr0⟩:=h
 exact Kd.R_types ho hb ht
theorem IsS87.own_ne {w0 W:World} {g:Nat} {f0:List Int} {f1:Int} {f2:Int} {α:Type} {d:Kd α} {e:Nat} {base:Nat} {ok:Nat→Prop} {v:Value} {xs:List α} (h:IsS87 w0 W g f0 f1 f2) (ho:d.R e W base ok v xs) (ht:e ≠ 87):some g ≠ v.ownBlock:=by
 obtain ⟨A0,c0,hb,hg,hr0⟩:=h
 exact Kd.R_ne ho hb ht
theorem IsS87.lt {w0 W:World} {g:Nat} {f0:List Int} {f1:Int} {f2:Int} (h:IsS87 w0 W g f0 f1 f2):g < W.heap.size:=by
 obtain ⟨A0,c0,hb,hg,hr0⟩:=h
 exact blk_lt hb
theorem IsS87.ge {w0 W:World} {g:Nat} {f0:List Int} {f1:Int} {f2:Int} (h:IsS87 w0 W g f0 f1 f2):w0.heap.size≤g:=by
 obtain ⟨A0,c0,hb,hg,hr0⟩:=h
 exact hg
theorem IsS87.ne_blk {w0 W:World} {g:Nat} {f0:List Int} {f1:Int} {f2:Int} {a:Nat} {cs:Array Value} {t:TypeId} {fr:Nat × Nat} (h:IsS87 w0 W g f0 f1 f2) (hb2:W.heap[a]?=some (.cells cs t fr)) (ht:t ≠ 87):g ≠ a:=by
 obtain ⟨A0,c0,hb,hg,hr0⟩:=h
 rintro rfl
 rw [hb] at hb2
 injection hb2 with hb2
 injection hb2 with _ ht2
 exact ht ht2.symm
theorem IsS87.far {w0 W:World} {g:Nat} {f0:List Int} {f1:Int} {f2:Int} {p:Addr} (h:IsS87 w0 W g f0 f1 f2) (hne:g ≠ p.block) (u:Value):IsS87 w0 (W.setCell p u) g f0 f1 f2:=by
 obtain ⟨A0,c0,hb,hg,hr0⟩:=h
 exact ⟨A0,c0,blk_far hb hne u,hg,hr0⟩
theorem cellS87_0 {W:World} {g:Nat} {A0:Option Addr} {c0:Nat} {f0:List Int} {f1:Int} {f2:Int} (h:W.heap[g]?=some (.cells #[.slice A0 f0.length c0,.int .i64 f1,.int .i64 f2] 87 (0,0))):W.cell? ⟨g,0,none⟩=some (.slice A0 f0.length c0):=(blk_cell h 0).trans rfl
theorem cellS87_1 {W:World} {g:Nat} {A0:Option Addr} {c0:Nat} {f0:List Int} {f1:Int} {f2:Int} (h:W.heap[g]?=some (.cells #[.slice A0 f0.length c0,.int .i64 f1,.int .i64 f2] 87 (0,0))):W.cell? ⟨g,1,none⟩=some (.int .i64 f1):=(blk_cell h 1).trans rfl
theorem IsS87.set_1 {w0 W:World} {g:Nat} {f0:List Int} {f1:Int} {f2:Int} (h:IsS87 w0 W g f0 f1 f2) (x:Int):IsS87 w0 (W.setCell ⟨g,1,none⟩ (.int .i64 x)) g f0 x f2:=by
 obtain ⟨A0,c0,hb,hg,hr0⟩:=h
 exact ⟨A0,c0,by simpa using blk_set hb 1 (.int .i64 x),hg,hr0⟩
theorem cellS87_2 {W:World} {g:Nat} {A0:Option Addr} {c0:Nat} {f0:List Int} {f1:Int} {f2:Int} (h:W.heap[g]?=some (.cells #[.slice A0 f0.length c0,.int .i64 f1,.int .i64 f2] 87 (0,0))):W.cell? ⟨g,2,none⟩=some (.int .i64 f2):=(blk_cell h 2).trans rfl
theorem IsS87.set_2 {w0 W:World} {g:Nat} {f0:List Int} {f1:Int} {f2:Int} (h:IsS87 w0 W g f0 f1 f2) (x:Int):IsS87 w0 (W.setCell ⟨g,2,none⟩ (.int .i64 x)) g f0 f1 x:=by
 obtain ⟨A0,c0,hb,hg,hr0⟩:=h
 exact ⟨A0,c0,by simpa using blk_set hb 2 (.int .i64 x),hg,hr0⟩
def spec_l1New.l0:Nat→List Int→Int→Int→Option (List Int × Int × Int)
 | 0,_,_,_=>none
 | k+1,x0,x3,x4=>if x4 < (x0.length:Int) then (if x4 < 4000 then (if 0≤x4 then (spec_l1New.l0 k x0 (Go.bits .and .i64 (wrap64 ((wrap64 ((wrap64 (x3 * 137))+(wrap64 (rd x0 x4))))+11)) 1073741823) (wrap64 (x4+1))) else (none)) else (some (x0,0,x3))) else (some (x0,0,x3))
def spec_l1New.f (k:Nat) (l0:List Int):Option (List Int × Int × Int):=spec_l1New.l0 k l0 (wrap64 (378378+(l0.length:Int))) 0
set_option maxHeartbeats 8000000 in
set_option maxRecDepth 100000 in
theorem spec_l1New.calls (k:Nat) (A0:Option Addr) (c0:Nat) (l0:List Int) (r1:List Int) (r2:Int) (r3:Int) (w0 w:World) (hB:Below w0.heap.size w0 w) (hr0:Kd.C (Kd.int .u8) w0 A0 l0.length l0) (hc0:l0.length≤c0) (h:spec_l1New.f k l0=some (r1,r2,r3)) :
  Calls Tryd.prog 49 #[.slice A0 l0.length c0] w fun e w'=>∃ g_:Nat,e = .returned (.pointer (some ⟨g_,0,none⟩))∧IsS87 w0 w' g_ r1 r2 r3∧Below w0.heap.size w0 w' ∧ Below w.heap.size w w':=by
 have hu87:=Tryd.underlying87
 have HR0:=Aside0.mk hr0
 have HC0:=Aside0.mk hc0
 clear hr0 hc0
 have HBW:=Aside0.mk (Below.refl w.heap.size w)
 have HW0:=Aside0.mk hB.size
 have HB:=Aside0.mk hB
 clear hB
 have H:(spec_l1New.l0 k l0 (wrap64 (378378+(l0.length:Int))) 0)=some (r1,r2,r3):=h
 clear h
 have H':=Aside0.mk H
 clear H
 go_enter Tryd.func49,Tryd.ntmps49
 go_wp2
 go_loopg [3,4] k (fun kq v3 v4 w'=>∃ (x3_1:Int) (x4_1:Int),v3 = .int .i64 x3_1∧v4 = .int .i64 x4_1∧Aside0 (spec_l1New.l0 kq l0 x3_1 x4_1=some (r1,r2,r3))∧Aside0 (kq≤k)∧Aside0 (Below w0.heap.size w0 w')∧Aside0 (Below w.heap.size w w'))
 case atStart=>exact ⟨(wrap64 (378378+(l0.length:Int))),(0),rd_,rd_,H',⟨Nat.le_refl _⟩,⟨be⟩,⟨by repeat (first|(with_reducible first|exact HBW.out|apply below_alloc|apply pw_below_drewN|apply below_drew1)|exact HBW.out)⟩⟩
 case round=>
  clear H'
  obtain ⟨x3_1,x4_1,rfl,rfl,HA,HK1,HB,HBW⟩:=hrel
  cases gk with
  | zero=>exact absurd HA.out (by simp [spec_l1New.l0])
  | succ k1=>
   have H:=HA.out
   clear HA
   simp only [spec_l1New.l0] at H
   by_cases c2:x4_1 < (l0.length:Int)
   ·rw [if_pos c2] at H
    have c2b0:decide (x4_1 < (l0.length:Int))=true:=decide_eq_true c2
    clear c2
    by_cases c3:x4_1 < 4000
    ·rw [if_pos c3] at H
     have c3b0:decide (x4_1 < 4000)=true:=decide_eq_true c3
     clear c3
     by_cases c4:0≤x4_1
     ·rw [if_pos c4] at H
      have c4b0:decide (0≤x4_1)=true:=decide_eq_true c4
      clear c4
      have H':=Aside0.mk H
      clear H
      have p131:0≤(x4_1:Int):=of_decide_eq_true (by first|(with_reducible assumption)|assumption)
      have q131:x4_1 < (l0.length:Int):=of_decide_eq_true (by first|(with_reducible assumption)|assumption)
      obtain ⟨ad131,e131,hx131_0⟩:=Kd.at_int HR0.out x4_1 p131 q131
      cases e131
      replace hx131_0:=pw_cell_below HB.out hx131_0
      replace p131:=eq_true p131
      replace q131:=eq_true q131
      go_wp2
      go_roundg k1
      case measure=>have:=HK1.out;omega
      case rel=>exact ⟨(Go.bits .and .i64 (wrap64 ((wrap64 ((wrap64 (x3_1 * 137))+(wrap64 (rd l0 x4_1))))+11)) 1073741823),(wrap64 (x4_1+1)),rd_,rd_,H',⟨by have:=HK1.out;omega⟩,⟨be⟩,⟨by repeat (first|(with_reducible first|exact HBW.out|apply below_alloc|apply pw_below_drewN|apply below_drew1)|exact HBW.out)⟩⟩
     ·rw [if_neg c4] at H
      exact absurd H (by simp)
    ·rw [if_neg c3] at H
     have c3b0:decide (x4_1 < 4000)=false:=decide_eq_false c3
     clear c3
     simp only [Option.some.injEq,Prod.mk.injEq] at H
     obtain ⟨rfl,rfl,rfl⟩:=H
     go_wp2_with (first|((with_reducible refine gate_dst (N:=31) rfl ?_);refine box_event ?hg (N:=31) ?hd (cs:=#[.slice A0 l0.length c0,.int .i64 0,.int .i64 x3_1]) (t:=87) ?hr ?_;(case hd=>rfl);(case hg=>rfl);(case hr=>first|(go_simp;done)|(go_simp;rfl));intro gb132 hg w5 hbox hb;have n0_:=Aside0.mk (below_step HBW.out hb);have n1_:=bs (w:=w0) hb;have n2_:=Aside0.mk (hbox);have n3_:=Aside0.mk ((by rw [hg];exact (below_size (by repeat (first|(with_reducible first|exact HBW.out|apply below_alloc|apply pw_below_drewN|apply below_drew1)|exact HBW.out))):w.heap.size≤gb132));have n4_:=Aside0.mk ((Nat.le_trans HW0.out (by rw [hg];exact (below_size (by repeat (first|(with_reducible first|exact HBW.out|apply below_alloc|apply pw_below_drewN|apply below_drew1)|exact HBW.out))):w.heap.size≤gb132):w0.heap.size≤gb132));clear HBW;clear HB;have HBW:=n0_;have HB:=n1_;have BK132:=n2_;have GW132:=n3_;have GE132:=n4_;clear n0_ n1_ n2_ n3_ n4_;clear hb hbox hg))
     go_ret
     exact ⟨_,rfl,(show IsS87 w0 _ gb132 l0 0 x3_1 from ⟨_,_,bk BK132,GE132.out,HR0.out⟩),be,by repeat (first|(with_reducible first|exact HBW.out|apply below_alloc|apply pw_below_drewN|apply below_drew1|refine below_set ?_ GW132.out)|exact HBW.out)⟩
   ·rw [if_neg c2] at H
    have c2b0:decide (x4_1 < (l0.length:Int))=false:=decide_eq_false c2
    clear c2
    simp only [Option.some.injEq,Prod.mk.injEq] at H
    obtain ⟨rfl,rfl,rfl⟩:=H
    go_wp2_with (first|((with_reducible refine gate_dst (N:=31) rfl ?_);refine box_event ?hg (N:=31) ?hd (cs:=#[.slice A0 l0.length c0,.int .i64 0,.int .i64 x3_1]) (t:=87) ?hr ?_;(case hd=>rfl);(case hg=>rfl);(case hr=>first|(go_simp;done)|(go_simp;rfl));intro gb133 hg w6 hbox hb;have n0_:=Aside0.mk (below_step HBW.out hb);have n1_:=bs (w:=w0) hb;have n2_:=Aside0.mk (hbox);have n3_:=Aside0.mk ((by rw [hg];exact (below_size (by repeat (first|(with_reducible first|exact HBW.out|apply below_alloc|apply pw_below_drewN|apply below_drew1)|exact HBW.out))):w.heap.size≤gb133));have n4_:=Aside0.mk ((Nat.le_trans HW0.out (by rw [hg];exact (below_size (by repeat (first|(with_reducible first|exact HBW.out|apply below_alloc|apply pw_below_drewN|apply below_drew1)|exact HBW.out))):w.heap.size≤gb133):w0.heap.size≤gb133));clear HBW;clear HB;have HBW:=n0_;have HB:=n1_;have BK133:=n2_;have GW133:=n3_;have GE133:=n4_;clear n0_ n1_ n2_ n3_ n4_;clear hb hbox hg))
    go_ret
    exact ⟨_,rfl,(show IsS87 w0 _ gb133 l0 0 x3_1 from ⟨_,_,bk BK133,GE133.out,HR0.out⟩),be,by repeat (first|(with_reducible first|exact HBW.out|apply below_alloc|apply pw_below_drewN|apply below_drew1|refine below_set ?_ GW133.out)|exact HBW.out)⟩
def spec_l1Byte.f (s0_0:List Int) (s0_1:Int) (s0_2:Int):Option (Int × Int × Int):=if s0_1 < (s0_0.length:Int) then (if 0≤s0_1 then (some (Go.bits .and .i64 (wrap64 ((Go.bits .and .i64 (Go.bits .xor .i64 ((wrap64 ((wrap64 (s0_2 * 6364136223846793005))+1442695040888963407)) / 8589934592) ((wrap64 ((wrap64 (s0_2 * 6364136223846793005))+1442695040888963407)) / 140737488355328)) 255)+(wrap64 (rd s0_0 s0_1)))) 255,wrap64 (s0_1+1),wrap64 ((wrap64 (s0_2 * 6364136223846793005))+1442695040888963407))) else (none)) else (some (Go.bits .and .i64 (Go.bits .xor .i64 ((wrap64 ((wrap64 (s0_2 * 6364136223846793005))+1442695040888963407)) / 8589934592) ((wrap64 ((wrap64 (s0_2 * 6364136223846793005))+1442695040888963407)) / 140737488355328)) 255,s0_1,wrap64 ((wrap64 (s0_2 * 6364136223846793005))+1442695040888963407)))
set_option maxHeartbeats 8000000 in
set_option maxRecDepth 100000 in
theorem spec_l1Byte.calls (g:Nat) (s0_0:List Int) (s0_1:Int) (s0_2:Int) (r1:Int) (r2:Int) (r3:Int) (w0 w:World) (hI:IsS87 w0 w g s0_0 s0_1 s0_2) (hB:Below w0.heap.size w0 w) (h:spec_l1Byte.f s0_0 s0_1 s0_2=some (r1,r2,r3)) :
  Calls Tryd.prog 69 #[.pointer (some ⟨g,0,none⟩)] w fun e w'=>e = .returned (.int .i64 r1)∧IsS87 w0 w' g s0_0 r2 r3∧Below w0.heap.size w0 w' ∧ KeepBut w w' g none:=by
 have HI0:=Aside0.mk hI
 have HK:=Aside0.mk (KeepBut.refl w g none)
 have HL:=Aside0.mk hB.size
 clear hI
 have HW0:=Aside0.mk hB.size
 have HB:=Aside0.mk hB
 clear hB
 have H:(if s0_1 < (s0_0.length:Int) then (if 0≤s0_1 then (some (Go.bits .and .i64 (wrap64 ((Go.bits .and .i64 (Go.bits .xor .i64 ((wrap64 ((wrap64 (s0_2 * 6364136223846793005))+1442695040888963407)) / 8589934592) ((wrap64 ((wrap64 (s0_2 * 6364136223846793005))+1442695040888963407)) / 140737488355328)) 255)+(wrap64 (rd s0_0 s0_1)))) 255,wrap64 (s0_1+1),wrap64 ((wrap64 (s0_2 * 6364136223846793005))+1442695040888963407))) else (none)) else (some (Go.bits .and .i64 (Go.bits .xor .i64 ((wrap64 ((wrap64 (s0_2 * 6364136223846793005))+1442695040888963407)) / 8589934592) ((wrap64 ((wrap64 (s0_2 * 6364136223846793005))+1442695040888963407)) / 140737488355328)) 255,s0_1,wrap64 ((wrap64 (s0_2 * 6364136223846793005))+1442695040888963407))))=some (r1,r2,r3):=h
 clear h
 by_cases c2:s0_1 < (s0_0.length:Int)
 ·rw [if_pos c2] at H
  have c2b0:decide (s0_1 < (s0_0.length:Int))=true:=decide_eq_true c2
  clear c2
  by_cases c3:0≤s0_1
  ·rw [if_pos c3] at H
   have c3b0:decide (0≤s0_1)=true:=decide_eq_true c3
   clear c3
   simp only [Option.some.injEq,Prod.mk.injEq] at H
   obtain ⟨rfl,rfl,rfl⟩:=H
   obtain ⟨ASz4_0,cSz4_0,HGz4,hgz4,HSz4_0⟩:=HI0.out
   have hcz4_0:=cellS87_0 HGz4
   have hcz4_1:=cellS87_1 HGz4
   have hcz4_2:=cellS87_2 HGz4
   have hfz4_1:=blk_frozen HGz4 1
   have hfz4_2:=blk_frozen HGz4 2
   clear HGz4 hgz4
   have p134:0≤(s0_1:Int):=of_decide_eq_true (by first|(with_reducible assumption)|assumption)
   have q134:s0_1 < (s0_0.length:Int):=of_decide_eq_true (by first|(with_reducible assumption)|assumption)
   obtain ⟨ad134,e134,hx134_0⟩:=Kd.at_int HSz4_0 s0_1 p134 q134
   cases e134
   have hn134_0:ad134.block ≠ g:=Nat.ne_of_lt (Nat.lt_of_lt_of_le (by have:=World.block_lt_of_cell? _ _ hx134_0;first|rwa [add_block] at this|exact this) (IsS87.ge HI0.out))
   replace hx134_0:=pw_cell_below HB.out hx134_0
   replace hx134_0:=(cell_far (p:=⟨g,2,none⟩) (by first|(rw [add_block];exact hn134_0)|(show (Addr.add _ _).block ≠ _;rw [add_block];exact hn134_0)|exact hn134_0) (.int .i64 (wrap64 ((wrap64 (s0_2 * 6364136223846793005))+1442695040888963407)))).trans hx134_0
   (try have hy134_0:=fun (n_:Nat)=>(show (((w.drewN n_).setCell ⟨g,2,none⟩ (.int .i64 (wrap64 ((wrap64 (s0_2 * 6364136223846793005))+1442695040888963407))))).cell? _=some _ from hx134_0))
   clear hn134_0
   replace p134:=eq_true p134
   replace q134:=eq_true q134
   go_enter Tryd.func69,Tryd.ntmps69
   go_wp2
   repeat (go_quiet (fail);try go_wp2)
   go_ret
   exact ⟨rz,by repeat (first|(with_reducible first|exact HI0.out|apply IsS87.alloc|apply IsS87.drewN|apply IsS87.drew|apply IsS87.set_1|apply IsS87.set_2)|exact HI0.out),by repeat (first|(with_reducible first|exact HB.out|apply below_alloc|apply pw_below_drewN|apply below_drew1|refine below_set ?_ (IsS87.ge HI0.out))|exact HB.out),by repeat (first|(with_reducible first|exact HK.out|apply KeepBut.set_|apply keep_drewN|apply keep_drew|apply keep_alloc)|exact HK.out)⟩
  ·rw [if_neg c3] at H
   exact absurd H (by simp)
 ·rw [if_neg c2] at H
  have c2b0:decide (s0_1 < (s0_0.length:Int))=false:=decide_eq_false c2
  clear c2
  simp only [Option.some.injEq,Prod.mk.injEq] at H
  obtain ⟨rfl,rfl,rfl⟩:=H
  obtain ⟨ASz5_0,cSz5_0,HGz5,hgz5,HSz5_0⟩:=HI0.out
  have hcz5_0:=cellS87_0 HGz5
  have hcz5_1:=cellS87_1 HGz5
  have hcz5_2:=cellS87_2 HGz5
  have hfz5_1:=blk_frozen HGz5 1
  have hfz5_2:=blk_frozen HGz5 2
  clear HGz5 hgz5
  go_enter Tryd.func69,Tryd.ntmps69
  go_wp2
  repeat (go_quiet (fail);try go_wp2)
  go_ret
  exact ⟨rz,by repeat (first|(with_reducible first|exact HI0.out|apply IsS87.alloc|apply IsS87.drewN|apply IsS87.drew|apply IsS87.set_1|apply IsS87.set_2)|exact HI0.out),by repeat (first|(with_reducible first|exact HB.out|apply below_alloc|apply pw_below_drewN|apply below_drew1|refine below_set ?_ (IsS87.ge HI0.out))|exact HB.out),by repeat (first|(with_reducible first|exact HK.out|apply KeepBut.set_|apply keep_drewN|apply keep_drew|apply keep_alloc)|exact HK.out)⟩
def spec_l1Below.f (s0_0:List Int) (s0_1:Int) (s0_2:Int) (a1:Int):Option (Int × Int × Int):=if a1≤0 then (some (0,s0_1,s0_2)) else (if a1≤256 then ((spec_l1Byte.f s0_0 s0_1 s0_2).bind fun bt135=>(if a1=0 then (none) else (some (Int.tmod bt135.1 a1,bt135.2.1,bt135.2.2)))) else ((spec_l1Byte.f s0_0 s0_1 s0_2).bind fun bt138=>((spec_l1Byte.f s0_0 bt138.2.1 bt138.2.2).bind fun bt141=>((spec_l1Byte.f s0_0 bt141.2.1 bt141.2.2).bind fun bt144=>(if a1=0 then (none) else (some (Int.tmod (wrap64 ((wrap64 ((wrap64 (bt138.1 * 65536))+(wrap64 (bt141.1 * 256))))+bt144.1)) a1,bt144.2.1,bt144.2.2)))))))
set_option maxHeartbeats 8000000 in
set_option maxRecDepth 100000 in
theorem spec_l1Below.calls (g:Nat) (s0_0:List Int) (s0_1:Int) (s0_2:Int) (a1:Int) (r1:Int) (r2:Int) (r3:Int) (w0 w:World) (hI:IsS87 w0 w g s0_0 s0_1 s0_2) (hB:Below w0.heap.size w0 w) (h:spec_l1Below.f s0_0 s0_1 s0_2 a1=some (r1,r2,r3)) :
  Calls Tryd.prog 58 #[.pointer (some ⟨g,0,none⟩),.int .i64 a1] w fun e w'=>e = .returned (.int .i64 r1)∧IsS87 w0 w' g s0_0 r2 r3∧Below w0.heap.size w0 w' ∧ KeepBut w w' g none:=by
 have HI0:=Aside0.mk hI
 have HK:=Aside0.mk (KeepBut.refl w g none)
 have HL:=Aside0.mk hB.size
 clear hI
 have HW0:=Aside0.mk hB.size
 have HB:=Aside0.mk hB
 clear hB
 have H:(if a1≤0 then (some (0,s0_1,s0_2)) else (if a1≤256 then ((spec_l1Byte.f s0_0 s0_1 s0_2).bind fun bt135=>(if a1=0 then (none) else (some (Int.tmod bt135.1 a1,bt135.2.1,bt135.2.2)))) else ((spec_l1Byte.f s0_0 s0_1 s0_2).bind fun bt138=>((spec_l1Byte.f s0_0 bt138.2.1 bt138.2.2).bind fun bt141=>((spec_l1Byte.f s0_0 bt141.2.1 bt141.2.2).bind fun bt144=>(if a1=0 then (none) else (some (Int.tmod (wrap64 ((wrap64 ((wrap64 (bt138.1 * 65536))+(wrap64 (bt141.1 * 256))))+bt144.1)) a1,bt144.2.1,bt144.2.2))))))))=some (r1,r2,r3):=h
 clear h
 by_cases c3:a1≤0
 ·rw [if_pos c3] at H
  have c3b0:decide (a1≤0)=true:=decide_eq_true c3
  clear c3
  simp only [Option.some.injEq,Prod.mk.injEq] at H
  obtain ⟨rfl,rfl,rfl⟩:=H
  go_enter Tryd.func58,Tryd.ntmps58
  go_wp2
  go_ret
  exact ⟨rz,by repeat (first|(with_reducible first|exact HI0.out|apply IsS87.alloc|apply IsS87.drewN|apply IsS87.drew|apply IsS87.set_1|apply IsS87.set_2)|exact HI0.out),by repeat (first|(with_reducible first|exact HB.out|apply below_alloc|apply pw_below_drewN|apply below_drew1|refine below_set ?_ (IsS87.ge HI0.out))|exact HB.out),by repeat (first|(with_reducible first|exact HK.out|apply KeepBut.set_|apply keep_drewN|apply keep_drew|apply keep_alloc)|exact HK.out)⟩
 ·rw [if_neg c3] at H
  have c3b0:decide (a1≤0)=false:=decide_eq_false c3
  clear c3
  by_cases c4:a1≤256
  ·rw [if_pos c4] at H
   have c4b0:decide (a1≤256)=true:=decide_eq_true c4
   clear c4
   replace H:=Option.bind_eq_some_iff.mp H
   obtain ⟨⟨t135,t136,t137⟩,A50,H⟩:=H
   try dsimp only at H
   have A5:=Aside0.mk A50
   clear A50
   by_cases c6:a1=0
   ·rw [if_pos c6] at H
    exact absurd H (by simp)
   ·rw [if_neg c6] at H
    have c6b0:(a1 == 0)=false:=beq_eq_false_iff_ne.mpr c6
    have c6b1:(a1 != 0)=true:=bne_iff_ne.mpr c6
    simp only [Option.some.injEq,Prod.mk.injEq] at H
    obtain ⟨rfl,rfl,rfl⟩:=H
    go_enter Tryd.func58,Tryd.ntmps58
    go_wp2_with (first|((with_reducible refine gate_callee (f:=69) rfl ?_);refine goesL_ (some 13) rfl rfl Tryd.func69 (by kernel_rfl) rfl #[.pointer (some ⟨g,0,none⟩)] rfl (by (try simp only [List.map_toArray,List.map_cons,List.map_nil]);first|done|rfl|(simp only [List.length_drop,List.length_take];rfl)) ?_;(with_reducible refine (spec_l1Byte.calls g s0_0 s0_1 s0_2 t135 t136 t137 w0 _ ?side1 ?side2 A5.out).mono ?_);(case side1=>repeat (first|(with_reducible first|exact HI0.out|apply IsS87.alloc|apply IsS87.drewN|apply IsS87.drew|apply IsS87.set_1|apply IsS87.set_2)|exact HI0.out));(case side2=>repeat (first|(with_reducible first|exact HB.out|apply below_alloc|apply pw_below_drewN|apply below_drew1|refine below_set ?_ (IsS87.ge HI0.out))|exact HB.out));rintro e w7 ⟨rfl,hi,hb,hk⟩;refine ⟨_,rfl,?_⟩;have n0_:=Aside0.mk (KeepBut.trans (by repeat (first|(with_reducible first|exact HK.out|apply KeepBut.set_|apply keep_drewN|apply keep_drew|apply keep_alloc)|exact HK.out)) hk (.inl rfl));have n1_:=Aside0.mk (hb);have n2_:=Aside0.mk (hi);clear HK;clear HB;clear HI0;have HK:=n0_;have HB:=n1_;have HI0:=n2_;clear n0_ n1_ n2_;(try clear hb);(try clear hb2);(try clear hk);(try clear hi)))
    go_ret
    exact ⟨rz,by repeat (first|(with_reducible first|exact HI0.out|apply IsS87.alloc|apply IsS87.drewN|apply IsS87.drew|apply IsS87.set_1|apply IsS87.set_2)|exact HI0.out),by repeat (first|(with_reducible first|exact HB.out|apply below_alloc|apply pw_below_drewN|apply below_drew1|refine below_set ?_ (IsS87.ge HI0.out))|exact HB.out),by repeat (first|(with_reducible first|exact HK.out|apply KeepBut.set_|apply keep_drewN|apply keep_drew|apply keep_alloc)|exact HK.out)⟩
  ·rw [if_neg c4] at H
   have c4b0:decide (a1≤256)=false:=decide_eq_false c4
   clear c4
   replace H:=Option.bind_eq_some_iff.mp H
   obtain ⟨⟨t138,t139,t140⟩,A80,H⟩:=H
   try dsimp only at H
   have A8:=Aside0.mk A80
   clear A80
   replace H:=Option.bind_eq_some_iff.mp H
   obtain ⟨⟨t141,t142,t143⟩,A90,H⟩:=H
   try dsimp only at H
   have A9:=Aside0.mk A90
   clear A90
   replace H:=Option.bind_eq_some_iff.mp H
   obtain ⟨⟨t144,t145,t146⟩,A100,H⟩:=H
   try dsimp only at H
   have A10:=Aside0.mk A100
   clear A100
   by_cases c11:a1=0
   ·rw [if_pos c11] at H
    exact absurd H (by simp)
   ·rw [if_neg c11] at H
    have c11b0:(a1 == 0)=false:=beq_eq_false_iff_ne.mpr c11
    have c11b1:(a1 != 0)=true:=bne_iff_ne.mpr c11
    simp only [Option.some.injEq,Prod.mk.injEq] at H
    obtain ⟨rfl,rfl,rfl⟩:=H
    go_enter Tryd.func58,Tryd.ntmps58
    go_wp2_with (first|((with_reducible refine gate_callee (f:=69) rfl ?_);refine goesL_ (some 17) rfl rfl Tryd.func69 (by kernel_rfl) rfl #[.pointer (some ⟨g,0,none⟩)] rfl (by (try simp only [List.map_toArray,List.map_cons,List.map_nil]);first|done|rfl|(simp only [List.length_drop,List.length_take];rfl)) ?_;(with_reducible refine (spec_l1Byte.calls g s0_0 s0_1 s0_2 t138 t139 t140 w0 _ ?side1 ?side2 A8.out).mono ?_);(case side1=>repeat (first|(with_reducible first|exact HI0.out|apply IsS87.alloc|apply IsS87.drewN|apply IsS87.drew|apply IsS87.set_1|apply IsS87.set_2)|exact HI0.out));(case side2=>repeat (first|(with_reducible first|exact HB.out|apply below_alloc|apply pw_below_drewN|apply below_drew1|refine below_set ?_ (IsS87.ge HI0.out))|exact HB.out));rintro e w12 ⟨rfl,hi,hb,hk⟩;refine ⟨_,rfl,?_⟩;have n0_:=Aside0.mk (KeepBut.trans (by repeat (first|(with_reducible first|exact HK.out|apply KeepBut.set_|apply keep_drewN|apply keep_drew|apply keep_alloc)|exact HK.out)) hk (.inl rfl));have n1_:=Aside0.mk (hb);have n2_:=Aside0.mk (hi);clear HK;clear HB;clear HI0;have HK:=n0_;have HB:=n1_;have HI0:=n2_;clear n0_ n1_ n2_;(try clear hb);(try clear hb2);(try clear hk);(try clear hi))|((with_reducible refine gate_callee (f:=69) rfl ?_);refine goesL_ (some 19) rfl rfl Tryd.func69 (by kernel_rfl) rfl #[.pointer (some ⟨g,0,none⟩)] rfl (by (try simp only [List.map_toArray,List.map_cons,List.map_nil]);first|done|rfl|(simp only [List.length_drop,List.length_take];rfl)) ?_;(with_reducible refine (spec_l1Byte.calls g s0_0 t139 t140 t141 t142 t143 w0 _ ?side1 ?side2 A9.out).mono ?_);(case side1=>repeat (first|(with_reducible first|exact HI0.out|apply IsS87.alloc|apply IsS87.drewN|apply IsS87.drew|apply IsS87.set_1|apply IsS87.set_2)|exact HI0.out));(case side2=>repeat (first|(with_reducible first|exact HB.out|apply below_alloc|apply pw_below_drewN|apply below_drew1|refine below_set ?_ (IsS87.ge HI0.out))|exact HB.out));rintro e w13 ⟨rfl,hi,hb,hk⟩;refine ⟨_,rfl,?_⟩;have n0_:=Aside0.mk (KeepBut.trans (by repeat (first|(with_reducible first|exact HK.out|apply KeepBut.set_|apply keep_drewN|apply keep_drew|apply keep_alloc)|exact HK.out)) hk (.inl rfl));have n1_:=Aside0.mk (hb);have n2_:=Aside0.mk (hi);clear HK;clear HB;clear HI0;have HK:=n0_;have HB:=n1_;have HI0:=n2_;clear n0_ n1_ n2_;(try clear hb);(try clear hb2);(try clear hk);(try clear hi))|((with_reducible refine gate_callee (f:=69) rfl ?_);refine goesL_ (some 21) rfl rfl Tryd.func69 (by kernel_rfl) rfl #[.pointer (some ⟨g,0,none⟩)] rfl (by (try simp only [List.map_toArray,List.map_cons,List.map_nil]);first|done|rfl|(simp only [List.length_drop,List.length_take];rfl)) ?_;(with_reducible refine (spec_l1Byte.calls g s0_0 t142 t143 t144 t145 t146 w0 _ ?side1 ?side2 A10.out).mono ?_);(case side1=>repeat (first|(with_reducible first|exact HI0.out|apply IsS87.alloc|apply IsS87.drewN|apply IsS87.drew|apply IsS87.set_1|apply IsS87.set_2)|exact HI0.out));(case side2=>repeat (first|(with_reducible first|exact HB.out|apply below_alloc|apply pw_below_drewN|apply below_drew1|refine below_set ?_ (IsS87.ge HI0.out))|exact HB.out));rintro e w14 ⟨rfl,hi,hb,hk⟩;refine ⟨_,rfl,?_⟩;have n0_:=Aside0.mk (KeepBut.trans (by repeat (first|(with_reducible first|exact HK.out|apply KeepBut.set_|apply keep_drewN|apply keep_drew|apply keep_alloc)|exact HK.out)) hk (.inl rfl));have n1_:=Aside0.mk (hb);have n2_:=Aside0.mk (hi);clear HK;clear HB;clear HI0;have HK:=n0_;have HB:=n1_;have HI0:=n2_;clear n0_ n1_ n2_;(try clear hb);(try clear hb2);(try clear hk);(try clear hi)))
    go_ret
    exact ⟨rz,by repeat (first|(with_reducible first|exact HI0.out|apply IsS87.alloc|apply IsS87.drewN|apply IsS87.drew|apply IsS87.set_1|apply IsS87.set_2)|exact HI0.out),by repeat (first|(with_reducible first|exact HB.out|apply below_alloc|apply pw_below_drewN|apply below_drew1|refine below_set ?_ (IsS87.ge HI0.out))|exact HB.out),by repeat (first|(with_reducible first|exact HK.out|apply KeepBut.set_|apply keep_drewN|apply keep_drew|apply keep_alloc)|exact HK.out)⟩
def spec_l1Int.f (s0_0:List Int) (s0_1:Int) (s0_2:Int) (l1:List Int):Option (Int × Int × Int):=(spec_l1Below.f s0_0 s0_1 s0_2 (l1.length:Int)).bind fun bt147=>(if 0≤bt147.1 then (if bt147.1 < (l1.length:Int) then (some (rd l1 bt147.1,bt147.2.1,bt147.2.2)) else (none)) else (none))
set_option maxHeartbeats 8000000 in
set_option maxRecDepth 100000 in
theorem spec_l1Int.calls (g:Nat) (s0_0:List Int) (s0_1:Int) (s0_2:Int) (A1:Option Addr) (c1:Nat) (l1:List Int) (r1:Int) (r2:Int) (r3:Int) (w0 w:World) (hI:IsS87 w0 w g s0_0 s0_1 s0_2) (hB:Below w0.heap.size w0 w) (hr1:Kd.C (Kd.int .i64) w A1 l1.length l1) (hc1:l1.length≤c1) (hf1 : ∀ ad,A1=some ad→0 < l1.length→ad.block ≠ g) (h:spec_l1Int.f s0_0 s0_1 s0_2 l1=some (r1,r2,r3)) :
  Calls Tryd.prog 67 #[.pointer (some ⟨g,0,none⟩),.slice A1 l1.length c1] w fun e w'=>e = .returned (.int .i64 r1)∧IsS87 w0 w' g s0_0 r2 r3∧Below w0.heap.size w0 w' ∧ KeepBut w w' g none:=by
 have HR1:=Aside0.mk hr1
 have HC1:=Aside0.mk hc1
 clear hr1 hc1
 have HI0:=Aside0.mk hI
 have HK:=Aside0.mk (KeepBut.refl w g none)
 have HL:=Aside0.mk hB.size
 clear hI
 have HW0:=Aside0.mk hB.size
 have HB:=Aside0.mk hB
 clear hB
 have H:((spec_l1Below.f s0_0 s0_1 s0_2 (l1.length:Int)).bind fun bt147=>(if 0≤bt147.1 then (if bt147.1 < (l1.length:Int) then (some (rd l1 bt147.1,bt147.2.1,bt147.2.2)) else (none)) else (none)))=some (r1,r2,r3):=h
 clear h
 replace H:=Option.bind_eq_some_iff.mp H
 obtain ⟨⟨t147,t148,t149⟩,A30,H⟩:=H
 try dsimp only at H
 have A3:=Aside0.mk A30
 clear A30
 by_cases c4:0≤t147
 ·rw [if_pos c4] at H
  have c4b0:decide (0≤t147)=true:=decide_eq_true c4
  clear c4
  by_cases c5:t147 < (l1.length:Int)
  ·rw [if_pos c5] at H
   have c5b0:decide (t147 < (l1.length:Int))=true:=decide_eq_true c5
   clear c5
   simp only [Option.some.injEq,Prod.mk.injEq] at H
   obtain ⟨rfl,rfl,rfl⟩:=H
   go_enter Tryd.func67,Tryd.ntmps67
   go_wp2_with (first|((with_reducible refine gate_callee (f:=58) rfl ?_);refine goesL_ (some 9) rfl rfl Tryd.func58 (by kernel_rfl) rfl #[.pointer (some ⟨g,0,none⟩),.int .i64 (l1.length:Int)] rfl (by (try simp only [List.map_toArray,List.map_cons,List.map_nil]);first|done|rfl|(simp only [List.length_drop,List.length_take];rfl)) ?_;(with_reducible refine (spec_l1Below.calls g s0_0 s0_1 s0_2 (l1.length:Int) t147 t148 t149 w0 _ ?side1 ?side2 A3.out).mono ?_);(case side1=>repeat (first|(with_reducible first|exact HI0.out|apply IsS87.alloc|apply IsS87.drewN|apply IsS87.drew|apply IsS87.set_1|apply IsS87.set_2)|exact HI0.out));(case side2=>repeat (first|(with_reducible first|exact HB.out|apply below_alloc|apply pw_below_drewN|apply below_drew1|refine below_set ?_ (IsS87.ge HI0.out))|exact HB.out));rintro e w6 ⟨rfl,hi,hb,hk⟩;refine ⟨_,rfl,?_⟩;have n0_:=Aside0.mk (KeepBut.trans (by repeat (first|(with_reducible first|exact HK.out|apply KeepBut.set_|apply keep_drewN|apply keep_drew|apply keep_alloc)|exact HK.out)) hk (.inl rfl));have n1_:=Aside0.mk (hb);have n2_:=Aside0.mk (hi);clear HK;clear HB;clear HI0;have HK:=n0_;have HB:=n1_;have HI0:=n2_;clear n0_ n1_ n2_;(try clear hb);(try clear hb2);(try clear hk);(try clear hi);have p150:0≤(t147:Int):=of_decide_eq_true (by first|(with_reducible assumption)|assumption);have q150:t147 < (l1.length:Int):=of_decide_eq_true (by first|(with_reducible assumption)|assumption);obtain ⟨ad150,e150,hx150_0⟩:=Kd.at_int HR1.out t147 p150 q150;cases e150;replace hx150_0:=keep_cell HK.out hx150_0 (by first|(rw [add_block];exact hf1 _ rfl (by omega))|exact hf1 _ rfl (by omega)|exact hf1 ad150 rfl (by omega));replace p150:=eq_true p150;replace q150:=eq_true q150))
   go_ret
   exact ⟨rz,by repeat (first|(with_reducible first|exact HI0.out|apply IsS87.alloc|apply IsS87.drewN|apply IsS87.drew|apply IsS87.set_1|apply IsS87.set_2)|exact HI0.out),by repeat (first|(with_reducible first|exact HB.out|apply below_alloc|apply pw_below_drewN|apply below_drew1|refine below_set ?_ (IsS87.ge HI0.out))|exact HB.out),by repeat (first|(with_reducible first|exact HK.out|apply KeepBut.set_|apply keep_drewN|apply keep_drew|apply keep_alloc)|exact HK.out)⟩
  ·rw [if_neg c5] at H
   exact absurd H (by simp)
 ·rw [if_neg c4] at H
  exact absurd H (by simp)
def spec_l2Draw.f (s0_0:List Int) (s0_1:Int) (s0_2:Int):Option (Int × Int × Int × Int × Int):=(spec_l1Int.f s0_0 s0_1 s0_2 (([0,1,2,3,1000000000]:List Int))).bind fun bt155=>((spec_l1Below.f s0_0 bt155.2.1 bt155.2.2 3).bind fun bt158=>((spec_l1Below.f s0_0 bt158.2.1 bt158.2.2 3).bind fun bt161=>(some (bt155.1,bt158.1,bt161.1,bt161.2.1,bt161.2.2))))
set_option maxHeartbeats 8000000 in
set_option maxRecDepth 100000 in
theorem spec_l2Draw.calls (g:Nat) (s0_0:List Int) (s0_1:Int) (s0_2:Int) (r1:Int) (r2:Int) (r3:Int) (r4:Int) (r5:Int) (w0 w:World) (hI:IsS87 w0 w g s0_0 s0_1 s0_2) (hB:Below w0.heap.size w0 w) (h:spec_l2Draw.f s0_0 s0_1 s0_2=some (r1,r2,r3,r4,r5)) :
  Calls Tryd.prog 55 #[.pointer (some ⟨g,0,none⟩)] w fun e w'=>e = .returned (.agg #[.int .i64 r1,.int .i64 r2,.int .i64 r3])∧IsS87 w0 w' g s0_0 r4 r5∧Below w0.heap.size w0 w' ∧ KeepBut w w' g none:=by
 have hu25:=Tryd.underlying25
 have HI0:=Aside0.mk hI
 have HK:=Aside0.mk (KeepBut.refl w g none)
 have HL:=Aside0.mk hB.size
 clear hI
 have HW0:=Aside0.mk hB.size
 have HB:=Aside0.mk hB
 clear hB
 have H:((spec_l1Int.f s0_0 s0_1 s0_2 (([0,1,2,3,1000000000]:List Int))).bind fun bt155=>((spec_l1Below.f s0_0 bt155.2.1 bt155.2.2 3).bind fun bt158=>((spec_l1Below.f s0_0 bt158.2.1 bt158.2.2 3).bind fun bt161=>(some (bt155.1,bt158.1,bt161.1,bt161.2.1,bt161.2.2)))))=some (r1,r2,r3,r4,r5):=h
 clear h
 obtain ⟨y152,hy152⟩ : ∃ y_:List Int,y_=(([0,1,2,3,1000000000]:List Int)):=⟨_,rfl⟩
 replace H:((spec_l1Int.f s0_0 s0_1 s0_2 y152).bind fun bt155=>((spec_l1Below.f s0_0 bt155.2.1 bt155.2.2 3).bind fun bt158=>((spec_l1Below.f s0_0 bt158.2.1 bt158.2.2 3).bind fun bt161=>(some (bt155.1,bt158.1,bt161.1,bt161.2.1,bt161.2.2)))))=some (r1,r2,r3,r4,r5):=by first|(rw [hy152];with_reducible exact H)|(have H2_:=(Option.bind_some _ _).symm.trans H;rw [hy152];with_reducible exact H2_)|(have H2_:=(Option.bind_some _ _).symm.trans H;with_reducible exact H2_)|with_reducible exact H|(rw [hy152];exact H)|exact H
 have Ny152:=Aside0.mk hy152
 clear hy152
 replace H:=Option.bind_eq_some_iff.mp H
 obtain ⟨⟨t155,t156,t157⟩,A20,H⟩:=H
 try dsimp only at H
 have A2:=Aside0.mk A20
 clear A20
 replace H:=Option.bind_eq_some_iff.mp H
 obtain ⟨⟨t158,t159,t160⟩,A30,H⟩:=H
 try dsimp only at H
 have A3:=Aside0.mk A30
 clear A30
 replace H:=Option.bind_eq_some_iff.mp H
 obtain ⟨⟨t161,t162,t163⟩,A40,H⟩:=H
 try dsimp only at H
 have A4:=Aside0.mk A40
 clear A40
 simp only [Option.some.injEq,Prod.mk.injEq] at H
 obtain ⟨rfl,rfl,rfl,rfl,rfl⟩:=H
 go_enter Tryd.func55,Tryd.ntmps55
 go_wp2_with (first|((with_reducible refine gate_dst (N:=2) rfl ?_);refine box_event ?hg (N:=2) ?hd (cs:=#[.int .i64 0,.int .i64 0,.int .i64 0]) (t:=25) ?hr ?_;(case hd=>rfl);(case hg=>rfl);(case hr=>first|(go_simp;done)|(go_simp;rfl));intro gb151 hg w5 hbox hb;have n0_:=Aside0.mk (IsS87.below (by repeat (first|(with_reducible first|exact HI0.out|apply IsS87.alloc|apply IsS87.drewN|apply IsS87.drew|apply IsS87.set_1|apply IsS87.set_2)|exact HI0.out)) hb);have n1_:=Aside0.mk (KeepBut.trans (by repeat (first|(with_reducible first|exact HK.out|apply KeepBut.set_|apply keep_drewN|apply keep_drew|apply keep_alloc)|exact HK.out)) (KeepBut.of_below hb g none) (.inl rfl));have n2_:=Aside0.mk (below_step (by repeat (first|(with_reducible first|exact HB.out|apply below_alloc|apply pw_below_drewN|apply below_drew1|refine below_set ?_ (IsS87.ge HI0.out))|exact HB.out)) hb);have n3_:=Aside0.mk (hbox);have n4_:=Aside0.mk ((by rw [hg];exact (keep_size (w:=w) (g:=g) (row:=none) (by repeat (first|(with_reducible first|exact HK.out|apply KeepBut.set_|apply keep_drewN|apply keep_drew|apply keep_alloc)|exact HK.out))):w.heap.size≤gb151));have n5_:=Aside0.mk ((Nat.le_trans HW0.out (by rw [hg];exact (keep_size (w:=w) (g:=g) (row:=none) (by repeat (first|(with_reducible first|exact HK.out|apply KeepBut.set_|apply keep_drewN|apply keep_drew|apply keep_alloc)|exact HK.out))):w.heap.size≤gb151):w0.heap.size≤gb151));have n6_:=Aside0.mk ((by rw [hg];exact Nat.ne_of_lt (IsS87.lt (show IsS87 w0 _ g s0_0 s0_1 s0_2 from by repeat (first|(with_reducible first|exact HI0.out|apply IsS87.alloc|apply IsS87.drewN|apply IsS87.drew|apply IsS87.set_1|apply IsS87.set_2)|exact HI0.out))):g ≠ gb151));have n7_:=Aside0.mk ((by rw [hg];exact Nat.ne_of_gt (IsS87.lt (show IsS87 w0 _ g s0_0 s0_1 s0_2 from by repeat (first|(with_reducible first|exact HI0.out|apply IsS87.alloc|apply IsS87.drewN|apply IsS87.drew|apply IsS87.set_1|apply IsS87.set_2)|exact HI0.out))):gb151 ≠ g));clear HI0;clear HK;clear HB;have HI0:=n0_;have HK:=n1_;have HB:=n2_;have BK151:=n3_;have GW151:=n4_;have GE151:=n5_;have NB0_151:=n6_;have NB151_0:=n7_;clear n0_ n1_ n2_ n3_ n4_ n5_ n6_ n7_;clear hb hbox hg)|((with_reducible refine gate_dst (N:=4) rfl ?_);refine Kd.R_lit (Kd.int .i64) _ 3 ?hg (N:=4) ?hd (xs:=([0,1,2,3,1000000000]:List Int)) (inner:=[.int .i64 0,.int .i64 1,.int .i64 2,.int .i64 3,.int .i64 1000000000]) (ok:=fun _=>True) (okp:=fun _=>True) ?hr ?hp (fun _ hk=>hk) trivial (Below.refl _ _) (Nat.le_refl _) (by simp) ?_;(case hd=>rfl);(case hg=>rfl);(case hr=>first|(go_simp;done)|(go_simp;rfl));(case hp=>exact (Reps.one (show Kd.M (Kd.int .i64) _ _ _ 0 [.int .i64 0] from rfl) (Reps.one (show Kd.M (Kd.int .i64) _ _ _ 1 [.int .i64 1] from rfl) (Reps.one (show Kd.M (Kd.int .i64) _ _ _ 2 [.int .i64 2] from rfl) (Reps.one (show Kd.M (Kd.int .i64) _ _ _ 3 [.int .i64 3] from rfl) (Reps.one (show Kd.M (Kd.int .i64) _ _ _ 1000000000 [.int .i64 1000000000] from rfl) (Reps.none _ _)))))));intro v153 w6 ho7 hb hg_ hnew_;clear hg_ hnew_;(first|rw [← Ny152.out] at ho7|(simp only [Int.reduceToNat] at ho7;rw [← Ny152.out] at ho7));have n0_:=Aside0.mk (Kd.R_lower ho7 (keep_size (w:=w) (g:=g) (row:=none) (by repeat (first|(with_reducible first|exact HK.out|apply KeepBut.set_|apply keep_drewN|apply keep_drew|apply keep_alloc|refine keep_far ?_ GW151.out _)|exact HK.out))));have n1_:=Aside0.mk (IsS87.below (by repeat (first|(with_reducible first|exact HI0.out|apply IsS87.alloc|apply IsS87.drewN|apply IsS87.drew|apply IsS87.set_1|apply IsS87.set_2|refine IsS87.far ?_ NB0_151.out _)|exact HI0.out)) hb);have n2_:=Aside0.mk (blk_below (g:=gb151) (o:=.cells #[.int .i64 0,.int .i64 0,.int .i64 0] 25 (0,0)) (bk BK151) hb);have n3_:=Aside0.mk (KeepBut.trans (by repeat (first|(with_reducible first|exact HK.out|apply KeepBut.set_|apply keep_drewN|apply keep_drew|apply keep_alloc|refine keep_far ?_ GW151.out _)|exact HK.out)) (KeepBut.of_below hb g none) (.inl rfl));have n4_:=Aside0.mk (below_step (by repeat (first|(with_reducible first|exact HB.out|apply below_alloc|apply pw_below_drewN|apply below_drew1|refine below_set ?_ (IsS87.ge HI0.out)|refine below_set ?_ GE151.out)|exact HB.out)) hb);clear HI0;clear BK151;clear HK;clear HB;have HO154:=n0_;have HI0:=n1_;have BK151:=n2_;have HK:=n3_;have HB:=n4_;clear n0_ n1_ n2_ n3_ n4_;clear hb ho7;obtain ⟨Ao8,co8,eo8⟩:=Kd.R_slice HO154.out;subst eo8)|((with_reducible refine gate_callee (f:=67) rfl ?_);refine goesL_ (some 5) rfl rfl Tryd.func67 (by kernel_rfl) rfl #[.pointer (some ⟨g,0,none⟩),.slice Ao8 y152.length co8] rfl (by (try simp only [List.map_toArray,List.map_cons,List.map_nil]);first|done|rfl|(simp only [List.length_drop,List.length_take];rfl)) ?_;(with_reducible refine (spec_l1Int.calls g s0_0 s0_1 s0_2 _ _ y152 t155 t156 t157 w0 _ ?side1 ?side2 ?side3 ?side4 ?side5 A2.out).mono ?_);(case side1=>repeat (first|(with_reducible first|exact HI0.out|apply IsS87.alloc|apply IsS87.drewN|apply IsS87.drew|apply IsS87.set_1|apply IsS87.set_2|refine IsS87.far ?_ NB0_151.out _)|exact HI0.out));(case side2=>repeat (first|(with_reducible first|exact HB.out|apply below_alloc|apply pw_below_drewN|apply below_drew1|refine below_set ?_ (IsS87.ge HI0.out)|refine below_set ?_ GE151.out)|exact HB.out));(case side3=>exact sR HO154);(case side4=>exact (Kd.R_reads' HO154.out).2.1);(case side5=>exact far_slice (IsS87.own_ne HI0.out HO154.out (by decide)));rintro e w9 ⟨rfl,hi,hb,hk⟩;refine ⟨_,rfl,?_⟩;have n0_:=Aside0.mk (KeepBut.blk hk (g':=gb151) (o:=.cells #[.int .i64 0,.int .i64 0,.int .i64 0] 25 (0,0)) (bk BK151) NB151_0.out (by simp));have n1_:=Aside0.mk (Kd.R_mono (Kd.R_keep (IsS87.apart (show IsS87 w0 _ g s0_0 s0_1 s0_2 from by repeat (first|(with_reducible first|exact HI0.out|apply IsS87.alloc|apply IsS87.drewN|apply IsS87.drew|apply IsS87.set_1|apply IsS87.set_2|refine IsS87.far ?_ NB0_151.out _)|exact HI0.out)) (rR HO154) (by decide)) hk (fun _ h=>h.2)) (fun _ h=>h.1));have n2_:=Aside0.mk (KeepBut.trans (by repeat (first|(with_reducible first|exact HK.out|apply KeepBut.set_|apply keep_drewN|apply keep_drew|apply keep_alloc|refine keep_far ?_ GW151.out _)|exact HK.out)) hk (.inl rfl));have n3_:=Aside0.mk (hb);have n4_:=Aside0.mk (hi);clear BK151;clear HO154;clear HK;clear HB;clear HI0;have BK151:=n0_;have HO154:=n1_;have HK:=n2_;have HB:=n3_;have HI0:=n4_;clear n0_ n1_ n2_ n3_ n4_;(try clear hb);(try clear hb2);(try clear hk);(try clear hi))|((with_reducible refine gate_callee (f:=58) rfl ?_);refine goesL_ (some 7) rfl rfl Tryd.func58 (by kernel_rfl) rfl #[.pointer (some ⟨g,0,none⟩),.int .i64 3] rfl (by (try simp only [List.map_toArray,List.map_cons,List.map_nil]);first|done|rfl|(simp only [List.length_drop,List.length_take];rfl)) ?_;(with_reducible refine (spec_l1Below.calls g s0_0 t156 t157 3 t158 t159 t160 w0 _ ?side1 ?side2 A3.out).mono ?_);(case side1=>repeat (first|(with_reducible first|exact HI0.out|apply IsS87.alloc|apply IsS87.drewN|apply IsS87.drew|apply IsS87.set_1|apply IsS87.set_2|refine IsS87.far ?_ NB0_151.out _)|exact HI0.out));(case side2=>repeat (first|(with_reducible first|exact HB.out|apply below_alloc|apply pw_below_drewN|apply below_drew1|refine below_set ?_ (IsS87.ge HI0.out)|refine below_set ?_ GE151.out)|exact HB.out));rintro e w10 ⟨rfl,hi,hb,hk⟩;refine ⟨_,rfl,?_⟩;have n0_:=Aside0.mk (KeepBut.blk hk (g':=gb151) (o:=.cells #[.int .i64 0,.int .i64 0,.int .i64 0] 25 (0,0)) (bk BK151) NB151_0.out (by simp));have n1_:=Aside0.mk (Kd.R_mono (Kd.R_keep (IsS87.apart (show IsS87 w0 _ g s0_0 t156 t157 from by repeat (first|(with_reducible first|exact HI0.out|apply IsS87.alloc|apply IsS87.drewN|apply IsS87.drew|apply IsS87.set_1|apply IsS87.set_2|refine IsS87.far ?_ NB0_151.out _)|exact HI0.out)) (rR HO154) (by decide)) hk (fun _ h=>h.2)) (fun _ h=>h.1));have n2_:=Aside0.mk (KeepBut.trans (by repeat (first|(with_reducible first|exact HK.out|apply KeepBut.set_|apply keep_drewN|apply keep_drew|apply keep_alloc|refine keep_far ?_ GW151.out _)|exact HK.out)) hk (.inl rfl));have n3_:=Aside0.mk (hb);have n4_:=Aside0.mk (hi);clear BK151;clear HO154;clear HK;clear HB;clear HI0;have BK151:=n0_;have HO154:=n1_;have HK:=n2_;have HB:=n3_;have HI0:=n4_;clear n0_ n1_ n2_ n3_ n4_;(try clear hb);(try clear hb2);(try clear hk);(try clear hi))|((with_reducible refine gate_callee (f:=58) rfl ?_);refine goesL_ (some 9) rfl rfl Tryd.func58 (by kernel_rfl) rfl #[.pointer (some ⟨g,0,none⟩),.int .i64 3] rfl (by (try simp only [List.map_toArray,List.map_cons,List.map_nil]);first|done|rfl|(simp only [List.length_drop,List.length_take];rfl)) ?_;(with_reducible refine (spec_l1Below.calls g s0_0 t159 t160 3 t161 t162 t163 w0 _ ?side1 ?side2 A4.out).mono ?_);(case side1=>repeat (first|(with_reducible first|exact HI0.out|apply IsS87.alloc|apply IsS87.drewN|apply IsS87.drew|apply IsS87.set_1|apply IsS87.set_2|refine IsS87.far ?_ NB0_151.out _)|exact HI0.out));(case side2=>repeat (first|(with_reducible first|exact HB.out|apply below_alloc|apply pw_below_drewN|apply below_drew1|refine below_set ?_ (IsS87.ge HI0.out)|refine below_set ?_ GE151.out)|exact HB.out));rintro e w11 ⟨rfl,hi,hb,hk⟩;refine ⟨_,rfl,?_⟩;have n0_:=Aside0.mk (KeepBut.blk hk (g':=gb151) (o:=.cells #[.int .i64 0,.int .i64 0,.int .i64 0] 25 (0,0)) (bk BK151) NB151_0.out (by simp));have n1_:=Aside0.mk (Kd.R_mono (Kd.R_keep (IsS87.apart (show IsS87 w0 _ g s0_0 t159 t160 from by repeat (first|(with_reducible first|exact HI0.out|apply IsS87.alloc|apply IsS87.drewN|apply IsS87.drew|apply IsS87.set_1|apply IsS87.set_2|refine IsS87.far ?_ NB0_151.out _)|exact HI0.out)) (rR HO154) (by decide)) hk (fun _ h=>h.2)) (fun _ h=>h.1));have n2_:=Aside0.mk (KeepBut.trans (by repeat (first|(with_reducible first|exact HK.out|apply KeepBut.set_|apply keep_drewN|apply keep_drew|apply keep_alloc|refine keep_far ?_ GW151.out _)|exact HK.out)) hk (.inl rfl));have n3_:=Aside0.mk (hb);have n4_:=Aside0.mk (hi);clear BK151;clear HO154;clear HK;clear HB;clear HI0;have BK151:=n0_;have HO154:=n1_;have HK:=n2_;have HB:=n3_;have HI0:=n4_;clear n0_ n1_ n2_ n3_ n4_;(try clear hb);(try clear hb2);(try clear hk);(try clear hi);have hnb12:=NB151_0.out;have hnc12:=NB0_151.out;have hcz13_0:w11.cell? ⟨gb151,0,none⟩=some (.int .i64 0):=(blk_cell BK151.out 0).trans rfl;have hcz13_1:w11.cell? ⟨gb151,1,none⟩=some (.int .i64 0):=(blk_cell BK151.out 1).trans rfl;have hcz13_2:w11.cell? ⟨gb151,2,none⟩=some (.int .i64 0):=(blk_cell BK151.out 2).trans rfl;have hfz13_0:=blk_frozen BK151.out 0;have hfz13_1:=blk_frozen BK151.out 1;have hfz13_2:=blk_frozen BK151.out 2))
 refine bodyPost_ret (results_cell_row rfl _ _ gb151 25 #[.int .i64 t155,.int .i64 t158,.int .i64 t161] (0,0) _ rfl (by (with_reducible repeat (first|refine blk_drewN ?_ _|refine blk_drew ?_|refine blk_alloc ?_ _));refine blk_put (cs:=#[.int .i64 t155,.int .i64 t158,.int .i64 0]) ?_ 2 _ rfl;(with_reducible repeat (first|refine blk_drewN ?_ _|refine blk_drew ?_|refine blk_alloc ?_ _));refine blk_put (cs:=#[.int .i64 t155,.int .i64 0,.int .i64 0]) ?_ 1 _ rfl;(with_reducible repeat (first|refine blk_drewN ?_ _|refine blk_drew ?_|refine blk_alloc ?_ _));refine blk_put (cs:=#[.int .i64 0,.int .i64 0,.int .i64 0]) ?_ 0 _ rfl;(with_reducible repeat (first|refine blk_drewN ?_ _|refine blk_drew ?_|refine blk_alloc ?_ _));exact BK151.out) Tryd.underlying25 rfl (by kernel_rfl)) rfl ?_
 exact ⟨rz,by repeat (first|(with_reducible first|exact HI0.out|apply IsS87.alloc|apply IsS87.drewN|apply IsS87.drew|apply IsS87.set_1|apply IsS87.set_2|refine IsS87.far ?_ NB0_151.out _)|exact HI0.out),by repeat (first|(with_reducible first|exact HB.out|apply below_alloc|apply pw_below_drewN|apply below_drew1|refine below_set ?_ (IsS87.ge HI0.out)|refine below_set ?_ GE151.out)|exact HB.out),by repeat (first|(with_reducible first|exact HK.out|apply KeepBut.set_|apply keep_drewN|apply keep_drew|apply keep_alloc|refine keep_far ?_ GW151.out _)|exact HK.out)⟩
end Go.Proofs.YtnoglmdicdpabaaDoor.PFnStampOrder
