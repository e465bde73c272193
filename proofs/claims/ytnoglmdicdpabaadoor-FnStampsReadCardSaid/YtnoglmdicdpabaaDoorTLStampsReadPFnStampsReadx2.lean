/- Trimmed by a program of this session (trim.py). Not trusted: Lean checks it. -/
import Derived.Test.YtnoglmdicdpabaaDoorTLStampsReadPFnStampsReadx0
import Derived.Test.YtnoglmdicdpabaaDoorTLStampsReadPFnStampsReadx1
import Derived.Lib.AtoiErrMem
import Derived.Lib.SplitLaws
import Derived.Test.YtnoglmdicdpabaaDoorTLStampsReadLaidE
import Derived.Test.YtnoglmdicdpabaaDoorTLStampsReadShelf
namespace Go.Proofs.YtnoglmdicdpabaaDoor.PFnStampsRead
open Go.RowKit Go.Proofs.YtnoglmdicdpabaaDoorW.PrintWords Go.Proofs.YtnoglmdicdpabaaDoorW.PrintLast Go.Proofs.YtnoglmdicdpabaaDoorW.PrintMore Go.Proofs.YtnoglmdicdpabaaDoor.St
attribute [local go_sem] max2_int min2_int max_two min_two max_three min_three max_four min_four
set_option linter.unusedVariables false
set_option linter.unusedSimpArgs false
def spec_ParseStamp.f (k:Nat) (a0:ByteArray):Option (Int × Int × Int × Bool):=(spec_l2Split.f k a0 46).bind fun t126=>(if (t126.length:Int)=3 then (if 0 < (t126.length:Int) then ((spec_l2Number.f k (rdOf ByteArray.empty t126 0)).bind fun t130=>(if 1 < (t126.length:Int) then ((spec_l2Number.f k (rdOf ByteArray.empty t126 1)).bind fun t132=>(if 2 < (t126.length:Int) then ((spec_l2Number.f k (rdOf ByteArray.empty t126 2)).bind fun t134=>((spec_StampOk.f t130 t132 t134).bind fun t136=>(if t136=true then (some (t130,t132,t134,true)) else (some (0,0,0,false))))) else (none))) else (none))) else (none)) else (some (0,0,0,false)))
def spec_ParseStamp.T4:Bool × List (List Nat × List Nat):=(true,[([],[]),([0],[0]),([1],[1]),([2],[2]),([],[]),([4],[4]),([5],[5]),([6,3],[6]),([],[]),([8],[8]),([9],[9]),([10,7],[10]),([3,7,11],[3,7,11]),([],[]),([13,12,11,0,1,2,3,4,5,6,7,8,9,10,11,12,13],[12,13])])
def spec_ParseStamp.B4:List Nat:=[0,1,3,7,0,16,48,127,0,256,768,2047,4095,0,16383]
theorem spec_ParseStamp.tab4:rtab .any (opsOf Tryd.f19 4)=spec_ParseStamp.T4:=by kernel_rfl
theorem spec_ParseStamp.bits4:waitsOk spec_ParseStamp.T4.2 spec_ParseStamp.B4=true:=by kernel_rfl
set_option maxHeartbeats 8000000 in
set_option maxRecDepth 100000 in
theorem spec_ParseStamp.calls (k:Nat) (a0:ByteArray) (r1:Int) (r2:Int) (r3:Int) (r4:Bool) (w:World) (h:spec_ParseStamp.f k a0=some (r1,r2,r3,r4)) :
  Calls Tryd.prog 19 #[.string a0] w fun e w'=>e = .returned (.tuple #[.agg #[.int .i64 r1,.int .i64 r2,.int .i64 r3],.bool r4])∧Below w.heap.size w w':=by
 have hu25:=Tryd.underlying25
 have HB:=Aside0.mk (Below.refl w.heap.size w)
 have H:((spec_l2Split.f k a0 46).bind fun t126=>(if (t126.length:Int)=3 then (if 0 < (t126.length:Int) then ((spec_l2Number.f k (rdOf ByteArray.empty t126 0)).bind fun t130=>(if 1 < (t126.length:Int) then ((spec_l2Number.f k (rdOf ByteArray.empty t126 1)).bind fun t132=>(if 2 < (t126.length:Int) then ((spec_l2Number.f k (rdOf ByteArray.empty t126 2)).bind fun t134=>((spec_StampOk.f t130 t132 t134).bind fun t136=>(if t136=true then (some (t130,t132,t134,true)) else (some (0,0,0,false))))) else (none))) else (none))) else (none)) else (some (0,0,0,false))))=some (r1,r2,r3,r4):=h
 clear h
 replace H:=Option.bind_eq_some_iff.mp H
 obtain ⟨t126,A20,H⟩:=H
 try dsimp only at H
 have A2:=Aside0.mk A20
 clear A20
 by_cases c3:(t126.length:Int)=3
 ·rw [if_pos c3] at H
  have c3b0:((t126.length:Int) == 3)=true:=beq_iff_eq.mpr c3
  have c3b1:((t126.length:Int) != 3)=false:=bne_eq_false_iff_eq.mpr c3
  clear c3
  by_cases c4:0 < (t126.length:Int)
  ·rw [if_pos c4] at H
   have c4b0:decide (0 < (t126.length:Int))=true:=decide_eq_true c4
   have c4b1:decide (0 < t126.length)=true:=decide_eq_true (by omega)
   clear c4
   replace H:=Option.bind_eq_some_iff.mp H
   obtain ⟨t130,A50,H⟩:=H
   try dsimp only at H
   have A5:=Aside0.mk A50
   clear A50
   by_cases c6:1 < (t126.length:Int)
   ·rw [if_pos c6] at H
    have c6b0:decide (1 < (t126.length:Int))=true:=decide_eq_true c6
    have c6b1:decide (1 < t126.length)=true:=decide_eq_true (by omega)
    clear c6
    replace H:=Option.bind_eq_some_iff.mp H
    obtain ⟨t132,A70,H⟩:=H
    try dsimp only at H
    have A7:=Aside0.mk A70
    clear A70
    by_cases c8:2 < (t126.length:Int)
    ·rw [if_pos c8] at H
     have c8b0:decide (2 < (t126.length:Int))=true:=decide_eq_true c8
     have c8b1:decide (2 < t126.length)=true:=decide_eq_true (by omega)
     clear c8
     replace H:=Option.bind_eq_some_iff.mp H
     obtain ⟨t134,A90,H⟩:=H
     try dsimp only at H
     have A9:=Aside0.mk A90
     clear A90
     replace H:=Option.bind_eq_some_iff.mp H
     obtain ⟨t136,A100,H⟩:=H
     try dsimp only at H
     have A10:=Aside0.mk A100
     clear A100
     by_cases c11:t136=true
     ·subst c11
      rw [if_pos rfl] at H
      simp only [Option.some.injEq,Prod.mk.injEq] at H
      obtain ⟨rfl,rfl,rfl,rfl⟩:=H
      go_enter Tryd.func19,Tryd.ntmps19
      try go_wp2_with (first|((with_reducible refine gate_dst (N:=2) rfl ?_);refine box_event ?hg (N:=2) ?hd (cs:=#[.int .i64 0,.int .i64 0,.int .i64 0]) (t:=25) ?hr ?_;(case hd=>rfl);(case hg=>rfl);(case hr=>first|(go_simp;done)|(go_simp;rfl));intro gb125 hg w12 hbox hb;have n0_:=bs hb;have n1_:=Aside0.mk (hbox);have n2_:=Aside0.mk ((by rw [hg];exact (below_size be):w.heap.size≤gb125));have n3_:=Aside0.mk ((by rw [hg];exact (below_size be):w.heap.size≤gb125));clear HB;have HB:=n0_;have BK125:=n1_;have GW125:=n2_;have GE125:=n3_;clear n0_ n1_ n2_ n3_;clear hb hbox hg)|((with_reducible refine gate_callee (f:=46) rfl ?_);refine goesL_ (some 7) rfl rfl Tryd.func46 (by kernel_rfl) rfl #[.string a0,.int .u8 46] rfl (by (try simp only [List.map_toArray,List.map_cons,List.map_nil]);first|done|rfl|(simp only [List.length_drop,List.length_take];rfl)) ?_;(with_reducible refine (spec_l2Split.calls k a0 46 t126 _ A2.out).mono ?_);rintro e w13 ⟨v127,rfl,ho0,hb⟩;refine ⟨_,rfl,?_⟩;have n0_:=Aside0.mk (Kd.R_lower ho0 (below_size be));have n1_:=Aside0.mk (blk_below (g:=gb125) (o:=.cells #[.int .i64 0,.int .i64 0,.int .i64 0] 25 (0,0)) (bk BK125) hb);have n2_:=bs hb;clear BK125;clear HB;have HO128:=n0_;have BK125:=n1_;have HB:=n2_;clear n0_ n1_ n2_;(try clear hb);(try clear hb2);(try clear hk);(try clear hi);(try clear ho0);obtain ⟨Ao14,co14,eo14⟩:=Kd.R_slice HO128.out;subst eo14))
      have n0_:=Aside0.mk (Kd.R_drew HO128.out)
      have n1_:=Aside0.mk (blk_drew BK125.out)
      have n2_:=Aside0.mk (below_drew1 HB.out)
      clear HO128
      clear BK125
      clear HB
      have HO128:=n0_
      have BK125:=n1_
      have HB:=n2_
      clear n0_ n1_ n2_
      have p129:0≤(0:Int):=(by omega)
      have q129:0 < (t126.length:Int):=of_decide_eq_true (by first|(with_reducible assumption)|assumption)
      obtain ⟨ad129,e129,hx129_0⟩:=Kd.at_string (Kd.R_reads' HO128.out).2.2 0 p129 q129
      cases e129
      have qi129:(0 < t126.length)=True:=eq_true (by omega)
      (try rw [show ((0:Int)).toNat=0 from rfl] at hx129_0)
      (try rw [Addr.add_zero'] at hx129_0)
      replace p129:=eq_true p129
      replace q129:=eq_true q129
      have p131:0≤(1:Int):=(by omega)
      have q131:1 < (t126.length:Int):=of_decide_eq_true (by first|(with_reducible assumption)|assumption)
      obtain ⟨ad131,e131,hx131_0⟩:=Kd.at_string (Kd.R_reads' HO128.out).2.2 1 p131 q131
      obtain rfl:ad129=ad131:=(by injection e131)
      (try simp only [show (1:Int).toNat=1 from rfl,Nat.reduceMul,Nat.reduceEqDiff,Go.Addr.add,↓reduceIte] at hx131_0)
      have qi131:(1 < t126.length)=True:=eq_true (by omega)
      (try rw [show ((1:Int)).toNat=1 from rfl] at hx131_0)
      replace p131:=eq_true p131
      replace q131:=eq_true q131
      have p133:0≤(2:Int):=(by omega)
      have q133:2 < (t126.length:Int):=of_decide_eq_true (by first|(with_reducible assumption)|assumption)
      obtain ⟨ad133,e133,hx133_0⟩:=Kd.at_string (Kd.R_reads' HO128.out).2.2 2 p133 q133
      obtain rfl:ad129=ad133:=(by injection e133)
      (try simp only [show (2:Int).toNat=2 from rfl,Nat.reduceMul,Nat.reduceEqDiff,Go.Addr.add,↓reduceIte] at hx133_0)
      have qi133:(2 < t126.length)=True:=eq_true (by omega)
      (try rw [show ((2:Int)).toNat=2 from rfl] at hx133_0)
      replace p133:=eq_true p133
      replace q133:=eq_true q133
      refine start_ (n:=15) (S:=fun w'=>w'.cell? ad129=some (.string (rdOf ByteArray.empty t126 0))∧w'.cell? ⟨ad129.block,ad129.off+1,none⟩=some (.string (rdOf ByteArray.empty t126 1))∧w'.cell? ⟨ad129.block,ad129.off+2,none⟩=some (.string (rdOf ByteArray.empty t126 2))) (ds:=[]) (fl 15 0) (by kernel_rfl) rfl rfl ⟨hx129_0,hx131_0,hx133_0⟩ (fun hHeld=>?_);refine with_tabW spec_ParseStamp.tab4 spec_ParseStamp.bits4 (fun HT_ HW_=>?_)
      generalize w13.drew=w15 at HO128 BK125 HB hx129_0 hx131_0 hx133_0 hHeld ⊢
      refine pt 0 12 (fl 15 1) HT_ ?_
      refine pt 1 13 (fl 15 3) HT_ ?_
      refine pt 4 16 (fl 15 19) HT_ ?_
      refine pt 5 17 (fl 15 51) HT_ ?_
      refine pt 8 20 (fl 15 307) HT_ ?_
      refine pt 9 21 (fl 15 819) HT_ ?_
      refine tt 2 14 (fl 15 823) HT_ HW_ hHeld ?_
      refine tt 6 18 (fl 15 887) HT_ HW_ hHeld ?_
      refine tt 10 22 (fl 15 1911) HT_ HW_ hHeld ?_
      refine join_ (σ:=Nat) 1 (fl 15 16383) (fun s_=>[(15,.int .i64 t130),(19,.int .i64 t132),(23,.int .i64 t134),(5,.pointer (some ⟨s_,0,none⟩)),(24,.agg #[.int .i64 t130,.int .i64 t132,.int .i64 t134])]) (fun s_ w'=>(w'.cell? ad129=some (.string (rdOf ByteArray.empty t126 0))∧w'.cell? ⟨ad129.block,ad129.off+1,none⟩=some (.string (rdOf ByteArray.empty t126 1))∧w'.cell? ⟨ad129.block,ad129.off+2,none⟩=some (.string (rdOf ByteArray.empty t126 2)))∧(Kd.R Kd.string 9 w' w.heap.size (fun _=>True) (.slice (some ad129) t126.length co14) t126)∧(w'.heap[gb125]?=some (.cells #[.int .i64 0,.int .i64 0,.int .i64 0] 25 (0,0)))∧(w'.heap[s_]?=some (.cells #[.int .i64 0,.int .i64 0,.int .i64 0] 25 (0,0)))∧(w.heap.size≤s_)∧(w.heap.size≤s_)∧(gb125 ≠ s_)∧(s_ ≠ gb125)∧(Below w.heap.size w w')) ?_ ?_
      rotate_left
      ·intro hCont
       refine two_ (i:=3) (j:=13) (Ni:=some 15) (Nj:=some 5) (fl 15 1919) (fl 15 10103) rfl rfl rfl rfl (two_of HT_.out (by kernel_rfl)) (by decide) (by decide) (fun K hK=>?_) (fun K hK=>?_)
       ·skip
        refine goes_ Tryd.func47 (by kernel_rfl) rfl #[.string (rdOf ByteArray.empty t126 0)] (by rfl) rfl rfl (by (try simp only [List.map_toArray,List.map_cons,List.map_nil]);first|done|rfl|(simp only [List.length_drop,List.length_take];rfl)) ?_
        with_reducible refine (spec_l2Number.calls k (rdOf ByteArray.empty t126 0) t130 _ A5.out).mono ?_
        rintro e w' ⟨rfl,⟨nd,rfl⟩⟩
        refine ⟨_,rfl,?_⟩
        refine hK.out _ _ ⟨hHeld.1,hHeld.2.1,hHeld.2.2⟩ (fun hHeld=>?_)
        clear hK K
        refine no 15 ?_
        refine two_ (i:=7) (j:=13) (Ni:=some 19) (Nj:=some 5) (fl 15 2047) (fl 15 10111) rfl rfl rfl rfl (two_of HT_.out (by kernel_rfl)) (by decide) (by decide) (fun K hK=>?_) (fun K hK=>?_)
        ·skip
         refine goes_ Tryd.func47 (by kernel_rfl) rfl #[.string (rdOf ByteArray.empty t126 1)] (by rfl) rfl rfl (by (try simp only [List.map_toArray,List.map_cons,List.map_nil]);first|done|rfl|(simp only [List.length_drop,List.length_take];rfl)) ?_
         with_reducible refine (spec_l2Number.calls k (rdOf ByteArray.empty t126 1) t132 _ A7.out).mono ?_
         rintro e w' ⟨rfl,⟨nd,rfl⟩⟩
         refine ⟨_,rfl,?_⟩
         refine hK.out _ _ ⟨hHeld.1,hHeld.2.1,hHeld.2.2⟩ (fun hHeld=>?_)
         clear hK K
         refine no 19 ?_
         refine two_ (i:=11) (j:=13) (Ni:=some 23) (Nj:=some 5) (fl 15 4095) (fl 15 10239) rfl rfl rfl rfl (two_of HT_.out (by kernel_rfl)) (by decide) (by decide) (fun K hK=>?_) (fun K hK=>?_)
         ·skip
          refine goes_ Tryd.func47 (by kernel_rfl) rfl #[.string (rdOf ByteArray.empty t126 2)] (by rfl) rfl rfl (by (try simp only [List.map_toArray,List.map_cons,List.map_nil]);first|done|rfl|(simp only [List.length_drop,List.length_take];rfl)) ?_
          with_reducible refine (spec_l2Number.calls k (rdOf ByteArray.empty t126 2) t134 _ A9.out).mono ?_
          rintro e w' ⟨rfl,⟨nd,rfl⟩⟩
          refine ⟨_,rfl,?_⟩
          refine hK.out _ _ ⟨hHeld.1,hHeld.2.1,hHeld.2.2⟩ (fun hHeld=>?_)
          clear hK K
          refine no 23 ?_
          refine pt 12 24 (fl 15 8191) HT_ ?_
          refine ot 13 (some 5) (fl 15 16383) HT_ (fun K hK=>?_)
          refine box_step ?hg (N:=5) ?hd (cs:=#[.int .i64 0,.int .i64 0,.int .i64 0]) (t:=25) ?hr ?_;(case hd=>rfl);(case hg=>rfl);(case hr=>first|(go_simp;done)|(go_simp;rfl))
          intro gb135 hg w16 hbox hb
          have HS0_:=(hb.cell (World.block_lt_of_cell? _ _ (hHeld.1))).trans (hHeld.1)
          have HS1_:=(hb.cell (World.block_lt_of_cell? _ _ (hHeld.2.1))).trans (hHeld.2.1)
          have HS2_:=(hb.cell (World.block_lt_of_cell? _ _ (hHeld.2.2))).trans (hHeld.2.2)
          have n0_:=Aside0.mk (Kd.R_below (rR HO128) hb)
          have n1_:=Aside0.mk (blk_below (g:=gb125) (o:=.cells #[.int .i64 0,.int .i64 0,.int .i64 0] 25 (0,0)) (bk BK125) hb)
          have n2_:=bs hb
          have n3_:=Aside0.mk (hbox)
          have n4_:=Aside0.mk ((by rw [hg];exact (below_size be):w.heap.size≤gb135))
          have n5_:=Aside0.mk ((by rw [hg];exact (below_size be):w.heap.size≤gb135))
          have n6_:=Aside0.mk ((by rw [hg];exact Nat.ne_of_lt (blk_lt (g:=gb125) (o:=.cells #[.int .i64 0,.int .i64 0,.int .i64 0] 25 (0,0)) (bk BK125)):gb125 ≠ gb135))
          have n7_:=Aside0.mk ((by rw [hg];exact Nat.ne_of_gt (blk_lt (g:=gb125) (o:=.cells #[.int .i64 0,.int .i64 0,.int .i64 0] 25 (0,0)) (bk BK125)):gb135 ≠ gb125))
          clear HO128
          clear BK125
          clear HB
          have HO128:=n0_
          have BK125:=n1_
          have HB:=n2_
          have BK135:=n3_
          have GW135:=n4_
          have GE135:=n5_
          have NB125_135:=n6_
          have NB135_125:=n7_
          clear n0_ n1_ n2_ n3_ n4_ n5_ n6_ n7_
          clear hb hbox hg
          refine hK.out _ _ ⟨HS0_,HS1_,HS2_⟩ (fun hHeld=>?_)
          clear hK K
          refine no 5 ?_
          exact norm_ (by simp only [putAll,Act.put,List.setIfInBounds_toArray,List.set_cons_zero,List.set_cons_succ]) (hCont (gb135) _ ⟨hHeld,(rR HO128),(bk BK125),(bk BK135),GW135.out,GE135.out,NB125_135.out,NB135_125.out,be⟩)
         ·skip
          refine box_step ?hg (N:=5) ?hd (cs:=#[.int .i64 0,.int .i64 0,.int .i64 0]) (t:=25) ?hr ?_;(case hd=>rfl);(case hg=>rfl);(case hr=>first|(go_simp;done)|(go_simp;rfl))
          intro gb135 hg w16 hbox hb
          have HS0_:=(hb.cell (World.block_lt_of_cell? _ _ (hHeld.1))).trans (hHeld.1)
          have HS1_:=(hb.cell (World.block_lt_of_cell? _ _ (hHeld.2.1))).trans (hHeld.2.1)
          have HS2_:=(hb.cell (World.block_lt_of_cell? _ _ (hHeld.2.2))).trans (hHeld.2.2)
          have n0_:=Aside0.mk (Kd.R_below (rR HO128) hb)
          have n1_:=Aside0.mk (blk_below (g:=gb125) (o:=.cells #[.int .i64 0,.int .i64 0,.int .i64 0] 25 (0,0)) (bk BK125) hb)
          have n2_:=bs hb
          have n3_:=Aside0.mk (hbox)
          have n4_:=Aside0.mk ((by rw [hg];exact (below_size be):w.heap.size≤gb135))
          have n5_:=Aside0.mk ((by rw [hg];exact (below_size be):w.heap.size≤gb135))
          have n6_:=Aside0.mk ((by rw [hg];exact Nat.ne_of_lt (blk_lt (g:=gb125) (o:=.cells #[.int .i64 0,.int .i64 0,.int .i64 0] 25 (0,0)) (bk BK125)):gb125 ≠ gb135))
          have n7_:=Aside0.mk ((by rw [hg];exact Nat.ne_of_gt (blk_lt (g:=gb125) (o:=.cells #[.int .i64 0,.int .i64 0,.int .i64 0] 25 (0,0)) (bk BK125)):gb135 ≠ gb125))
          clear HO128
          clear BK125
          clear HB
          have HO128:=n0_
          have BK125:=n1_
          have HB:=n2_
          have BK135:=n3_
          have GW135:=n4_
          have GE135:=n5_
          have NB125_135:=n6_
          have NB135_125:=n7_
          clear n0_ n1_ n2_ n3_ n4_ n5_ n6_ n7_
          clear hb hbox hg
          refine hK.out _ _ ⟨HS0_,HS1_,HS2_⟩ (fun hHeld=>?_)
          clear hK K
          refine no 5 ?_
          refine ot 11 (some 23) (fl 15 12287) HT_ (fun K hK=>?_)
          refine goes_ Tryd.func47 (by kernel_rfl) rfl #[.string (rdOf ByteArray.empty t126 2)] (by rfl) rfl rfl (by (try simp only [List.map_toArray,List.map_cons,List.map_nil]);first|done|rfl|(simp only [List.length_drop,List.length_take];rfl)) ?_
          with_reducible refine (spec_l2Number.calls k (rdOf ByteArray.empty t126 2) t134 _ A9.out).mono ?_
          rintro e w' ⟨rfl,⟨nd,rfl⟩⟩
          refine ⟨_,rfl,?_⟩
          refine hK.out _ _ ⟨hHeld.1,hHeld.2.1,hHeld.2.2⟩ (fun hHeld=>?_)
          clear hK K
          refine no 23 ?_
          refine pt 12 24 (fl 15 16383) HT_ ?_
          exact norm_ (by simp only [putAll,Act.put,List.setIfInBounds_toArray,List.set_cons_zero,List.set_cons_succ]) (hCont (gb135) _ ⟨hHeld,(rR HO128),(bk BK125),(bk BK135),GW135.out,GE135.out,NB125_135.out,NB135_125.out,be⟩)
        ·skip
         refine box_step ?hg (N:=5) ?hd (cs:=#[.int .i64 0,.int .i64 0,.int .i64 0]) (t:=25) ?hr ?_;(case hd=>rfl);(case hg=>rfl);(case hr=>first|(go_simp;done)|(go_simp;rfl))
         intro gb135 hg w16 hbox hb
         have HS0_:=(hb.cell (World.block_lt_of_cell? _ _ (hHeld.1))).trans (hHeld.1)
         have HS1_:=(hb.cell (World.block_lt_of_cell? _ _ (hHeld.2.1))).trans (hHeld.2.1)
         have HS2_:=(hb.cell (World.block_lt_of_cell? _ _ (hHeld.2.2))).trans (hHeld.2.2)
         have n0_:=Aside0.mk (Kd.R_below (rR HO128) hb)
         have n1_:=Aside0.mk (blk_below (g:=gb125) (o:=.cells #[.int .i64 0,.int .i64 0,.int .i64 0] 25 (0,0)) (bk BK125) hb)
         have n2_:=bs hb
         have n3_:=Aside0.mk (hbox)
         have n4_:=Aside0.mk ((by rw [hg];exact (below_size be):w.heap.size≤gb135))
         have n5_:=Aside0.mk ((by rw [hg];exact (below_size be):w.heap.size≤gb135))
         have n6_:=Aside0.mk ((by rw [hg];exact Nat.ne_of_lt (blk_lt (g:=gb125) (o:=.cells #[.int .i64 0,.int .i64 0,.int .i64 0] 25 (0,0)) (bk BK125)):gb125 ≠ gb135))
         have n7_:=Aside0.mk ((by rw [hg];exact Nat.ne_of_gt (blk_lt (g:=gb125) (o:=.cells #[.int .i64 0,.int .i64 0,.int .i64 0] 25 (0,0)) (bk BK125)):gb135 ≠ gb125))
         clear HO128
         clear BK125
         clear HB
         have HO128:=n0_
         have BK125:=n1_
         have HB:=n2_
         have BK135:=n3_
         have GW135:=n4_
         have GE135:=n5_
         have NB125_135:=n6_
         have NB135_125:=n7_
         clear n0_ n1_ n2_ n3_ n4_ n5_ n6_ n7_
         clear hb hbox hg
         refine hK.out _ _ ⟨HS0_,HS1_,HS2_⟩ (fun hHeld=>?_)
         clear hK K
         refine no 5 ?_
         refine ot 7 (some 19) (fl 15 10239) HT_ (fun K hK=>?_)
         refine goes_ Tryd.func47 (by kernel_rfl) rfl #[.string (rdOf ByteArray.empty t126 1)] (by rfl) rfl rfl (by (try simp only [List.map_toArray,List.map_cons,List.map_nil]);first|done|rfl|(simp only [List.length_drop,List.length_take];rfl)) ?_
         with_reducible refine (spec_l2Number.calls k (rdOf ByteArray.empty t126 1) t132 _ A7.out).mono ?_
         rintro e w' ⟨rfl,⟨nd,rfl⟩⟩
         refine ⟨_,rfl,?_⟩
         refine hK.out _ _ ⟨hHeld.1,hHeld.2.1,hHeld.2.2⟩ (fun hHeld=>?_)
         clear hK K
         refine no 19 ?_
         refine ot 11 (some 23) (fl 15 12287) HT_ (fun K hK=>?_)
         refine goes_ Tryd.func47 (by kernel_rfl) rfl #[.string (rdOf ByteArray.empty t126 2)] (by rfl) rfl rfl (by (try simp only [List.map_toArray,List.map_cons,List.map_nil]);first|done|rfl|(simp only [List.length_drop,List.length_take];rfl)) ?_
         with_reducible refine (spec_l2Number.calls k (rdOf ByteArray.empty t126 2) t134 _ A9.out).mono ?_
         rintro e w' ⟨rfl,⟨nd,rfl⟩⟩
         refine ⟨_,rfl,?_⟩
         refine hK.out _ _ ⟨hHeld.1,hHeld.2.1,hHeld.2.2⟩ (fun hHeld=>?_)
         clear hK K
         refine no 23 ?_
         refine pt 12 24 (fl 15 16383) HT_ ?_
         exact norm_ (by simp only [putAll,Act.put,List.setIfInBounds_toArray,List.set_cons_zero,List.set_cons_succ]) (hCont (gb135) _ ⟨hHeld,(rR HO128),(bk BK125),(bk BK135),GW135.out,GE135.out,NB125_135.out,NB135_125.out,be⟩)
       ·skip
        refine box_step ?hg (N:=5) ?hd (cs:=#[.int .i64 0,.int .i64 0,.int .i64 0]) (t:=25) ?hr ?_;(case hd=>rfl);(case hg=>rfl);(case hr=>first|(go_simp;done)|(go_simp;rfl))
        intro gb135 hg w16 hbox hb
        have HS0_:=(hb.cell (World.block_lt_of_cell? _ _ (hHeld.1))).trans (hHeld.1)
        have HS1_:=(hb.cell (World.block_lt_of_cell? _ _ (hHeld.2.1))).trans (hHeld.2.1)
        have HS2_:=(hb.cell (World.block_lt_of_cell? _ _ (hHeld.2.2))).trans (hHeld.2.2)
        have n0_:=Aside0.mk (Kd.R_below (rR HO128) hb)
        have n1_:=Aside0.mk (blk_below (g:=gb125) (o:=.cells #[.int .i64 0,.int .i64 0,.int .i64 0] 25 (0,0)) (bk BK125) hb)
        have n2_:=bs hb
        have n3_:=Aside0.mk (hbox)
        have n4_:=Aside0.mk ((by rw [hg];exact (below_size be):w.heap.size≤gb135))
        have n5_:=Aside0.mk ((by rw [hg];exact (below_size be):w.heap.size≤gb135))
        have n6_:=Aside0.mk ((by rw [hg];exact Nat.ne_of_lt (blk_lt (g:=gb125) (o:=.cells #[.int .i64 0,.int .i64 0,.int .i64 0] 25 (0,0)) (bk BK125)):gb125 ≠ gb135))
        have n7_:=Aside0.mk ((by rw [hg];exact Nat.ne_of_gt (blk_lt (g:=gb125) (o:=.cells #[.int .i64 0,.int .i64 0,.int .i64 0] 25 (0,0)) (bk BK125)):gb135 ≠ gb125))
        clear HO128
        clear BK125
        clear HB
        have HO128:=n0_
        have BK125:=n1_
        have HB:=n2_
        have BK135:=n3_
        have GW135:=n4_
        have GE135:=n5_
        have NB125_135:=n6_
        have NB135_125:=n7_
        clear n0_ n1_ n2_ n3_ n4_ n5_ n6_ n7_
        clear hb hbox hg
        refine hK.out _ _ ⟨HS0_,HS1_,HS2_⟩ (fun hHeld=>?_)
        clear hK K
        refine no 5 ?_
        refine ot 3 (some 15) (fl 15 10111) HT_ (fun K hK=>?_)
        refine goes_ Tryd.func47 (by kernel_rfl) rfl #[.string (rdOf ByteArray.empty t126 0)] (by rfl) rfl rfl (by (try simp only [List.map_toArray,List.map_cons,List.map_nil]);first|done|rfl|(simp only [List.length_drop,List.length_take];rfl)) ?_
        with_reducible refine (spec_l2Number.calls k (rdOf ByteArray.empty t126 0) t130 _ A5.out).mono ?_
        rintro e w' ⟨rfl,⟨nd,rfl⟩⟩
        refine ⟨_,rfl,?_⟩
        refine hK.out _ _ ⟨hHeld.1,hHeld.2.1,hHeld.2.2⟩ (fun hHeld=>?_)
        clear hK K
        refine no 15 ?_
        refine ot 7 (some 19) (fl 15 10239) HT_ (fun K hK=>?_)
        refine goes_ Tryd.func47 (by kernel_rfl) rfl #[.string (rdOf ByteArray.empty t126 1)] (by rfl) rfl rfl (by (try simp only [List.map_toArray,List.map_cons,List.map_nil]);first|done|rfl|(simp only [List.length_drop,List.length_take];rfl)) ?_
        with_reducible refine (spec_l2Number.calls k (rdOf ByteArray.empty t126 1) t132 _ A7.out).mono ?_
        rintro e w' ⟨rfl,⟨nd,rfl⟩⟩
        refine ⟨_,rfl,?_⟩
        refine hK.out _ _ ⟨hHeld.1,hHeld.2.1,hHeld.2.2⟩ (fun hHeld=>?_)
        clear hK K
        refine no 19 ?_
        refine ot 11 (some 23) (fl 15 12287) HT_ (fun K hK=>?_)
        refine goes_ Tryd.func47 (by kernel_rfl) rfl #[.string (rdOf ByteArray.empty t126 2)] (by rfl) rfl rfl (by (try simp only [List.map_toArray,List.map_cons,List.map_nil]);first|done|rfl|(simp only [List.length_drop,List.length_take];rfl)) ?_
        with_reducible refine (spec_l2Number.calls k (rdOf ByteArray.empty t126 2) t134 _ A9.out).mono ?_
        rintro e w' ⟨rfl,⟨nd,rfl⟩⟩
        refine ⟨_,rfl,?_⟩
        refine hK.out _ _ ⟨hHeld.1,hHeld.2.1,hHeld.2.2⟩ (fun hHeld=>?_)
        clear hK K
        refine no 23 ?_
        refine pt 12 24 (fl 15 16383) HT_ ?_
        exact norm_ (by simp only [putAll,Act.put,List.setIfInBounds_toArray,List.set_cons_zero,List.set_cons_succ]) (hCont (gb135) _ ⟨hHeld,(rR HO128),(bk BK125),(bk BK135),GW135.out,GE135.out,NB125_135.out,NB135_125.out,be⟩)
      rintro gb135 w17 ⟨hS_,h0_,h1_,h2_,h3_,h4_,h5_,h6_,h7_⟩
      have n0_:Aside0 (Kd.R Kd.string 9 w17 w.heap.size (fun _=>True) (.slice (some ad129) t126.length co14) t126):=⟨h0_⟩
      have n1_:Aside0 (w17.heap[gb125]?=some (.cells #[.int .i64 0,.int .i64 0,.int .i64 0] 25 (0,0))):=⟨h1_⟩
      have n2_:Aside0 (w17.heap[gb135]?=some (.cells #[.int .i64 0,.int .i64 0,.int .i64 0] 25 (0,0))):=⟨h2_⟩
      have n3_:Aside0 (w.heap.size≤gb135):=⟨h3_⟩
      have n4_:Aside0 (w.heap.size≤gb135):=⟨h4_⟩
      have n5_:Aside0 (gb125 ≠ gb135):=⟨h5_⟩
      have n6_:Aside0 (gb135 ≠ gb125):=⟨h6_⟩
      have n7_:Aside0 (Below w.heap.size w w17):=⟨h7_⟩
      clear HO128
      clear BK125
      clear HB
      clear h0_ h1_ h2_ h3_ h4_ h5_ h6_ h7_
      have HO128:=n0_
      have BK125:=n1_
      have BK135:=n2_
      have GW135:=n3_
      have GE135:=n4_
      have NB125_135:=n5_
      have NB135_125:=n6_
      have HB:=n7_
      clear n0_ n1_ n2_ n3_ n4_ n5_ n6_ n7_
      have hHeld:w17.cell? ad129=some (.string (rdOf ByteArray.empty t126 0))∧w17.cell? ⟨ad129.block,ad129.off+1,none⟩=some (.string (rdOf ByteArray.empty t126 1))∧w17.cell? ⟨ad129.block,ad129.off+2,none⟩=some (.string (rdOf ByteArray.empty t126 2)):=hS_
      refine norm_ (a':=?_) ?_ ?_
      rotate_left
      ·simp only [putAll,Act.put,List.setIfInBounds_toArray,List.set_cons_zero,List.set_cons_succ]
       rfl
      refine ot 14 none (fl 15 32767) HT_ (fun K hK=>?_)
      have hs18:w17.cell? ⟨gb135,0,none⟩=some (.int .i64 0):=(blk_cell BK135.out 0).trans rfl
      have hfs18:=blk_frozen BK135.out 0
      have hns18_0:=NB125_135.out
      have hms18_0:=NB135_125.out
      have hs19:w17.cell? ⟨gb135,1,none⟩=some (.int .i64 0):=(blk_cell BK135.out 1).trans rfl
      have hfs19:=blk_frozen BK135.out 1
      have hns19_0:=NB125_135.out
      have hms19_0:=NB135_125.out
      have hs20:w17.cell? ⟨gb135,2,none⟩=some (.int .i64 0):=(blk_cell BK135.out 2).trans rfl
      have hfs20:=blk_frozen BK135.out 2
      have hns20_0:=NB125_135.out
      have hms20_0:=NB135_125.out
      refine skip_ (w1:=?_) (by rfl) rfl ?_ ?_
      rotate_left
      ·go_simp
       rfl
      refine hK.out _ _ ⟨((cell_far (p:=⟨gb135,_,none⟩) (by first|exact Kd.own_blk (Kd.R_ne HO128.out BK135.out (by decide))|(rw [add_block];exact Kd.own_blk (Kd.R_ne HO128.out BK135.out (by decide)))|(show (Addr.add _ _).block ≠ _;rw [add_block];exact Kd.own_blk (Kd.R_ne HO128.out BK135.out (by decide)))|(dsimp only;exact Kd.own_blk (Kd.R_ne HO128.out BK135.out (by decide)))) _).trans (((cell_far (p:=⟨gb135,_,none⟩) (by first|exact Kd.own_blk (Kd.R_ne HO128.out BK135.out (by decide))|(rw [add_block];exact Kd.own_blk (Kd.R_ne HO128.out BK135.out (by decide)))|(show (Addr.add _ _).block ≠ _;rw [add_block];exact Kd.own_blk (Kd.R_ne HO128.out BK135.out (by decide)))|(dsimp only;exact Kd.own_blk (Kd.R_ne HO128.out BK135.out (by decide)))) _).trans (((cell_far (p:=⟨gb135,_,none⟩) (by first|exact Kd.own_blk (Kd.R_ne HO128.out BK135.out (by decide))|(rw [add_block];exact Kd.own_blk (Kd.R_ne HO128.out BK135.out (by decide)))|(show (Addr.add _ _).block ≠ _;rw [add_block];exact Kd.own_blk (Kd.R_ne HO128.out BK135.out (by decide)))|(dsimp only;exact Kd.own_blk (Kd.R_ne HO128.out BK135.out (by decide)))) _).trans (hHeld.1)))))),((cell_far (p:=⟨gb135,_,none⟩) (by first|exact Kd.own_blk (Kd.R_ne HO128.out BK135.out (by decide))|(rw [add_block];exact Kd.own_blk (Kd.R_ne HO128.out BK135.out (by decide)))|(show (Addr.add _ _).block ≠ _;rw [add_block];exact Kd.own_blk (Kd.R_ne HO128.out BK135.out (by decide)))|(dsimp only;exact Kd.own_blk (Kd.R_ne HO128.out BK135.out (by decide)))) _).trans (((cell_far (p:=⟨gb135,_,none⟩) (by first|exact Kd.own_blk (Kd.R_ne HO128.out BK135.out (by decide))|(rw [add_block];exact Kd.own_blk (Kd.R_ne HO128.out BK135.out (by decide)))|(show (Addr.add _ _).block ≠ _;rw [add_block];exact Kd.own_blk (Kd.R_ne HO128.out BK135.out (by decide)))|(dsimp only;exact Kd.own_blk (Kd.R_ne HO128.out BK135.out (by decide)))) _).trans (((cell_far (p:=⟨gb135,_,none⟩) (by first|exact Kd.own_blk (Kd.R_ne HO128.out BK135.out (by decide))|(rw [add_block];exact Kd.own_blk (Kd.R_ne HO128.out BK135.out (by decide)))|(show (Addr.add _ _).block ≠ _;rw [add_block];exact Kd.own_blk (Kd.R_ne HO128.out BK135.out (by decide)))|(dsimp only;exact Kd.own_blk (Kd.R_ne HO128.out BK135.out (by decide)))) _).trans (hHeld.2.1)))))),((cell_far (p:=⟨gb135,_,none⟩) (by first|exact Kd.own_blk (Kd.R_ne HO128.out BK135.out (by decide))|(rw [add_block];exact Kd.own_blk (Kd.R_ne HO128.out BK135.out (by decide)))|(show (Addr.add _ _).block ≠ _;rw [add_block];exact Kd.own_blk (Kd.R_ne HO128.out BK135.out (by decide)))|(dsimp only;exact Kd.own_blk (Kd.R_ne HO128.out BK135.out (by decide)))) _).trans (((cell_far (p:=⟨gb135,_,none⟩) (by first|exact Kd.own_blk (Kd.R_ne HO128.out BK135.out (by decide))|(rw [add_block];exact Kd.own_blk (Kd.R_ne HO128.out BK135.out (by decide)))|(show (Addr.add _ _).block ≠ _;rw [add_block];exact Kd.own_blk (Kd.R_ne HO128.out BK135.out (by decide)))|(dsimp only;exact Kd.own_blk (Kd.R_ne HO128.out BK135.out (by decide)))) _).trans (((cell_far (p:=⟨gb135,_,none⟩) (by first|exact Kd.own_blk (Kd.R_ne HO128.out BK135.out (by decide))|(rw [add_block];exact Kd.own_blk (Kd.R_ne HO128.out BK135.out (by decide)))|(show (Addr.add _ _).block ≠ _;rw [add_block];exact Kd.own_blk (Kd.R_ne HO128.out BK135.out (by decide)))|(dsimp only;exact Kd.own_blk (Kd.R_ne HO128.out BK135.out (by decide)))) _).trans (hHeld.2.2))))))⟩ (fun hHeld=>?_)
      clear hK K
      refine done_ (done_of HT_.out (by kernel_rfl)) ?_
      have hnb21:=NB135_125.out
      have hnc21:=NB125_135.out
      have hcz22_0:w17.cell? ⟨gb135,0,none⟩=some (.int .i64 0):=(blk_cell BK135.out 0).trans rfl
      have hcz22_1:w17.cell? ⟨gb135,1,none⟩=some (.int .i64 0):=(blk_cell BK135.out 1).trans rfl
      have hcz22_2:w17.cell? ⟨gb135,2,none⟩=some (.int .i64 0):=(blk_cell BK135.out 2).trans rfl
      have hfz22_0:=blk_frozen BK135.out 0
      have hfz22_1:=blk_frozen BK135.out 1
      have hfz22_2:=blk_frozen BK135.out 2
      try go_wp2_with (first|((with_reducible refine gate_callee (f:=26) rfl ?_);refine goesL_ (some 26) rfl rfl Tryd.func26 (by kernel_rfl) rfl #[.agg #[.int .i64 t130,.int .i64 t132,.int .i64 t134]] rfl (by (try simp only [List.map_toArray,List.map_cons,List.map_nil]);first|done|rfl|(simp only [List.length_drop,List.length_take];rfl)) ?_;(with_reducible refine (spec_StampOk.calls t130 t132 t134 true _ A10.out).mono ?_);rintro e w23 ⟨rfl,hb⟩;refine ⟨_,rfl,?_⟩;have n0_:=Aside0.mk (Kd.R_below ((by (with_reducible repeat (first|apply Kd.R_alloc|apply Kd.R_drewN|apply Kd.R_drew));exact (Kd.R_mono (Kd.R_far (p:=⟨gb135,2,none⟩) (Kd.R_far (p:=⟨gb135,1,none⟩) (Kd.R_far (p:=⟨gb135,0,none⟩) (Kd.R_types HO128.out BK135.out (by decide)) (fun _ hk=>hk.2) (.int .i64 t130)) (fun _ hk=>hk.2) (.int .i64 t132)) (fun _ hk=>hk.2) (.int .i64 t134)) (fun _ h_=>h_.1)))) hb);have n1_:=Aside0.mk (blk_below (g:=gb125) (o:=.cells #[.int .i64 0,.int .i64 0,.int .i64 0] 25 (0,0)) (by (with_reducible repeat (first|refine blk_drewN ?_ _|refine blk_drew ?_|refine blk_alloc ?_ _));refine blk_far ?_ NB125_135.out _;(with_reducible repeat (first|refine blk_drewN ?_ _|refine blk_drew ?_|refine blk_alloc ?_ _));refine blk_far ?_ NB125_135.out _;(with_reducible repeat (first|refine blk_drewN ?_ _|refine blk_drew ?_|refine blk_alloc ?_ _));refine blk_far ?_ NB125_135.out _;(with_reducible repeat (first|refine blk_drewN ?_ _|refine blk_drew ?_|refine blk_alloc ?_ _));exact BK125.out) hb);have n2_:=Aside0.mk (blk_below (g:=gb135) (o:=.cells #[.int .i64 t130,.int .i64 t132,.int .i64 t134] 25 (0,0)) (by (with_reducible repeat (first|refine blk_drewN ?_ _|refine blk_drew ?_|refine blk_alloc ?_ _));refine blk_put (cs:=#[.int .i64 t130,.int .i64 t132,.int .i64 0]) ?_ 2 _ rfl;(with_reducible repeat (first|refine blk_drewN ?_ _|refine blk_drew ?_|refine blk_alloc ?_ _));refine blk_put (cs:=#[.int .i64 t130,.int .i64 0,.int .i64 0]) ?_ 1 _ rfl;(with_reducible repeat (first|refine blk_drewN ?_ _|refine blk_drew ?_|refine blk_alloc ?_ _));refine blk_put (cs:=#[.int .i64 0,.int .i64 0,.int .i64 0]) ?_ 0 _ rfl;(with_reducible repeat (first|refine blk_drewN ?_ _|refine blk_drew ?_|refine blk_alloc ?_ _));exact BK135.out) hb);have n3_:=bs hb;clear HO128;clear BK125;clear BK135;clear HB;have HO128:=n0_;have BK125:=n1_;have BK135:=n2_;have HB:=n3_;clear n0_ n1_ n2_ n3_;(try clear hb);(try clear hb2);(try clear hk);(try clear hi);have hcz24_0:w23.cell? ⟨gb135,0,none⟩=some (.int .i64 t130):=(blk_cell BK135.out 0).trans rfl;have hcz24_1:w23.cell? ⟨gb135,1,none⟩=some (.int .i64 t132):=(blk_cell BK135.out 1).trans rfl;have hcz24_2:w23.cell? ⟨gb135,2,none⟩=some (.int .i64 t134):=(blk_cell BK135.out 2).trans rfl;have hfz24_0:=blk_frozen BK135.out 0;have hfz24_1:=blk_frozen BK135.out 1;have hfz24_2:=blk_frozen BK135.out 2;have hcz25_0:w23.cell? ⟨gb125,0,none⟩=some (.int .i64 0):=(blk_cell BK125.out 0).trans rfl;have hcz25_1:w23.cell? ⟨gb125,1,none⟩=some (.int .i64 0):=(blk_cell BK125.out 1).trans rfl;have hcz25_2:w23.cell? ⟨gb125,2,none⟩=some (.int .i64 0):=(blk_cell BK125.out 2).trans rfl;have hfz25_0:=blk_frozen BK125.out 0;have hfz25_1:=blk_frozen BK125.out 1;have hfz25_2:=blk_frozen BK125.out 2))
      refine bodyPost_ret (results_ct rfl _ _ gb125 25 #[.int .i64 t130,.int .i64 t132,.int .i64 t134] (0,0) _ rfl (by (with_reducible repeat (first|refine blk_drewN ?_ _|refine blk_drew ?_|refine blk_alloc ?_ _));refine blk_put (cs:=#[.int .i64 t130,.int .i64 t132,.int .i64 0]) ?_ 2 _ rfl;(with_reducible repeat (first|refine blk_drewN ?_ _|refine blk_drew ?_|refine blk_alloc ?_ _));refine blk_put (cs:=#[.int .i64 t130,.int .i64 0,.int .i64 0]) ?_ 1 _ rfl;(with_reducible repeat (first|refine blk_drewN ?_ _|refine blk_drew ?_|refine blk_alloc ?_ _));refine blk_put (cs:=#[.int .i64 0,.int .i64 0,.int .i64 0]) ?_ 0 _ rfl;(with_reducible repeat (first|refine blk_drewN ?_ _|refine blk_drew ?_|refine blk_alloc ?_ _));exact BK125.out) Tryd.underlying25 rfl (by kernel_rfl)) rfl ?_
      exact ⟨rz,be⟩
     ·replace c11:=Bool.eq_false_iff.mpr c11
      subst c11
      have H1:(some (0,0,0,false))=some (r1,r2,r3,r4):=by rw [if_neg (show ¬ (false=true) by decide)] at H;exact H
      clear H
      have H:=H1
      clear H1
      simp only [Option.some.injEq,Prod.mk.injEq] at H
      obtain ⟨rfl,rfl,rfl,rfl⟩:=H
      go_enter Tryd.func19,Tryd.ntmps19
      try go_wp2_with (first|((with_reducible refine gate_dst (N:=2) rfl ?_);refine box_event ?hg (N:=2) ?hd (cs:=#[.int .i64 0,.int .i64 0,.int .i64 0]) (t:=25) ?hr ?_;(case hd=>rfl);(case hg=>rfl);(case hr=>first|(go_simp;done)|(go_simp;rfl));intro gb125 hg w26 hbox hb;have n0_:=bs hb;have n1_:=Aside0.mk (hbox);have n2_:=Aside0.mk ((by rw [hg];exact (below_size be):w.heap.size≤gb125));have n3_:=Aside0.mk ((by rw [hg];exact (below_size be):w.heap.size≤gb125));clear HB;have HB:=n0_;have BK125:=n1_;have GW125:=n2_;have GE125:=n3_;clear n0_ n1_ n2_ n3_;clear hb hbox hg)|((with_reducible refine gate_callee (f:=46) rfl ?_);refine goesL_ (some 7) rfl rfl Tryd.func46 (by kernel_rfl) rfl #[.string a0,.int .u8 46] rfl (by (try simp only [List.map_toArray,List.map_cons,List.map_nil]);first|done|rfl|(simp only [List.length_drop,List.length_take];rfl)) ?_;(with_reducible refine (spec_l2Split.calls k a0 46 t126 _ A2.out).mono ?_);rintro e w27 ⟨v127,rfl,ho0,hb⟩;refine ⟨_,rfl,?_⟩;have n0_:=Aside0.mk (Kd.R_lower ho0 (below_size be));have n1_:=Aside0.mk (blk_below (g:=gb125) (o:=.cells #[.int .i64 0,.int .i64 0,.int .i64 0] 25 (0,0)) (bk BK125) hb);have n2_:=bs hb;clear BK125;clear HB;have HO128:=n0_;have BK125:=n1_;have HB:=n2_;clear n0_ n1_ n2_;(try clear hb);(try clear hb2);(try clear hk);(try clear hi);(try clear ho0);obtain ⟨Ao28,co28,eo28⟩:=Kd.R_slice HO128.out;subst eo28))
      have n0_:=Aside0.mk (Kd.R_drew HO128.out)
      have n1_:=Aside0.mk (blk_drew BK125.out)
      have n2_:=Aside0.mk (below_drew1 HB.out)
      clear HO128
      clear BK125
      clear HB
      have HO128:=n0_
      have BK125:=n1_
      have HB:=n2_
      clear n0_ n1_ n2_
      have p129:0≤(0:Int):=(by omega)
      have q129:0 < (t126.length:Int):=of_decide_eq_true (by first|(with_reducible assumption)|assumption)
      obtain ⟨ad129,e129,hx129_0⟩:=Kd.at_string (Kd.R_reads' HO128.out).2.2 0 p129 q129
      cases e129
      have qi129:(0 < t126.length)=True:=eq_true (by omega)
      (try rw [show ((0:Int)).toNat=0 from rfl] at hx129_0)
      (try rw [Addr.add_zero'] at hx129_0)
      replace p129:=eq_true p129
      replace q129:=eq_true q129
      have p131:0≤(1:Int):=(by omega)
      have q131:1 < (t126.length:Int):=of_decide_eq_true (by first|(with_reducible assumption)|assumption)
      obtain ⟨ad131,e131,hx131_0⟩:=Kd.at_string (Kd.R_reads' HO128.out).2.2 1 p131 q131
      obtain rfl:ad129=ad131:=(by injection e131)
      (try simp only [show (1:Int).toNat=1 from rfl,Nat.reduceMul,Nat.reduceEqDiff,Go.Addr.add,↓reduceIte] at hx131_0)
      have qi131:(1 < t126.length)=True:=eq_true (by omega)
      (try rw [show ((1:Int)).toNat=1 from rfl] at hx131_0)
      replace p131:=eq_true p131
      replace q131:=eq_true q131
      have p133:0≤(2:Int):=(by omega)
      have q133:2 < (t126.length:Int):=of_decide_eq_true (by first|(with_reducible assumption)|assumption)
      obtain ⟨ad133,e133,hx133_0⟩:=Kd.at_string (Kd.R_reads' HO128.out).2.2 2 p133 q133
      obtain rfl:ad129=ad133:=(by injection e133)
      (try simp only [show (2:Int).toNat=2 from rfl,Nat.reduceMul,Nat.reduceEqDiff,Go.Addr.add,↓reduceIte] at hx133_0)
      have qi133:(2 < t126.length)=True:=eq_true (by omega)
      (try rw [show ((2:Int)).toNat=2 from rfl] at hx133_0)
      replace p133:=eq_true p133
      replace q133:=eq_true q133
      refine start_ (n:=15) (S:=fun w'=>w'.cell? ad129=some (.string (rdOf ByteArray.empty t126 0))∧w'.cell? ⟨ad129.block,ad129.off+1,none⟩=some (.string (rdOf ByteArray.empty t126 1))∧w'.cell? ⟨ad129.block,ad129.off+2,none⟩=some (.string (rdOf ByteArray.empty t126 2))) (ds:=[]) (fl 15 0) (by kernel_rfl) rfl rfl ⟨hx129_0,hx131_0,hx133_0⟩ (fun hHeld=>?_);refine with_tabW spec_ParseStamp.tab4 spec_ParseStamp.bits4 (fun HT_ HW_=>?_)
      generalize w27.drew=w29 at HO128 BK125 HB hx129_0 hx131_0 hx133_0 hHeld ⊢
      refine pt 0 12 (fl 15 1) HT_ ?_
      refine pt 1 13 (fl 15 3) HT_ ?_
      refine pt 4 16 (fl 15 19) HT_ ?_
      refine pt 5 17 (fl 15 51) HT_ ?_
      refine pt 8 20 (fl 15 307) HT_ ?_
      refine pt 9 21 (fl 15 819) HT_ ?_
      refine tt 2 14 (fl 15 823) HT_ HW_ hHeld ?_
      refine tt 6 18 (fl 15 887) HT_ HW_ hHeld ?_
      refine tt 10 22 (fl 15 1911) HT_ HW_ hHeld ?_
      refine join_ (σ:=Nat) 1 (fl 15 16383) (fun s_=>[(15,.int .i64 t130),(19,.int .i64 t132),(23,.int .i64 t134),(5,.pointer (some ⟨s_,0,none⟩)),(24,.agg #[.int .i64 t130,.int .i64 t132,.int .i64 t134])]) (fun s_ w'=>(w'.cell? ad129=some (.string (rdOf ByteArray.empty t126 0))∧w'.cell? ⟨ad129.block,ad129.off+1,none⟩=some (.string (rdOf ByteArray.empty t126 1))∧w'.cell? ⟨ad129.block,ad129.off+2,none⟩=some (.string (rdOf ByteArray.empty t126 2)))∧(Kd.R Kd.string 9 w' w.heap.size (fun _=>True) (.slice (some ad129) t126.length co28) t126)∧(w'.heap[gb125]?=some (.cells #[.int .i64 0,.int .i64 0,.int .i64 0] 25 (0,0)))∧(w'.heap[s_]?=some (.cells #[.int .i64 0,.int .i64 0,.int .i64 0] 25 (0,0)))∧(w.heap.size≤s_)∧(w.heap.size≤s_)∧(gb125 ≠ s_)∧(s_ ≠ gb125)∧(Below w.heap.size w w')) ?_ ?_
      rotate_left
      ·intro hCont
       refine two_ (i:=3) (j:=13) (Ni:=some 15) (Nj:=some 5) (fl 15 1919) (fl 15 10103) rfl rfl rfl rfl (two_of HT_.out (by kernel_rfl)) (by decide) (by decide) (fun K hK=>?_) (fun K hK=>?_)
       ·skip
        refine goes_ Tryd.func47 (by kernel_rfl) rfl #[.string (rdOf ByteArray.empty t126 0)] (by rfl) rfl rfl (by (try simp only [List.map_toArray,List.map_cons,List.map_nil]);first|done|rfl|(simp only [List.length_drop,List.length_take];rfl)) ?_
        with_reducible refine (spec_l2Number.calls k (rdOf ByteArray.empty t126 0) t130 _ A5.out).mono ?_
        rintro e w' ⟨rfl,⟨nd,rfl⟩⟩
        refine ⟨_,rfl,?_⟩
        refine hK.out _ _ ⟨hHeld.1,hHeld.2.1,hHeld.2.2⟩ (fun hHeld=>?_)
        clear hK K
        refine no 15 ?_
        refine two_ (i:=7) (j:=13) (Ni:=some 19) (Nj:=some 5) (fl 15 2047) (fl 15 10111) rfl rfl rfl rfl (two_of HT_.out (by kernel_rfl)) (by decide) (by decide) (fun K hK=>?_) (fun K hK=>?_)
        ·skip
         refine goes_ Tryd.func47 (by kernel_rfl) rfl #[.string (rdOf ByteArray.empty t126 1)] (by rfl) rfl rfl (by (try simp only [List.map_toArray,List.map_cons,List.map_nil]);first|done|rfl|(simp only [List.length_drop,List.length_take];rfl)) ?_
         with_reducible refine (spec_l2Number.calls k (rdOf ByteArray.empty t126 1) t132 _ A7.out).mono ?_
         rintro e w' ⟨rfl,⟨nd,rfl⟩⟩
         refine ⟨_,rfl,?_⟩
         refine hK.out _ _ ⟨hHeld.1,hHeld.2.1,hHeld.2.2⟩ (fun hHeld=>?_)
         clear hK K
         refine no 19 ?_
         refine two_ (i:=11) (j:=13) (Ni:=some 23) (Nj:=some 5) (fl 15 4095) (fl 15 10239) rfl rfl rfl rfl (two_of HT_.out (by kernel_rfl)) (by decide) (by decide) (fun K hK=>?_) (fun K hK=>?_)
         ·skip
          refine goes_ Tryd.func47 (by kernel_rfl) rfl #[.string (rdOf ByteArray.empty t126 2)] (by rfl) rfl rfl (by (try simp only [List.map_toArray,List.map_cons,List.map_nil]);first|done|rfl|(simp only [List.length_drop,List.length_take];rfl)) ?_
          with_reducible refine (spec_l2Number.calls k (rdOf ByteArray.empty t126 2) t134 _ A9.out).mono ?_
          rintro e w' ⟨rfl,⟨nd,rfl⟩⟩
          refine ⟨_,rfl,?_⟩
          refine hK.out _ _ ⟨hHeld.1,hHeld.2.1,hHeld.2.2⟩ (fun hHeld=>?_)
          clear hK K
          refine no 23 ?_
          refine pt 12 24 (fl 15 8191) HT_ ?_
          refine ot 13 (some 5) (fl 15 16383) HT_ (fun K hK=>?_)
          refine box_step ?hg (N:=5) ?hd (cs:=#[.int .i64 0,.int .i64 0,.int .i64 0]) (t:=25) ?hr ?_;(case hd=>rfl);(case hg=>rfl);(case hr=>first|(go_simp;done)|(go_simp;rfl))
          intro gb135 hg w30 hbox hb
          have HS0_:=(hb.cell (World.block_lt_of_cell? _ _ (hHeld.1))).trans (hHeld.1)
          have HS1_:=(hb.cell (World.block_lt_of_cell? _ _ (hHeld.2.1))).trans (hHeld.2.1)
          have HS2_:=(hb.cell (World.block_lt_of_cell? _ _ (hHeld.2.2))).trans (hHeld.2.2)
          have n0_:=Aside0.mk (Kd.R_below (rR HO128) hb)
          have n1_:=Aside0.mk (blk_below (g:=gb125) (o:=.cells #[.int .i64 0,.int .i64 0,.int .i64 0] 25 (0,0)) (bk BK125) hb)
          have n2_:=bs hb
          have n3_:=Aside0.mk (hbox)
          have n4_:=Aside0.mk ((by rw [hg];exact (below_size be):w.heap.size≤gb135))
          have n5_:=Aside0.mk ((by rw [hg];exact (below_size be):w.heap.size≤gb135))
          have n6_:=Aside0.mk ((by rw [hg];exact Nat.ne_of_lt (blk_lt (g:=gb125) (o:=.cells #[.int .i64 0,.int .i64 0,.int .i64 0] 25 (0,0)) (bk BK125)):gb125 ≠ gb135))
          have n7_:=Aside0.mk ((by rw [hg];exact Nat.ne_of_gt (blk_lt (g:=gb125) (o:=.cells #[.int .i64 0,.int .i64 0,.int .i64 0] 25 (0,0)) (bk BK125)):gb135 ≠ gb125))
          clear HO128
          clear BK125
          clear HB
          have HO128:=n0_
          have BK125:=n1_
          have HB:=n2_
          have BK135:=n3_
          have GW135:=n4_
          have GE135:=n5_
          have NB125_135:=n6_
          have NB135_125:=n7_
          clear n0_ n1_ n2_ n3_ n4_ n5_ n6_ n7_
          clear hb hbox hg
          refine hK.out _ _ ⟨HS0_,HS1_,HS2_⟩ (fun hHeld=>?_)
          clear hK K
          refine no 5 ?_
          exact norm_ (by simp only [putAll,Act.put,List.setIfInBounds_toArray,List.set_cons_zero,List.set_cons_succ]) (hCont (gb135) _ ⟨hHeld,(rR HO128),(bk BK125),(bk BK135),GW135.out,GE135.out,NB125_135.out,NB135_125.out,be⟩)
         ·skip
          refine box_step ?hg (N:=5) ?hd (cs:=#[.int .i64 0,.int .i64 0,.int .i64 0]) (t:=25) ?hr ?_;(case hd=>rfl);(case hg=>rfl);(case hr=>first|(go_simp;done)|(go_simp;rfl))
          intro gb135 hg w30 hbox hb
          have HS0_:=(hb.cell (World.block_lt_of_cell? _ _ (hHeld.1))).trans (hHeld.1)
          have HS1_:=(hb.cell (World.block_lt_of_cell? _ _ (hHeld.2.1))).trans (hHeld.2.1)
          have HS2_:=(hb.cell (World.block_lt_of_cell? _ _ (hHeld.2.2))).trans (hHeld.2.2)
          have n0_:=Aside0.mk (Kd.R_below (rR HO128) hb)
          have n1_:=Aside0.mk (blk_below (g:=gb125) (o:=.cells #[.int .i64 0,.int .i64 0,.int .i64 0] 25 (0,0)) (bk BK125) hb)
          have n2_:=bs hb
          have n3_:=Aside0.mk (hbox)
          have n4_:=Aside0.mk ((by rw [hg];exact (below_size be):w.heap.size≤gb135))
          have n5_:=Aside0.mk ((by rw [hg];exact (below_size be):w.heap.size≤gb135))
          have n6_:=Aside0.mk ((by rw [hg];exact Nat.ne_of_lt (blk_lt (g:=gb125) (o:=.cells #[.int .i64 0,.int .i64 0,.int .i64 0] 25 (0,0)) (bk BK125)):gb125 ≠ gb135))
          have n7_:=Aside0.mk ((by rw [hg];exact Nat.ne_of_gt (blk_lt (g:=gb125) (o:=.cells #[.int .i64 0,.int .i64 0,.int .i64 0] 25 (0,0)) (bk BK125)):gb135 ≠ gb125))
          clear HO128
          clear BK125
          clear HB
          have HO128:=n0_
          have BK125:=n1_
          have HB:=n2_
          have BK135:=n3_
          have GW135:=n4_
          have GE135:=n5_
          have NB125_135:=n6_
          have NB135_125:=n7_
          clear n0_ n1_ n2_ n3_ n4_ n5_ n6_ n7_
          clear hb hbox hg
          refine hK.out _ _ ⟨HS0_,HS1_,HS2_⟩ (fun hHeld=>?_)
          clear hK K
          refine no 5 ?_
          refine ot 11 (some 23) (fl 15 12287) HT_ (fun K hK=>?_)
          refine goes_ Tryd.func47 (by kernel_rfl) rfl #[.string (rdOf ByteArray.empty t126 2)] (by rfl) rfl rfl (by (try simp only [List.map_toArray,List.map_cons,List.map_nil]);first|done|rfl|(simp only [List.length_drop,List.length_take];rfl)) ?_
          with_reducible refine (spec_l2Number.calls k (rdOf ByteArray.empty t126 2) t134 _ A9.out).mono ?_
          rintro e w' ⟨rfl,⟨nd,rfl⟩⟩
          refine ⟨_,rfl,?_⟩
          refine hK.out _ _ ⟨hHeld.1,hHeld.2.1,hHeld.2.2⟩ (fun hHeld=>?_)
          clear hK K
          refine no 23 ?_
          refine pt 12 24 (fl 15 16383) HT_ ?_
          exact norm_ (by simp only [putAll,Act.put,List.setIfInBounds_toArray,List.set_cons_zero,List.set_cons_succ]) (hCont (gb135) _ ⟨hHeld,(rR HO128),(bk BK125),(bk BK135),GW135.out,GE135.out,NB125_135.out,NB135_125.out,be⟩)
        ·skip
         refine box_step ?hg (N:=5) ?hd (cs:=#[.int .i64 0,.int .i64 0,.int .i64 0]) (t:=25) ?hr ?_;(case hd=>rfl);(case hg=>rfl);(case hr=>first|(go_simp;done)|(go_simp;rfl))
         intro gb135 hg w30 hbox hb
         have HS0_:=(hb.cell (World.block_lt_of_cell? _ _ (hHeld.1))).trans (hHeld.1)
         have HS1_:=(hb.cell (World.block_lt_of_cell? _ _ (hHeld.2.1))).trans (hHeld.2.1)
         have HS2_:=(hb.cell (World.block_lt_of_cell? _ _ (hHeld.2.2))).trans (hHeld.2.2)
         have n0_:=Aside0.mk (Kd.R_below (rR HO128) hb)
         have n1_:=Aside0.mk (blk_below (g:=gb125) (o:=.cells #[.int .i64 0,.int .i64 0,.int .i64 0] 25 (0,0)) (bk BK125) hb)
         have n2_:=bs hb
         have n3_:=Aside0.mk (hbox)
         have n4_:=Aside0.mk ((by rw [hg];exact (below_size be):w.heap.size≤gb135))
         have n5_:=Aside0.mk ((by rw [hg];exact (below_size be):w.heap.size≤gb135))
         have n6_:=Aside0.mk ((by rw [hg];exact Nat.ne_of_lt (blk_lt (g:=gb125) (o:=.cells #[.int .i64 0,.int .i64 0,.int .i64 0] 25 (0,0)) (bk BK125)):gb125 ≠ gb135))
         have n7_:=Aside0.mk ((by rw [hg];exact Nat.ne_of_gt (blk_lt (g:=gb125) (o:=.cells #[.int .i64 0,.int .i64 0,.int .i64 0] 25 (0,0)) (bk BK125)):gb135 ≠ gb125))
         clear HO128
         clear BK125
         clear HB
         have HO128:=n0_
         have BK125:=n1_
         have HB:=n2_
         have BK135:=n3_
         have GW135:=n4_
         have GE135:=n5_
         have NB125_135:=n6_
         have NB135_125:=n7_
         clear n0_ n1_ n2_ n3_ n4_ n5_ n6_ n7_
         clear hb hbox hg
         refine hK.out _ _ ⟨HS0_,HS1_,HS2_⟩ (fun hHeld=>?_)
         clear hK K
         refine no 5 ?_
         refine ot 7 (some 19) (fl 15 10239) HT_ (fun K hK=>?_)
         refine goes_ Tryd.func47 (by kernel_rfl) rfl #[.string (rdOf ByteArray.empty t126 1)] (by rfl) rfl rfl (by (try simp only [List.map_toArray,List.map_cons,List.map_nil]);first|done|rfl|(simp only [List.length_drop,List.length_take];rfl)) ?_
         with_reducible refine (spec_l2Number.calls k (rdOf ByteArray.empty t126 1) t132 _ A7.out).mono ?_
         rintro e w' ⟨rfl,⟨nd,rfl⟩⟩
         refine ⟨_,rfl,?_⟩
         refine hK.out _ _ ⟨hHeld.1,hHeld.2.1,hHeld.2.2⟩ (fun hHeld=>?_)
         clear hK K
         refine no 19 ?_
         refine ot 11 (some 23) (fl 15 12287) HT_ (fun K hK=>?_)
         refine goes_ Tryd.func47 (by kernel_rfl) rfl #[.string (rdOf ByteArray.empty t126 2)] (by rfl) rfl rfl (by (try simp only [List.map_toArray,List.map_cons,List.map_nil]);first|done|rfl|(simp only [List.length_drop,List.length_take];rfl)) ?_
         with_reducible refine (spec_l2Number.calls k (rdOf ByteArray.empty t126 2) t134 _ A9.out).mono ?_
         rintro e w' ⟨rfl,⟨nd,rfl⟩⟩
         refine ⟨_,rfl,?_⟩
         refine hK.out _ _ ⟨hHeld.1,hHeld.2.1,hHeld.2.2⟩ (fun hHeld=>?_)
         clear hK K
         refine no 23 ?_
         refine pt 12 24 (fl 15 16383) HT_ ?_
         exact norm_ (by simp only [putAll,Act.put,List.setIfInBounds_toArray,List.set_cons_zero,List.set_cons_succ]) (hCont (gb135) _ ⟨hHeld,(rR HO128),(bk BK125),(bk BK135),GW135.out,GE135.out,NB125_135.out,NB135_125.out,be⟩)
       ·skip
        refine box_step ?hg (N:=5) ?hd (cs:=#[.int .i64 0,.int .i64 0,.int .i64 0]) (t:=25) ?hr ?_;(case hd=>rfl);(case hg=>rfl);(case hr=>first|(go_simp;done)|(go_simp;rfl))
        intro gb135 hg w30 hbox hb
        have HS0_:=(hb.cell (World.block_lt_of_cell? _ _ (hHeld.1))).trans (hHeld.1)
        have HS1_:=(hb.cell (World.block_lt_of_cell? _ _ (hHeld.2.1))).trans (hHeld.2.1)
        have HS2_:=(hb.cell (World.block_lt_of_cell? _ _ (hHeld.2.2))).trans (hHeld.2.2)
        have n0_:=Aside0.mk (Kd.R_below (rR HO128) hb)
        have n1_:=Aside0.mk (blk_below (g:=gb125) (o:=.cells #[.int .i64 0,.int .i64 0,.int .i64 0] 25 (0,0)) (bk BK125) hb)
        have n2_:=bs hb
        have n3_:=Aside0.mk (hbox)
        have n4_:=Aside0.mk ((by rw [hg];exact (below_size be):w.heap.size≤gb135))
        have n5_:=Aside0.mk ((by rw [hg];exact (below_size be):w.heap.size≤gb135))
        have n6_:=Aside0.mk ((by rw [hg];exact Nat.ne_of_lt (blk_lt (g:=gb125) (o:=.cells #[.int .i64 0,.int .i64 0,.int .i64 0] 25 (0,0)) (bk BK125)):gb125 ≠ gb135))
        have n7_:=Aside0.mk ((by rw [hg];exact Nat.ne_of_gt (blk_lt (g:=gb125) (o:=.cells #[.int .i64 0,.int .i64 0,.int .i64 0] 25 (0,0)) (bk BK125)):gb135 ≠ gb125))
        clear HO128
        clear BK125
        clear HB
        have HO128:=n0_
        have BK125:=n1_
        have HB:=n2_
        have BK135:=n3_
        have GW135:=n4_
        have GE135:=n5_
        have NB125_135:=n6_
        have NB135_125:=n7_
        clear n0_ n1_ n2_ n3_ n4_ n5_ n6_ n7_
        clear hb hbox hg
        refine hK.out _ _ ⟨HS0_,HS1_,HS2_⟩ (fun hHeld=>?_)
        clear hK K
        refine no 5 ?_
        refine ot 3 (some 15) (fl 15 10111) HT_ (fun K hK=>?_)
        refine goes_ Tryd.func47 (by kernel_rfl) rfl #[.string (rdOf ByteArray.empty t126 0)] (by rfl) rfl rfl (by (try simp only [List.map_toArray,List.map_cons,List.map_nil]);first|done|rfl|(simp only [List.length_drop,List.length_take];rfl)) ?_
        with_reducible refine (spec_l2Number.calls k (rdOf ByteArray.empty t126 0) t130 _ A5.out).mono ?_
        rintro e w' ⟨rfl,⟨nd,rfl⟩⟩
        refine ⟨_,rfl,?_⟩
        refine hK.out _ _ ⟨hHeld.1,hHeld.2.1,hHeld.2.2⟩ (fun hHeld=>?_)
        clear hK K
        refine no 15 ?_
        refine ot 7 (some 19) (fl 15 10239) HT_ (fun K hK=>?_)
        refine goes_ Tryd.func47 (by kernel_rfl) rfl #[.string (rdOf ByteArray.empty t126 1)] (by rfl) rfl rfl (by (try simp only [List.map_toArray,List.map_cons,List.map_nil]);first|done|rfl|(simp only [List.length_drop,List.length_take];rfl)) ?_
        with_reducible refine (spec_l2Number.calls k (rdOf ByteArray.empty t126 1) t132 _ A7.out).mono ?_
        rintro e w' ⟨rfl,⟨nd,rfl⟩⟩
        refine ⟨_,rfl,?_⟩
        refine hK.out _ _ ⟨hHeld.1,hHeld.2.1,hHeld.2.2⟩ (fun hHeld=>?_)
        clear hK K
        refine no 19 ?_
        refine ot 11 (some 23) (fl 15 12287) HT_ (fun K hK=>?_)
        refine goes_ Tryd.func47 (by kernel_rfl) rfl #[.string (rdOf ByteArray.empty t126 2)] (by rfl) rfl rfl (by (try simp only [List.map_toArray,List.map_cons,List.map_nil]);first|done|rfl|(simp only [List.length_drop,List.length_take];rfl)) ?_
        with_reducible refine (spec_l2Number.calls k (rdOf ByteArray.empty t126 2) t134 _ A9.out).mono ?_
        rintro e w' ⟨rfl,⟨nd,rfl⟩⟩
        refine ⟨_,rfl,?_⟩
        refine hK.out _ _ ⟨hHeld.1,hHeld.2.1,hHeld.2.2⟩ (fun hHeld=>?_)
        clear hK K
        refine no 23 ?_
        refine pt 12 24 (fl 15 16383) HT_ ?_
        exact norm_ (by simp only [putAll,Act.put,List.setIfInBounds_toArray,List.set_cons_zero,List.set_cons_succ]) (hCont (gb135) _ ⟨hHeld,(rR HO128),(bk BK125),(bk BK135),GW135.out,GE135.out,NB125_135.out,NB135_125.out,be⟩)
      rintro gb135 w31 ⟨hS_,h0_,h1_,h2_,h3_,h4_,h5_,h6_,h7_⟩
      have n0_:Aside0 (Kd.R Kd.string 9 w31 w.heap.size (fun _=>True) (.slice (some ad129) t126.length co28) t126):=⟨h0_⟩
      have n1_:Aside0 (w31.heap[gb125]?=some (.cells #[.int .i64 0,.int .i64 0,.int .i64 0] 25 (0,0))):=⟨h1_⟩
      have n2_:Aside0 (w31.heap[gb135]?=some (.cells #[.int .i64 0,.int .i64 0,.int .i64 0] 25 (0,0))):=⟨h2_⟩
      have n3_:Aside0 (w.heap.size≤gb135):=⟨h3_⟩
      have n4_:Aside0 (w.heap.size≤gb135):=⟨h4_⟩
      have n5_:Aside0 (gb125 ≠ gb135):=⟨h5_⟩
      have n6_:Aside0 (gb135 ≠ gb125):=⟨h6_⟩
      have n7_:Aside0 (Below w.heap.size w w31):=⟨h7_⟩
      clear HO128
      clear BK125
      clear HB
      clear h0_ h1_ h2_ h3_ h4_ h5_ h6_ h7_
      have HO128:=n0_
      have BK125:=n1_
      have BK135:=n2_
      have GW135:=n3_
      have GE135:=n4_
      have NB125_135:=n5_
      have NB135_125:=n6_
      have HB:=n7_
      clear n0_ n1_ n2_ n3_ n4_ n5_ n6_ n7_
      have hHeld:w31.cell? ad129=some (.string (rdOf ByteArray.empty t126 0))∧w31.cell? ⟨ad129.block,ad129.off+1,none⟩=some (.string (rdOf ByteArray.empty t126 1))∧w31.cell? ⟨ad129.block,ad129.off+2,none⟩=some (.string (rdOf ByteArray.empty t126 2)):=hS_
      refine norm_ (a':=?_) ?_ ?_
      rotate_left
      ·simp only [putAll,Act.put,List.setIfInBounds_toArray,List.set_cons_zero,List.set_cons_succ]
       rfl
      refine ot 14 none (fl 15 32767) HT_ (fun K hK=>?_)
      have hs32:w31.cell? ⟨gb135,0,none⟩=some (.int .i64 0):=(blk_cell BK135.out 0).trans rfl
      have hfs32:=blk_frozen BK135.out 0
      have hns32_0:=NB125_135.out
      have hms32_0:=NB135_125.out
      have hs33:w31.cell? ⟨gb135,1,none⟩=some (.int .i64 0):=(blk_cell BK135.out 1).trans rfl
      have hfs33:=blk_frozen BK135.out 1
      have hns33_0:=NB125_135.out
      have hms33_0:=NB135_125.out
      have hs34:w31.cell? ⟨gb135,2,none⟩=some (.int .i64 0):=(blk_cell BK135.out 2).trans rfl
      have hfs34:=blk_frozen BK135.out 2
      have hns34_0:=NB125_135.out
      have hms34_0:=NB135_125.out
      refine skip_ (w1:=?_) (by rfl) rfl ?_ ?_
      rotate_left
      ·go_simp
       rfl
      refine hK.out _ _ ⟨((cell_far (p:=⟨gb135,_,none⟩) (by first|exact Kd.own_blk (Kd.R_ne HO128.out BK135.out (by decide))|(rw [add_block];exact Kd.own_blk (Kd.R_ne HO128.out BK135.out (by decide)))|(show (Addr.add _ _).block ≠ _;rw [add_block];exact Kd.own_blk (Kd.R_ne HO128.out BK135.out (by decide)))|(dsimp only;exact Kd.own_blk (Kd.R_ne HO128.out BK135.out (by decide)))) _).trans (((cell_far (p:=⟨gb135,_,none⟩) (by first|exact Kd.own_blk (Kd.R_ne HO128.out BK135.out (by decide))|(rw [add_block];exact Kd.own_blk (Kd.R_ne HO128.out BK135.out (by decide)))|(show (Addr.add _ _).block ≠ _;rw [add_block];exact Kd.own_blk (Kd.R_ne HO128.out BK135.out (by decide)))|(dsimp only;exact Kd.own_blk (Kd.R_ne HO128.out BK135.out (by decide)))) _).trans (((cell_far (p:=⟨gb135,_,none⟩) (by first|exact Kd.own_blk (Kd.R_ne HO128.out BK135.out (by decide))|(rw [add_block];exact Kd.own_blk (Kd.R_ne HO128.out BK135.out (by decide)))|(show (Addr.add _ _).block ≠ _;rw [add_block];exact Kd.own_blk (Kd.R_ne HO128.out BK135.out (by decide)))|(dsimp only;exact Kd.own_blk (Kd.R_ne HO128.out BK135.out (by decide)))) _).trans (hHeld.1)))))),((cell_far (p:=⟨gb135,_,none⟩) (by first|exact Kd.own_blk (Kd.R_ne HO128.out BK135.out (by decide))|(rw [add_block];exact Kd.own_blk (Kd.R_ne HO128.out BK135.out (by decide)))|(show (Addr.add _ _).block ≠ _;rw [add_block];exact Kd.own_blk (Kd.R_ne HO128.out BK135.out (by decide)))|(dsimp only;exact Kd.own_blk (Kd.R_ne HO128.out BK135.out (by decide)))) _).trans (((cell_far (p:=⟨gb135,_,none⟩) (by first|exact Kd.own_blk (Kd.R_ne HO128.out BK135.out (by decide))|(rw [add_block];exact Kd.own_blk (Kd.R_ne HO128.out BK135.out (by decide)))|(show (Addr.add _ _).block ≠ _;rw [add_block];exact Kd.own_blk (Kd.R_ne HO128.out BK135.out (by decide)))|(dsimp only;exact Kd.own_blk (Kd.R_ne HO128.out BK135.out (by decide)))) _).trans (((cell_far (p:=⟨gb135,_,none⟩) (by first|exact Kd.own_blk (Kd.R_ne HO128.out BK135.out (by decide))|(rw [add_block];exact Kd.own_blk (Kd.R_ne HO128.out BK135.out (by decide)))|(show (Addr.add _ _).block ≠ _;rw [add_block];exact Kd.own_blk (Kd.R_ne HO128.out BK135.out (by decide)))|(dsimp only;exact Kd.own_blk (Kd.R_ne HO128.out BK135.out (by decide)))) _).trans (hHeld.2.1)))))),((cell_far (p:=⟨gb135,_,none⟩) (by first|exact Kd.own_blk (Kd.R_ne HO128.out BK135.out (by decide))|(rw [add_block];exact Kd.own_blk (Kd.R_ne HO128.out BK135.out (by decide)))|(show (Addr.add _ _).block ≠ _;rw [add_block];exact Kd.own_blk (Kd.R_ne HO128.out BK135.out (by decide)))|(dsimp only;exact Kd.own_blk (Kd.R_ne HO128.out BK135.out (by decide)))) _).trans (((cell_far (p:=⟨gb135,_,none⟩) (by first|exact Kd.own_blk (Kd.R_ne HO128.out BK135.out (by decide))|(rw [add_block];exact Kd.own_blk (Kd.R_ne HO128.out BK135.out (by decide)))|(show (Addr.add _ _).block ≠ _;rw [add_block];exact Kd.own_blk (Kd.R_ne HO128.out BK135.out (by decide)))|(dsimp only;exact Kd.own_blk (Kd.R_ne HO128.out BK135.out (by decide)))) _).trans (((cell_far (p:=⟨gb135,_,none⟩) (by first|exact Kd.own_blk (Kd.R_ne HO128.out BK135.out (by decide))|(rw [add_block];exact Kd.own_blk (Kd.R_ne HO128.out BK135.out (by decide)))|(show (Addr.add _ _).block ≠ _;rw [add_block];exact Kd.own_blk (Kd.R_ne HO128.out BK135.out (by decide)))|(dsimp only;exact Kd.own_blk (Kd.R_ne HO128.out BK135.out (by decide)))) _).trans (hHeld.2.2))))))⟩ (fun hHeld=>?_)
      clear hK K
      refine done_ (done_of HT_.out (by kernel_rfl)) ?_
      have hnb35:=NB135_125.out
      have hnc35:=NB125_135.out
      have hcz36_0:w31.cell? ⟨gb135,0,none⟩=some (.int .i64 0):=(blk_cell BK135.out 0).trans rfl
      have hcz36_1:w31.cell? ⟨gb135,1,none⟩=some (.int .i64 0):=(blk_cell BK135.out 1).trans rfl
      have hcz36_2:w31.cell? ⟨gb135,2,none⟩=some (.int .i64 0):=(blk_cell BK135.out 2).trans rfl
      have hfz36_0:=blk_frozen BK135.out 0
      have hfz36_1:=blk_frozen BK135.out 1
      have hfz36_2:=blk_frozen BK135.out 2
      try go_wp2_with (first|((with_reducible refine gate_callee (f:=26) rfl ?_);refine goesL_ (some 26) rfl rfl Tryd.func26 (by kernel_rfl) rfl #[.agg #[.int .i64 t130,.int .i64 t132,.int .i64 t134]] rfl (by (try simp only [List.map_toArray,List.map_cons,List.map_nil]);first|done|rfl|(simp only [List.length_drop,List.length_take];rfl)) ?_;(with_reducible refine (spec_StampOk.calls t130 t132 t134 false _ A10.out).mono ?_);rintro e w37 ⟨rfl,hb⟩;refine ⟨_,rfl,?_⟩;have n0_:=Aside0.mk (Kd.R_below ((by (with_reducible repeat (first|apply Kd.R_alloc|apply Kd.R_drewN|apply Kd.R_drew));exact (Kd.R_mono (Kd.R_far (p:=⟨gb135,2,none⟩) (Kd.R_far (p:=⟨gb135,1,none⟩) (Kd.R_far (p:=⟨gb135,0,none⟩) (Kd.R_types HO128.out BK135.out (by decide)) (fun _ hk=>hk.2) (.int .i64 t130)) (fun _ hk=>hk.2) (.int .i64 t132)) (fun _ hk=>hk.2) (.int .i64 t134)) (fun _ h_=>h_.1)))) hb);have n1_:=Aside0.mk (blk_below (g:=gb125) (o:=.cells #[.int .i64 0,.int .i64 0,.int .i64 0] 25 (0,0)) (by (with_reducible repeat (first|refine blk_drewN ?_ _|refine blk_drew ?_|refine blk_alloc ?_ _));refine blk_far ?_ NB125_135.out _;(with_reducible repeat (first|refine blk_drewN ?_ _|refine blk_drew ?_|refine blk_alloc ?_ _));refine blk_far ?_ NB125_135.out _;(with_reducible repeat (first|refine blk_drewN ?_ _|refine blk_drew ?_|refine blk_alloc ?_ _));refine blk_far ?_ NB125_135.out _;(with_reducible repeat (first|refine blk_drewN ?_ _|refine blk_drew ?_|refine blk_alloc ?_ _));exact BK125.out) hb);have n2_:=Aside0.mk (blk_below (g:=gb135) (o:=.cells #[.int .i64 t130,.int .i64 t132,.int .i64 t134] 25 (0,0)) (by (with_reducible repeat (first|refine blk_drewN ?_ _|refine blk_drew ?_|refine blk_alloc ?_ _));refine blk_put (cs:=#[.int .i64 t130,.int .i64 t132,.int .i64 0]) ?_ 2 _ rfl;(with_reducible repeat (first|refine blk_drewN ?_ _|refine blk_drew ?_|refine blk_alloc ?_ _));refine blk_put (cs:=#[.int .i64 t130,.int .i64 0,.int .i64 0]) ?_ 1 _ rfl;(with_reducible repeat (first|refine blk_drewN ?_ _|refine blk_drew ?_|refine blk_alloc ?_ _));refine blk_put (cs:=#[.int .i64 0,.int .i64 0,.int .i64 0]) ?_ 0 _ rfl;(with_reducible repeat (first|refine blk_drewN ?_ _|refine blk_drew ?_|refine blk_alloc ?_ _));exact BK135.out) hb);have n3_:=bs hb;clear HO128;clear BK125;clear BK135;clear HB;have HO128:=n0_;have BK125:=n1_;have BK135:=n2_;have HB:=n3_;clear n0_ n1_ n2_ n3_;(try clear hb);(try clear hb2);(try clear hk);(try clear hi);have hcz38_0:w37.cell? ⟨gb125,0,none⟩=some (.int .i64 0):=(blk_cell BK125.out 0).trans rfl;have hcz38_1:w37.cell? ⟨gb125,1,none⟩=some (.int .i64 0):=(blk_cell BK125.out 1).trans rfl;have hcz38_2:w37.cell? ⟨gb125,2,none⟩=some (.int .i64 0):=(blk_cell BK125.out 2).trans rfl;have hfz38_0:=blk_frozen BK125.out 0;have hfz38_1:=blk_frozen BK125.out 1;have hfz38_2:=blk_frozen BK125.out 2))
      refine bodyPost_ret (results_ct rfl _ _ gb125 25 #[.int .i64 0,.int .i64 0,.int .i64 0] (0,0) _ rfl (by (with_reducible repeat (first|refine blk_drewN ?_ _|refine blk_drew ?_|refine blk_alloc ?_ _));refine blk_put (cs:=#[.int .i64 0,.int .i64 0,.int .i64 0]) ?_ 2 _ rfl;(with_reducible repeat (first|refine blk_drewN ?_ _|refine blk_drew ?_|refine blk_alloc ?_ _));refine blk_put (cs:=#[.int .i64 0,.int .i64 0,.int .i64 0]) ?_ 1 _ rfl;(with_reducible repeat (first|refine blk_drewN ?_ _|refine blk_drew ?_|refine blk_alloc ?_ _));refine blk_put (cs:=#[.int .i64 0,.int .i64 0,.int .i64 0]) ?_ 0 _ rfl;(with_reducible repeat (first|refine blk_drewN ?_ _|refine blk_drew ?_|refine blk_alloc ?_ _));exact BK125.out) Tryd.underlying25 rfl (by kernel_rfl)) rfl ?_
      exact ⟨rz,be⟩
    ·rw [if_neg c8] at H
     exact absurd H (by simp)
   ·rw [if_neg c6] at H
    exact absurd H (by simp)
  ·rw [if_neg c4] at H
   exact absurd H (by simp)
 ·rw [if_neg c3] at H
  have c3b0:((t126.length:Int) == 3)=false:=beq_eq_false_iff_ne.mpr c3
  have c3b1:((t126.length:Int) != 3)=true:=bne_iff_ne.mpr c3
  simp only [Option.some.injEq,Prod.mk.injEq] at H
  obtain ⟨rfl,rfl,rfl,rfl⟩:=H
  go_enter Tryd.func19,Tryd.ntmps19
  go_wp2_with (first|((with_reducible refine gate_dst (N:=2) rfl ?_);refine box_event ?hg (N:=2) ?hd (cs:=#[.int .i64 0,.int .i64 0,.int .i64 0]) (t:=25) ?hr ?_;(case hd=>rfl);(case hg=>rfl);(case hr=>first|(go_simp;done)|(go_simp;rfl));intro gb125 hg w39 hbox hb;have n0_:=bs hb;have n1_:=Aside0.mk (hbox);have n2_:=Aside0.mk ((by rw [hg];exact (below_size be):w.heap.size≤gb125));have n3_:=Aside0.mk ((by rw [hg];exact (below_size be):w.heap.size≤gb125));clear HB;have HB:=n0_;have BK125:=n1_;have GW125:=n2_;have GE125:=n3_;clear n0_ n1_ n2_ n3_;clear hb hbox hg)|((with_reducible refine gate_callee (f:=46) rfl ?_);refine goesL_ (some 7) rfl rfl Tryd.func46 (by kernel_rfl) rfl #[.string a0,.int .u8 46] rfl (by (try simp only [List.map_toArray,List.map_cons,List.map_nil]);first|done|rfl|(simp only [List.length_drop,List.length_take];rfl)) ?_;(with_reducible refine (spec_l2Split.calls k a0 46 t126 _ A2.out).mono ?_);rintro e w40 ⟨v127,rfl,ho0,hb⟩;refine ⟨_,rfl,?_⟩;have n0_:=Aside0.mk (Kd.R_lower ho0 (below_size be));have n1_:=Aside0.mk (blk_below (g:=gb125) (o:=.cells #[.int .i64 0,.int .i64 0,.int .i64 0] 25 (0,0)) (bk BK125) hb);have n2_:=bs hb;clear BK125;clear HB;have HO128:=n0_;have BK125:=n1_;have HB:=n2_;clear n0_ n1_ n2_;(try clear hb);(try clear hb2);(try clear hk);(try clear hi);(try clear ho0);obtain ⟨Ao41,co41,eo41⟩:=Kd.R_slice HO128.out;subst eo41;have hcz42_0:w40.cell? ⟨gb125,0,none⟩=some (.int .i64 0):=(blk_cell BK125.out 0).trans rfl;have hcz42_1:w40.cell? ⟨gb125,1,none⟩=some (.int .i64 0):=(blk_cell BK125.out 1).trans rfl;have hcz42_2:w40.cell? ⟨gb125,2,none⟩=some (.int .i64 0):=(blk_cell BK125.out 2).trans rfl;have hfz42_0:=blk_frozen BK125.out 0;have hfz42_1:=blk_frozen BK125.out 1;have hfz42_2:=blk_frozen BK125.out 2))
  refine bodyPost_ret (results_ct rfl _ _ gb125 25 #[.int .i64 0,.int .i64 0,.int .i64 0] (0,0) _ rfl (by (with_reducible repeat (first|refine blk_drewN ?_ _|refine blk_drew ?_|refine blk_alloc ?_ _));refine blk_put (cs:=#[.int .i64 0,.int .i64 0,.int .i64 0]) ?_ 2 _ rfl;(with_reducible repeat (first|refine blk_drewN ?_ _|refine blk_drew ?_|refine blk_alloc ?_ _));refine blk_put (cs:=#[.int .i64 0,.int .i64 0,.int .i64 0]) ?_ 1 _ rfl;(with_reducible repeat (first|refine blk_drewN ?_ _|refine blk_drew ?_|refine blk_alloc ?_ _));refine blk_put (cs:=#[.int .i64 0,.int .i64 0,.int .i64 0]) ?_ 0 _ rfl;(with_reducible repeat (first|refine blk_drewN ?_ _|refine blk_drew ?_|refine blk_alloc ?_ _));exact BK125.out) Tryd.underlying25 rfl (by kernel_rfl)) rfl ?_
  exact ⟨rz,be⟩
def strings_Split.f (a0:ByteArray) (a1:ByteArray):Option (List ByteArray):=if a0.size < 4294967281∧1≤a1.size then some (Lib.splitB a1 0 (Lib.countB a0 a1) a0) else none
theorem strings_Split.calls (a0:ByteArray) (a1:ByteArray) (r:List ByteArray) (w:World) (hL:Aside0 (Go.Proofs.YtnoglmdicdpabaaDoor.St.Laid w)) (h:strings_Split.f a0 a1=some r) :
  Calls Tryd.prog 56 #[.string a0,.string a1] w fun e w'=>∃ v0_:Value,e = .returned (v0_)∧Kd.R Kd.string 9 w' w.heap.size (fun _=>True) v0_ r∧Below w.heap.size w w':=by
 unfold strings_Split.f at h
 by_cases hl:a0.size < 4294967281∧1≤a1.size
 ·rw [if_pos hl] at h
  obtain rfl:=Option.some.inj h
  obtain ⟨m,hm⟩:=hL.out.max
  refine (Tryd.strings_Split a0 a1 m w hl.1 hm hl.2).mono fun e w' he=>?_
  obtain ⟨rfl,rfl⟩:=he
  have hlen:=Lib.splitB_all a1 hl.2 0 (Lib.countB a0 a1) a0 rfl
  have hc:=Lib.countB_le a1 hl.2 a0.size a0 (Nat.le_refl _)
  refine ⟨_,rfl,Kd.R_of_own ⟨by simp [encs],Or.inr ⟨w.heap.size,Lib.countB a0 a1+1,((Lib.splitB a1 0 (Lib.countB a0 a1) a0).map Value.string).toArray,by rw [hlen],Nat.le_refl _,Array.getElem?_push_size,by omega,by unfold maxLen;omega,by simp [hlen],?_⟩⟩ (fun _ _=>trivial),(Below.refl _ _).alloc (Nat.le_refl _) _⟩
  rw [List.toList_toArray,Nat.mul_one,List.take_of_length_le (by simp)]
  rfl
 ·rw [if_neg hl] at h
  cases h
def atoiRes (l:List UInt8):Int × Option Int:=match Lib.atoiAll l with
 | .ok v=>(v,none)
 | .range=>(Lib.atoiSat l,some 0)
 | _=>(0,some 0)
def strconv_Atoi.f (a0:ByteArray):Option (Int × Option Int):=if a0.size≤281474976710656 then some (atoiRes a0.data.toList) else none
theorem strconv_Atoi.calls (a0:ByteArray) (r1:Int) (r2:Option Int) (w:World) (hL:Aside0 (Go.Proofs.YtnoglmdicdpabaaDoor.St.Laid w)) (h:strconv_Atoi.f a0=some (r1,r2)) :
  Calls Tryd.prog 66 #[.string a0] w fun e w'=>∃ (E_:Option Int→Value) (N_:Nat),E_ none = .nilIface∧(∀ c,E_ (some c) = .iface 111 (.pointer (some ⟨N_,0,none⟩)))∧e = .returned (.tuple #[.int .i64 r1,E_ r2])∧Below w.heap.size w w':=by
 unfold strconv_Atoi.f at h
 by_cases hl:a0.size≤281474976710656
 ·rw [if_pos hl] at h
  have h:=Option.some.inj h
  rw [atoiRes] at h
  cases e:Lib.atoiAll a0.data.toList with
  | ok v=>
   rw [e] at h
   simp only [Prod.mk.injEq] at h
   obtain ⟨rfl,rfl⟩:=h
   refine (Tryd.strconv_Atoi_ok a0 (by omega) v e w).mono fun e w' he=>?_
   obtain ⟨rfl,hw⟩:=he
   refine ⟨fun|none=>.nilIface|some _=>.iface 111 (.pointer (some ⟨0,0,none⟩)),0,rfl,fun _=>rfl,rfl,?_⟩
   rcases hw with rfl|⟨t,rfl⟩
   ·exact Below.refl _ _
   ·exact Lib.bytesWorld_below _ _ _
  | range=>
   rw [e] at h
   simp only [Prod.mk.injEq] at h
   obtain ⟨rfl,rfl⟩:=h
   obtain ⟨tp,p,hv⟩:=hL.out.rng
   refine (Tryd.strconv_Atoi_range_var a0 hl e tp p w hv).mono fun e w' he=>?_
   obtain ⟨N,rfl,_,_,hb⟩:=he
   exact ⟨fun|none=>.nilIface|some _=>.iface 111 (.pointer (some ⟨N,0,none⟩)),N,rfl,fun _=>rfl,rfl,hb⟩
  | _=>
   rw [e] at h
   simp only [Prod.mk.injEq] at h
   obtain ⟨rfl,rfl⟩:=h
   obtain ⟨tp,p,hv⟩:=hL.out.syn
   refine (Tryd.strconv_Atoi_syntax_var a0 hl _ ⟨fun _ c=>(by cases c),fun c=>(by cases c)⟩ e tp p w hv).mono fun e w' he=>?_
   obtain ⟨N,rfl,_,_,hb⟩:=he
   exact ⟨fun|none=>.nilIface|some _=>.iface 111 (.pointer (some ⟨N,0,none⟩)),N,rfl,fun _=>rfl,rfl,hb⟩
 ·rw [if_neg hl] at h
  cases h
end Go.Proofs.YtnoglmdicdpabaaDoor.PFnStampsRead
