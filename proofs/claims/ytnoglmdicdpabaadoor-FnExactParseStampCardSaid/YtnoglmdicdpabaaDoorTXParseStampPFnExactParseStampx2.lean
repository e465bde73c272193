/- Trimmed by a program of this session (trim.py). Not trusted: Lean checks it. -/
import Derived.Test.YtnoglmdicdpabaaDoorTXParseStampPFnExactParseStampx0
import Derived.Test.YtnoglmdicdpabaaDoorTXParseStampPFnExactParseStampx1
import Derived.Test.YtnoglmdicdpabaaDoorTXParseStampLaidE
import Derived.Test.YtnoglmdicdpabaaDoorTXParseStampShelf
namespace Go.Proofs.YtnoglmdicdpabaaDoor.PFnExactParseStamp
open Go.RowKit Go.Proofs.YtnoglmdicdpabaaDoorW.PrintWords Go.Proofs.YtnoglmdicdpabaaDoorW.PrintLast Go.Proofs.YtnoglmdicdpabaaDoorW.PrintMore Go.Proofs.YtnoglmdicdpabaaDoor.St
attribute [local go_sem] max2_int min2_int max_two min_two max_three min_three max_four min_four
set_option linter.unusedVariables false
set_option linter.unusedSimpArgs false
def spec_ParseStamp.f (k:Nat) (a0:ByteArray):Option (Int × Int × Int × Bool):=(spec_l2Split.f k a0 46).bind fun t117=>(if (t117.length:Int)=3 then (if 0 < (t117.length:Int) then ((spec_l2Number.f k (rdOf ByteArray.empty t117 0)).bind fun t121=>(if 1 < (t117.length:Int) then ((spec_l2Number.f k (rdOf ByteArray.empty t117 1)).bind fun t123=>(if 2 < (t117.length:Int) then ((spec_l2Number.f k (rdOf ByteArray.empty t117 2)).bind fun t125=>((spec_StampOk.f t121 t123 t125).bind fun t127=>(if t127=true then (some (t121,t123,t125,true)) else (some (0,0,0,false))))) else (none))) else (none))) else (none)) else (some (0,0,0,false)))
def spec_ParseStamp.T4:Bool × List (List Nat × List Nat):=(true,[([],[]),([0],[0]),([1],[1]),([2],[2]),([],[]),([4],[4]),([5],[5]),([6,3],[6]),([],[]),([8],[8]),([9],[9]),([10,7],[10]),([3,7,11],[3,7,11]),([],[]),([13,12,11,0,1,2,3,4,5,6,7,8,9,10,11,12,13],[12,13])])
def spec_ParseStamp.B4:List Nat:=[0,1,3,7,0,16,48,127,0,256,768,2047,4095,0,16383]
theorem spec_ParseStamp.tab4:rtab .any (opsOf Tryd.f19 4)=spec_ParseStamp.T4:=by kernel_rfl
theorem spec_ParseStamp.bits4:waitsOk spec_ParseStamp.T4.2 spec_ParseStamp.B4=true:=by kernel_rfl
set_option maxHeartbeats 8000000 in
set_option maxRecDepth 100000 in
theorem spec_ParseStamp.calls (k:Nat) (a0:ByteArray) (r1:Int) (r2:Int) (r3:Int) (r4:Bool) (w:World) (h:spec_ParseStamp.f k a0=some (r1,r2,r3,r4)) :
  Calls Tryd.prog 19 #[.string a0] w fun e w'=>e = .returned (.tuple #[.agg #[.int .i64 r1,.int .i64 r2,.int .i64 r3],.bool r4])∧Below w.heap.size w w':=by
 have hu25:=Tryd.underlying25
 have HB:=Aside0.mk (Below.refl w.heap.size w)
 have H:((spec_l2Split.f k a0 46).bind fun t117=>(if (t117.length:Int)=3 then (if 0 < (t117.length:Int) then ((spec_l2Number.f k (rdOf ByteArray.empty t117 0)).bind fun t121=>(if 1 < (t117.length:Int) then ((spec_l2Number.f k (rdOf ByteArray.empty t117 1)).bind fun t123=>(if 2 < (t117.length:Int) then ((spec_l2Number.f k (rdOf ByteArray.empty t117 2)).bind fun t125=>((spec_StampOk.f t121 t123 t125).bind fun t127=>(if t127=true then (some (t121,t123,t125,true)) else (some (0,0,0,false))))) else (none))) else (none))) else (none)) else (some (0,0,0,false))))=some (r1,r2,r3,r4):=h
 clear h
 replace H:=Option.bind_eq_some_iff.mp H
 obtain ⟨t117,A20,H⟩:=H
 try dsimp only at H
 have A2:=Aside0.mk A20
 clear A20
 by_cases c3:(t117.length:Int)=3
 ·rw [if_pos c3] at H
  have c3b0:((t117.length:Int) == 3)=true:=beq_iff_eq.mpr c3
  have c3b1:((t117.length:Int) != 3)=false:=bne_eq_false_iff_eq.mpr c3
  clear c3
  by_cases c4:0 < (t117.length:Int)
  ·rw [if_pos c4] at H
   have c4b0:decide (0 < (t117.length:Int))=true:=decide_eq_true c4
   have c4b1:decide (0 < t117.length)=true:=decide_eq_true (by omega)
   clear c4
   replace H:=Option.bind_eq_some_iff.mp H
   obtain ⟨t121,A50,H⟩:=H
   try dsimp only at H
   have A5:=Aside0.mk A50
   clear A50
   by_cases c6:1 < (t117.length:Int)
   ·rw [if_pos c6] at H
    have c6b0:decide (1 < (t117.length:Int))=true:=decide_eq_true c6
    have c6b1:decide (1 < t117.length)=true:=decide_eq_true (by omega)
    clear c6
    replace H:=Option.bind_eq_some_iff.mp H
    obtain ⟨t123,A70,H⟩:=H
    try dsimp only at H
    have A7:=Aside0.mk A70
    clear A70
    by_cases c8:2 < (t117.length:Int)
    ·rw [if_pos c8] at H
     have c8b0:decide (2 < (t117.length:Int))=true:=decide_eq_true c8
     have c8b1:decide (2 < t117.length)=true:=decide_eq_true (by omega)
     clear c8
     replace H:=Option.bind_eq_some_iff.mp H
     obtain ⟨t125,A90,H⟩:=H
     try dsimp only at H
     have A9:=Aside0.mk A90
     clear A90
     replace H:=Option.bind_eq_some_iff.mp H
     obtain ⟨t127,A100,H⟩:=H
     try dsimp only at H
     have A10:=Aside0.mk A100
     clear A100
     by_cases c11:t127=true
     ·subst c11
      rw [if_pos rfl] at H
      simp only [Option.some.injEq,Prod.mk.injEq] at H
      obtain ⟨rfl,rfl,rfl,rfl⟩:=H
      go_enter Tryd.func19,Tryd.ntmps19
      try go_wp2_with (first|((with_reducible refine gate_dst (N:=2) rfl ?_);refine box_event ?hg (N:=2) ?hd (cs:=#[.int .i64 0,.int .i64 0,.int .i64 0]) (t:=25) ?hr ?_;(case hd=>rfl);(case hg=>rfl);(case hr=>first|(go_simp;done)|(go_simp;rfl));intro gb116 hg w12 hbox hb;have n0_:=bs hb;have n1_:=Aside0.mk (hbox);have n2_:=Aside0.mk ((by rw [hg];exact (below_size be):w.heap.size≤gb116));have n3_:=Aside0.mk ((by rw [hg];exact (below_size be):w.heap.size≤gb116));clear HB;have HB:=n0_;have BK116:=n1_;have GW116:=n2_;have GE116:=n3_;clear n0_ n1_ n2_ n3_;clear hb hbox hg)|((with_reducible refine gate_callee (f:=46) rfl ?_);refine goesL_ (some 7) rfl rfl Tryd.func46 (by kernel_rfl) rfl #[.string a0,.int .u8 46] rfl (by (try simp only [List.map_toArray,List.map_cons,List.map_nil]);first|done|rfl|(simp only [List.length_drop,List.length_take];rfl)) ?_;(with_reducible refine (spec_l2Split.calls k a0 46 t117 _ A2.out).mono ?_);rintro e w13 ⟨v118,rfl,ho0,hb⟩;refine ⟨_,rfl,?_⟩;have n0_:=Aside0.mk (Kd.R_lower ho0 (below_size be));have n1_:=Aside0.mk (blk_below (g:=gb116) (o:=.cells #[.int .i64 0,.int .i64 0,.int .i64 0] 25 (0,0)) (bk BK116) hb);have n2_:=bs hb;clear BK116;clear HB;have HO119:=n0_;have BK116:=n1_;have HB:=n2_;clear n0_ n1_ n2_;(try clear hb);(try clear hb2);(try clear hk);(try clear hi);(try clear ho0);obtain ⟨Ao14,co14,eo14⟩:=Kd.R_slice HO119.out;subst eo14))
      have n0_:=Aside0.mk (Kd.R_drew HO119.out)
      have n1_:=Aside0.mk (blk_drew BK116.out)
      have n2_:=Aside0.mk (below_drew1 HB.out)
      clear HO119
      clear BK116
      clear HB
      have HO119:=n0_
      have BK116:=n1_
      have HB:=n2_
      clear n0_ n1_ n2_
      have p120:0≤(0:Int):=(by omega)
      have q120:0 < (t117.length:Int):=of_decide_eq_true (by first|(with_reducible assumption)|assumption)
      obtain ⟨ad120,e120,hx120_0⟩:=Kd.at_string (Kd.R_reads' HO119.out).2.2 0 p120 q120
      cases e120
      have qi120:(0 < t117.length)=True:=eq_true (by omega)
      (try rw [show ((0:Int)).toNat=0 from rfl] at hx120_0)
      (try rw [Addr.add_zero'] at hx120_0)
      replace p120:=eq_true p120
      replace q120:=eq_true q120
      have p122:0≤(1:Int):=(by omega)
      have q122:1 < (t117.length:Int):=of_decide_eq_true (by first|(with_reducible assumption)|assumption)
      obtain ⟨ad122,e122,hx122_0⟩:=Kd.at_string (Kd.R_reads' HO119.out).2.2 1 p122 q122
      obtain rfl:ad120=ad122:=(by injection e122)
      (try simp only [show (1:Int).toNat=1 from rfl,Nat.reduceMul,Nat.reduceEqDiff,Go.Addr.add,↓reduceIte] at hx122_0)
      have qi122:(1 < t117.length)=True:=eq_true (by omega)
      (try rw [show ((1:Int)).toNat=1 from rfl] at hx122_0)
      replace p122:=eq_true p122
      replace q122:=eq_true q122
      have p124:0≤(2:Int):=(by omega)
      have q124:2 < (t117.length:Int):=of_decide_eq_true (by first|(with_reducible assumption)|assumption)
      obtain ⟨ad124,e124,hx124_0⟩:=Kd.at_string (Kd.R_reads' HO119.out).2.2 2 p124 q124
      obtain rfl:ad120=ad124:=(by injection e124)
      (try simp only [show (2:Int).toNat=2 from rfl,Nat.reduceMul,Nat.reduceEqDiff,Go.Addr.add,↓reduceIte] at hx124_0)
      have qi124:(2 < t117.length)=True:=eq_true (by omega)
      (try rw [show ((2:Int)).toNat=2 from rfl] at hx124_0)
      replace p124:=eq_true p124
      replace q124:=eq_true q124
      refine start_ (n:=15) (S:=fun w'=>w'.cell? ad120=some (.string (rdOf ByteArray.empty t117 0))∧w'.cell? ⟨ad120.block,ad120.off+1,none⟩=some (.string (rdOf ByteArray.empty t117 1))∧w'.cell? ⟨ad120.block,ad120.off+2,none⟩=some (.string (rdOf ByteArray.empty t117 2))) (ds:=[]) (fl 15 0) (by kernel_rfl) rfl rfl ⟨hx120_0,hx122_0,hx124_0⟩ (fun hHeld=>?_);refine with_tabW spec_ParseStamp.tab4 spec_ParseStamp.bits4 (fun HT_ HW_=>?_)
      generalize w13.drew=w15 at HO119 BK116 HB hx120_0 hx122_0 hx124_0 hHeld ⊢
      refine pt 0 12 (fl 15 1) HT_ ?_
      refine pt 1 13 (fl 15 3) HT_ ?_
      refine pt 4 16 (fl 15 19) HT_ ?_
      refine pt 5 17 (fl 15 51) HT_ ?_
      refine pt 8 20 (fl 15 307) HT_ ?_
      refine pt 9 21 (fl 15 819) HT_ ?_
      refine tt 2 14 (fl 15 823) HT_ HW_ hHeld ?_
      refine tt 6 18 (fl 15 887) HT_ HW_ hHeld ?_
      refine tt 10 22 (fl 15 1911) HT_ HW_ hHeld ?_
      refine join_ (σ:=Nat) 1 (fl 15 16383) (fun s_=>[(15,.int .i64 t121),(19,.int .i64 t123),(23,.int .i64 t125),(5,.pointer (some ⟨s_,0,none⟩)),(24,.agg #[.int .i64 t121,.int .i64 t123,.int .i64 t125])]) (fun s_ w'=>(w'.cell? ad120=some (.string (rdOf ByteArray.empty t117 0))∧w'.cell? ⟨ad120.block,ad120.off+1,none⟩=some (.string (rdOf ByteArray.empty t117 1))∧w'.cell? ⟨ad120.block,ad120.off+2,none⟩=some (.string (rdOf ByteArray.empty t117 2)))∧(Kd.R Kd.string 9 w' w.heap.size (fun _=>True) (.slice (some ad120) t117.length co14) t117)∧(w'.heap[gb116]?=some (.cells #[.int .i64 0,.int .i64 0,.int .i64 0] 25 (0,0)))∧(w'.heap[s_]?=some (.cells #[.int .i64 0,.int .i64 0,.int .i64 0] 25 (0,0)))∧(w.heap.size≤s_)∧(w.heap.size≤s_)∧(gb116 ≠ s_)∧(s_ ≠ gb116)∧(Below w.heap.size w w')) ?_ ?_
      rotate_left
      ·intro hCont
       refine two_ (i:=3) (j:=13) (Ni:=some 15) (Nj:=some 5) (fl 15 1919) (fl 15 10103) rfl rfl rfl rfl (two_of HT_.out (by kernel_rfl)) (by decide) (by decide) (fun K hK=>?_) (fun K hK=>?_)
       ·skip
        refine goes_ Tryd.func47 (by kernel_rfl) rfl #[.string (rdOf ByteArray.empty t117 0)] (by rfl) rfl rfl (by (try simp only [List.map_toArray,List.map_cons,List.map_nil]);first|done|rfl|(simp only [List.length_drop,List.length_take];rfl)) ?_
        with_reducible refine (spec_l2Number.calls k (rdOf ByteArray.empty t117 0) t121 _ A5.out).mono ?_
        rintro e w' ⟨rfl,⟨nd,rfl⟩⟩
        refine ⟨_,rfl,?_⟩
        refine hK.out _ _ ⟨hHeld.1,hHeld.2.1,hHeld.2.2⟩ (fun hHeld=>?_)
        clear hK K
        refine no 15 ?_
        refine two_ (i:=7) (j:=13) (Ni:=some 19) (Nj:=some 5) (fl 15 2047) (fl 15 10111) rfl rfl rfl rfl (two_of HT_.out (by kernel_rfl)) (by decide) (by decide) (fun K hK=>?_) (fun K hK=>?_)
        ·skip
         refine goes_ Tryd.func47 (by kernel_rfl) rfl #[.string (rdOf ByteArray.empty t117 1)] (by rfl) rfl rfl (by (try simp only [List.map_toArray,List.map_cons,List.map_nil]);first|done|rfl|(simp only [List.length_drop,List.length_take];rfl)) ?_
         with_reducible refine (spec_l2Number.calls k (rdOf ByteArray.empty t117 1) t123 _ A7.out).mono ?_
         rintro e w' ⟨rfl,⟨nd,rfl⟩⟩
         refine ⟨_,rfl,?_⟩
         refine hK.out _ _ ⟨hHeld.1,hHeld.2.1,hHeld.2.2⟩ (fun hHeld=>?_)
         clear hK K
         refine no 19 ?_
         refine two_ (i:=11) (j:=13) (Ni:=some 23) (Nj:=some 5) (fl 15 4095) (fl 15 10239) rfl rfl rfl rfl (two_of HT_.out (by kernel_rfl)) (by decide) (by decide) (fun K hK=>?_) (fun K hK=>?_)
         ·skip
          refine goes_ Tryd.func47 (by kernel_rfl) rfl #[.string (rdOf ByteArray.empty t117 2)] (by rfl) rfl rfl (by (try simp only [List.map_toArray,List.map_cons,List.map_nil]);first|done|rfl|(simp only [List.length_drop,List.length_take];rfl)) ?_
          with_reducible refine (spec_l2Number.calls k (rdOf ByteArray.empty t117 2) t125 _ A9.out).mono ?_
          rintro e w' ⟨rfl,⟨nd,rfl⟩⟩
          refine ⟨_,rfl,?_⟩
          refine hK.out _ _ ⟨hHeld.1,hHeld.2.1,hHeld.2.2⟩ (fun hHeld=>?_)
          clear hK K
          refine no 23 ?_
          refine pt 12 24 (fl 15 8191) HT_ ?_
          refine ot 13 (some 5) (fl 15 16383) HT_ (fun K hK=>?_)
          refine box_step ?hg (N:=5) ?hd (cs:=#[.int .i64 0,.int .i64 0,.int .i64 0]) (t:=25) ?hr ?_;(case hd=>rfl);(case hg=>rfl);(case hr=>first|(go_simp;done)|(go_simp;rfl))
          intro gb126 hg w16 hbox hb
          have HS0_:=(hb.cell (World.block_lt_of_cell? _ _ (hHeld.1))).trans (hHeld.1)
          have HS1_:=(hb.cell (World.block_lt_of_cell? _ _ (hHeld.2.1))).trans (hHeld.2.1)
          have HS2_:=(hb.cell (World.block_lt_of_cell? _ _ (hHeld.2.2))).trans (hHeld.2.2)
          have n0_:=Aside0.mk (Kd.R_below (rR HO119) hb)
          have n1_:=Aside0.mk (blk_below (g:=gb116) (o:=.cells #[.int .i64 0,.int .i64 0,.int .i64 0] 25 (0,0)) (bk BK116) hb)
          have n2_:=bs hb
          have n3_:=Aside0.mk (hbox)
          have n4_:=Aside0.mk ((by rw [hg];exact (below_size be):w.heap.size≤gb126))
          have n5_:=Aside0.mk ((by rw [hg];exact (below_size be):w.heap.size≤gb126))
          have n6_:=Aside0.mk ((by rw [hg];exact Nat.ne_of_lt (blk_lt (g:=gb116) (o:=.cells #[.int .i64 0,.int .i64 0,.int .i64 0] 25 (0,0)) (bk BK116)):gb116 ≠ gb126))
          have n7_:=Aside0.mk ((by rw [hg];exact Nat.ne_of_gt (blk_lt (g:=gb116) (o:=.cells #[.int .i64 0,.int .i64 0,.int .i64 0] 25 (0,0)) (bk BK116)):gb126 ≠ gb116))
          clear HO119
          clear BK116
          clear HB
          have HO119:=n0_
          have BK116:=n1_
          have HB:=n2_
          have BK126:=n3_
          have GW126:=n4_
          have GE126:=n5_
          have NB116_126:=n6_
          have NB126_116:=n7_
          clear n0_ n1_ n2_ n3_ n4_ n5_ n6_ n7_
          clear hb hbox hg
          refine hK.out _ _ ⟨HS0_,HS1_,HS2_⟩ (fun hHeld=>?_)
          clear hK K
          refine no 5 ?_
          exact norm_ (by simp only [putAll,Act.put,List.setIfInBounds_toArray,List.set_cons_zero,List.set_cons_succ]) (hCont (gb126) _ ⟨hHeld,(rR HO119),(bk BK116),(bk BK126),GW126.out,GE126.out,NB116_126.out,NB126_116.out,be⟩)
         ·skip
          refine box_step ?hg (N:=5) ?hd (cs:=#[.int .i64 0,.int .i64 0,.int .i64 0]) (t:=25) ?hr ?_;(case hd=>rfl);(case hg=>rfl);(case hr=>first|(go_simp;done)|(go_simp;rfl))
          intro gb126 hg w16 hbox hb
          have HS0_:=(hb.cell (World.block_lt_of_cell? _ _ (hHeld.1))).trans (hHeld.1)
          have HS1_:=(hb.cell (World.block_lt_of_cell? _ _ (hHeld.2.1))).trans (hHeld.2.1)
          have HS2_:=(hb.cell (World.block_lt_of_cell? _ _ (hHeld.2.2))).trans (hHeld.2.2)
          have n0_:=Aside0.mk (Kd.R_below (rR HO119) hb)
          have n1_:=Aside0.mk (blk_below (g:=gb116) (o:=.cells #[.int .i64 0,.int .i64 0,.int .i64 0] 25 (0,0)) (bk BK116) hb)
          have n2_:=bs hb
          have n3_:=Aside0.mk (hbox)
          have n4_:=Aside0.mk ((by rw [hg];exact (below_size be):w.heap.size≤gb126))
          have n5_:=Aside0.mk ((by rw [hg];exact (below_size be):w.heap.size≤gb126))
          have n6_:=Aside0.mk ((by rw [hg];exact Nat.ne_of_lt (blk_lt (g:=gb116) (o:=.cells #[.int .i64 0,.int .i64 0,.int .i64 0] 25 (0,0)) (bk BK116)):gb116 ≠ gb126))
          have n7_:=Aside0.mk ((by rw [hg];exact Nat.ne_of_gt (blk_lt (g:=gb116) (o:=.cells #[.int .i64 0,.int .i64 0,.int .i64 0] 25 (0,0)) (bk BK116)):gb126 ≠ gb116))
          clear HO119
          clear BK116
          clear HB
          have HO119:=n0_
          have BK116:=n1_
          have HB:=n2_
          have BK126:=n3_
          have GW126:=n4_
          have GE126:=n5_
          have NB116_126:=n6_
          have NB126_116:=n7_
          clear n0_ n1_ n2_ n3_ n4_ n5_ n6_ n7_
          clear hb hbox hg
          refine hK.out _ _ ⟨HS0_,HS1_,HS2_⟩ (fun hHeld=>?_)
          clear hK K
          refine no 5 ?_
          refine ot 11 (some 23) (fl 15 12287) HT_ (fun K hK=>?_)
          refine goes_ Tryd.func47 (by kernel_rfl) rfl #[.string (rdOf ByteArray.empty t117 2)] (by rfl) rfl rfl (by (try simp only [List.map_toArray,List.map_cons,List.map_nil]);first|done|rfl|(simp only [List.length_drop,List.length_take];rfl)) ?_
          with_reducible refine (spec_l2Number.calls k (rdOf ByteArray.empty t117 2) t125 _ A9.out).mono ?_
          rintro e w' ⟨rfl,⟨nd,rfl⟩⟩
          refine ⟨_,rfl,?_⟩
          refine hK.out _ _ ⟨hHeld.1,hHeld.2.1,hHeld.2.2⟩ (fun hHeld=>?_)
          clear hK K
          refine no 23 ?_
          refine pt 12 24 (fl 15 16383) HT_ ?_
          exact norm_ (by simp only [putAll,Act.put,List.setIfInBounds_toArray,List.set_cons_zero,List.set_cons_succ]) (hCont (gb126) _ ⟨hHeld,(rR HO119),(bk BK116),(bk BK126),GW126.out,GE126.out,NB116_126.out,NB126_116.out,be⟩)
        ·skip
         refine box_step ?hg (N:=5) ?hd (cs:=#[.int .i64 0,.int .i64 0,.int .i64 0]) (t:=25) ?hr ?_;(case hd=>rfl);(case hg=>rfl);(case hr=>first|(go_simp;done)|(go_simp;rfl))
         intro gb126 hg w16 hbox hb
         have HS0_:=(hb.cell (World.block_lt_of_cell? _ _ (hHeld.1))).trans (hHeld.1)
         have HS1_:=(hb.cell (World.block_lt_of_cell? _ _ (hHeld.2.1))).trans (hHeld.2.1)
         have HS2_:=(hb.cell (World.block_lt_of_cell? _ _ (hHeld.2.2))).trans (hHeld.2.2)
         have n0_:=Aside0.mk (Kd.R_below (rR HO119) hb)
         have n1_:=Aside0.mk (blk_below (g:=gb116) (o:=.cells #[.int .i64 0,.int .i64 0,.int .i64 0] 25 (0,0)) (bk BK116) hb)
         have n2_:=bs hb
         have n3_:=Aside0.mk (hbox)
         have n4_:=Aside0.mk ((by rw [hg];exact (below_size be):w.heap.size≤gb126))
         have n5_:=Aside0.mk ((by rw [hg];exact (below_size be):w.heap.size≤gb126))
         have n6_:=Aside0.mk ((by rw [hg];exact Nat.ne_of_lt (blk_lt (g:=gb116) (o:=.cells #[.int .i64 0,.int .i64 0,.int .i64 0] 25 (0,0)) (bk BK116)):gb116 ≠ gb126))
         have n7_:=Aside0.mk ((by rw [hg];exact Nat.ne_of_gt (blk_lt (g:=gb116) (o:=.cells #[.int .i64 0,.int .i64 0,.int .i64 0] 25 (0,0)) (bk BK116)):gb126 ≠ gb116))
         clear HO119
         clear BK116
         clear HB
         have HO119:=n0_
         have BK116:=n1_
         have HB:=n2_
         have BK126:=n3_
         have GW126:=n4_
         have GE126:=n5_
         have NB116_126:=n6_
         have NB126_116:=n7_
         clear n0_ n1_ n2_ n3_ n4_ n5_ n6_ n7_
         clear hb hbox hg
         refine hK.out _ _ ⟨HS0_,HS1_,HS2_⟩ (fun hHeld=>?_)
         clear hK K
         refine no 5 ?_
         refine ot 7 (some 19) (fl 15 10239) HT_ (fun K hK=>?_)
         refine goes_ Tryd.func47 (by kernel_rfl) rfl #[.string (rdOf ByteArray.empty t117 1)] (by rfl) rfl rfl (by (try simp only [List.map_toArray,List.map_cons,List.map_nil]);first|done|rfl|(simp only [List.length_drop,List.length_take];rfl)) ?_
         with_reducible refine (spec_l2Number.calls k (rdOf ByteArray.empty t117 1) t123 _ A7.out).mono ?_
         rintro e w' ⟨rfl,⟨nd,rfl⟩⟩
         refine ⟨_,rfl,?_⟩
         refine hK.out _ _ ⟨hHeld.1,hHeld.2.1,hHeld.2.2⟩ (fun hHeld=>?_)
         clear hK K
         refine no 19 ?_
         refine ot 11 (some 23) (fl 15 12287) HT_ (fun K hK=>?_)
         refine goes_ Tryd.func47 (by kernel_rfl) rfl #[.string (rdOf ByteArray.empty t117 2)] (by rfl) rfl rfl (by (try simp only [List.map_toArray,List.map_cons,List.map_nil]);first|done|rfl|(simp only [List.length_drop,List.length_take];rfl)) ?_
         with_reducible refine (spec_l2Number.calls k (rdOf ByteArray.empty t117 2) t125 _ A9.out).mono ?_
         rintro e w' ⟨rfl,⟨nd,rfl⟩⟩
         refine ⟨_,rfl,?_⟩
         refine hK.out _ _ ⟨hHeld.1,hHeld.2.1,hHeld.2.2⟩ (fun hHeld=>?_)
         clear hK K
         refine no 23 ?_
         refine pt 12 24 (fl 15 16383) HT_ ?_
         exact norm_ (by simp only [putAll,Act.put,List.setIfInBounds_toArray,List.set_cons_zero,List.set_cons_succ]) (hCont (gb126) _ ⟨hHeld,(rR HO119),(bk BK116),(bk BK126),GW126.out,GE126.out,NB116_126.out,NB126_116.out,be⟩)
       ·skip
        refine box_step ?hg (N:=5) ?hd (cs:=#[.int .i64 0,.int .i64 0,.int .i64 0]) (t:=25) ?hr ?_;(case hd=>rfl);(case hg=>rfl);(case hr=>first|(go_simp;done)|(go_simp;rfl))
        intro gb126 hg w16 hbox hb
        have HS0_:=(hb.cell (World.block_lt_of_cell? _ _ (hHeld.1))).trans (hHeld.1)
        have HS1_:=(hb.cell (World.block_lt_of_cell? _ _ (hHeld.2.1))).trans (hHeld.2.1)
        have HS2_:=(hb.cell (World.block_lt_of_cell? _ _ (hHeld.2.2))).trans (hHeld.2.2)
        have n0_:=Aside0.mk (Kd.R_below (rR HO119) hb)
        have n1_:=Aside0.mk (blk_below (g:=gb116) (o:=.cells #[.int .i64 0,.int .i64 0,.int .i64 0] 25 (0,0)) (bk BK116) hb)
        have n2_:=bs hb
        have n3_:=Aside0.mk (hbox)
        have n4_:=Aside0.mk ((by rw [hg];exact (below_size be):w.heap.size≤gb126))
        have n5_:=Aside0.mk ((by rw [hg];exact (below_size be):w.heap.size≤gb126))
        have n6_:=Aside0.mk ((by rw [hg];exact Nat.ne_of_lt (blk_lt (g:=gb116) (o:=.cells #[.int .i64 0,.int .i64 0,.int .i64 0] 25 (0,0)) (bk BK116)):gb116 ≠ gb126))
        have n7_:=Aside0.mk ((by rw [hg];exact Nat.ne_of_gt (blk_lt (g:=gb116) (o:=.cells #[.int .i64 0,.int .i64 0,.int .i64 0] 25 (0,0)) (bk BK116)):gb126 ≠ gb116))
        clear HO119
        clear BK116
        clear HB
        have HO119:=n0_
        have BK116:=n1_
        have HB:=n2_
        have BK126:=n3_
        have GW126:=n4_
        have GE126:=n5_
        have NB116_126:=n6_
        have NB126_116:=n7_
        clear n0_ n1_ n2_ n3_ n4_ n5_ n6_ n7_
        clear hb hbox hg
        refine hK.out _ _ ⟨HS0_,HS1_,HS2_⟩ (fun hHeld=>?_)
        clear hK K
        refine no 5 ?_
        refine ot 3 (some 15) (fl 15 10111) HT_ (fun K hK=>?_)
        refine goes_ Tryd.func47 (by kernel_rfl) rfl #[.string (rdOf ByteArray.empty t117 0)] (by rfl) rfl rfl (by (try simp only [List.map_toArray,List.map_cons,List.map_nil]);first|done|rfl|(simp only [List.length_drop,List.length_take];rfl)) ?_
        with_reducible refine (spec_l2Number.calls k (rdOf ByteArray.empty t117 0) t121 _ A5.out).mono ?_
        rintro e w' ⟨rfl,⟨nd,rfl⟩⟩
        refine ⟨_,rfl,?_⟩
        refine hK.out _ _ ⟨hHeld.1,hHeld.2.1,hHeld.2.2⟩ (fun hHeld=>?_)
        clear hK K
        refine no 15 ?_
        refine ot 7 (some 19) (fl 15 10239) HT_ (fun K hK=>?_)
        refine goes_ Tryd.func47 (by kernel_rfl) rfl #[.string (rdOf ByteArray.empty t117 1)] (by rfl) rfl rfl (by (try simp only [List.map_toArray,List.map_cons,List.map_nil]);first|done|rfl|(simp only [List.length_drop,List.length_take];rfl)) ?_
        with_reducible refine (spec_l2Number.calls k (rdOf ByteArray.empty t117 1) t123 _ A7.out).mono ?_
        rintro e w' ⟨rfl,⟨nd,rfl⟩⟩
        refine ⟨_,rfl,?_⟩
        refine hK.out _ _ ⟨hHeld.1,hHeld.2.1,hHeld.2.2⟩ (fun hHeld=>?_)
        clear hK K
        refine no 19 ?_
        refine ot 11 (some 23) (fl 15 12287) HT_ (fun K hK=>?_)
        refine goes_ Tryd.func47 (by kernel_rfl) rfl #[.string (rdOf ByteArray.empty t117 2)] (by rfl) rfl rfl (by (try simp only [List.map_toArray,List.map_cons,List.map_nil]);first|done|rfl|(simp only [List.length_drop,List.length_take];rfl)) ?_
        with_reducible refine (spec_l2Number.calls k (rdOf ByteArray.empty t117 2) t125 _ A9.out).mono ?_
        rintro e w' ⟨rfl,⟨nd,rfl⟩⟩
        refine ⟨_,rfl,?_⟩
        refine hK.out _ _ ⟨hHeld.1,hHeld.2.1,hHeld.2.2⟩ (fun hHeld=>?_)
        clear hK K
        refine no 23 ?_
        refine pt 12 24 (fl 15 16383) HT_ ?_
        exact norm_ (by simp only [putAll,Act.put,List.setIfInBounds_toArray,List.set_cons_zero,List.set_cons_succ]) (hCont (gb126) _ ⟨hHeld,(rR HO119),(bk BK116),(bk BK126),GW126.out,GE126.out,NB116_126.out,NB126_116.out,be⟩)
      rintro gb126 w17 ⟨hS_,h0_,h1_,h2_,h3_,h4_,h5_,h6_,h7_⟩
      have n0_:Aside0 (Kd.R Kd.string 9 w17 w.heap.size (fun _=>True) (.slice (some ad120) t117.length co14) t117):=⟨h0_⟩
      have n1_:Aside0 (w17.heap[gb116]?=some (.cells #[.int .i64 0,.int .i64 0,.int .i64 0] 25 (0,0))):=⟨h1_⟩
      have n2_:Aside0 (w17.heap[gb126]?=some (.cells #[.int .i64 0,.int .i64 0,.int .i64 0] 25 (0,0))):=⟨h2_⟩
      have n3_:Aside0 (w.heap.size≤gb126):=⟨h3_⟩
      have n4_:Aside0 (w.heap.size≤gb126):=⟨h4_⟩
      have n5_:Aside0 (gb116 ≠ gb126):=⟨h5_⟩
      have n6_:Aside0 (gb126 ≠ gb116):=⟨h6_⟩
      have n7_:Aside0 (Below w.heap.size w w17):=⟨h7_⟩
      clear HO119
      clear BK116
      clear HB
      clear h0_ h1_ h2_ h3_ h4_ h5_ h6_ h7_
      have HO119:=n0_
      have BK116:=n1_
      have BK126:=n2_
      have GW126:=n3_
      have GE126:=n4_
      have NB116_126:=n5_
      have NB126_116:=n6_
      have HB:=n7_
      clear n0_ n1_ n2_ n3_ n4_ n5_ n6_ n7_
      have hHeld:w17.cell? ad120=some (.string (rdOf ByteArray.empty t117 0))∧w17.cell? ⟨ad120.block,ad120.off+1,none⟩=some (.string (rdOf ByteArray.empty t117 1))∧w17.cell? ⟨ad120.block,ad120.off+2,none⟩=some (.string (rdOf ByteArray.empty t117 2)):=hS_
      refine norm_ (a':=?_) ?_ ?_
      rotate_left
      ·simp only [putAll,Act.put,List.setIfInBounds_toArray,List.set_cons_zero,List.set_cons_succ]
       rfl
      refine ot 14 none (fl 15 32767) HT_ (fun K hK=>?_)
      have hs18:w17.cell? ⟨gb126,0,none⟩=some (.int .i64 0):=(blk_cell BK126.out 0).trans rfl
      have hfs18:=blk_frozen BK126.out 0
      have hns18_0:=NB116_126.out
      have hms18_0:=NB126_116.out
      have hs19:w17.cell? ⟨gb126,1,none⟩=some (.int .i64 0):=(blk_cell BK126.out 1).trans rfl
      have hfs19:=blk_frozen BK126.out 1
      have hns19_0:=NB116_126.out
      have hms19_0:=NB126_116.out
      have hs20:w17.cell? ⟨gb126,2,none⟩=some (.int .i64 0):=(blk_cell BK126.out 2).trans rfl
      have hfs20:=blk_frozen BK126.out 2
      have hns20_0:=NB116_126.out
      have hms20_0:=NB126_116.out
      refine skip_ (w1:=?_) (by rfl) rfl ?_ ?_
      rotate_left
      ·go_simp
       rfl
      refine hK.out _ _ ⟨((cell_far (p:=⟨gb126,_,none⟩) (by first|exact Kd.own_blk (Kd.R_ne HO119.out BK126.out (by decide))|(rw [add_block];exact Kd.own_blk (Kd.R_ne HO119.out BK126.out (by decide)))|(show (Addr.add _ _).block ≠ _;rw [add_block];exact Kd.own_blk (Kd.R_ne HO119.out BK126.out (by decide)))|(dsimp only;exact Kd.own_blk (Kd.R_ne HO119.out BK126.out (by decide)))) _).trans (((cell_far (p:=⟨gb126,_,none⟩) (by first|exact Kd.own_blk (Kd.R_ne HO119.out BK126.out (by decide))|(rw [add_block];exact Kd.own_blk (Kd.R_ne HO119.out BK126.out (by decide)))|(show (Addr.add _ _).block ≠ _;rw [add_block];exact Kd.own_blk (Kd.R_ne HO119.out BK126.out (by decide)))|(dsimp only;exact Kd.own_blk (Kd.R_ne HO119.out BK126.out (by decide)))) _).trans (((cell_far (p:=⟨gb126,_,none⟩) (by first|exact Kd.own_blk (Kd.R_ne HO119.out BK126.out (by decide))|(rw [add_block];exact Kd.own_blk (Kd.R_ne HO119.out BK126.out (by decide)))|(show (Addr.add _ _).block ≠ _;rw [add_block];exact Kd.own_blk (Kd.R_ne HO119.out BK126.out (by decide)))|(dsimp only;exact Kd.own_blk (Kd.R_ne HO119.out BK126.out (by decide)))) _).trans (hHeld.1)))))),((cell_far (p:=⟨gb126,_,none⟩) (by first|exact Kd.own_blk (Kd.R_ne HO119.out BK126.out (by decide))|(rw [add_block];exact Kd.own_blk (Kd.R_ne HO119.out BK126.out (by decide)))|(show (Addr.add _ _).block ≠ _;rw [add_block];exact Kd.own_blk (Kd.R_ne HO119.out BK126.out (by decide)))|(dsimp only;exact Kd.own_blk (Kd.R_ne HO119.out BK126.out (by decide)))) _).trans (((cell_far (p:=⟨gb126,_,none⟩) (by first|exact Kd.own_blk (Kd.R_ne HO119.out BK126.out (by decide))|(rw [add_block];exact Kd.own_blk (Kd.R_ne HO119.out BK126.out (by decide)))|(show (Addr.add _ _).block ≠ _;rw [add_block];exact Kd.own_blk (Kd.R_ne HO119.out BK126.out (by decide)))|(dsimp only;exact Kd.own_blk (Kd.R_ne HO119.out BK126.out (by decide)))) _).trans (((cell_far (p:=⟨gb126,_,none⟩) (by first|exact Kd.own_blk (Kd.R_ne HO119.out BK126.out (by decide))|(rw [add_block];exact Kd.own_blk (Kd.R_ne HO119.out BK126.out (by decide)))|(show (Addr.add _ _).block ≠ _;rw [add_block];exact Kd.own_blk (Kd.R_ne HO119.out BK126.out (by decide)))|(dsimp only;exact Kd.own_blk (Kd.R_ne HO119.out BK126.out (by decide)))) _).trans (hHeld.2.1)))))),((cell_far (p:=⟨gb126,_,none⟩) (by first|exact Kd.own_blk (Kd.R_ne HO119.out BK126.out (by decide))|(rw [add_block];exact Kd.own_blk (Kd.R_ne HO119.out BK126.out (by decide)))|(show (Addr.add _ _).block ≠ _;rw [add_block];exact Kd.own_blk (Kd.R_ne HO119.out BK126.out (by decide)))|(dsimp only;exact Kd.own_blk (Kd.R_ne HO119.out BK126.out (by decide)))) _).trans (((cell_far (p:=⟨gb126,_,none⟩) (by first|exact Kd.own_blk (Kd.R_ne HO119.out BK126.out (by decide))|(rw [add_block];exact Kd.own_blk (Kd.R_ne HO119.out BK126.out (by decide)))|(show (Addr.add _ _).block ≠ _;rw [add_block];exact Kd.own_blk (Kd.R_ne HO119.out BK126.out (by decide)))|(dsimp only;exact Kd.own_blk (Kd.R_ne HO119.out BK126.out (by decide)))) _).trans (((cell_far (p:=⟨gb126,_,none⟩) (by first|exact Kd.own_blk (Kd.R_ne HO119.out BK126.out (by decide))|(rw [add_block];exact Kd.own_blk (Kd.R_ne HO119.out BK126.out (by decide)))|(show (Addr.add _ _).block ≠ _;rw [add_block];exact Kd.own_blk (Kd.R_ne HO119.out BK126.out (by decide)))|(dsimp only;exact Kd.own_blk (Kd.R_ne HO119.out BK126.out (by decide)))) _).trans (hHeld.2.2))))))⟩ (fun hHeld=>?_)
      clear hK K
      refine done_ (done_of HT_.out (by kernel_rfl)) ?_
      have hnb21:=NB126_116.out
      have hnc21:=NB116_126.out
      have hcz22_0:w17.cell? ⟨gb126,0,none⟩=some (.int .i64 0):=(blk_cell BK126.out 0).trans rfl
      have hcz22_1:w17.cell? ⟨gb126,1,none⟩=some (.int .i64 0):=(blk_cell BK126.out 1).trans rfl
      have hcz22_2:w17.cell? ⟨gb126,2,none⟩=some (.int .i64 0):=(blk_cell BK126.out 2).trans rfl
      have hfz22_0:=blk_frozen BK126.out 0
      have hfz22_1:=blk_frozen BK126.out 1
      have hfz22_2:=blk_frozen BK126.out 2
      try go_wp2_with (first|((with_reducible refine gate_callee (f:=26) rfl ?_);refine goesL_ (some 26) rfl rfl Tryd.func26 (by kernel_rfl) rfl #[.agg #[.int .i64 t121,.int .i64 t123,.int .i64 t125]] rfl (by (try simp only [List.map_toArray,List.map_cons,List.map_nil]);first|done|rfl|(simp only [List.length_drop,List.length_take];rfl)) ?_;(with_reducible refine (spec_StampOk.calls t121 t123 t125 true _ A10.out).mono ?_);rintro e w23 ⟨rfl,hb⟩;refine ⟨_,rfl,?_⟩;have n0_:=Aside0.mk (Kd.R_below ((by (with_reducible repeat (first|apply Kd.R_alloc|apply Kd.R_drewN|apply Kd.R_drew));exact (Kd.R_mono (Kd.R_far (p:=⟨gb126,2,none⟩) (Kd.R_far (p:=⟨gb126,1,none⟩) (Kd.R_far (p:=⟨gb126,0,none⟩) (Kd.R_types HO119.out BK126.out (by decide)) (fun _ hk=>hk.2) (.int .i64 t121)) (fun _ hk=>hk.2) (.int .i64 t123)) (fun _ hk=>hk.2) (.int .i64 t125)) (fun _ h_=>h_.1)))) hb);have n1_:=Aside0.mk (blk_below (g:=gb116) (o:=.cells #[.int .i64 0,.int .i64 0,.int .i64 0] 25 (0,0)) (by (with_reducible repeat (first|refine blk_drewN ?_ _|refine blk_drew ?_|refine blk_alloc ?_ _));refine blk_far ?_ NB116_126.out _;(with_reducible repeat (first|refine blk_drewN ?_ _|refine blk_drew ?_|refine blk_alloc ?_ _));refine blk_far ?_ NB116_126.out _;(with_reducible repeat (first|refine blk_drewN ?_ _|refine blk_drew ?_|refine blk_alloc ?_ _));refine blk_far ?_ NB116_126.out _;(with_reducible repeat (first|refine blk_drewN ?_ _|refine blk_drew ?_|refine blk_alloc ?_ _));exact BK116.out) hb);have n2_:=Aside0.mk (blk_below (g:=gb126) (o:=.cells #[.int .i64 t121,.int .i64 t123,.int .i64 t125] 25 (0,0)) (by (with_reducible repeat (first|refine blk_drewN ?_ _|refine blk_drew ?_|refine blk_alloc ?_ _));refine blk_put (cs:=#[.int .i64 t121,.int .i64 t123,.int .i64 0]) ?_ 2 _ rfl;(with_reducible repeat (first|refine blk_drewN ?_ _|refine blk_drew ?_|refine blk_alloc ?_ _));refine blk_put (cs:=#[.int .i64 t121,.int .i64 0,.int .i64 0]) ?_ 1 _ rfl;(with_reducible repeat (first|refine blk_drewN ?_ _|refine blk_drew ?_|refine blk_alloc ?_ _));refine blk_put (cs:=#[.int .i64 0,.int .i64 0,.int .i64 0]) ?_ 0 _ rfl;(with_reducible repeat (first|refine blk_drewN ?_ _|refine blk_drew ?_|refine blk_alloc ?_ _));exact BK126.out) hb);have n3_:=bs hb;clear HO119;clear BK116;clear BK126;clear HB;have HO119:=n0_;have BK116:=n1_;have BK126:=n2_;have HB:=n3_;clear n0_ n1_ n2_ n3_;(try clear hb);(try clear hb2);(try clear hk);(try clear hi);have hcz24_0:w23.cell? ⟨gb126,0,none⟩=some (.int .i64 t121):=(blk_cell BK126.out 0).trans rfl;have hcz24_1:w23.cell? ⟨gb126,1,none⟩=some (.int .i64 t123):=(blk_cell BK126.out 1).trans rfl;have hcz24_2:w23.cell? ⟨gb126,2,none⟩=some (.int .i64 t125):=(blk_cell BK126.out 2).trans rfl;have hfz24_0:=blk_frozen BK126.out 0;have hfz24_1:=blk_frozen BK126.out 1;have hfz24_2:=blk_frozen BK126.out 2;have hcz25_0:w23.cell? ⟨gb116,0,none⟩=some (.int .i64 0):=(blk_cell BK116.out 0).trans rfl;have hcz25_1:w23.cell? ⟨gb116,1,none⟩=some (.int .i64 0):=(blk_cell BK116.out 1).trans rfl;have hcz25_2:w23.cell? ⟨gb116,2,none⟩=some (.int .i64 0):=(blk_cell BK116.out 2).trans rfl;have hfz25_0:=blk_frozen BK116.out 0;have hfz25_1:=blk_frozen BK116.out 1;have hfz25_2:=blk_frozen BK116.out 2))
      refine bodyPost_ret (results_ct rfl _ _ gb116 25 #[.int .i64 t121,.int .i64 t123,.int .i64 t125] (0,0) _ rfl (by (with_reducible repeat (first|refine blk_drewN ?_ _|refine blk_drew ?_|refine blk_alloc ?_ _));refine blk_put (cs:=#[.int .i64 t121,.int .i64 t123,.int .i64 0]) ?_ 2 _ rfl;(with_reducible repeat (first|refine blk_drewN ?_ _|refine blk_drew ?_|refine blk_alloc ?_ _));refine blk_put (cs:=#[.int .i64 t121,.int .i64 0,.int .i64 0]) ?_ 1 _ rfl;(with_reducible repeat (first|refine blk_drewN ?_ _|refine blk_drew ?_|refine blk_alloc ?_ _));refine blk_put (cs:=#[.int .i64 0,.int .i64 0,.int .i64 0]) ?_ 0 _ rfl;(with_reducible repeat (first|refine blk_drewN ?_ _|refine blk_drew ?_|refine blk_alloc ?_ _));exact BK116.out) Tryd.underlying25 rfl (by kernel_rfl)) rfl ?_
      exact ⟨rz,be⟩
     ·replace c11:=Bool.eq_false_iff.mpr c11
      subst c11
      have H1:(some (0,0,0,false))=some (r1,r2,r3,r4):=by rw [if_neg (show ¬ (false=true) by decide)] at H;exact H
      clear H
      have H:=H1
      clear H1
      simp only [Option.some.injEq,Prod.mk.injEq] at H
      obtain ⟨rfl,rfl,rfl,rfl⟩:=H
      go_enter Tryd.func19,Tryd.ntmps19
      try go_wp2_with (first|((with_reducible refine gate_dst (N:=2) rfl ?_);refine box_event ?hg (N:=2) ?hd (cs:=#[.int .i64 0,.int .i64 0,.int .i64 0]) (t:=25) ?hr ?_;(case hd=>rfl);(case hg=>rfl);(case hr=>first|(go_simp;done)|(go_simp;rfl));intro gb116 hg w26 hbox hb;have n0_:=bs hb;have n1_:=Aside0.mk (hbox);have n2_:=Aside0.mk ((by rw [hg];exact (below_size be):w.heap.size≤gb116));have n3_:=Aside0.mk ((by rw [hg];exact (below_size be):w.heap.size≤gb116));clear HB;have HB:=n0_;have BK116:=n1_;have GW116:=n2_;have GE116:=n3_;clear n0_ n1_ n2_ n3_;clear hb hbox hg)|((with_reducible refine gate_callee (f:=46) rfl ?_);refine goesL_ (some 7) rfl rfl Tryd.func46 (by kernel_rfl) rfl #[.string a0,.int .u8 46] rfl (by (try simp only [List.map_toArray,List.map_cons,List.map_nil]);first|done|rfl|(simp only [List.length_drop,List.length_take];rfl)) ?_;(with_reducible refine (spec_l2Split.calls k a0 46 t117 _ A2.out).mono ?_);rintro e w27 ⟨v118,rfl,ho0,hb⟩;refine ⟨_,rfl,?_⟩;have n0_:=Aside0.mk (Kd.R_lower ho0 (below_size be));have n1_:=Aside0.mk (blk_below (g:=gb116) (o:=.cells #[.int .i64 0,.int .i64 0,.int .i64 0] 25 (0,0)) (bk BK116) hb);have n2_:=bs hb;clear BK116;clear HB;have HO119:=n0_;have BK116:=n1_;have HB:=n2_;clear n0_ n1_ n2_;(try clear hb);(try clear hb2);(try clear hk);(try clear hi);(try clear ho0);obtain ⟨Ao28,co28,eo28⟩:=Kd.R_slice HO119.out;subst eo28))
      have n0_:=Aside0.mk (Kd.R_drew HO119.out)
      have n1_:=Aside0.mk (blk_drew BK116.out)
      have n2_:=Aside0.mk (below_drew1 HB.out)
      clear HO119
      clear BK116
      clear HB
      have HO119:=n0_
      have BK116:=n1_
      have HB:=n2_
      clear n0_ n1_ n2_
      have p120:0≤(0:Int):=(by omega)
      have q120:0 < (t117.length:Int):=of_decide_eq_true (by first|(with_reducible assumption)|assumption)
      obtain ⟨ad120,e120,hx120_0⟩:=Kd.at_string (Kd.R_reads' HO119.out).2.2 0 p120 q120
      cases e120
      have qi120:(0 < t117.length)=True:=eq_true (by omega)
      (try rw [show ((0:Int)).toNat=0 from rfl] at hx120_0)
      (try rw [Addr.add_zero'] at hx120_0)
      replace p120:=eq_true p120
      replace q120:=eq_true q120
      have p122:0≤(1:Int):=(by omega)
      have q122:1 < (t117.length:Int):=of_decide_eq_true (by first|(with_reducible assumption)|assumption)
      obtain ⟨ad122,e122,hx122_0⟩:=Kd.at_string (Kd.R_reads' HO119.out).2.2 1 p122 q122
      obtain rfl:ad120=ad122:=(by injection e122)
      (try simp only [show (1:Int).toNat=1 from rfl,Nat.reduceMul,Nat.reduceEqDiff,Go.Addr.add,↓reduceIte] at hx122_0)
      have qi122:(1 < t117.length)=True:=eq_true (by omega)
      (try rw [show ((1:Int)).toNat=1 from rfl] at hx122_0)
      replace p122:=eq_true p122
      replace q122:=eq_true q122
      have p124:0≤(2:Int):=(by omega)
      have q124:2 < (t117.length:Int):=of_decide_eq_true (by first|(with_reducible assumption)|assumption)
      obtain ⟨ad124,e124,hx124_0⟩:=Kd.at_string (Kd.R_reads' HO119.out).2.2 2 p124 q124
      obtain rfl:ad120=ad124:=(by injection e124)
      (try simp only [show (2:Int).toNat=2 from rfl,Nat.reduceMul,Nat.reduceEqDiff,Go.Addr.add,↓reduceIte] at hx124_0)
      have qi124:(2 < t117.length)=True:=eq_true (by omega)
      (try rw [show ((2:Int)).toNat=2 from rfl] at hx124_0)
      replace p124:=eq_true p124
      replace q124:=eq_true q124
      refine start_ (n:=15) (S:=fun w'=>w'.cell? ad120=some (.string (rdOf ByteArray.empty t117 0))∧w'.cell? ⟨ad120.block,ad120.off+1,none⟩=some (.string (rdOf ByteArray.empty t117 1))∧w'.cell? ⟨ad120.block,ad120.off+2,none⟩=some (.string (rdOf ByteArray.empty t117 2))) (ds:=[]) (fl 15 0) (by kernel_rfl) rfl rfl ⟨hx120_0,hx122_0,hx124_0⟩ (fun hHeld=>?_);refine with_tabW spec_ParseStamp.tab4 spec_ParseStamp.bits4 (fun HT_ HW_=>?_)
      generalize w27.drew=w29 at HO119 BK116 HB hx120_0 hx122_0 hx124_0 hHeld ⊢
      refine pt 0 12 (fl 15 1) HT_ ?_
      refine pt 1 13 (fl 15 3) HT_ ?_
      refine pt 4 16 (fl 15 19) HT_ ?_
      refine pt 5 17 (fl 15 51) HT_ ?_
      refine pt 8 20 (fl 15 307) HT_ ?_
      refine pt 9 21 (fl 15 819) HT_ ?_
      refine tt 2 14 (fl 15 823) HT_ HW_ hHeld ?_
      refine tt 6 18 (fl 15 887) HT_ HW_ hHeld ?_
      refine tt 10 22 (fl 15 1911) HT_ HW_ hHeld ?_
      refine join_ (σ:=Nat) 1 (fl 15 16383) (fun s_=>[(15,.int .i64 t121),(19,.int .i64 t123),(23,.int .i64 t125),(5,.pointer (some ⟨s_,0,none⟩)),(24,.agg #[.int .i64 t121,.int .i64 t123,.int .i64 t125])]) (fun s_ w'=>(w'.cell? ad120=some (.string (rdOf ByteArray.empty t117 0))∧w'.cell? ⟨ad120.block,ad120.off+1,none⟩=some (.string (rdOf ByteArray.empty t117 1))∧w'.cell? ⟨ad120.block,ad120.off+2,none⟩=some (.string (rdOf ByteArray.empty t117 2)))∧(Kd.R Kd.string 9 w' w.heap.size (fun _=>True) (.slice (some ad120) t117.length co28) t117)∧(w'.heap[gb116]?=some (.cells #[.int .i64 0,.int .i64 0,.int .i64 0] 25 (0,0)))∧(w'.heap[s_]?=some (.cells #[.int .i64 0,.int .i64 0,.int .i64 0] 25 (0,0)))∧(w.heap.size≤s_)∧(w.heap.size≤s_)∧(gb116 ≠ s_)∧(s_ ≠ gb116)∧(Below w.heap.size w w')) ?_ ?_
      rotate_left
      ·intro hCont
       refine two_ (i:=3) (j:=13) (Ni:=some 15) (Nj:=some 5) (fl 15 1919) (fl 15 10103) rfl rfl rfl rfl (two_of HT_.out (by kernel_rfl)) (by decide) (by decide) (fun K hK=>?_) (fun K hK=>?_)
       ·skip
        refine goes_ Tryd.func47 (by kernel_rfl) rfl #[.string (rdOf ByteArray.empty t117 0)] (by rfl) rfl rfl (by (try simp only [List.map_toArray,List.map_cons,List.map_nil]);first|done|rfl|(simp only [List.length_drop,List.length_take];rfl)) ?_
        with_reducible refine (spec_l2Number.calls k (rdOf ByteArray.empty t117 0) t121 _ A5.out).mono ?_
        rintro e w' ⟨rfl,⟨nd,rfl⟩⟩
        refine ⟨_,rfl,?_⟩
        refine hK.out _ _ ⟨hHeld.1,hHeld.2.1,hHeld.2.2⟩ (fun hHeld=>?_)
        clear hK K
        refine no 15 ?_
        refine two_ (i:=7) (j:=13) (Ni:=some 19) (Nj:=some 5) (fl 15 2047) (fl 15 10111) rfl rfl rfl rfl (two_of HT_.out (by kernel_rfl)) (by decide) (by decide) (fun K hK=>?_) (fun K hK=>?_)
        ·skip
         refine goes_ Tryd.func47 (by kernel_rfl) rfl #[.string (rdOf ByteArray.empty t117 1)] (by rfl) rfl rfl (by (try simp only [List.map_toArray,List.map_cons,List.map_nil]);first|done|rfl|(simp only [List.length_drop,List.length_take];rfl)) ?_
         with_reducible refine (spec_l2Number.calls k (rdOf ByteArray.empty t117 1) t123 _ A7.out).mono ?_
         rintro e w' ⟨rfl,⟨nd,rfl⟩⟩
         refine ⟨_,rfl,?_⟩
         refine hK.out _ _ ⟨hHeld.1,hHeld.2.1,hHeld.2.2⟩ (fun hHeld=>?_)
         clear hK K
         refine no 19 ?_
         refine two_ (i:=11) (j:=13) (Ni:=some 23) (Nj:=some 5) (fl 15 4095) (fl 15 10239) rfl rfl rfl rfl (two_of HT_.out (by kernel_rfl)) (by decide) (by decide) (fun K hK=>?_) (fun K hK=>?_)
         ·skip
          refine goes_ Tryd.func47 (by kernel_rfl) rfl #[.string (rdOf ByteArray.empty t117 2)] (by rfl) rfl rfl (by (try simp only [List.map_toArray,List.map_cons,List.map_nil]);first|done|rfl|(simp only [List.length_drop,List.length_take];rfl)) ?_
          with_reducible refine (spec_l2Number.calls k (rdOf ByteArray.empty t117 2) t125 _ A9.out).mono ?_
          rintro e w' ⟨rfl,⟨nd,rfl⟩⟩
          refine ⟨_,rfl,?_⟩
          refine hK.out _ _ ⟨hHeld.1,hHeld.2.1,hHeld.2.2⟩ (fun hHeld=>?_)
          clear hK K
          refine no 23 ?_
          refine pt 12 24 (fl 15 8191) HT_ ?_
          refine ot 13 (some 5) (fl 15 16383) HT_ (fun K hK=>?_)
          refine box_step ?hg (N:=5) ?hd (cs:=#[.int .i64 0,.int .i64 0,.int .i64 0]) (t:=25) ?hr ?_;(case hd=>rfl);(case hg=>rfl);(case hr=>first|(go_simp;done)|(go_simp;rfl))
          intro gb126 hg w30 hbox hb
          have HS0_:=(hb.cell (World.block_lt_of_cell? _ _ (hHeld.1))).trans (hHeld.1)
          have HS1_:=(hb.cell (World.block_lt_of_cell? _ _ (hHeld.2.1))).trans (hHeld.2.1)
          have HS2_:=(hb.cell (World.block_lt_of_cell? _ _ (hHeld.2.2))).trans (hHeld.2.2)
          have n0_:=Aside0.mk (Kd.R_below (rR HO119) hb)
          have n1_:=Aside0.mk (blk_below (g:=gb116) (o:=.cells #[.int .i64 0,.int .i64 0,.int .i64 0] 25 (0,0)) (bk BK116) hb)
          have n2_:=bs hb
          have n3_:=Aside0.mk (hbox)
          have n4_:=Aside0.mk ((by rw [hg];exact (below_size be):w.heap.size≤gb126))
          have n5_:=Aside0.mk ((by rw [hg];exact (below_size be):w.heap.size≤gb126))
          have n6_:=Aside0.mk ((by rw [hg];exact Nat.ne_of_lt (blk_lt (g:=gb116) (o:=.cells #[.int .i64 0,.int .i64 0,.int .i64 0] 25 (0,0)) (bk BK116)):gb116 ≠ gb126))
          have n7_:=Aside0.mk ((by rw [hg];exact Nat.ne_of_gt (blk_lt (g:=gb116) (o:=.cells #[.int .i64 0,.int .i64 0,.int .i64 0] 25 (0,0)) (bk BK116)):gb126 ≠ gb116))
          clear HO119
          clear BK116
          clear HB
          have HO119:=n0_
          have BK116:=n1_
          have HB:=n2_
          have BK126:=n3_
          have GW126:=n4_
          have GE126:=n5_
          have NB116_126:=n6_
          have NB126_116:=n7_
          clear n0_ n1_ n2_ n3_ n4_ n5_ n6_ n7_
          clear hb hbox hg
          refine hK.out _ _ ⟨HS0_,HS1_,HS2_⟩ (fun hHeld=>?_)
          clear hK K
          refine no 5 ?_
          exact norm_ (by simp only [putAll,Act.put,List.setIfInBounds_toArray,List.set_cons_zero,List.set_cons_succ]) (hCont (gb126) _ ⟨hHeld,(rR HO119),(bk BK116),(bk BK126),GW126.out,GE126.out,NB116_126.out,NB126_116.out,be⟩)
         ·skip
          refine box_step ?hg (N:=5) ?hd (cs:=#[.int .i64 0,.int .i64 0,.int .i64 0]) (t:=25) ?hr ?_;(case hd=>rfl);(case hg=>rfl);(case hr=>first|(go_simp;done)|(go_simp;rfl))
          intro gb126 hg w30 hbox hb
          have HS0_:=(hb.cell (World.block_lt_of_cell? _ _ (hHeld.1))).trans (hHeld.1)
          have HS1_:=(hb.cell (World.block_lt_of_cell? _ _ (hHeld.2.1))).trans (hHeld.2.1)
          have HS2_:=(hb.cell (World.block_lt_of_cell? _ _ (hHeld.2.2))).trans (hHeld.2.2)
          have n0_:=Aside0.mk (Kd.R_below (rR HO119) hb)
          have n1_:=Aside0.mk (blk_below (g:=gb116) (o:=.cells #[.int .i64 0,.int .i64 0,.int .i64 0] 25 (0,0)) (bk BK116) hb)
          have n2_:=bs hb
          have n3_:=Aside0.mk (hbox)
          have n4_:=Aside0.mk ((by rw [hg];exact (below_size be):w.heap.size≤gb126))
          have n5_:=Aside0.mk ((by rw [hg];exact (below_size be):w.heap.size≤gb126))
          have n6_:=Aside0.mk ((by rw [hg];exact Nat.ne_of_lt (blk_lt (g:=gb116) (o:=.cells #[.int .i64 0,.int .i64 0,.int .i64 0] 25 (0,0)) (bk BK116)):gb116 ≠ gb126))
          have n7_:=Aside0.mk ((by rw [hg];exact Nat.ne_of_gt (blk_lt (g:=gb116) (o:=.cells #[.int .i64 0,.int .i64 0,.int .i64 0] 25 (0,0)) (bk BK116)):gb126 ≠ gb116))
          clear HO119
          clear BK116
          clear HB
          have HO119:=n0_
          have BK116:=n1_
          have HB:=n2_
          have BK126:=n3_
          have GW126:=n4_
          have GE126:=n5_
          have NB116_126:=n6_
          have NB126_116:=n7_
          clear n0_ n1_ n2_ n3_ n4_ n5_ n6_ n7_
          clear hb hbox hg
          refine hK.out _ _ ⟨HS0_,HS1_,HS2_⟩ (fun hHeld=>?_)
          clear hK K
          refine no 5 ?_
          refine ot 11 (some 23) (fl 15 12287) HT_ (fun K hK=>?_)
          refine goes_ Tryd.func47 (by kernel_rfl) rfl #[.string (rdOf ByteArray.empty t117 2)] (by rfl) rfl rfl (by (try simp only [List.map_toArray,List.map_cons,List.map_nil]);first|done|rfl|(simp only [List.length_drop,List.length_take];rfl)) ?_
          with_reducible refine (spec_l2Number.calls k (rdOf ByteArray.empty t117 2) t125 _ A9.out).mono ?_
          rintro e w' ⟨rfl,⟨nd,rfl⟩⟩
          refine ⟨_,rfl,?_⟩
          refine hK.out _ _ ⟨hHeld.1,hHeld.2.1,hHeld.2.2⟩ (fun hHeld=>?_)
          clear hK K
          refine no 23 ?_
          refine pt 12 24 (fl 15 16383) HT_ ?_
          exact norm_ (by simp only [putAll,Act.put,List.setIfInBounds_toArray,List.set_cons_zero,List.set_cons_succ]) (hCont (gb126) _ ⟨hHeld,(rR HO119),(bk BK116),(bk BK126),GW126.out,GE126.out,NB116_126.out,NB126_116.out,be⟩)
        ·skip
         refine box_step ?hg (N:=5) ?hd (cs:=#[.int .i64 0,.int .i64 0,.int .i64 0]) (t:=25) ?hr ?_;(case hd=>rfl);(case hg=>rfl);(case hr=>first|(go_simp;done)|(go_simp;rfl))
         intro gb126 hg w30 hbox hb
         have HS0_:=(hb.cell (World.block_lt_of_cell? _ _ (hHeld.1))).trans (hHeld.1)
         have HS1_:=(hb.cell (World.block_lt_of_cell? _ _ (hHeld.2.1))).trans (hHeld.2.1)
         have HS2_:=(hb.cell (World.block_lt_of_cell? _ _ (hHeld.2.2))).trans (hHeld.2.2)
         have n0_:=Aside0.mk (Kd.R_below (rR HO119) hb)
         have n1_:=Aside0.mk (blk_below (g:=gb116) (o:=.cells #[.int .i64 0,.int .i64 0,.int .i64 0] 25 (0,0)) (bk BK116) hb)
         have n2_:=bs hb
         have n3_:=Aside0.mk (hbox)
         have n4_:=Aside0.mk ((by rw [hg];exact (below_size be):w.heap.size≤gb126))
         have n5_:=Aside0.mk ((by rw [hg];exact (below_size be):w.heap.size≤gb126))
         have n6_:=Aside0.mk ((by rw [hg];exact Nat.ne_of_lt (blk_lt (g:=gb116) (o:=.cells #[.int .i64 0,.int .i64 0,.int .i64 0] 25 (0,0)) (bk BK116)):gb116 ≠ gb126))
         have n7_:=Aside0.mk ((by rw [hg];exact Nat.ne_of_gt (blk_lt (g:=gb116) (o:=.cells #[.int .i64 0,.int .i64 0,.int .i64 0] 25 (0,0)) (bk BK116)):gb126 ≠ gb116))
         clear HO119
         clear BK116
         clear HB
         have HO119:=n0_
         have BK116:=n1_
         have HB:=n2_
         have BK126:=n3_
         have GW126:=n4_
         have GE126:=n5_
         have NB116_126:=n6_
         have NB126_116:=n7_
         clear n0_ n1_ n2_ n3_ n4_ n5_ n6_ n7_
         clear hb hbox hg
         refine hK.out _ _ ⟨HS0_,HS1_,HS2_⟩ (fun hHeld=>?_)
         clear hK K
         refine no 5 ?_
         refine ot 7 (some 19) (fl 15 10239) HT_ (fun K hK=>?_)
         refine goes_ Tryd.func47 (by kernel_rfl) rfl #[.string (rdOf ByteArray.empty t117 1)] (by rfl) rfl rfl (by (try simp only [List.map_toArray,List.map_cons,List.map_nil]);first|done|rfl|(simp only [List.length_drop,List.length_take];rfl)) ?_
         with_reducible refine (spec_l2Number.calls k (rdOf ByteArray.empty t117 1) t123 _ A7.out).mono ?_
         rintro e w' ⟨rfl,⟨nd,rfl⟩⟩
         refine ⟨_,rfl,?_⟩
         refine hK.out _ _ ⟨hHeld.1,hHeld.2.1,hHeld.2.2⟩ (fun hHeld=>?_)
         clear hK K
         refine no 19 ?_
         refine ot 11 (some 23) (fl 15 12287) HT_ (fun K hK=>?_)
         refine goes_ Tryd.func47 (by kernel_rfl) rfl #[.string (rdOf ByteArray.empty t117 2)] (by rfl) rfl rfl (by (try simp only [List.map_toArray,List.map_cons,List.map_nil]);first|done|rfl|(simp only [List.length_drop,List.length_take];rfl)) ?_
         with_reducible refine (spec_l2Number.calls k (rdOf ByteArray.empty t117 2) t125 _ A9.out).mono ?_
         rintro e w' ⟨rfl,⟨nd,rfl⟩⟩
         refine ⟨_,rfl,?_⟩
         refine hK.out _ _ ⟨hHeld.1,hHeld.2.1,hHeld.2.2⟩ (fun hHeld=>?_)
         clear hK K
         refine no 23 ?_
         refine pt 12 24 (fl 15 16383) HT_ ?_
         exact norm_ (by simp only [putAll,Act.put,List.setIfInBounds_toArray,List.set_cons_zero,List.set_cons_succ]) (hCont (gb126) _ ⟨hHeld,(rR HO119),(bk BK116),(bk BK126),GW126.out,GE126.out,NB116_126.out,NB126_116.out,be⟩)
       ·skip
        refine box_step ?hg (N:=5) ?hd (cs:=#[.int .i64 0,.int .i64 0,.int .i64 0]) (t:=25) ?hr ?_;(case hd=>rfl);(case hg=>rfl);(case hr=>first|(go_simp;done)|(go_simp;rfl))
        intro gb126 hg w30 hbox hb
        have HS0_:=(hb.cell (World.block_lt_of_cell? _ _ (hHeld.1))).trans (hHeld.1)
        have HS1_:=(hb.cell (World.block_lt_of_cell? _ _ (hHeld.2.1))).trans (hHeld.2.1)
        have HS2_:=(hb.cell (World.block_lt_of_cell? _ _ (hHeld.2.2))).trans (hHeld.2.2)
        have n0_:=Aside0.mk (Kd.R_below (rR HO119) hb)
        have n1_:=Aside0.mk (blk_below (g:=gb116) (o:=.cells #[.int .i64 0,.int .i64 0,.int .i64 0] 25 (0,0)) (bk BK116) hb)
        have n2_:=bs hb
        have n3_:=Aside0.mk (hbox)
        have n4_:=Aside0.mk ((by rw [hg];exact (below_size be):w.heap.size≤gb126))
        have n5_:=Aside0.mk ((by rw [hg];exact (below_size be):w.heap.size≤gb126))
        have n6_:=Aside0.mk ((by rw [hg];exact Nat.ne_of_lt (blk_lt (g:=gb116) (o:=.cells #[.int .i64 0,.int .i64 0,.int .i64 0] 25 (0,0)) (bk BK116)):gb116 ≠ gb126))
        have n7_:=Aside0.mk ((by rw [hg];exact Nat.ne_of_gt (blk_lt (g:=gb116) (o:=.cells #[.int .i64 0,.int .i64 0,.int .i64 0] 25 (0,0)) (bk BK116)):gb126 ≠ gb116))
        clear HO119
        clear BK116
        clear HB
        have HO119:=n0_
        have BK116:=n1_
        have HB:=n2_
        have BK126:=n3_
        have GW126:=n4_
        have GE126:=n5_
        have NB116_126:=n6_
        have NB126_116:=n7_
        clear n0_ n1_ n2_ n3_ n4_ n5_ n6_ n7_
        clear hb hbox hg
        refine hK.out _ _ ⟨HS0_,HS1_,HS2_⟩ (fun hHeld=>?_)
        clear hK K
        refine no 5 ?_
        refine ot 3 (some 15) (fl 15 10111) HT_ (fun K hK=>?_)
        refine goes_ Tryd.func47 (by kernel_rfl) rfl #[.string (rdOf ByteArray.empty t117 0)] (by rfl) rfl rfl (by (try simp only [List.map_toArray,List.map_cons,List.map_nil]);first|done|rfl|(simp only [List.length_drop,List.length_take];rfl)) ?_
        with_reducible refine (spec_l2Number.calls k (rdOf ByteArray.empty t117 0) t121 _ A5.out).mono ?_
        rintro e w' ⟨rfl,⟨nd,rfl⟩⟩
        refine ⟨_,rfl,?_⟩
        refine hK.out _ _ ⟨hHeld.1,hHeld.2.1,hHeld.2.2⟩ (fun hHeld=>?_)
        clear hK K
        refine no 15 ?_
        refine ot 7 (some 19) (fl 15 10239) HT_ (fun K hK=>?_)
        refine goes_ Tryd.func47 (by kernel_rfl) rfl #[.string (rdOf ByteArray.empty t117 1)] (by rfl) rfl rfl (by (try simp only [List.map_toArray,List.map_cons,List.map_nil]);first|done|rfl|(simp only [List.length_drop,List.length_take];rfl)) ?_
        with_reducible refine (spec_l2Number.calls k (rdOf ByteArray.empty t117 1) t123 _ A7.out).mono ?_
        rintro e w' ⟨rfl,⟨nd,rfl⟩⟩
        refine ⟨_,rfl,?_⟩
        refine hK.out _ _ ⟨hHeld.1,hHeld.2.1,hHeld.2.2⟩ (fun hHeld=>?_)
        clear hK K
        refine no 19 ?_
        refine ot 11 (some 23) (fl 15 12287) HT_ (fun K hK=>?_)
        refine goes_ Tryd.func47 (by kernel_rfl) rfl #[.string (rdOf ByteArray.empty t117 2)] (by rfl) rfl rfl (by (try simp only [List.map_toArray,List.map_cons,List.map_nil]);first|done|rfl|(simp only [List.length_drop,List.length_take];rfl)) ?_
        with_reducible refine (spec_l2Number.calls k (rdOf ByteArray.empty t117 2) t125 _ A9.out).mono ?_
        rintro e w' ⟨rfl,⟨nd,rfl⟩⟩
        refine ⟨_,rfl,?_⟩
        refine hK.out _ _ ⟨hHeld.1,hHeld.2.1,hHeld.2.2⟩ (fun hHeld=>?_)
        clear hK K
        refine no 23 ?_
        refine pt 12 24 (fl 15 16383) HT_ ?_
        exact norm_ (by simp only [putAll,Act.put,List.setIfInBounds_toArray,List.set_cons_zero,List.set_cons_succ]) (hCont (gb126) _ ⟨hHeld,(rR HO119),(bk BK116),(bk BK126),GW126.out,GE126.out,NB116_126.out,NB126_116.out,be⟩)
      rintro gb126 w31 ⟨hS_,h0_,h1_,h2_,h3_,h4_,h5_,h6_,h7_⟩
      have n0_:Aside0 (Kd.R Kd.string 9 w31 w.heap.size (fun _=>True) (.slice (some ad120) t117.length co28) t117):=⟨h0_⟩
      have n1_:Aside0 (w31.heap[gb116]?=some (.cells #[.int .i64 0,.int .i64 0,.int .i64 0] 25 (0,0))):=⟨h1_⟩
      have n2_:Aside0 (w31.heap[gb126]?=some (.cells #[.int .i64 0,.int .i64 0,.int .i64 0] 25 (0,0))):=⟨h2_⟩
      have n3_:Aside0 (w.heap.size≤gb126):=⟨h3_⟩
      have n4_:Aside0 (w.heap.size≤gb126):=⟨h4_⟩
      have n5_:Aside0 (gb116 ≠ gb126):=⟨h5_⟩
      have n6_:Aside0 (gb126 ≠ gb116):=⟨h6_⟩
      have n7_:Aside0 (Below w.heap.size w w31):=⟨h7_⟩
      clear HO119
      clear BK116
      clear HB
      clear h0_ h1_ h2_ h3_ h4_ h5_ h6_ h7_
      have HO119:=n0_
      have BK116:=n1_
      have BK126:=n2_
      have GW126:=n3_
      have GE126:=n4_
      have NB116_126:=n5_
      have NB126_116:=n6_
      have HB:=n7_
      clear n0_ n1_ n2_ n3_ n4_ n5_ n6_ n7_
      have hHeld:w31.cell? ad120=some (.string (rdOf ByteArray.empty t117 0))∧w31.cell? ⟨ad120.block,ad120.off+1,none⟩=some (.string (rdOf ByteArray.empty t117 1))∧w31.cell? ⟨ad120.block,ad120.off+2,none⟩=some (.string (rdOf ByteArray.empty t117 2)):=hS_
      refine norm_ (a':=?_) ?_ ?_
      rotate_left
      ·simp only [putAll,Act.put,List.setIfInBounds_toArray,List.set_cons_zero,List.set_cons_succ]
       rfl
      refine ot 14 none (fl 15 32767) HT_ (fun K hK=>?_)
      have hs32:w31.cell? ⟨gb126,0,none⟩=some (.int .i64 0):=(blk_cell BK126.out 0).trans rfl
      have hfs32:=blk_frozen BK126.out 0
      have hns32_0:=NB116_126.out
      have hms32_0:=NB126_116.out
      have hs33:w31.cell? ⟨gb126,1,none⟩=some (.int .i64 0):=(blk_cell BK126.out 1).trans rfl
      have hfs33:=blk_frozen BK126.out 1
      have hns33_0:=NB116_126.out
      have hms33_0:=NB126_116.out
      have hs34:w31.cell? ⟨gb126,2,none⟩=some (.int .i64 0):=(blk_cell BK126.out 2).trans rfl
      have hfs34:=blk_frozen BK126.out 2
      have hns34_0:=NB116_126.out
      have hms34_0:=NB126_116.out
      refine skip_ (w1:=?_) (by rfl) rfl ?_ ?_
      rotate_left
      ·go_simp
       rfl
      refine hK.out _ _ ⟨((cell_far (p:=⟨gb126,_,none⟩) (by first|exact Kd.own_blk (Kd.R_ne HO119.out BK126.out (by decide))|(rw [add_block];exact Kd.own_blk (Kd.R_ne HO119.out BK126.out (by decide)))|(show (Addr.add _ _).block ≠ _;rw [add_block];exact Kd.own_blk (Kd.R_ne HO119.out BK126.out (by decide)))|(dsimp only;exact Kd.own_blk (Kd.R_ne HO119.out BK126.out (by decide)))) _).trans (((cell_far (p:=⟨gb126,_,none⟩) (by first|exact Kd.own_blk (Kd.R_ne HO119.out BK126.out (by decide))|(rw [add_block];exact Kd.own_blk (Kd.R_ne HO119.out BK126.out (by decide)))|(show (Addr.add _ _).block ≠ _;rw [add_block];exact Kd.own_blk (Kd.R_ne HO119.out BK126.out (by decide)))|(dsimp only;exact Kd.own_blk (Kd.R_ne HO119.out BK126.out (by decide)))) _).trans (((cell_far (p:=⟨gb126,_,none⟩) (by first|exact Kd.own_blk (Kd.R_ne HO119.out BK126.out (by decide))|(rw [add_block];exact Kd.own_blk (Kd.R_ne HO119.out BK126.out (by decide)))|(show (Addr.add _ _).block ≠ _;rw [add_block];exact Kd.own_blk (Kd.R_ne HO119.out BK126.out (by decide)))|(dsimp only;exact Kd.own_blk (Kd.R_ne HO119.out BK126.out (by decide)))) _).trans (hHeld.1)))))),((cell_far (p:=⟨gb126,_,none⟩) (by first|exact Kd.own_blk (Kd.R_ne HO119.out BK126.out (by decide))|(rw [add_block];exact Kd.own_blk (Kd.R_ne HO119.out BK126.out (by decide)))|(show (Addr.add _ _).block ≠ _;rw [add_block];exact Kd.own_blk (Kd.R_ne HO119.out BK126.out (by decide)))|(dsimp only;exact Kd.own_blk (Kd.R_ne HO119.out BK126.out (by decide)))) _).trans (((cell_far (p:=⟨gb126,_,none⟩) (by first|exact Kd.own_blk (Kd.R_ne HO119.out BK126.out (by decide))|(rw [add_block];exact Kd.own_blk (Kd.R_ne HO119.out BK126.out (by decide)))|(show (Addr.add _ _).block ≠ _;rw [add_block];exact Kd.own_blk (Kd.R_ne HO119.out BK126.out (by decide)))|(dsimp only;exact Kd.own_blk (Kd.R_ne HO119.out BK126.out (by decide)))) _).trans (((cell_far (p:=⟨gb126,_,none⟩) (by first|exact Kd.own_blk (Kd.R_ne HO119.out BK126.out (by decide))|(rw [add_block];exact Kd.own_blk (Kd.R_ne HO119.out BK126.out (by decide)))|(show (Addr.add _ _).block ≠ _;rw [add_block];exact Kd.own_blk (Kd.R_ne HO119.out BK126.out (by decide)))|(dsimp only;exact Kd.own_blk (Kd.R_ne HO119.out BK126.out (by decide)))) _).trans (hHeld.2.1)))))),((cell_far (p:=⟨gb126,_,none⟩) (by first|exact Kd.own_blk (Kd.R_ne HO119.out BK126.out (by decide))|(rw [add_block];exact Kd.own_blk (Kd.R_ne HO119.out BK126.out (by decide)))|(show (Addr.add _ _).block ≠ _;rw [add_block];exact Kd.own_blk (Kd.R_ne HO119.out BK126.out (by decide)))|(dsimp only;exact Kd.own_blk (Kd.R_ne HO119.out BK126.out (by decide)))) _).trans (((cell_far (p:=⟨gb126,_,none⟩) (by first|exact Kd.own_blk (Kd.R_ne HO119.out BK126.out (by decide))|(rw [add_block];exact Kd.own_blk (Kd.R_ne HO119.out BK126.out (by decide)))|(show (Addr.add _ _).block ≠ _;rw [add_block];exact Kd.own_blk (Kd.R_ne HO119.out BK126.out (by decide)))|(dsimp only;exact Kd.own_blk (Kd.R_ne HO119.out BK126.out (by decide)))) _).trans (((cell_far (p:=⟨gb126,_,none⟩) (by first|exact Kd.own_blk (Kd.R_ne HO119.out BK126.out (by decide))|(rw [add_block];exact Kd.own_blk (Kd.R_ne HO119.out BK126.out (by decide)))|(show (Addr.add _ _).block ≠ _;rw [add_block];exact Kd.own_blk (Kd.R_ne HO119.out BK126.out (by decide)))|(dsimp only;exact Kd.own_blk (Kd.R_ne HO119.out BK126.out (by decide)))) _).trans (hHeld.2.2))))))⟩ (fun hHeld=>?_)
      clear hK K
      refine done_ (done_of HT_.out (by kernel_rfl)) ?_
      have hnb35:=NB126_116.out
      have hnc35:=NB116_126.out
      have hcz36_0:w31.cell? ⟨gb126,0,none⟩=some (.int .i64 0):=(blk_cell BK126.out 0).trans rfl
      have hcz36_1:w31.cell? ⟨gb126,1,none⟩=some (.int .i64 0):=(blk_cell BK126.out 1).trans rfl
      have hcz36_2:w31.cell? ⟨gb126,2,none⟩=some (.int .i64 0):=(blk_cell BK126.out 2).trans rfl
      have hfz36_0:=blk_frozen BK126.out 0
      have hfz36_1:=blk_frozen BK126.out 1
      have hfz36_2:=blk_frozen BK126.out 2
      try go_wp2_with (first|((with_reducible refine gate_callee (f:=26) rfl ?_);refine goesL_ (some 26) rfl rfl Tryd.func26 (by kernel_rfl) rfl #[.agg #[.int .i64 t121,.int .i64 t123,.int .i64 t125]] rfl (by (try simp only [List.map_toArray,List.map_cons,List.map_nil]);first|done|rfl|(simp only [List.length_drop,List.length_take];rfl)) ?_;(with_reducible refine (spec_StampOk.calls t121 t123 t125 false _ A10.out).mono ?_);rintro e w37 ⟨rfl,hb⟩;refine ⟨_,rfl,?_⟩;have n0_:=Aside0.mk (Kd.R_below ((by (with_reducible repeat (first|apply Kd.R_alloc|apply Kd.R_drewN|apply Kd.R_drew));exact (Kd.R_mono (Kd.R_far (p:=⟨gb126,2,none⟩) (Kd.R_far (p:=⟨gb126,1,none⟩) (Kd.R_far (p:=⟨gb126,0,none⟩) (Kd.R_types HO119.out BK126.out (by decide)) (fun _ hk=>hk.2) (.int .i64 t121)) (fun _ hk=>hk.2) (.int .i64 t123)) (fun _ hk=>hk.2) (.int .i64 t125)) (fun _ h_=>h_.1)))) hb);have n1_:=Aside0.mk (blk_below (g:=gb116) (o:=.cells #[.int .i64 0,.int .i64 0,.int .i64 0] 25 (0,0)) (by (with_reducible repeat (first|refine blk_drewN ?_ _|refine blk_drew ?_|refine blk_alloc ?_ _));refine blk_far ?_ NB116_126.out _;(with_reducible repeat (first|refine blk_drewN ?_ _|refine blk_drew ?_|refine blk_alloc ?_ _));refine blk_far ?_ NB116_126.out _;(with_reducible repeat (first|refine blk_drewN ?_ _|refine blk_drew ?_|refine blk_alloc ?_ _));refine blk_far ?_ NB116_126.out _;(with_reducible repeat (first|refine blk_drewN ?_ _|refine blk_drew ?_|refine blk_alloc ?_ _));exact BK116.out) hb);have n2_:=Aside0.mk (blk_below (g:=gb126) (o:=.cells #[.int .i64 t121,.int .i64 t123,.int .i64 t125] 25 (0,0)) (by (with_reducible repeat (first|refine blk_drewN ?_ _|refine blk_drew ?_|refine blk_alloc ?_ _));refine blk_put (cs:=#[.int .i64 t121,.int .i64 t123,.int .i64 0]) ?_ 2 _ rfl;(with_reducible repeat (first|refine blk_drewN ?_ _|refine blk_drew ?_|refine blk_alloc ?_ _));refine blk_put (cs:=#[.int .i64 t121,.int .i64 0,.int .i64 0]) ?_ 1 _ rfl;(with_reducible repeat (first|refine blk_drewN ?_ _|refine blk_drew ?_|refine blk_alloc ?_ _));refine blk_put (cs:=#[.int .i64 0,.int .i64 0,.int .i64 0]) ?_ 0 _ rfl;(with_reducible repeat (first|refine blk_drewN ?_ _|refine blk_drew ?_|refine blk_alloc ?_ _));exact BK126.out) hb);have n3_:=bs hb;clear HO119;clear BK116;clear BK126;clear HB;have HO119:=n0_;have BK116:=n1_;have BK126:=n2_;have HB:=n3_;clear n0_ n1_ n2_ n3_;(try clear hb);(try clear hb2);(try clear hk);(try clear hi);have hcz38_0:w37.cell? ⟨gb116,0,none⟩=some (.int .i64 0):=(blk_cell BK116.out 0).trans rfl;have hcz38_1:w37.cell? ⟨gb116,1,none⟩=some (.int .i64 0):=(blk_cell BK116.out 1).trans rfl;have hcz38_2:w37.cell? ⟨gb116,2,none⟩=some (.int .i64 0):=(blk_cell BK116.out 2).trans rfl;have hfz38_0:=blk_frozen BK116.out 0;have hfz38_1:=blk_frozen BK116.out 1;have hfz38_2:=blk_frozen BK116.out 2))
      refine bodyPost_ret (results_ct rfl _ _ gb116 25 #[.int .i64 0,.int .i64 0,.int .i64 0] (0,0) _ rfl (by (with_reducible repeat (first|refine blk_drewN ?_ _|refine blk_drew ?_|refine blk_alloc ?_ _));refine blk_put (cs:=#[.int .i64 0,.int .i64 0,.int .i64 0]) ?_ 2 _ rfl;(with_reducible repeat (first|refine blk_drewN ?_ _|refine blk_drew ?_|refine blk_alloc ?_ _));refine blk_put (cs:=#[.int .i64 0,.int .i64 0,.int .i64 0]) ?_ 1 _ rfl;(with_reducible repeat (first|refine blk_drewN ?_ _|refine blk_drew ?_|refine blk_alloc ?_ _));refine blk_put (cs:=#[.int .i64 0,.int .i64 0,.int .i64 0]) ?_ 0 _ rfl;(with_reducible repeat (first|refine blk_drewN ?_ _|refine blk_drew ?_|refine blk_alloc ?_ _));exact BK116.out) Tryd.underlying25 rfl (by kernel_rfl)) rfl ?_
      exact ⟨rz,be⟩
    ·rw [if_neg c8] at H
     exact absurd H (by simp)
   ·rw [if_neg c6] at H
    exact absurd H (by simp)
  ·rw [if_neg c4] at H
   exact absurd H (by simp)
 ·rw [if_neg c3] at H
  have c3b0:((t117.length:Int) == 3)=false:=beq_eq_false_iff_ne.mpr c3
  have c3b1:((t117.length:Int) != 3)=true:=bne_iff_ne.mpr c3
  simp only [Option.some.injEq,Prod.mk.injEq] at H
  obtain ⟨rfl,rfl,rfl,rfl⟩:=H
  go_enter Tryd.func19,Tryd.ntmps19
  go_wp2_with (first|((with_reducible refine gate_dst (N:=2) rfl ?_);refine box_event ?hg (N:=2) ?hd (cs:=#[.int .i64 0,.int .i64 0,.int .i64 0]) (t:=25) ?hr ?_;(case hd=>rfl);(case hg=>rfl);(case hr=>first|(go_simp;done)|(go_simp;rfl));intro gb116 hg w39 hbox hb;have n0_:=bs hb;have n1_:=Aside0.mk (hbox);have n2_:=Aside0.mk ((by rw [hg];exact (below_size be):w.heap.size≤gb116));have n3_:=Aside0.mk ((by rw [hg];exact (below_size be):w.heap.size≤gb116));clear HB;have HB:=n0_;have BK116:=n1_;have GW116:=n2_;have GE116:=n3_;clear n0_ n1_ n2_ n3_;clear hb hbox hg)|((with_reducible refine gate_callee (f:=46) rfl ?_);refine goesL_ (some 7) rfl rfl Tryd.func46 (by kernel_rfl) rfl #[.string a0,.int .u8 46] rfl (by (try simp only [List.map_toArray,List.map_cons,List.map_nil]);first|done|rfl|(simp only [List.length_drop,List.length_take];rfl)) ?_;(with_reducible refine (spec_l2Split.calls k a0 46 t117 _ A2.out).mono ?_);rintro e w40 ⟨v118,rfl,ho0,hb⟩;refine ⟨_,rfl,?_⟩;have n0_:=Aside0.mk (Kd.R_lower ho0 (below_size be));have n1_:=Aside0.mk (blk_below (g:=gb116) (o:=.cells #[.int .i64 0,.int .i64 0,.int .i64 0] 25 (0,0)) (bk BK116) hb);have n2_:=bs hb;clear BK116;clear HB;have HO119:=n0_;have BK116:=n1_;have HB:=n2_;clear n0_ n1_ n2_;(try clear hb);(try clear hb2);(try clear hk);(try clear hi);(try clear ho0);obtain ⟨Ao41,co41,eo41⟩:=Kd.R_slice HO119.out;subst eo41;have hcz42_0:w40.cell? ⟨gb116,0,none⟩=some (.int .i64 0):=(blk_cell BK116.out 0).trans rfl;have hcz42_1:w40.cell? ⟨gb116,1,none⟩=some (.int .i64 0):=(blk_cell BK116.out 1).trans rfl;have hcz42_2:w40.cell? ⟨gb116,2,none⟩=some (.int .i64 0):=(blk_cell BK116.out 2).trans rfl;have hfz42_0:=blk_frozen BK116.out 0;have hfz42_1:=blk_frozen BK116.out 1;have hfz42_2:=blk_frozen BK116.out 2))
  refine bodyPost_ret (results_ct rfl _ _ gb116 25 #[.int .i64 0,.int .i64 0,.int .i64 0] (0,0) _ rfl (by (with_reducible repeat (first|refine blk_drewN ?_ _|refine blk_drew ?_|refine blk_alloc ?_ _));refine blk_put (cs:=#[.int .i64 0,.int .i64 0,.int .i64 0]) ?_ 2 _ rfl;(with_reducible repeat (first|refine blk_drewN ?_ _|refine blk_drew ?_|refine blk_alloc ?_ _));refine blk_put (cs:=#[.int .i64 0,.int .i64 0,.int .i64 0]) ?_ 1 _ rfl;(with_reducible repeat (first|refine blk_drewN ?_ _|refine blk_drew ?_|refine blk_alloc ?_ _));refine blk_put (cs:=#[.int .i64 0,.int .i64 0,.int .i64 0]) ?_ 0 _ rfl;(with_reducible repeat (first|refine blk_drewN ?_ _|refine blk_drew ?_|refine blk_alloc ?_ _));exact BK116.out) Tryd.underlying25 rfl (by kernel_rfl)) rfl ?_
  exact ⟨rz,be⟩
def impl_in.f (a0:Int) (a1:Int) (a2:Int):Option (Bool):=if a0 ≥ a1 then (some (decide (a0≤a2))) else (some false)
set_option maxHeartbeats 8000000 in
set_option maxRecDepth 100000 in
theorem impl_in.calls (a0:Int) (a1:Int) (a2:Int) (r:Bool) (w:World) (h:impl_in.f a0 a1 a2=some r) :
  Calls Tryd.prog 53 #[.int .i64 a0,.int .i64 a1,.int .i64 a2] w fun e w'=>e = .returned (.bool r)∧Drawn0 w w':=by
 have H:(if a0 ≥ a1 then (some (decide (a0≤a2))) else (some false))=some r:=h
 clear h
 by_cases c4:a0 ≥ a1
 ·rw [if_pos c4] at H
  have c4b0:decide (a1≤a0)=true:=decide_eq_true c4
  clear c4
  obtain rfl:=Option.some.inj H
  go_enter Tryd.func53,Tryd.ntmps53
  go_wp2
  go_ret
  exact ⟨by first|rfl|(simp;done)|(simp [*];done),by repeat (first|exact Drawn0.refl _|apply Drawn0.step)⟩
 ·rw [if_neg c4] at H
  have c4b0:decide (a1≤a0)=false:=decide_eq_false c4
  clear c4
  obtain rfl:=Option.some.inj H
  go_enter Tryd.func53,Tryd.ntmps53
  go_wp2
  go_ret
  exact ⟨by first|rfl|(simp;done)|(simp [*];done),by repeat (first|exact Drawn0.refl _|apply Drawn0.step)⟩
def impl_StampOk.f (a0_0:Int) (a0_1:Int) (a0_2:Int):Option (Bool):=(impl_in.f a0_0 0 1000000000).bind fun t129=>(if t129=true then ((impl_in.f a0_1 0 1000000).bind fun t130=>(if t130=true then ((impl_in.f a0_2 0 20).bind fun t131=>(some t131)) else (some false))) else (some false))
set_option maxHeartbeats 8000000 in
set_option maxRecDepth 100000 in
theorem impl_StampOk.calls (a0_0:Int) (a0_1:Int) (a0_2:Int) (r:Bool) (w:World) (h:impl_StampOk.f a0_0 a0_1 a0_2=some r) :
  Calls Tryd.prog 27 #[.agg #[.int .i64 a0_0,.int .i64 a0_1,.int .i64 a0_2]] w fun e w'=>e = .returned (.bool r)∧Below w.heap.size w w':=by
 have hu25:=Tryd.underlying25
 have HB:=Aside0.mk (Below.refl w.heap.size w)
 have H:((impl_in.f a0_0 0 1000000000).bind fun t129=>(if t129=true then ((impl_in.f a0_1 0 1000000).bind fun t130=>(if t130=true then ((impl_in.f a0_2 0 20).bind fun t131=>(some t131)) else (some false))) else (some false)))=some r:=h
 clear h
 replace H:=Option.bind_eq_some_iff.mp H
 obtain ⟨t129,A20,H⟩:=H
 try dsimp only at H
 have A2:=Aside0.mk A20
 clear A20
 by_cases c3:t129=true
 ·subst c3
  rw [if_pos rfl] at H
  replace H:=Option.bind_eq_some_iff.mp H
  obtain ⟨t130,A40,H⟩:=H
  try dsimp only at H
  have A4:=Aside0.mk A40
  clear A40
  by_cases c5:t130=true
  ·subst c5
   rw [if_pos rfl] at H
   replace H:=Option.bind_eq_some_iff.mp H
   obtain ⟨t131,A60,H⟩:=H
   try dsimp only at H
   have A6:=Aside0.mk A60
   clear A60
   obtain rfl:=Option.some.inj H
   go_enter Tryd.func27,Tryd.ntmps27
   go_wp2_with (first|((with_reducible refine gate_dst (N:=1) rfl ?_);refine box_event ?hg (N:=1) ?hd (cs:=#[.int .i64 a0_0,.int .i64 a0_1,.int .i64 a0_2]) (t:=25) ?hr ?_;(case hd=>rfl);(case hg=>rfl);(case hr=>first|(go_simp;done)|(go_simp;rfl));intro gb128 hg w7 hbox hb;have n0_:=bs hb;have n1_:=Aside0.mk (hbox);have n2_:=Aside0.mk ((by rw [hg];exact (below_size be):w.heap.size≤gb128));have n3_:=Aside0.mk ((by rw [hg];exact (below_size be):w.heap.size≤gb128));clear HB;have HB:=n0_;have BK128:=n1_;have GW128:=n2_;have GE128:=n3_;clear n0_ n1_ n2_ n3_;clear hb hbox hg;have hcz8_0:w7.cell? ⟨gb128,0,none⟩=some (.int .i64 a0_0):=(blk_cell BK128.out 0).trans rfl;have hcz8_1:w7.cell? ⟨gb128,1,none⟩=some (.int .i64 a0_1):=(blk_cell BK128.out 1).trans rfl;have hcz8_2:w7.cell? ⟨gb128,2,none⟩=some (.int .i64 a0_2):=(blk_cell BK128.out 2).trans rfl;have hfz8_0:=blk_frozen BK128.out 0;have hfz8_1:=blk_frozen BK128.out 1;have hfz8_2:=blk_frozen BK128.out 2)|((with_reducible refine gate_callee (f:=53) rfl ?_);refine goesL_ (some 5) rfl rfl Tryd.func53 (by kernel_rfl) rfl #[.int .i64 a0_0,.int .i64 0,.int .i64 1000000000] rfl (by (try simp only [List.map_toArray,List.map_cons,List.map_nil]);first|done|rfl|(simp only [List.length_drop,List.length_take];rfl)) ?_;(with_reducible refine (impl_in.calls a0_0 0 1000000000 true _ A2.out).mono ?_);rintro e w' ⟨rfl,⟨nd,rfl⟩⟩;refine ⟨_,rfl,?_⟩)|(go_at_call 53;(with_reducible refine (impl_in.calls a0_1 0 1000000 true _ A4.out).mono ?_);rintro e w' ⟨rfl,⟨nd,rfl⟩⟩)|(go_at_call 53;(with_reducible refine (impl_in.calls a0_2 0 20 t131 _ A6.out).mono ?_);rintro e w' ⟨rfl,⟨nd,rfl⟩⟩))
   go_ret
   exact ⟨rz,be⟩
  ·replace c5:=Bool.eq_false_iff.mpr c5
   subst c5
   have H1:(some false)=some r:=by rw [if_neg (show ¬ (false=true) by decide)] at H;exact H
   clear H
   have H:=H1
   clear H1
   obtain rfl:=Option.some.inj H
   go_enter Tryd.func27,Tryd.ntmps27
   go_wp2_with (first|((with_reducible refine gate_dst (N:=1) rfl ?_);refine box_event ?hg (N:=1) ?hd (cs:=#[.int .i64 a0_0,.int .i64 a0_1,.int .i64 a0_2]) (t:=25) ?hr ?_;(case hd=>rfl);(case hg=>rfl);(case hr=>first|(go_simp;done)|(go_simp;rfl));intro gb128 hg w9 hbox hb;have n0_:=bs hb;have n1_:=Aside0.mk (hbox);have n2_:=Aside0.mk ((by rw [hg];exact (below_size be):w.heap.size≤gb128));have n3_:=Aside0.mk ((by rw [hg];exact (below_size be):w.heap.size≤gb128));clear HB;have HB:=n0_;have BK128:=n1_;have GW128:=n2_;have GE128:=n3_;clear n0_ n1_ n2_ n3_;clear hb hbox hg;have hcz10_0:w9.cell? ⟨gb128,0,none⟩=some (.int .i64 a0_0):=(blk_cell BK128.out 0).trans rfl;have hcz10_1:w9.cell? ⟨gb128,1,none⟩=some (.int .i64 a0_1):=(blk_cell BK128.out 1).trans rfl;have hcz10_2:w9.cell? ⟨gb128,2,none⟩=some (.int .i64 a0_2):=(blk_cell BK128.out 2).trans rfl;have hfz10_0:=blk_frozen BK128.out 0;have hfz10_1:=blk_frozen BK128.out 1;have hfz10_2:=blk_frozen BK128.out 2)|((with_reducible refine gate_callee (f:=53) rfl ?_);refine goesL_ (some 5) rfl rfl Tryd.func53 (by kernel_rfl) rfl #[.int .i64 a0_0,.int .i64 0,.int .i64 1000000000] rfl (by (try simp only [List.map_toArray,List.map_cons,List.map_nil]);first|done|rfl|(simp only [List.length_drop,List.length_take];rfl)) ?_;(with_reducible refine (impl_in.calls a0_0 0 1000000000 true _ A2.out).mono ?_);rintro e w' ⟨rfl,⟨nd,rfl⟩⟩;refine ⟨_,rfl,?_⟩)|(go_at_call 53;(with_reducible refine (impl_in.calls a0_1 0 1000000 false _ A4.out).mono ?_);rintro e w' ⟨rfl,⟨nd,rfl⟩⟩))
   go_ret
   exact ⟨rz,be⟩
 ·replace c3:=Bool.eq_false_iff.mpr c3
  subst c3
  have H1:(some false)=some r:=by rw [if_neg (show ¬ (false=true) by decide)] at H;exact H
  clear H
  have H:=H1
  clear H1
  obtain rfl:=Option.some.inj H
  go_enter Tryd.func27,Tryd.ntmps27
  go_wp2_with (first|((with_reducible refine gate_dst (N:=1) rfl ?_);refine box_event ?hg (N:=1) ?hd (cs:=#[.int .i64 a0_0,.int .i64 a0_1,.int .i64 a0_2]) (t:=25) ?hr ?_;(case hd=>rfl);(case hg=>rfl);(case hr=>first|(go_simp;done)|(go_simp;rfl));intro gb128 hg w11 hbox hb;have n0_:=bs hb;have n1_:=Aside0.mk (hbox);have n2_:=Aside0.mk ((by rw [hg];exact (below_size be):w.heap.size≤gb128));have n3_:=Aside0.mk ((by rw [hg];exact (below_size be):w.heap.size≤gb128));clear HB;have HB:=n0_;have BK128:=n1_;have GW128:=n2_;have GE128:=n3_;clear n0_ n1_ n2_ n3_;clear hb hbox hg;have hcz12_0:w11.cell? ⟨gb128,0,none⟩=some (.int .i64 a0_0):=(blk_cell BK128.out 0).trans rfl;have hcz12_1:w11.cell? ⟨gb128,1,none⟩=some (.int .i64 a0_1):=(blk_cell BK128.out 1).trans rfl;have hcz12_2:w11.cell? ⟨gb128,2,none⟩=some (.int .i64 a0_2):=(blk_cell BK128.out 2).trans rfl;have hfz12_0:=blk_frozen BK128.out 0;have hfz12_1:=blk_frozen BK128.out 1;have hfz12_2:=blk_frozen BK128.out 2)|((with_reducible refine gate_callee (f:=53) rfl ?_);refine goesL_ (some 5) rfl rfl Tryd.func53 (by kernel_rfl) rfl #[.int .i64 a0_0,.int .i64 0,.int .i64 1000000000] rfl (by (try simp only [List.map_toArray,List.map_cons,List.map_nil]);first|done|rfl|(simp only [List.length_drop,List.length_take];rfl)) ?_;(with_reducible refine (impl_in.calls a0_0 0 1000000000 false _ A2.out).mono ?_);rintro e w' ⟨rfl,⟨nd,rfl⟩⟩;refine ⟨_,rfl,?_⟩))
  go_ret
  exact ⟨rz,be⟩
def strconv_Itoa.f (a0:Int):Option ByteArray:=if -9223372036854775808≤a0∧a0≤9223372036854775807 then some ⟨(Lib.itoa a0).toArray⟩ else none
theorem strconv_Itoa.calls (a0:Int) (r:ByteArray) (w:World) (hL:Aside0 (Go.Proofs.YtnoglmdicdpabaaDoor.St.Laid w)) (h:strconv_Itoa.f a0=some r) :
  Calls Tryd.prog 42 #[.int .i64 a0] w fun e w'=>e = .returned (.string r)∧Below w.heap.size w w':=by
 unfold strconv_Itoa.f at h
 by_cases hl : -9223372036854775808≤a0∧a0≤9223372036854775807
 ·rw [if_pos hl] at h
  obtain rfl:=Option.some.inj h
  refine (Tryd.strconv_Itoa a0 hl.1 hl.2 w (Go.Proofs.YtnoglmdicdpabaaDoor.St.tab_at hL)).mono fun e w' he=>?_
  obtain ⟨rfl,k,os,rfl⟩:=he
  exact ⟨rfl,Lib.below_grow w.heap.size w (Nat.le_refl _) k os⟩
 ·rw [if_neg hl] at h
  cases h
end Go.Proofs.YtnoglmdicdpabaaDoor.PFnExactParseStamp
