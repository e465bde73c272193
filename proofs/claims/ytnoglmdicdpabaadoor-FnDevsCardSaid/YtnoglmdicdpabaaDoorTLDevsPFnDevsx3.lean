/- Trimmed by a program of this session (trim.py). Not trusted: Lean checks it. -/
import Derived.Test.YtnoglmdicdpabaaDoorTLDevsPFnDevsx0
import Derived.Test.YtnoglmdicdpabaaDoorTLDevsPFnDevsx2
import Derived.Lib.AtoiErrMem
import Derived.Lib.SplitLaws
import Derived.Test.YtnoglmdicdpabaaDoorTLDevsLaidE
import Derived.Test.YtnoglmdicdpabaaDoorTLDevsShelf
namespace Go.Proofs.YtnoglmdicdpabaaDoor.PFnDevs
open Go.RowKit Go.Proofs.YtnoglmdicdpabaaDoorW.PrintWords Go.Proofs.YtnoglmdicdpabaaDoorW.PrintLast Go.Proofs.YtnoglmdicdpabaaDoorW.PrintMore Go.Proofs.YtnoglmdicdpabaaDoor.St
attribute [local go_sem] max2_int min2_int max_two min_two max_three min_three max_four min_four
set_option linter.unusedVariables false
set_option linter.unusedSimpArgs false
def impl_DevsText.l0:Nat→List ByteArray→List (S53)→Int→Int→Option (ByteArray)
 | 0,_,_,_,_=>none
 | k+1,x3,x9,x10,x11=>if x11 < x10 then (if 0≤x11 then (if x11 < (x9.length:Int) then ((strconv_Itoa.f ((rd_T53 x9 x11).f0)).bind fun t111=>(if t111.size+1≤9223372036854775807 then ((strconv_Itoa.f ((rd_T53 x9 x11).f1)).bind fun t112=>(if (t111 ++ (⟨#[58]⟩:ByteArray)).size+t112.size≤9223372036854775807 then (if ((t111 ++ (⟨#[58]⟩:ByteArray)) ++ t112).size+1≤9223372036854775807 then ((strconv_Itoa.f ((rd_T53 x9 x11).f2)).bind fun t113=>(if (((t111 ++ (⟨#[58]⟩:ByteArray)) ++ t112) ++ (⟨#[58]⟩:ByteArray)).size+t113.size≤9223372036854775807 then (if x3.length < 8796093022208 then (impl_DevsText.l0 k (x3 ++ [(((t111 ++ (⟨#[58]⟩:ByteArray)) ++ t112) ++ (⟨#[58]⟩:ByteArray)) ++ t113]) x9 x10 (wrap64 (x11+1))) else (none)) else (none))) else (none)) else (none))) else (none))) else (none)) else (none)) else ((strings_Join.f x3 (⟨#[32]⟩:ByteArray)).bind fun bt117=>(some bt117.1))
def impl_DevsText.f (k:Nat) (l0:List (S53)):Option (ByteArray):=(impl_DevsOk.f k l0).bind fun t108=>(if t108=true then (impl_DevsText.l0 k ([]:List ByteArray) l0 (l0.length:Int) 0) else (some (⟨#[]⟩:ByteArray)))
def impl_DevsText.T7:Bool × List (List Nat × List Nat):=(true,[([],[]),([],[]),([1],[1]),([2],[2]),([3],[3]),([],[]),([5],[5]),([6,3],[6]),([4,7],[4,7]),([8],[8]),([],[]),([10],[10]),([11,7],[11]),([9,12],[9,12]),([13],[13]),([0,14,12],[0,14]),([15,15,0,1,2,3,4,5,6,7,8,9,10,11,12,13,14,15],[0,15])])
def impl_DevsText.B7:List Nat:=[0,0,2,6,14,0,32,110,254,510,0,1024,3310,8190,16382,32767,65535]
theorem impl_DevsText.tab7:rtab .any (opsOf Tryd.f17 7)=impl_DevsText.T7:=by kernel_rfl
theorem impl_DevsText.bits7:waitsOk impl_DevsText.T7.2 impl_DevsText.B7=true:=by kernel_rfl
set_option maxHeartbeats 8000000 in
set_option maxRecDepth 100000 in
theorem impl_DevsText.calls (k:Nat) (A0:Option Addr) (c0:Nat) (l0:List (S53)) (r:ByteArray) (w:World) (hL:Aside0 (Laid w)) (hr0:Kd.C k53 w A0 l0.length l0) (hc0:l0.length≤c0) (h:impl_DevsText.f k l0=some r) :
  Calls Tryd.prog 17 #[.slice A0 l0.length c0] w fun e w'=>e = .returned (.string r)∧Below w.heap.size w w':=by
 have hu53:=Tryd.underlying53
 have HR0:=Aside0.mk hr0
 have HC0:=Aside0.mk hc0
 clear hr0 hc0
 have HB:=Aside0.mk (Below.refl w.heap.size w)
 have H:((impl_DevsOk.f k l0).bind fun t108=>(if t108=true then (impl_DevsText.l0 k ([]:List ByteArray) l0 (l0.length:Int) 0) else (some (⟨#[]⟩:ByteArray))))=some r:=h
 clear h
 replace H:=Option.bind_eq_some_iff.mp H
 obtain ⟨t108,A20,H⟩:=H
 try dsimp only at H
 have A2:=Aside0.mk A20
 clear A20
 by_cases c3:t108=true
 ·subst c3
  rw [if_pos rfl] at H
  have H':=Aside0.mk H
  clear H
  go_enter Tryd.func17,Tryd.ntmps17
  go_wp2_with (first|((with_reducible refine gate_callee (f:=34) rfl ?_);refine goesL_ (some 7) rfl rfl Tryd.func34 (by kernel_rfl) rfl #[.slice A0 l0.length c0] rfl (by (try simp only [List.map_toArray,List.map_cons,List.map_nil]);first|done|rfl|(simp only [List.length_drop,List.length_take];rfl)) ?_;(with_reducible refine (impl_DevsOk.calls k _ _ l0 true _ ?side1 ?side2 A2.out).mono ?_);(case side1=>exact sC HR0);(case side2=>exact HC0.out);rintro e w4 ⟨rfl,hb⟩;refine ⟨_,rfl,?_⟩;have n0_:=bs hb;clear HB;have HB:=n0_;clear n0_;(try clear hb);(try clear hb2);(try clear hk);(try clear hi)))
  go_loopg [3,11] k (fun kq v3 v11 w'=>∃ (x3_1:List ByteArray) (x11_1:Int),v11 = .int .i64 x11_1∧Aside0 (impl_DevsText.l0 kq x3_1 l0 (l0.length:Int) x11_1=some r)∧Aside0 (kq≤k)∧Aside0 (Kd.R Kd.string 9 w' w.heap.size (fun _=>True) v3 x3_1)∧Aside0 (Below w.heap.size w w'))
  case atStart=>exact ⟨(([]:List ByteArray)),(0),rd_,H',⟨Nat.le_refl _⟩,⟨by first|exact Kd.R_nil _ _ _ _ _|exact Kd.N_nil _ _ _ _ _|exact Kd.V_nil _ _ _ _ _|exact Kd.Q_nil _ _ _ _ _|exact Kd.S_nil _ _ _ _ _⟩,⟨be⟩⟩
  case round=>
   clear H'
   try clear c1
   try clear p2
   try clear c3
   obtain ⟨x3_1,x11_1,rfl,HA,HK1,HO_3,HB⟩:=hrel
   cases gk with
   | zero=>exact absurd HA.out (by simp [impl_DevsText.l0])
   | succ k1=>
    have H:=HA.out
    clear HA
    simp only [impl_DevsText.l0] at H
    by_cases c5:x11_1 < (l0.length:Int)
    ·rw [if_pos c5] at H
     have c5b0:decide (x11_1 < (l0.length:Int))=true:=decide_eq_true c5
     clear c5
     by_cases c6:0≤x11_1
     ·rw [if_pos c6] at H
      have c6b0:decide (0≤x11_1)=true:=decide_eq_true c6
      clear c6
      by_cases c7:x11_1 < (l0.length:Int)
      ·rw [if_pos c7] at H
       have c7b0:decide (x11_1 < (l0.length:Int))=true:=decide_eq_true c7
       clear c7
       replace H:=Option.bind_eq_some_iff.mp H
       obtain ⟨t111,A80,H⟩:=H
       try dsimp only at H
       have A8:=Aside0.mk A80
       clear A80
       by_cases c9:t111.size+1≤9223372036854775807
       ·rw [if_pos c9] at H
        have c9b0:=eq_true c9
        have c9b1:decide (t111.size+1≤9223372036854775807)=true:=decide_eq_true c9
        try have c9b2:(9223372036854775807 < t111.size+1)=False:=eq_false (Nat.not_lt.2 c9)
        replace H:=Option.bind_eq_some_iff.mp H
        obtain ⟨t112,A100,H⟩:=H
        try dsimp only at H
        have A10:=Aside0.mk A100
        clear A100
        by_cases c11:(t111 ++ (⟨#[58]⟩:ByteArray)).size+t112.size≤9223372036854775807
        ·rw [if_pos c11] at H
         have c11b0:=eq_true c11
         have c11b1:decide ((t111 ++ (⟨#[58]⟩:ByteArray)).size+t112.size≤9223372036854775807)=true:=decide_eq_true c11
         try have c11b2:(9223372036854775807 < (t111 ++ (⟨#[58]⟩:ByteArray)).size+t112.size)=False:=eq_false (Nat.not_lt.2 c11)
         try (have c11b3:=Nat.not_lt.2 c11;simp only [ByteArray.size_append,one_size] at c11b3;replace c11b3:=eq_false c11b3)
         by_cases c12:((t111 ++ (⟨#[58]⟩:ByteArray)) ++ t112).size+1≤9223372036854775807
         ·rw [if_pos c12] at H
          have c12b0:=eq_true c12
          have c12b1:decide (((t111 ++ (⟨#[58]⟩:ByteArray)) ++ t112).size+1≤9223372036854775807)=true:=decide_eq_true c12
          try have c12b2:(9223372036854775807 < ((t111 ++ (⟨#[58]⟩:ByteArray)) ++ t112).size+1)=False:=eq_false (Nat.not_lt.2 c12)
          try (have c12b3:=Nat.not_lt.2 c12;simp only [ByteArray.size_append,one_size] at c12b3;replace c12b3:=eq_false c12b3)
          replace H:=Option.bind_eq_some_iff.mp H
          obtain ⟨t113,A130,H⟩:=H
          try dsimp only at H
          have A13:=Aside0.mk A130
          clear A130
          by_cases c14:(((t111 ++ (⟨#[58]⟩:ByteArray)) ++ t112) ++ (⟨#[58]⟩:ByteArray)).size+t113.size≤9223372036854775807
          ·rw [if_pos c14] at H
           have c14b0:=eq_true c14
           have c14b1:decide ((((t111 ++ (⟨#[58]⟩:ByteArray)) ++ t112) ++ (⟨#[58]⟩:ByteArray)).size+t113.size≤9223372036854775807)=true:=decide_eq_true c14
           try have c14b2:(9223372036854775807 < (((t111 ++ (⟨#[58]⟩:ByteArray)) ++ t112) ++ (⟨#[58]⟩:ByteArray)).size+t113.size)=False:=eq_false (Nat.not_lt.2 c14)
           try (have c14b3:=Nat.not_lt.2 c14;simp only [ByteArray.size_append,one_size] at c14b3;replace c14b3:=eq_false c14b3)
           by_cases c15:x3_1.length < 8796093022208
           ·rw [if_pos c15] at H
            have LMc15:=Aside0.mk c15
            clear c15
            obtain ⟨y114,hy114⟩ : ∃ y_:List ByteArray,y_=(x3_1 ++ [(((t111 ++ (⟨#[58]⟩:ByteArray)) ++ t112) ++ (⟨#[58]⟩:ByteArray)) ++ t113]):=⟨_,rfl⟩
            replace H:(impl_DevsText.l0 k1 y114 l0 (l0.length:Int) (wrap64 (x11_1+1)))=some r:=by first|(rw [hy114];with_reducible exact H)|(have H2_:=(Option.bind_some _ _).symm.trans H;rw [hy114];with_reducible exact H2_)|(have H2_:=(Option.bind_some _ _).symm.trans H;with_reducible exact H2_)|with_reducible exact H|(rw [hy114];exact H)|exact H
            have Ny114:=Aside0.mk hy114
            clear hy114
            have H':=Aside0.mk H
            clear H
            have p109:0≤(x11_1:Int):=of_decide_eq_true (by first|(with_reducible assumption)|assumption)
            have q109:x11_1 < (l0.length:Int):=of_decide_eq_true (by first|(with_reducible assumption)|assumption)
            obtain ⟨ad109,e109,hx109_0,hx109_1,hx109_2⟩:=at_T53 HR0.out x11_1 p109 q109
            cases e109
            replace hx109_0:=(HB.out.cell (World.block_lt_of_cell? w _ hx109_0)).trans hx109_0
            replace hx109_1:=(HB.out.cell (World.block_lt_of_cell? w _ hx109_1)).trans hx109_1
            replace hx109_2:=(HB.out.cell (World.block_lt_of_cell? w _ hx109_2)).trans hx109_2
            replace p109:=eq_true p109
            replace q109:=eq_true q109
            try go_wp2_with (first|((with_reducible refine gate_dst (N:=5) rfl ?_);refine box_event ?hg (N:=5) ?hd (cs:=#[.int .i64 0,.int .i64 0,.int .i64 0]) (t:=53) ?hr ?_;(case hd=>rfl);(case hg=>rfl);(case hr=>first|(go_simp;done)|(go_simp;rfl));intro gb110 hg w16 hbox hb;have n0_:=Aside0.mk (Kd.R_below (rR HO_3) hb);have n1_:=bs hb;have n2_:=Aside0.mk (hbox);have n3_:=Aside0.mk ((by rw [hg];exact (below_size be):w.heap.size≤gb110));have n4_:=Aside0.mk ((by rw [hg];exact (below_size be):w.heap.size≤gb110));clear HO_3;clear HB;have HO_3:=n0_;have HB:=n1_;have BK110:=n2_;have GW110:=n3_;have GE110:=n4_;clear n0_ n1_ n2_ n3_ n4_;clear hb hbox hg;have hcz17_0:w16.cell? ⟨gb110,0,none⟩=some (.int .i64 0):=(blk_cell BK110.out 0).trans rfl;have hcz17_1:w16.cell? ⟨gb110,1,none⟩=some (.int .i64 0):=(blk_cell BK110.out 1).trans rfl;have hcz17_2:w16.cell? ⟨gb110,2,none⟩=some (.int .i64 0):=(blk_cell BK110.out 2).trans rfl;have hfz17_0:=blk_frozen BK110.out 0;have hfz17_1:=blk_frozen BK110.out 1;have hfz17_2:=blk_frozen BK110.out 2))
            have n0_:Aside0 (Kd.R Kd.string 9 (((w16.setCell ⟨gb110,0,none⟩ (.int .i64 ((rd_T53 l0 x11_1).f0))).setCell ⟨gb110,1,none⟩ (.int .i64 ((rd_T53 l0 x11_1).f1))).setCell ⟨gb110,2,none⟩ (.int .i64 ((rd_T53 l0 x11_1).f2))) w.heap.size (fun _=>True) u3 x3_1):=⟨by (with_reducible repeat (first|apply Kd.R_alloc|apply Kd.R_drewN|apply Kd.R_drew));exact Kd.R_mono (Kd.R_far (p:=⟨gb110,2,none⟩) (Kd.R_far (p:=⟨gb110,1,none⟩) (Kd.R_far (p:=⟨gb110,0,none⟩) (Kd.R_types HO_3.out BK110.out (by decide)) (fun _ hk=>hk.2) (.int .i64 ((rd_T53 l0 x11_1).f0))) (fun _ hk=>hk.2) (.int .i64 ((rd_T53 l0 x11_1).f1))) (fun _ hk=>hk.2) (.int .i64 ((rd_T53 l0 x11_1).f2))) (fun _ hk=>trivial)⟩
            have n1_:Aside0 ((((w16.setCell ⟨gb110,0,none⟩ (.int .i64 ((rd_T53 l0 x11_1).f0))).setCell ⟨gb110,1,none⟩ (.int .i64 ((rd_T53 l0 x11_1).f1))).setCell ⟨gb110,2,none⟩ (.int .i64 ((rd_T53 l0 x11_1).f2))).heap[gb110]?=some (.cells #[.int .i64 ((rd_T53 l0 x11_1).f0),.int .i64 ((rd_T53 l0 x11_1).f1),.int .i64 ((rd_T53 l0 x11_1).f2)] 53 (0,0))):=⟨by (with_reducible repeat (first|refine blk_drewN ?_ _|refine blk_drew ?_|refine blk_alloc ?_ _));refine blk_put (cs:=#[.int .i64 ((rd_T53 l0 x11_1).f0),.int .i64 ((rd_T53 l0 x11_1).f1),.int .i64 0]) ?_ 2 _ rfl;(with_reducible repeat (first|refine blk_drewN ?_ _|refine blk_drew ?_|refine blk_alloc ?_ _));refine blk_put (cs:=#[.int .i64 ((rd_T53 l0 x11_1).f0),.int .i64 0,.int .i64 0]) ?_ 1 _ rfl;(with_reducible repeat (first|refine blk_drewN ?_ _|refine blk_drew ?_|refine blk_alloc ?_ _));refine blk_put (cs:=#[.int .i64 0,.int .i64 0,.int .i64 0]) ?_ 0 _ rfl;(with_reducible repeat (first|refine blk_drewN ?_ _|refine blk_drew ?_|refine blk_alloc ?_ _));exact BK110.out⟩
            have n2_:Aside0 (Below w.heap.size w (((w16.setCell ⟨gb110,0,none⟩ (.int .i64 ((rd_T53 l0 x11_1).f0))).setCell ⟨gb110,1,none⟩ (.int .i64 ((rd_T53 l0 x11_1).f1))).setCell ⟨gb110,2,none⟩ (.int .i64 ((rd_T53 l0 x11_1).f2)))):=⟨be⟩
            (try clear HO_3)
            (try clear BK110)
            (try clear HB)
            generalize (((w16.setCell ⟨gb110,0,none⟩ (.int .i64 ((rd_T53 l0 x11_1).f0))).setCell ⟨gb110,1,none⟩ (.int .i64 ((rd_T53 l0 x11_1).f1))).setCell ⟨gb110,2,none⟩ (.int .i64 ((rd_T53 l0 x11_1).f2)))=w18 at n0_ n1_ n2_ ⊢
            have HO_3:=n0_
            have BK110:=n1_
            have HB:=n2_
            clear n0_ n1_ n2_
            have n0_:=Aside0.mk (Kd.R_drew HO_3.out)
            have n1_:=Aside0.mk (blk_drew BK110.out)
            have n2_:=Aside0.mk (below_drew1 HB.out)
            clear HO_3
            clear BK110
            clear HB
            have HO_3:=n0_
            have BK110:=n1_
            have HB:=n2_
            clear n0_ n1_ n2_
            refine start_ (n:=17) (S:=fun w'=>w'.cell? ⟨gb110,0,none⟩=some (.int .i64 ((rd_T53 l0 x11_1).f0))∧w'.cell? ⟨gb110,1,none⟩=some (.int .i64 ((rd_T53 l0 x11_1).f1))∧w'.cell? ⟨gb110,2,none⟩=some (.int .i64 ((rd_T53 l0 x11_1).f2))) (ds:=[]) (fl 17 0) (by kernel_rfl) rfl rfl ⟨(blk_cell BK110.out 0).trans rfl,(blk_cell BK110.out 1).trans rfl,(blk_cell BK110.out 2).trans rfl⟩ (fun hHeld=>?_);refine with_tabW impl_DevsText.tab7 impl_DevsText.bits7 (fun HT_ HW_=>?_)
            generalize w18.drew=w19 at HO_3 BK110 HB hHeld ⊢
            refine pt 0 15 (fl 17 1) HT_ ?_
            refine pt 1 16 (fl 17 3) HT_ ?_
            refine pt 5 20 (fl 17 35) HT_ ?_
            refine pt 10 25 (fl 17 1059) HT_ ?_
            refine tt 2 17 (fl 17 1063) HT_ HW_ hHeld ?_
            refine tt 6 21 (fl 17 1127) HT_ HW_ hHeld ?_
            refine tt 11 26 (fl 17 3175) HT_ HW_ hHeld ?_
            refine ot 3 (some 18) (fl 17 3183) HT_ (fun K hK=>?_)
            refine goes_ Tryd.func42 (by kernel_rfl) rfl #[.int .i64 ((rd_T53 l0 x11_1).f0)] (by rfl) rfl rfl (by (try simp only [List.map_toArray,List.map_cons,List.map_nil]);first|done|rfl|(simp only [List.length_drop,List.length_take];rfl)) ?_
            with_reducible refine (strconv_Itoa.calls ((rd_T53 l0 x11_1).f0) t111 _ ?side1 A8.out).mono ?_
            (case side1=>exact lb hL)
            rintro e w20 ⟨rfl,hb⟩
            refine ⟨_,rfl,?_⟩
            have n0_:=Aside0.mk (Kd.R_below ((rR HO_3)) hb)
            have n1_:=Aside0.mk (blk_below (g:=gb110) (o:=.cells #[.int .i64 ((rd_T53 l0 x11_1).f0),.int .i64 ((rd_T53 l0 x11_1).f1),.int .i64 ((rd_T53 l0 x11_1).f2)] 53 (0,0)) (bk BK110) hb)
            have n2_:=bs hb
            clear HO_3
            clear BK110
            clear HB
            have HO_3:=n0_
            have BK110:=n1_
            have HB:=n2_
            clear n0_ n1_ n2_
            (try clear hb)
            (try clear hb2)
            (try clear hk)
            (try clear hi)
            refine hK.out _ _ ⟨(blk_cell BK110.out 0).trans rfl,(blk_cell BK110.out 1).trans rfl,(blk_cell BK110.out 2).trans rfl⟩ (fun hHeld=>?_)
            clear hK K
            refine no 18 ?_
            refine pt 4 19 (fl 17 3199) HT_ ?_
            refine ot 7 (some 22) (fl 17 3327) HT_ (fun K hK=>?_)
            refine goes_ Tryd.func42 (by kernel_rfl) rfl #[.int .i64 ((rd_T53 l0 x11_1).f1)] (by rfl) rfl rfl (by (try simp only [List.map_toArray,List.map_cons,List.map_nil]);first|done|rfl|(simp only [List.length_drop,List.length_take];rfl)) ?_
            with_reducible refine (strconv_Itoa.calls ((rd_T53 l0 x11_1).f1) t112 _ ?side1 A10.out).mono ?_
            (case side1=>exact lb hL)
            rintro e w21 ⟨rfl,hb⟩
            refine ⟨_,rfl,?_⟩
            have n0_:=Aside0.mk (Kd.R_below ((rR HO_3)) hb)
            have n1_:=Aside0.mk (blk_below (g:=gb110) (o:=.cells #[.int .i64 ((rd_T53 l0 x11_1).f0),.int .i64 ((rd_T53 l0 x11_1).f1),.int .i64 ((rd_T53 l0 x11_1).f2)] 53 (0,0)) (bk BK110) hb)
            have n2_:=bs hb
            clear HO_3
            clear BK110
            clear HB
            have HO_3:=n0_
            have BK110:=n1_
            have HB:=n2_
            clear n0_ n1_ n2_
            (try clear hb)
            (try clear hb2)
            (try clear hk)
            (try clear hi)
            refine hK.out _ _ ⟨(blk_cell BK110.out 0).trans rfl,(blk_cell BK110.out 1).trans rfl,(blk_cell BK110.out 2).trans rfl⟩ (fun hHeld=>?_)
            clear hK K
            refine no 22 ?_
            refine pt 8 23 (fl 17 3583) HT_ ?_
            refine pt 9 24 (fl 17 4095) HT_ ?_
            refine ot 12 (some 27) (fl 17 8191) HT_ (fun K hK=>?_)
            refine goes_ Tryd.func42 (by kernel_rfl) rfl #[.int .i64 ((rd_T53 l0 x11_1).f2)] (by rfl) rfl rfl (by (try simp only [List.map_toArray,List.map_cons,List.map_nil]);first|done|rfl|(simp only [List.length_drop,List.length_take];rfl)) ?_
            with_reducible refine (strconv_Itoa.calls ((rd_T53 l0 x11_1).f2) t113 _ ?side1 A13.out).mono ?_
            (case side1=>exact lb hL)
            rintro e w22 ⟨rfl,hb⟩
            refine ⟨_,rfl,?_⟩
            have n0_:=Aside0.mk (Kd.R_below ((rR HO_3)) hb)
            have n1_:=Aside0.mk (blk_below (g:=gb110) (o:=.cells #[.int .i64 ((rd_T53 l0 x11_1).f0),.int .i64 ((rd_T53 l0 x11_1).f1),.int .i64 ((rd_T53 l0 x11_1).f2)] 53 (0,0)) (bk BK110) hb)
            have n2_:=bs hb
            clear HO_3
            clear BK110
            clear HB
            have HO_3:=n0_
            have BK110:=n1_
            have HB:=n2_
            clear n0_ n1_ n2_
            (try clear hb)
            (try clear hb2)
            (try clear hk)
            (try clear hi)
            refine hK.out _ _ ⟨(blk_cell BK110.out 0).trans rfl,(blk_cell BK110.out 1).trans rfl,(blk_cell BK110.out 2).trans rfl⟩ (fun hHeld=>?_)
            clear hK K
            refine no 27 ?_
            refine pt 13 28 (fl 17 16383) HT_ ?_
            refine ot 14 (some 29) (fl 17 32767) HT_ (fun K hK=>?_)
            refine value_ (w1:=?_) (v:=?_) (by rfl) rfl ?_ ?_
            rotate_left 2
            ·go_simp
             constructor
             ·rfl
             ·rfl
            refine hK.out _ _ ⟨(blk_cell (blk_alloc BK110.out _) 0).trans rfl,(blk_cell (blk_alloc BK110.out _) 1).trans rfl,(blk_cell (blk_alloc BK110.out _) 2).trans rfl⟩ (fun hHeld=>?_)
            clear hK K
            refine no 29 ?_
            refine ot 15 (some 30) (fl 17 65535) HT_ (fun K hK=>?_)
            refine Kd.R_append_step Kd.string (w0:=w) w.heap.size (by rfl) (.tmp 15) (.tmp 29) 60 9 (.string ⟨#[]⟩) 16 rfl Tryd.underlying60 info9 rfl (by decide) (by omega) u3 x3_1 ((((t111 ++ (⟨#[58]⟩:ByteArray)) ++ t112) ++ (⟨#[58]⟩:ByteArray)) ++ t113) [.string ((((t111 ++ (⟨#[58]⟩:ByteArray)) ++ t112) ++ (⟨#[58]⟩:ByteArray)) ++ t113)] (fun _=>True) (fun _=>False) rfl rfl ?aP (fun _ hk=>hk.elim) ?aF ?aO ?aB ?aS ?aL ?_
            (case aP=>exact rfl)
            (case aB=>exact be)
            (case aF=>exact (fun _ _=>trivial))
            (case aO=>exact (rR HO_3))
            (case aS=>exact (below_size be))
            (case aL=>have:=LMc15.out;omega)
            intro v115 w23 ho hb hg hat
            rw [← Ny114.out] at ho
            have n0_:=Aside0.mk (blk_grown (g:=gb110) (o:=.cells #[.int .i64 ((rd_T53 l0 x11_1).f0),.int .i64 ((rd_T53 l0 x11_1).f1),.int .i64 ((rd_T53 l0 x11_1).f2)] 53 (0,0)) (bk BK110) hg (Kd.R_ne HO_3.out BK110.out (by decide)))
            have n1_:=Aside0.mk (hb)
            have n2_:=Aside0.mk (ho)
            clear BK110
            clear HB
            clear HO_3
            have BK110:=n0_
            have HB:=n1_
            have HO116:=n2_
            clear n0_ n1_ n2_
            clear ho hb hg hat
            refine hK.out _ _ ⟨(blk_cell BK110.out 0).trans rfl,(blk_cell BK110.out 1).trans rfl,(blk_cell BK110.out 2).trans rfl⟩ (fun hHeld=>?_)
            clear hK K
            refine no 30 ?_
            refine pt 16 3 (fl 17 131071) HT_ ?_
            refine done_ (done_of HT_.out (by kernel_rfl)) ?_
            try go_wp2
            go_roundg k1
            case measure=>have:=HK1.out;omega
            case rel=>exact ⟨(y114),(wrap64 (x11_1+1)),rd_,H',⟨by have:=HK1.out;omega⟩,⟨rR HO116⟩,⟨be⟩⟩
           ·rw [if_neg c15] at H
            exact absurd H (by simp)
          ·rw [if_neg c14] at H
           exact absurd H (by simp)
         ·rw [if_neg c12] at H
          exact absurd H (by simp)
        ·rw [if_neg c11] at H
         exact absurd H (by simp)
       ·rw [if_neg c9] at H
        exact absurd H (by simp)
      ·rw [if_neg c7] at H
       exact absurd H (by simp)
     ·rw [if_neg c6] at H
      exact absurd H (by simp)
    ·rw [if_neg c5] at H
     have c5b0:decide (x11_1 < (l0.length:Int))=false:=decide_eq_false c5
     clear c5
     replace H:=Option.bind_eq_some_iff.mp H
     obtain ⟨⟨t117,t118⟩,A240,H⟩:=H
     try dsimp only at H
     have A24:=Aside0.mk A240
     clear A240
     obtain rfl:=Option.some.inj H
     obtain ⟨Ao25,co25,eo25⟩:=Kd.R_slice HO_3.out
     subst eo25
     go_wp2_with (first|((with_reducible refine gate_callee (f:=44) rfl ?_);refine goesL_ (some 33) rfl rfl Tryd.func44 (by kernel_rfl) rfl #[.slice Ao25 x3_1.length co25,.string (⟨#[32]⟩:ByteArray)] rfl (by (try simp only [List.map_toArray,List.map_cons,List.map_nil]);first|done|rfl|(simp only [List.length_drop,List.length_take];rfl)) ?_;(with_reducible refine (strings_Join.calls (fun k_=>some k_=(.slice Ao25 x3_1.length co25:Value).ownBlock) (.slice Ao25 x3_1.length co25) x3_1 (⟨#[32]⟩:ByteArray) t117 t118 w _ ?side1 ?side2 A24.out).mono ?_);(case side1=>exact be);(case side2=>exact Kd.R_tight rfl HO_3.out);rintro e w26 ⟨rfl,hy0,hb,hkp⟩;refine ⟨_,rfl,?_⟩;have n0_:=Aside0.mk (Kd.R_reok rfl hy0 (fun k_ e_=>HO_3.out.1 k_ e_));have n1_:=Aside0.mk (hb);clear HO_3;clear HB;have HO_3:=n0_;have HB:=n1_;clear n0_ n1_;(try clear hb);(try clear hkp);(try clear hy0)))
     go_ret
     exact ⟨rz,be⟩
 ·replace c3:=Bool.eq_false_iff.mpr c3
  subst c3
  have H1:(some (⟨#[]⟩:ByteArray))=some r:=by rw [if_neg (show ¬ (false=true) by decide)] at H;exact H
  clear H
  have H:=H1
  clear H1
  obtain rfl:=Option.some.inj H
  go_enter Tryd.func17,Tryd.ntmps17
  go_wp2_with (first|((with_reducible refine gate_callee (f:=34) rfl ?_);refine goesL_ (some 7) rfl rfl Tryd.func34 (by kernel_rfl) rfl #[.slice A0 l0.length c0] rfl (by (try simp only [List.map_toArray,List.map_cons,List.map_nil]);first|done|rfl|(simp only [List.length_drop,List.length_take];rfl)) ?_;(with_reducible refine (impl_DevsOk.calls k _ _ l0 false _ ?side1 ?side2 A2.out).mono ?_);(case side1=>exact sC HR0);(case side2=>exact HC0.out);rintro e w27 ⟨rfl,hb⟩;refine ⟨_,rfl,?_⟩;have n0_:=bs hb;clear HB;have HB:=n0_;clear n0_;(try clear hb);(try clear hb2);(try clear hk);(try clear hi)))
  go_ret
  exact ⟨rz,be⟩
def laws_big.f (l0:List Int):Option (Bool):=some (decide ((l0.length:Int) > 1048576))
set_option maxHeartbeats 8000000 in
set_option maxRecDepth 100000 in
theorem laws_big.calls (A0:Option Addr) (c0:Nat) (l0:List Int) (r:Bool) (w:World) (hr0:Kd.C (Kd.int .u8) w A0 l0.length l0) (hc0:l0.length≤c0) (h:laws_big.f l0=some r) :
  Calls Tryd.prog 22 #[.slice A0 l0.length c0] w fun e w'=>e = .returned (.bool r)∧Drawn0 w w':=by
 have HR0:=Aside0.mk hr0
 have HC0:=Aside0.mk hc0
 clear hr0 hc0
 have H:(some (decide ((l0.length:Int) > 1048576)))=some r:=h
 clear h
 obtain rfl:=Option.some.inj H
 go_enter Tryd.func22,Tryd.ntmps22
 go_wp2
 go_ret
 exact ⟨by first|rfl|(simp;done)|(simp [*];done),by repeat (first|exact Drawn0.refl _|apply Drawn0.step)⟩
def strings_Split.f (a0:ByteArray) (a1:ByteArray):Option (List ByteArray):=if a0.size < 4294967281∧1≤a1.size then some (Lib.splitB a1 0 (Lib.countB a0 a1) a0) else none
theorem strings_Split.calls (a0:ByteArray) (a1:ByteArray) (r:List ByteArray) (w:World) (hL:Aside0 (Go.Proofs.YtnoglmdicdpabaaDoor.St.Laid w)) (h:strings_Split.f a0 a1=some r) :
  Calls Tryd.prog 56 #[.string a0,.string a1] w fun e w'=>∃ v0_:Value,e = .returned (v0_)∧Kd.R Kd.string 9 w' w.heap.size (fun _=>True) v0_ r∧Below w.heap.size w w':=by
 unfold strings_Split.f at h
 by_cases hl:a0.size < 4294967281∧1≤a1.size
 ·rw [if_pos hl] at h
  obtain rfl:=Option.some.inj h
  obtain ⟨m,hm⟩:=hL.out.max
  refine (Tryd.strings_Split a0 a1 m w hl.1 hm hl.2).mono fun e w' he=>?_
  obtain ⟨rfl,rfl⟩:=he
  have hlen:=Lib.splitB_all a1 hl.2 0 (Lib.countB a0 a1) a0 rfl
  have hc:=Lib.countB_le a1 hl.2 a0.size a0 (Nat.le_refl _)
  refine ⟨_,rfl,Kd.R_of_own ⟨by simp [encs],Or.inr ⟨w.heap.size,Lib.countB a0 a1+1,((Lib.splitB a1 0 (Lib.countB a0 a1) a0).map Value.string).toArray,by rw [hlen],Nat.le_refl _,Array.getElem?_push_size,by omega,by unfold maxLen;omega,by simp [hlen],?_⟩⟩ (fun _ _=>trivial),(Below.refl _ _).alloc (Nat.le_refl _) _⟩
  rw [List.toList_toArray,Nat.mul_one,List.take_of_length_le (by simp)]
  rfl
 ·rw [if_neg hl] at h
  cases h
def atoiRes (l:List UInt8):Int × Option Int:=match Lib.atoiAll l with
 | .ok v=>(v,none)
 | .range=>(Lib.atoiSat l,some 0)
 | _=>(0,some 0)
def strconv_Atoi.f (a0:ByteArray):Option (Int × Option Int):=if a0.size≤281474976710656 then some (atoiRes a0.data.toList) else none
theorem strconv_Atoi.calls (a0:ByteArray) (r1:Int) (r2:Option Int) (w:World) (hL:Aside0 (Go.Proofs.YtnoglmdicdpabaaDoor.St.Laid w)) (h:strconv_Atoi.f a0=some (r1,r2)) :
  Calls Tryd.prog 66 #[.string a0] w fun e w'=>∃ (E_:Option Int→Value) (N_:Nat),E_ none = .nilIface∧(∀ c,E_ (some c) = .iface 111 (.pointer (some ⟨N_,0,none⟩)))∧e = .returned (.tuple #[.int .i64 r1,E_ r2])∧Below w.heap.size w w':=by
 unfold strconv_Atoi.f at h
 by_cases hl:a0.size≤281474976710656
 ·rw [if_pos hl] at h
  have h:=Option.some.inj h
  rw [atoiRes] at h
  cases e:Lib.atoiAll a0.data.toList with
  | ok v=>
   rw [e] at h
   simp only [Prod.mk.injEq] at h
   obtain ⟨rfl,rfl⟩:=h
   refine (Tryd.strconv_Atoi_ok a0 (by omega) v e w).mono fun e w' he=>?_
   obtain ⟨rfl,hw⟩:=he
   refine ⟨fun|none=>.nilIface|some _=>.iface 111 (.pointer (some ⟨0,0,none⟩)),0,rfl,fun _=>rfl,rfl,?_⟩
   rcases hw with rfl|⟨t,rfl⟩
   ·exact Below.refl _ _
   ·exact Lib.bytesWorld_below _ _ _
  | range=>
   rw [e] at h
   simp only [Prod.mk.injEq] at h
   obtain ⟨rfl,rfl⟩:=h
   obtain ⟨tp,p,hv⟩:=hL.out.rng
   refine (Tryd.strconv_Atoi_range_var a0 hl e tp p w hv).mono fun e w' he=>?_
   obtain ⟨N,rfl,_,_,hb⟩:=he
   exact ⟨fun|none=>.nilIface|some _=>.iface 111 (.pointer (some ⟨N,0,none⟩)),N,rfl,fun _=>rfl,rfl,hb⟩
  | _=>
   rw [e] at h
   simp only [Prod.mk.injEq] at h
   obtain ⟨rfl,rfl⟩:=h
   obtain ⟨tp,p,hv⟩:=hL.out.syn
   refine (Tryd.strconv_Atoi_syntax_var a0 hl _ ⟨fun _ c=>(by cases c),fun c=>(by cases c)⟩ e tp p w hv).mono fun e w' he=>?_
   obtain ⟨N,rfl,_,_,hb⟩:=he
   exact ⟨fun|none=>.nilIface|some _=>.iface 111 (.pointer (some ⟨N,0,none⟩)),N,rfl,fun _=>rfl,rfl,hb⟩
 ·rw [if_neg hl] at h
  cases h
def impl_numbersOf.l0:Nat→Int→List Int→List ByteArray→Int→Int→Option (List Int × Bool)
 | 0,_,_,_,_,_=>none
 | k+1,x2,x8,x15,x16,x17=>if x17 < x16 then (if 0≤x17 then (if x17 < (x15.length:Int) then ((strconv_Atoi.f (rdOf ByteArray.empty x15 x17)).bind fun bt123=>(if bt123.2.isNone=true then (if (x8.length:Int) ≥ x2 then (some (([]:List Int),false)) else (if x8.length < 17592186044416 then (impl_numbersOf.l0 k x2 (x8 ++ [bt123.1]) x15 x16 (wrap64 (x17+1))) else (none))) else (some (([]:List Int),false)))) else (none)) else (none)) else (some (x8,((x8.length:Int) == x2)))
def impl_numbersOf.f (k:Nat) (a0:ByteArray) (a1:ByteArray) (a2:Int):Option (List Int × Bool):=(strings_Split.f a0 a1).bind fun t119=>(impl_numbersOf.l0 k a2 ([]:List Int) t119 (t119.length:Int) 0)
set_option maxHeartbeats 8000000 in
set_option maxRecDepth 100000 in
theorem impl_numbersOf.calls (k:Nat) (a0:ByteArray) (a1:ByteArray) (a2:Int) (r1:List Int) (r2:Bool) (w:World) (hL:Aside0 (Laid w)) (h:impl_numbersOf.f k a0 a1 a2=some (r1,r2)) :
  Calls Tryd.prog 48 #[.string a0,.string a1,.int .i64 a2] w fun e w'=>∃ v0_:Value,e = .returned (.tuple #[v0_,.bool r2])∧Kd.R (Kd.int .i64) 3 w' w.heap.size (fun _=>True) v0_ r1∧Below w.heap.size w w':=by
 have hu82:=Tryd.underlying82
 have HB:=Aside0.mk (Below.refl w.heap.size w)
 have H:((strings_Split.f a0 a1).bind fun t119=>(impl_numbersOf.l0 k a2 ([]:List Int) t119 (t119.length:Int) 0))=some (r1,r2):=h
 clear h
 replace H:=Option.bind_eq_some_iff.mp H
 obtain ⟨t119,A40,H⟩:=H
 try dsimp only at H
 have A4:=Aside0.mk A40
 clear A40
 have H':=Aside0.mk H
 clear H
 go_enter Tryd.func48,Tryd.ntmps48
 go_wp2_with (first|((with_reducible refine gate_callee (f:=56) rfl ?_);refine goesL_ (some 15) rfl rfl Tryd.func56 (by kernel_rfl) rfl #[.string a0,.string a1] rfl (by (try simp only [List.map_toArray,List.map_cons,List.map_nil]);first|done|rfl|(simp only [List.length_drop,List.length_take];rfl)) ?_;(with_reducible refine (strings_Split.calls a0 a1 t119 _ ?side1 A4.out).mono ?_);(case side1=>exact lb hL);rintro e w5 ⟨v120,rfl,ho0,hb⟩;refine ⟨_,rfl,?_⟩;have n0_:=Aside0.mk (Kd.R_lower ho0 (below_size be));have n1_:=bs hb;clear HB;have HO121:=n0_;have HB:=n1_;clear n0_ n1_;(try clear hb);(try clear hb2);(try clear hk);(try clear hi);(try clear ho0);obtain ⟨Ao6,co6,eo6⟩:=Kd.R_slice HO121.out;subst eo6))
 go_loopg [8,17] k (fun kq v8 v17 w'=>∃ (x8_1:List Int) (x17_1:Int),v17 = .int .i64 x17_1∧Aside0 (impl_numbersOf.l0 kq a2 x8_1 t119 (t119.length:Int) x17_1=some (r1,r2))∧Aside0 (kq≤k)∧Aside0 (Kd.R (Kd.int .i64) 3 w' w.heap.size (fun _=>True) v8 x8_1)∧Aside0 (Kd.R Kd.string 9 w' w.heap.size (fun _=>True) (.slice Ao6 t119.length co6) t119)∧Aside0 (Below w.heap.size w w'))
 case atStart=>exact ⟨(([]:List Int)),(0),rd_,H',⟨Nat.le_refl _⟩,⟨by first|exact Kd.R_nil _ _ _ _ _|exact Kd.N_nil _ _ _ _ _|exact Kd.V_nil _ _ _ _ _|exact Kd.Q_nil _ _ _ _ _|exact Kd.S_nil _ _ _ _ _⟩,⟨rR HO121⟩,⟨be⟩⟩
 case round=>
  clear H'
  try clear p2
  try clear c4
  try clear c5
  obtain ⟨x8_1,x17_1,rfl,HA,HK1,HO_8,HO_15,HB⟩:=hrel
  cases gk with
  | zero=>exact absurd HA.out (by simp [impl_numbersOf.l0])
  | succ k1=>
   have H:=HA.out
   clear HA
   simp only [impl_numbersOf.l0] at H
   by_cases c7:x17_1 < (t119.length:Int)
   ·rw [if_pos c7] at H
    have c7b0:decide (x17_1 < (t119.length:Int))=true:=decide_eq_true c7
    clear c7
    by_cases c8:0≤x17_1
    ·rw [if_pos c8] at H
     have c8b0:decide (0≤x17_1)=true:=decide_eq_true c8
     clear c8
     by_cases c9:x17_1 < (t119.length:Int)
     ·rw [if_pos c9] at H
      have c9b0:decide (x17_1 < (t119.length:Int))=true:=decide_eq_true c9
      clear c9
      replace H:=Option.bind_eq_some_iff.mp H
      obtain ⟨⟨t123,t124⟩,A100,H⟩:=H
      try dsimp only at H
      have A10:=Aside0.mk A100
      clear A100
      rcases t124 with _|q125
      ·have H1:(if (x8_1.length:Int) ≥ a2 then (some (([]:List Int),false)) else (if x8_1.length < 17592186044416 then (impl_numbersOf.l0 k1 a2 (x8_1 ++ [t123]) t119 (t119.length:Int) (wrap64 (x17_1+1))) else (none)))=some (r1,r2):=by rw [if_pos (show (none:Option Int).isNone=true by rfl)] at H;exact H
       clear H
       have H:=H1
       clear H1
       try simp only [errW_none,errW_some]
       by_cases c11:(x8_1.length:Int) ≥ a2
       ·rw [if_pos c11] at H
        have c11b0:decide (a2≤(x8_1.length:Int))=true:=decide_eq_true c11
        clear c11
        simp only [Option.some.injEq,Prod.mk.injEq] at H
        obtain ⟨rfl,rfl⟩:=H
        have p122:0≤(x17_1:Int):=of_decide_eq_true (by first|(with_reducible assumption)|assumption)
        have q122:x17_1 < (t119.length:Int):=of_decide_eq_true (by first|(with_reducible assumption)|assumption)
        obtain ⟨ad122,e122,hx122_0⟩:=Kd.at_string (Kd.R_reads' HO_15.out).2.2 x17_1 p122 q122
        cases e122
        replace p122:=eq_true p122
        replace q122:=eq_true q122
        go_wp2_with (first|((with_reducible refine gate_callee (f:=66) rfl ?_);refine goesL_ (some 23) rfl rfl Tryd.func66 (by kernel_rfl) rfl #[.string (rdOf ByteArray.empty t119 x17_1)] rfl (by (try simp only [List.map_toArray,List.map_cons,List.map_nil]);first|done|rfl|(simp only [List.length_drop,List.length_take];rfl)) ?_;(with_reducible refine (strconv_Atoi.calls (rdOf ByteArray.empty t119 x17_1) t123 none _ ?side1 A10.out).mono ?_);(case side1=>exact lb hL);rintro e w12 ⟨E_,N_,E0_,E1_,rfl,hb⟩;refine ⟨_,rfl,?_⟩;(try simp only [E0_,E1_]);have n0_:=Aside0.mk (Kd.R_below ((rR HO_8)) hb);have n1_:=Aside0.mk (Kd.R_below ((rR HO_15)) hb);have n2_:=bs hb;clear HO_8;clear HO_15;clear HB;have HO_8:=n0_;have HO_15:=n1_;have HB:=n2_;clear n0_ n1_ n2_;(try clear hb);(try clear hb2);(try clear hk);(try clear hi);(try simp only [errW_none,errW_some]);obtain ⟨Ao13,co13,eo13⟩:=Kd.R_slice HO_8.out;subst eo13))
        go_ret2
        exact ⟨_,by first|rfl|(simp [errW_none,errW_some] <;> rfl)|(simp [*,errW_none,errW_some] <;> rfl),by first|exact Kd.R_nil _ _ _ _ _|exact Kd.N_nil _ _ _ _ _|exact Kd.V_nil _ _ _ _ _|exact Kd.Q_nil _ _ _ _ _|exact Kd.S_nil _ _ _ _ _,be⟩
       ·rw [if_neg c11] at H
        have c11b0:decide (a2≤(x8_1.length:Int))=false:=decide_eq_false c11
        clear c11
        by_cases c14:x8_1.length < 17592186044416
        ·rw [if_pos c14] at H
         have LMc14:=Aside0.mk c14
         clear c14
         obtain ⟨y126,hy126⟩ : ∃ y_:List Int,y_=(x8_1 ++ [t123]):=⟨_,rfl⟩
         replace H:(impl_numbersOf.l0 k1 a2 y126 t119 (t119.length:Int) (wrap64 (x17_1+1)))=some (r1,r2):=by first|(rw [hy126];with_reducible exact H)|(have H2_:=(Option.bind_some _ _).symm.trans H;rw [hy126];with_reducible exact H2_)|(have H2_:=(Option.bind_some _ _).symm.trans H;with_reducible exact H2_)|with_reducible exact H|(rw [hy126];exact H)|exact H
         have Ny126:=Aside0.mk hy126
         clear hy126
         have H':=Aside0.mk H
         clear H
         have p122:0≤(x17_1:Int):=of_decide_eq_true (by first|(with_reducible assumption)|assumption)
         have q122:x17_1 < (t119.length:Int):=of_decide_eq_true (by first|(with_reducible assumption)|assumption)
         obtain ⟨ad122,e122,hx122_0⟩:=Kd.at_string (Kd.R_reads' HO_15.out).2.2 x17_1 p122 q122
         cases e122
         replace p122:=eq_true p122
         replace q122:=eq_true q122
         go_wp2_with (first|((with_reducible refine gate_callee (f:=66) rfl ?_);refine goesL_ (some 23) rfl rfl Tryd.func66 (by kernel_rfl) rfl #[.string (rdOf ByteArray.empty t119 x17_1)] rfl (by (try simp only [List.map_toArray,List.map_cons,List.map_nil]);first|done|rfl|(simp only [List.length_drop,List.length_take];rfl)) ?_;(with_reducible refine (strconv_Atoi.calls (rdOf ByteArray.empty t119 x17_1) t123 none _ ?side1 A10.out).mono ?_);(case side1=>exact lb hL);rintro e w15 ⟨E_,N_,E0_,E1_,rfl,hb⟩;refine ⟨_,rfl,?_⟩;(try simp only [E0_,E1_]);have n0_:=Aside0.mk (Kd.R_below ((rR HO_8)) hb);have n1_:=Aside0.mk (Kd.R_below ((rR HO_15)) hb);have n2_:=bs hb;clear HO_8;clear HO_15;clear HB;have HO_8:=n0_;have HO_15:=n1_;have HB:=n2_;clear n0_ n1_ n2_;(try clear hb);(try clear hb2);(try clear hk);(try clear hi);(try simp only [errW_none,errW_some]);obtain ⟨Ao16,co16,eo16⟩:=Kd.R_slice HO_8.out;subst eo16)|((with_reducible refine gate_builtin (b:=.append) (xs:=#[.tmp 34,.tmp 36]) rfl ?_);(try (refine gate_guard (by rfl) ?_;dsimp only));at_builtin;refine Kd.R_append (Kd.int .i64) (w0:=w) w.heap.size rfl (.tmp 34) (.tmp 36) 50 3 (.int .i64 0) 8 rfl Tryd.underlying50 info3 rfl (by decide) (by omega) (.slice Ao16 x8_1.length co16) x8_1 t123 [.int .i64 t123] (fun _=>True) (fun _=>False) rfl rfl ?aP (fun _ hk=>hk.elim) ?aF ?aO ?aB ?aS ?aL ?_;(case aP=>exact rfl);(case aB=>exact be);(case aF=>exact (fun _ _=>trivial));(case aO=>exact (rR HO_8));(case aS=>exact (below_size be));(case aL=>have:=LMc14.out;omega);intro v127 w17 ho hb hg hat;rw [← Ny126.out] at ho;have n0_:=Aside0.mk (Kd.R_over' (rR HO_15) (Kd.R_typed (rR HO_8)) (by decide) hg);have n1_:=Aside0.mk (hb);have n2_:=Aside0.mk (ho);clear HO_15;clear HB;clear HO_8;have HO_15:=n0_;have HB:=n1_;have HO128:=n2_;clear n0_ n1_ n2_;clear ho hb hg hat))
         go_roundg k1
         case measure=>have:=HK1.out;omega
         case rel=>exact ⟨(y126),(wrap64 (x17_1+1)),rd_,H',⟨by have:=HK1.out;omega⟩,⟨rR HO128⟩,⟨rR HO_15⟩,⟨be⟩⟩
        ·rw [if_neg c14] at H
         exact absurd H (by simp)
      ·have H1:(some (([]:List Int),false))=some (r1,r2):=by rw [if_neg (show ¬ (some q125).isNone=true by simp)] at H;exact H
       clear H
       have H:=H1
       clear H1
       try simp only [errW_none,errW_some]
       simp only [Option.some.injEq,Prod.mk.injEq] at H
       obtain ⟨rfl,rfl⟩:=H
       have p122:0≤(x17_1:Int):=of_decide_eq_true (by first|(with_reducible assumption)|assumption)
       have q122:x17_1 < (t119.length:Int):=of_decide_eq_true (by first|(with_reducible assumption)|assumption)
       obtain ⟨ad122,e122,hx122_0⟩:=Kd.at_string (Kd.R_reads' HO_15.out).2.2 x17_1 p122 q122
       cases e122
       replace p122:=eq_true p122
       replace q122:=eq_true q122
       go_wp2_with (first|((with_reducible refine gate_callee (f:=66) rfl ?_);refine goesL_ (some 23) rfl rfl Tryd.func66 (by kernel_rfl) rfl #[.string (rdOf ByteArray.empty t119 x17_1)] rfl (by (try simp only [List.map_toArray,List.map_cons,List.map_nil]);first|done|rfl|(simp only [List.length_drop,List.length_take];rfl)) ?_;(with_reducible refine (strconv_Atoi.calls (rdOf ByteArray.empty t119 x17_1) t123 (some q125) _ ?side1 A10.out).mono ?_);(case side1=>exact lb hL);rintro e w18 ⟨E_,N_,E0_,E1_,rfl,hb⟩;refine ⟨_,rfl,?_⟩;(try simp only [E0_,E1_]);have n0_:=Aside0.mk (Kd.R_below ((rR HO_8)) hb);have n1_:=Aside0.mk (Kd.R_below ((rR HO_15)) hb);have n2_:=bs hb;clear HO_8;clear HO_15;clear HB;have HO_8:=n0_;have HO_15:=n1_;have HB:=n2_;clear n0_ n1_ n2_;(try clear hb);(try clear hb2);(try clear hk);(try clear hi);(try simp only [errW_none,errW_some])))
       go_ret2
       exact ⟨_,by first|rfl|(simp [errW_none,errW_some] <;> rfl)|(simp [*,errW_none,errW_some] <;> rfl),by first|exact Kd.R_nil _ _ _ _ _|exact Kd.N_nil _ _ _ _ _|exact Kd.V_nil _ _ _ _ _|exact Kd.Q_nil _ _ _ _ _|exact Kd.S_nil _ _ _ _ _,be⟩
     ·rw [if_neg c9] at H
      exact absurd H (by simp)
    ·rw [if_neg c8] at H
     exact absurd H (by simp)
   ·rw [if_neg c7] at H
    have c7b0:decide (x17_1 < (t119.length:Int))=false:=decide_eq_false c7
    clear c7
    simp only [Option.some.injEq,Prod.mk.injEq] at H
    obtain ⟨rfl,rfl⟩:=H
    obtain ⟨Ao19,co19,eo19⟩:=Kd.R_slice HO_8.out
    subst eo19
    go_wp2
    go_ret2
    exact ⟨_,by first|rfl|(simp [errW_none,errW_some] <;> rfl)|(simp [*,errW_none,errW_some] <;> rfl),rR HO_8,be⟩
def impl_ParseDevs.l0:Nat→ByteArray→List (S53)→List ByteArray→Int→Int→Option ((List (S53)) × Bool)
 | 0,_,_,_,_,_=>none
 | k+1,x0,x4,x11,x12,x13=>if x13 < x12 then (if 0≤x13 then (if x13 < (x11.length:Int) then ((impl_numbersOf.f k (rdOf ByteArray.empty x11 x13) (⟨#[58]⟩:ByteArray) 3).bind fun bt133=>(if bt133.2=true then (if (x4.length:Int) ≥ 12 then (some (([]:List (S53)),false)) else (if 0 < (bt133.1.length:Int) then (if 1 < (bt133.1.length:Int) then (if 2 < (bt133.1.length:Int) then (if x4.length < 5864062014805 then (impl_ParseDevs.l0 k x0 (x4 ++ [(⟨rd bt133.1 0,rd bt133.1 1,rd bt133.1 2⟩:S53)]) x11 x12 (wrap64 (x13+1))) else (none)) else (none)) else (none)) else (none))) else (some (([]:List (S53)),false)))) else (none)) else (none)) else ((impl_DevsText.f k x4).bind fun t143=>(if t143.toList=([]:List UInt8) then (some (([]:List (S53)),false)) else (if t143.toList=x0.toList then (some (x4,true)) else (some (([]:List (S53)),false)))))
def impl_ParseDevs.f (k:Nat) (a0:ByteArray):Option ((List (S53)) × Bool):=(strings_Split.f a0 (⟨#[32]⟩:ByteArray)).bind fun t129=>(impl_ParseDevs.l0 k a0 ([]:List (S53)) t129 (t129.length:Int) 0)
def impl_ParseDevs.T8:Bool × List (List Nat × List Nat):=(true,[([],[]),([],[]),([1],[1]),([2],[2]),([],[]),([4],[4]),([5],[5]),([],[]),([7],[7]),([8],[8]),([3,6,9],[3,6,9]),([10],[10]),([0,11],[0,11]),([12,12,0,1,2,3,4,5,6,7,8,9,10,11,12],[0,12])])
def impl_ParseDevs.B8:List Nat:=[0,0,2,6,0,16,48,0,128,384,1022,2046,4095,8191]
theorem impl_ParseDevs.tab8:rtab .any (opsOf Tryd.f30 8)=impl_ParseDevs.T8:=by kernel_rfl
theorem impl_ParseDevs.bits8:waitsOk impl_ParseDevs.T8.2 impl_ParseDevs.B8=true:=by kernel_rfl
set_option maxHeartbeats 8000000 in
set_option maxRecDepth 100000 in
theorem impl_ParseDevs.calls (k:Nat) (a0:ByteArray) (r1:List (S53)) (r2:Bool) (w:World) (hL:Aside0 (Laid w)) (h:impl_ParseDevs.f k a0=some (r1,r2)) :
  Calls Tryd.prog 30 #[.string a0] w fun e w'=>∃ v0_:Value,e = .returned (.tuple #[v0_,.bool r2])∧Kd.R k53 53 w' w.heap.size (fun _=>True) v0_ r1∧Below w.heap.size w w':=by
 have hu53:=Tryd.underlying53
 have HB:=Aside0.mk (Below.refl w.heap.size w)
 have H:((strings_Split.f a0 (⟨#[32]⟩:ByteArray)).bind fun t129=>(impl_ParseDevs.l0 k a0 ([]:List (S53)) t129 (t129.length:Int) 0))=some (r1,r2):=h
 clear h
 replace H:=Option.bind_eq_some_iff.mp H
 obtain ⟨t129,A20,H⟩:=H
 try dsimp only at H
 have A2:=Aside0.mk A20
 clear A20
 have H':=Aside0.mk H
 clear H
 go_enter Tryd.func30,Tryd.ntmps30
 go_wp2_with (first|((with_reducible refine gate_callee (f:=56) rfl ?_);refine goesL_ (some 11) rfl rfl Tryd.func56 (by kernel_rfl) rfl #[.string a0,.string (⟨#[32]⟩:ByteArray)] rfl (by (try simp only [List.map_toArray,List.map_cons,List.map_nil]);first|done|rfl|(simp only [List.length_drop,List.length_take];rfl)) ?_;(with_reducible refine (strings_Split.calls a0 (⟨#[32]⟩:ByteArray) t129 _ ?side1 A2.out).mono ?_);(case side1=>exact lb hL);rintro e w3 ⟨v130,rfl,ho0,hb⟩;refine ⟨_,rfl,?_⟩;have n0_:=Aside0.mk (Kd.R_lower ho0 (below_size be));have n1_:=bs hb;clear HB;have HO131:=n0_;have HB:=n1_;clear n0_ n1_;(try clear hb);(try clear hb2);(try clear hk);(try clear hi);(try clear ho0);obtain ⟨Ao4,co4,eo4⟩:=Kd.R_slice HO131.out;subst eo4))
 go_loopg [4,13] k (fun kq v4 v13 w'=>∃ (x4_1:List (S53)) (x13_1:Int),v13 = .int .i64 x13_1∧Aside0 (impl_ParseDevs.l0 kq a0 x4_1 t129 (t129.length:Int) x13_1=some (r1,r2))∧Aside0 (kq≤k)∧Aside0 (Kd.R k53 53 w' w.heap.size (fun _=>True) v4 x4_1)∧Aside0 (Kd.R Kd.string 9 w' w.heap.size (fun _=>True) (.slice Ao4 t129.length co4) t129)∧Aside0 (Below w.heap.size w w'))
 case atStart=>exact ⟨(([]:List (S53))),(0),rd_,H',⟨Nat.le_refl _⟩,⟨by first|exact Kd.R_nil _ _ _ _ _|exact Kd.N_nil _ _ _ _ _|exact Kd.V_nil _ _ _ _ _|exact Kd.Q_nil _ _ _ _ _|exact Kd.S_nil _ _ _ _ _⟩,⟨rR HO131⟩,⟨be⟩⟩
 case round=>
  clear H'
  try clear p2
  try clear c3
  obtain ⟨x4_1,x13_1,rfl,HA,HK1,HO_4,HO_11,HB⟩:=hrel
  cases gk with
  | zero=>exact absurd HA.out (by simp [impl_ParseDevs.l0])
  | succ k1=>
   have H:=HA.out
   clear HA
   simp only [impl_ParseDevs.l0] at H
   by_cases c5:x13_1 < (t129.length:Int)
   ·rw [if_pos c5] at H
    have c5b0:decide (x13_1 < (t129.length:Int))=true:=decide_eq_true c5
    clear c5
    by_cases c6:0≤x13_1
    ·rw [if_pos c6] at H
     have c6b0:decide (0≤x13_1)=true:=decide_eq_true c6
     clear c6
     by_cases c7:x13_1 < (t129.length:Int)
     ·rw [if_pos c7] at H
      have c7b0:decide (x13_1 < (t129.length:Int))=true:=decide_eq_true c7
      clear c7
      replace H:=Option.bind_eq_some_iff.mp H
      obtain ⟨⟨t133,t134⟩,A80,H⟩:=H
      try dsimp only at H
      have A8:=Aside0.mk A80
      clear A80
      by_cases c9:t134=true
      ·subst c9
       rw [if_pos rfl] at H
       by_cases c10:(x4_1.length:Int) ≥ 12
       ·rw [if_pos c10] at H
        have c10b0:decide (12≤(x4_1.length:Int))=true:=decide_eq_true c10
        have c10b1:decide (12≤x4_1.length)=true:=decide_eq_true (by omega)
        clear c10
        simp only [Option.some.injEq,Prod.mk.injEq] at H
        obtain ⟨rfl,rfl⟩:=H
        have p132:0≤(x13_1:Int):=of_decide_eq_true (by first|(with_reducible assumption)|assumption)
        have q132:x13_1 < (t129.length:Int):=of_decide_eq_true (by first|(with_reducible assumption)|assumption)
        obtain ⟨ad132,e132,hx132_0⟩:=Kd.at_string (Kd.R_reads' HO_11.out).2.2 x13_1 p132 q132
        cases e132
        replace p132:=eq_true p132
        replace q132:=eq_true q132
        go_wp2_with (first|((with_reducible refine gate_callee (f:=48) rfl ?_);refine goesL_ (some 19) rfl rfl Tryd.func48 (by kernel_rfl) rfl #[.string (rdOf ByteArray.empty t129 x13_1),.string (⟨#[58]⟩:ByteArray),.int .i64 3] rfl (by (try simp only [List.map_toArray,List.map_cons,List.map_nil]);first|done|rfl|(simp only [List.length_drop,List.length_take];rfl)) ?_;(with_reducible refine (impl_numbersOf.calls k1 (rdOf ByteArray.empty t129 x13_1) (⟨#[58]⟩:ByteArray) 3 t133 true _ ?side1 A8.out).mono ?_);(case side1=>exact lb hL);rintro e w11 ⟨v135,rfl,ho0,hb⟩;refine ⟨_,rfl,?_⟩;have n0_:=Aside0.mk (Kd.R_below ((rR HO_4)) hb);have n1_:=Aside0.mk (Kd.R_below ((rR HO_11)) hb);have n2_:=Aside0.mk (Kd.R_lower ho0 (below_size be));have n3_:=bs hb;clear HO_4;clear HO_11;clear HB;have HO_4:=n0_;have HO_11:=n1_;have HO136:=n2_;have HB:=n3_;clear n0_ n1_ n2_ n3_;(try clear hb);(try clear hb2);(try clear hk);(try clear hi);(try clear ho0);obtain ⟨Ao12,co12,eo12⟩:=Kd.R_slice HO_4.out;subst eo12))
        go_ret2
        exact ⟨_,rz,by first|exact Kd.R_nil _ _ _ _ _|exact Kd.N_nil _ _ _ _ _|exact Kd.V_nil _ _ _ _ _|exact Kd.Q_nil _ _ _ _ _|exact Kd.S_nil _ _ _ _ _,be⟩
       ·rw [if_neg c10] at H
        have c10b0:decide (12≤(x4_1.length:Int))=false:=decide_eq_false c10
        have c10b1:decide (12≤x4_1.length)=false:=decide_eq_false (by omega)
        clear c10
        by_cases c13:0 < (t133.length:Int)
        ·rw [if_pos c13] at H
         have c13b0:decide (0 < (t133.length:Int))=true:=decide_eq_true c13
         have c13b1:decide (0 < t133.length)=true:=decide_eq_true (by omega)
         clear c13
         by_cases c14:1 < (t133.length:Int)
         ·rw [if_pos c14] at H
          have c14b0:decide (1 < (t133.length:Int))=true:=decide_eq_true c14
          have c14b1:decide (1 < t133.length)=true:=decide_eq_true (by omega)
          clear c14
          by_cases c15:2 < (t133.length:Int)
          ·rw [if_pos c15] at H
           have c15b0:decide (2 < (t133.length:Int))=true:=decide_eq_true c15
           have c15b1:decide (2 < t133.length)=true:=decide_eq_true (by omega)
           clear c15
           by_cases c16:x4_1.length < 5864062014805
           ·rw [if_pos c16] at H
            have LMc16:=Aside0.mk c16
            clear c16
            obtain ⟨y140,hy140⟩ : ∃ y_:List (S53),y_=(x4_1 ++ [(⟨rd t133 0,rd t133 1,rd t133 2⟩:S53)]):=⟨_,rfl⟩
            replace H:(impl_ParseDevs.l0 k1 a0 y140 t129 (t129.length:Int) (wrap64 (x13_1+1)))=some (r1,r2):=by first|(rw [hy140];with_reducible exact H)|(have H2_:=(Option.bind_some _ _).symm.trans H;rw [hy140];with_reducible exact H2_)|(have H2_:=(Option.bind_some _ _).symm.trans H;with_reducible exact H2_)|with_reducible exact H|(rw [hy140];exact H)|exact H
            have Ny140:=Aside0.mk hy140
            clear hy140
            have H':=Aside0.mk H
            clear H
            have p132:0≤(x13_1:Int):=of_decide_eq_true (by first|(with_reducible assumption)|assumption)
            have q132:x13_1 < (t129.length:Int):=of_decide_eq_true (by first|(with_reducible assumption)|assumption)
            obtain ⟨ad132,e132,hx132_0⟩:=Kd.at_string (Kd.R_reads' HO_11.out).2.2 x13_1 p132 q132
            cases e132
            replace p132:=eq_true p132
            replace q132:=eq_true q132
            try go_wp2_with (first|((with_reducible refine gate_callee (f:=48) rfl ?_);refine goesL_ (some 19) rfl rfl Tryd.func48 (by kernel_rfl) rfl #[.string (rdOf ByteArray.empty t129 x13_1),.string (⟨#[58]⟩:ByteArray),.int .i64 3] rfl (by (try simp only [List.map_toArray,List.map_cons,List.map_nil]);first|done|rfl|(simp only [List.length_drop,List.length_take];rfl)) ?_;(with_reducible refine (impl_numbersOf.calls k1 (rdOf ByteArray.empty t129 x13_1) (⟨#[58]⟩:ByteArray) 3 t133 true _ ?side1 A8.out).mono ?_);(case side1=>exact lb hL);rintro e w17 ⟨v135,rfl,ho0,hb⟩;refine ⟨_,rfl,?_⟩;have n0_:=Aside0.mk (Kd.R_below ((rR HO_4)) hb);have n1_:=Aside0.mk (Kd.R_below ((rR HO_11)) hb);have n2_:=Aside0.mk (Kd.R_lower ho0 (below_size be));have n3_:=bs hb;clear HO_4;clear HO_11;clear HB;have HO_4:=n0_;have HO_11:=n1_;have HO136:=n2_;have HB:=n3_;clear n0_ n1_ n2_ n3_;(try clear hb);(try clear hb2);(try clear hk);(try clear hi);(try clear ho0);obtain ⟨Ao18,co18,eo18⟩:=Kd.R_slice HO_4.out;subst eo18))
            have n0_:=Aside0.mk (Kd.R_drew HO_4.out)
            have n1_:=Aside0.mk (Kd.R_drew HO_11.out)
            have n2_:=Aside0.mk (Kd.R_drew HO136.out)
            have n3_:=Aside0.mk (below_drew1 HB.out)
            clear HO_4
            clear HO_11
            clear HO136
            clear HB
            have HO_4:=n0_
            have HO_11:=n1_
            have HO136:=n2_
            have HB:=n3_
            clear n0_ n1_ n2_ n3_
            obtain ⟨Ao20,co20,eo20⟩:=Kd.R_slice HO136.out
            (first|subst eo20|(injection eo20 with f1_ f2_ f3_;have f4_:=f1_.symm;have f5_:=f3_.symm;clear f1_ f2_ f3_;subst f4_;subst f5_))
            have p137:0≤(0:Int):=(by omega)
            have q137:0 < (t133.length:Int):=of_decide_eq_true (by first|(with_reducible assumption)|assumption)
            obtain ⟨ad137,e137,hx137_0⟩:=Kd.at_int (Kd.R_reads' HO136.out).2.2 0 p137 q137
            cases e137
            have qi137:(0 < t133.length)=True:=eq_true (by omega)
            (try rw [show ((0:Int)).toNat=0 from rfl] at hx137_0)
            (try rw [Addr.add_zero'] at hx137_0)
            replace p137:=eq_true p137
            replace q137:=eq_true q137
            have p138:0≤(1:Int):=(by omega)
            have q138:1 < (t133.length:Int):=of_decide_eq_true (by first|(with_reducible assumption)|assumption)
            obtain ⟨ad138,e138,hx138_0⟩:=Kd.at_int (Kd.R_reads' HO136.out).2.2 1 p138 q138
            obtain rfl:ad137=ad138:=(by injection e138)
            (try simp only [show (1:Int).toNat=1 from rfl,Nat.reduceMul,Nat.reduceEqDiff,Go.Addr.add,↓reduceIte] at hx138_0)
            have qi138:(1 < t133.length)=True:=eq_true (by omega)
            (try rw [show ((1:Int)).toNat=1 from rfl] at hx138_0)
            replace p138:=eq_true p138
            replace q138:=eq_true q138
            have p139:0≤(2:Int):=(by omega)
            have q139:2 < (t133.length:Int):=of_decide_eq_true (by first|(with_reducible assumption)|assumption)
            obtain ⟨ad139,e139,hx139_0⟩:=Kd.at_int (Kd.R_reads' HO136.out).2.2 2 p139 q139
            obtain rfl:ad137=ad139:=(by injection e139)
            (try simp only [show (2:Int).toNat=2 from rfl,Nat.reduceMul,Nat.reduceEqDiff,Go.Addr.add,↓reduceIte] at hx139_0)
            have qi139:(2 < t133.length)=True:=eq_true (by omega)
            (try rw [show ((2:Int)).toNat=2 from rfl] at hx139_0)
            replace p139:=eq_true p139
            replace q139:=eq_true q139
            refine start_ (n:=14) (S:=fun w'=>w'.cell? ad137=some (.int .i64 (rd t133 0))∧w'.cell? ⟨ad137.block,ad137.off+1,none⟩=some (.int .i64 (rd t133 1))∧w'.cell? ⟨ad137.block,ad137.off+2,none⟩=some (.int .i64 (rd t133 2))) (ds:=[11,12]) (fl 14 0) (by kernel_rfl) rfl rfl ⟨hx137_0,hx138_0,hx139_0⟩ (fun hHeld=>?_);refine with_tabW impl_ParseDevs.tab8 impl_ParseDevs.bits8 (fun HT_ HW_=>?_)
            generalize w17.drew=w19 at HO_4 HO_11 HO136 HB hx137_0 hx138_0 hx139_0 hHeld ⊢
            refine pt 0 29 (fl 14 1) HT_ ?_
            refine pt 1 30 (fl 14 3) HT_ ?_
            refine pt 2 31 (fl 14 7) HT_ ?_
            refine pt 4 33 (fl 14 23) HT_ ?_
            refine pt 5 34 (fl 14 55) HT_ ?_
            refine pt 7 36 (fl 14 183) HT_ ?_
            refine pt 8 37 (fl 14 439) HT_ ?_
            refine tt 3 32 (fl 14 447) HT_ HW_ hHeld ?_
            refine tt 6 35 (fl 14 511) HT_ HW_ hHeld ?_
            refine tt 9 38 (fl 14 1023) HT_ HW_ hHeld ?_
            refine pt 10 39 (fl 14 2047) HT_ ?_
            refine last_ (i:=11) (N:=some 40) (fl 14 4095) rfl rfl (one_of HT_.out (by kernel_rfl)) (by decide) (fun K hK=>?_)
            refine value_ (w1:=?_) (v:=?_) (by rfl) rfl ?_ ?_
            rotate_left 2
            ·go_simp
             constructor
             ·rfl
             ·rfl
            refine hK.out _ _ ?_
            clear hK K
            refine no 40 ?_
            refine last_ (i:=12) (N:=some 41) (fl 14 8191) rfl rfl (one_of HT_.out (by kernel_rfl)) (by decide) (fun K hK=>?_)
            refine Kd.R_append_step k53 (w0:=w) w.heap.size (by rfl) (.tmp 29) (.tmp 40) 31 53 (.agg #[(.int .i64 0),(.int .i64 0),(.int .i64 0)]) 24 rfl Tryd.underlying31 info53 rfl (by decide) (by omega) (.slice Ao18 x4_1.length co18) x4_1 (⟨rd t133 0,rd t133 1,rd t133 2⟩:S53) [.int .i64 (rd t133 0),.int .i64 (rd t133 1),.int .i64 (rd t133 2)] (fun _=>True) (fun _=>False) rfl rfl ?aP (fun _ hk=>hk.elim) ?aF ?aO ?aB ?aS ?aL ?_
            (case aP=>exact k53_mkM _ _ _ (⟨rd t133 0,rd t133 1,rd t133 2⟩:S53))
            (case aB=>exact be)
            (case aF=>exact (fun _ _=>trivial))
            (case aO=>exact (rR HO_4))
            (case aS=>exact (below_size be))
            (case aL=>have:=LMc16.out;omega)
            intro v141 w21 ho hb hg hat
            rw [← Ny140.out] at ho
            have n0_:=Aside0.mk (Kd.R_over' (rR HO_11) (Kd.R_typed (rR HO_4)) (by decide) hg)
            have n1_:=Aside0.mk (Kd.R_over' (rR HO136) (Kd.R_typed (rR HO_4)) (by decide) hg)
            have n2_:=Aside0.mk (hb)
            have n3_:=Aside0.mk (ho)
            clear HO_11
            clear HO136
            clear HB
            clear HO_4
            have HO_11:=n0_
            have HO136:=n1_
            have HB:=n2_
            have HO142:=n3_
            clear n0_ n1_ n2_ n3_
            clear ho hb hg hat
            refine hK.out _ _ ?_
            clear hK K
            refine no 41 ?_
            refine pt 13 4 (fl 14 16383) HT_ ?_
            refine done_ (done_of HT_.out (by kernel_rfl)) ?_
            try go_wp2
            go_roundg k1
            case measure=>have:=HK1.out;omega
            case rel=>exact ⟨(y140),(wrap64 (x13_1+1)),rd_,H',⟨by have:=HK1.out;omega⟩,⟨rR HO142⟩,⟨rR HO_11⟩,⟨be⟩⟩
           ·rw [if_neg c16] at H
            exact absurd H (by simp)
          ·rw [if_neg c15] at H
           exact absurd H (by simp)
         ·rw [if_neg c14] at H
          exact absurd H (by simp)
        ·rw [if_neg c13] at H
         exact absurd H (by simp)
      ·replace c9:=Bool.eq_false_iff.mpr c9
       subst c9
       have H1:(some (([]:List (S53)),false))=some (r1,r2):=by rw [if_neg (show ¬ (false=true) by decide)] at H;exact H
       clear H
       have H:=H1
       clear H1
       simp only [Option.some.injEq,Prod.mk.injEq] at H
       obtain ⟨rfl,rfl⟩:=H
       have p132:0≤(x13_1:Int):=of_decide_eq_true (by first|(with_reducible assumption)|assumption)
       have q132:x13_1 < (t129.length:Int):=of_decide_eq_true (by first|(with_reducible assumption)|assumption)
       obtain ⟨ad132,e132,hx132_0⟩:=Kd.at_string (Kd.R_reads' HO_11.out).2.2 x13_1 p132 q132
       cases e132
       replace p132:=eq_true p132
       replace q132:=eq_true q132
       go_wp2_with (first|((with_reducible refine gate_callee (f:=48) rfl ?_);refine goesL_ (some 19) rfl rfl Tryd.func48 (by kernel_rfl) rfl #[.string (rdOf ByteArray.empty t129 x13_1),.string (⟨#[58]⟩:ByteArray),.int .i64 3] rfl (by (try simp only [List.map_toArray,List.map_cons,List.map_nil]);first|done|rfl|(simp only [List.length_drop,List.length_take];rfl)) ?_;(with_reducible refine (impl_numbersOf.calls k1 (rdOf ByteArray.empty t129 x13_1) (⟨#[58]⟩:ByteArray) 3 t133 false _ ?side1 A8.out).mono ?_);(case side1=>exact lb hL);rintro e w22 ⟨v135,rfl,ho0,hb⟩;refine ⟨_,rfl,?_⟩;have n0_:=Aside0.mk (Kd.R_below ((rR HO_4)) hb);have n1_:=Aside0.mk (Kd.R_below ((rR HO_11)) hb);have n2_:=Aside0.mk (Kd.R_lower ho0 (below_size be));have n3_:=bs hb;clear HO_4;clear HO_11;clear HB;have HO_4:=n0_;have HO_11:=n1_;have HO136:=n2_;have HB:=n3_;clear n0_ n1_ n2_ n3_;(try clear hb);(try clear hb2);(try clear hk);(try clear hi);(try clear ho0)))
       go_ret2
       exact ⟨_,rz,by first|exact Kd.R_nil _ _ _ _ _|exact Kd.N_nil _ _ _ _ _|exact Kd.V_nil _ _ _ _ _|exact Kd.Q_nil _ _ _ _ _|exact Kd.S_nil _ _ _ _ _,be⟩
     ·rw [if_neg c7] at H
      exact absurd H (by simp)
    ·rw [if_neg c6] at H
     exact absurd H (by simp)
   ·rw [if_neg c5] at H
    have c5b0:decide (x13_1 < (t129.length:Int))=false:=decide_eq_false c5
    clear c5
    replace H:=Option.bind_eq_some_iff.mp H
    obtain ⟨t143,A230,H⟩:=H
    try dsimp only at H
    have A23:=Aside0.mk A230
    clear A230
    by_cases c24:t143.toList=([]:List UInt8)
    ·rw [if_pos c24] at H
     have c24b0:(t143.toList == ([]:List UInt8))=true:=beq_iff_eq.mpr c24
     have c24b1:(t143.toList != ([]:List UInt8))=false:=bne_eq_false_iff_eq.mpr c24
     clear c24
     simp only [Option.some.injEq,Prod.mk.injEq] at H
     obtain ⟨rfl,rfl⟩:=H
     obtain ⟨Ao25,co25,eo25⟩:=Kd.R_slice HO_4.out
     subst eo25
     go_wp2_with (first|((with_reducible refine gate_callee (f:=17) rfl ?_);refine goesL_ (some 44) rfl rfl Tryd.func17 (by kernel_rfl) rfl #[.slice Ao25 x4_1.length co25] rfl (by (try simp only [List.map_toArray,List.map_cons,List.map_nil]);first|done|rfl|(simp only [List.length_drop,List.length_take];rfl)) ?_;(with_reducible refine (impl_DevsText.calls k1 _ _ x4_1 t143 _ ?side3 ?side1 ?side2 A23.out).mono ?_);(case side1=>exact sR HO_4);(case side2=>exact (Kd.R_reads' HO_4.out).2.1);(case side3=>exact lb hL);rintro e w26 ⟨rfl,hb⟩;refine ⟨_,rfl,?_⟩;have n0_:=Aside0.mk (Kd.R_below ((rR HO_4)) hb);have n1_:=Aside0.mk (Kd.R_below ((rR HO_11)) hb);have n2_:=bs hb;clear HO_4;clear HO_11;clear HB;have HO_4:=n0_;have HO_11:=n1_;have HB:=n2_;clear n0_ n1_ n2_;(try clear hb);(try clear hb2);(try clear hk);(try clear hi)))
     go_ret2
     exact ⟨_,rz,by first|exact Kd.R_nil _ _ _ _ _|exact Kd.N_nil _ _ _ _ _|exact Kd.V_nil _ _ _ _ _|exact Kd.Q_nil _ _ _ _ _|exact Kd.S_nil _ _ _ _ _,be⟩
    ·rw [if_neg c24] at H
     have c24b0:(t143.toList == ([]:List UInt8))=false:=beq_eq_false_iff_ne.mpr c24
     have c24b1:(t143.toList != ([]:List UInt8))=true:=bne_iff_ne.mpr c24
     by_cases c27:t143.toList=a0.toList
     ·rw [if_pos c27] at H
      have c27b0:(t143.toList == a0.toList)=true:=beq_iff_eq.mpr c27
      have c27b1:(t143.toList != a0.toList)=false:=bne_eq_false_iff_eq.mpr c27
      clear c27
      simp only [Option.some.injEq,Prod.mk.injEq] at H
      obtain ⟨rfl,rfl⟩:=H
      obtain ⟨Ao28,co28,eo28⟩:=Kd.R_slice HO_4.out
      subst eo28
      go_wp2_with (first|((with_reducible refine gate_callee (f:=17) rfl ?_);refine goesL_ (some 44) rfl rfl Tryd.func17 (by kernel_rfl) rfl #[.slice Ao28 x4_1.length co28] rfl (by (try simp only [List.map_toArray,List.map_cons,List.map_nil]);first|done|rfl|(simp only [List.length_drop,List.length_take];rfl)) ?_;(with_reducible refine (impl_DevsText.calls k1 _ _ x4_1 t143 _ ?side3 ?side1 ?side2 A23.out).mono ?_);(case side1=>exact sR HO_4);(case side2=>exact (Kd.R_reads' HO_4.out).2.1);(case side3=>exact lb hL);rintro e w29 ⟨rfl,hb⟩;refine ⟨_,rfl,?_⟩;have n0_:=Aside0.mk (Kd.R_below ((rR HO_4)) hb);have n1_:=Aside0.mk (Kd.R_below ((rR HO_11)) hb);have n2_:=bs hb;clear HO_4;clear HO_11;clear HB;have HO_4:=n0_;have HO_11:=n1_;have HB:=n2_;clear n0_ n1_ n2_;(try clear hb);(try clear hb2);(try clear hk);(try clear hi)))
      go_ret2
      exact ⟨_,rz,rR HO_4,be⟩
     ·rw [if_neg c27] at H
      have c27b0:(t143.toList == a0.toList)=false:=beq_eq_false_iff_ne.mpr c27
      have c27b1:(t143.toList != a0.toList)=true:=bne_iff_ne.mpr c27
      simp only [Option.some.injEq,Prod.mk.injEq] at H
      obtain ⟨rfl,rfl⟩:=H
      obtain ⟨Ao30,co30,eo30⟩:=Kd.R_slice HO_4.out
      subst eo30
      go_wp2_with (first|((with_reducible refine gate_callee (f:=17) rfl ?_);refine goesL_ (some 44) rfl rfl Tryd.func17 (by kernel_rfl) rfl #[.slice Ao30 x4_1.length co30] rfl (by (try simp only [List.map_toArray,List.map_cons,List.map_nil]);first|done|rfl|(simp only [List.length_drop,List.length_take];rfl)) ?_;(with_reducible refine (impl_DevsText.calls k1 _ _ x4_1 t143 _ ?side3 ?side1 ?side2 A23.out).mono ?_);(case side1=>exact sR HO_4);(case side2=>exact (Kd.R_reads' HO_4.out).2.1);(case side3=>exact lb hL);rintro e w31 ⟨rfl,hb⟩;refine ⟨_,rfl,?_⟩;have n0_:=Aside0.mk (Kd.R_below ((rR HO_4)) hb);have n1_:=Aside0.mk (Kd.R_below ((rR HO_11)) hb);have n2_:=bs hb;clear HO_4;clear HO_11;clear HB;have HO_4:=n0_;have HO_11:=n1_;have HB:=n2_;clear n0_ n1_ n2_;(try clear hb);(try clear hb2);(try clear hk);(try clear hi)))
      go_ret2
      exact ⟨_,rz,by first|exact Kd.R_nil _ _ _ _ _|exact Kd.N_nil _ _ _ _ _|exact Kd.V_nil _ _ _ _ _|exact Kd.Q_nil _ _ _ _ _|exact Kd.S_nil _ _ _ _ _,be⟩
end Go.Proofs.YtnoglmdicdpabaaDoor.PFnDevs
