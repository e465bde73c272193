/- Trimmed by a program of this session (trim.py). Not trusted: Lean checks it. -/
import Derived.Test.YtnoglmdicdpabaaDoorTLDevsReadPFnDevsReadx0
import Derived.Test.YtnoglmdicdpabaaDoorTLDevsReadPFnDevsReadx1
namespace Go.Proofs.YtnoglmdicdpabaaDoor.PFnDevsRead
open Go.RowKit Go.Proofs.YtnoglmdicdpabaaDoorW.PrintWords Go.Proofs.YtnoglmdicdpabaaDoorW.PrintLast Go.Proofs.YtnoglmdicdpabaaDoorW.PrintMore Go.Proofs.YtnoglmdicdpabaaDoor.St
attribute [local go_sem] max2_int min2_int max_two min_two max_three min_three max_four min_four
set_option linter.unusedVariables false
set_option linter.unusedSimpArgs false
def impl_DevsText.l0:Nat→List ByteArray→List (S53)→Int→Int→Option (ByteArray)
 | 0,_,_,_,_=>none
 | k+1,x3,x9,x10,x11=>if x11 < x10 then (if 0≤x11 then (if x11 < (x9.length:Int) then ((strconv_Itoa.f ((rd_T53 x9 x11).f0)).bind fun t111=>(if t111.size+1≤9223372036854775807 then ((strconv_Itoa.f ((rd_T53 x9 x11).f1)).bind fun t112=>(if (t111 ++ (⟨#[58]⟩:ByteArray)).size+t112.size≤9223372036854775807 then (if ((t111 ++ (⟨#[58]⟩:ByteArray)) ++ t112).size+1≤9223372036854775807 then ((strconv_Itoa.f ((rd_T53 x9 x11).f2)).bind fun t113=>(if (((t111 ++ (⟨#[58]⟩:ByteArray)) ++ t112) ++ (⟨#[58]⟩:ByteArray)).size+t113.size≤9223372036854775807 then (if x3.length < 8796093022208 then (impl_DevsText.l0 k (x3 ++ [(((t111 ++ (⟨#[58]⟩:ByteArray)) ++ t112) ++ (⟨#[58]⟩:ByteArray)) ++ t113]) x9 x10 (wrap64 (x11+1))) else (none)) else (none))) else (none)) else (none))) else (none))) else (none)) else (none)) else ((strings_Join.f x3 (⟨#[32]⟩:ByteArray)).bind fun bt117=>(some bt117.1))
def impl_DevsText.f (k:Nat) (l0:List (S53)):Option (ByteArray):=(impl_DevsOk.f k l0).bind fun t108=>(if t108=true then (impl_DevsText.l0 k ([]:List ByteArray) l0 (l0.length:Int) 0) else (some (⟨#[]⟩:ByteArray)))
def impl_DevsText.T7:Bool × List (List Nat × List Nat):=(true,[([],[]),([],[]),([1],[1]),([2],[2]),([3],[3]),([],[]),([5],[5]),([6,3],[6]),([4,7],[4,7]),([8],[8]),([],[]),([10],[10]),([11,7],[11]),([9,12],[9,12]),([13],[13]),([0,14,12],[0,14]),([15,15,0,1,2,3,4,5,6,7,8,9,10,11,12,13,14,15],[0,15])])
def impl_DevsText.B7:List Nat:=[0,0,2,6,14,0,32,110,254,510,0,1024,3310,8190,16382,32767,65535]
theorem impl_DevsText.tab7:rtab .any (opsOf Tryd.f17 7)=impl_DevsText.T7:=by kernel_rfl
theorem impl_DevsText.bits7:waitsOk impl_DevsText.T7.2 impl_DevsText.B7=true:=by kernel_rfl
set_option maxHeartbeats 8000000 in
set_option maxRecDepth 100000 in
theorem impl_DevsText.calls (k:Nat) (A0:Option Addr) (c0:Nat) (l0:List (S53)) (r:ByteArray) (w:World) (hL:Aside0 (Laid w)) (hr0:Kd.C k53 w A0 l0.length l0) (hc0:l0.length≤c0) (h:impl_DevsText.f k l0=some r) :
  Calls Tryd.prog 17 #[.slice A0 l0.length c0] w fun e w'=>e = .returned (.string r)∧Below w.heap.size w w':=by
 have hu53:=Tryd.underlying53
 have HR0:=Aside0.mk hr0
 have HC0:=Aside0.mk hc0
 clear hr0 hc0
 have HB:=Aside0.mk (Below.refl w.heap.size w)
 have H:((impl_DevsOk.f k l0).bind fun t108=>(if t108=true then (impl_DevsText.l0 k ([]:List ByteArray) l0 (l0.length:Int) 0) else (some (⟨#[]⟩:ByteArray))))=some r:=h
 clear h
 replace H:=Option.bind_eq_some_iff.mp H
 obtain ⟨t108,A20,H⟩:=H
 try dsimp only at H
 have A2:=Aside0.mk A20
 clear A20
 by_cases c3:t108=true
 ·subst c3
  rw [if_pos rfl] at H
  have H':=Aside0.mk H
  clear H
  go_enter Tryd.func17,Tryd.ntmps17
  go_wp2_with (first|((with_reducible refine gate_callee (f:=34) rfl ?_);refine goesL_ (some 7) rfl rfl Tryd.func34 (by kernel_rfl) rfl #[.slice A0 l0.length c0] rfl (by (try simp only [List.map_toArray,List.map_cons,List.map_nil]);first|done|rfl|(simp only [List.length_drop,List.length_take];rfl)) ?_;(with_reducible refine (impl_DevsOk.calls k _ _ l0 true _ ?side1 ?side2 A2.out).mono ?_);(case side1=>exact sC HR0);(case side2=>exact HC0.out);rintro e w4 ⟨rfl,hb⟩;refine ⟨_,rfl,?_⟩;have n0_:=bs hb;clear HB;have HB:=n0_;clear n0_;(try clear hb);(try clear hb2);(try clear hk);(try clear hi)))
  go_loopg [3,11] k (fun kq v3 v11 w'=>∃ (x3_1:List ByteArray) (x11_1:Int),v11 = .int .i64 x11_1∧Aside0 (impl_DevsText.l0 kq x3_1 l0 (l0.length:Int) x11_1=some r)∧Aside0 (kq≤k)∧Aside0 (Kd.R Kd.string 9 w' w.heap.size (fun _=>True) v3 x3_1)∧Aside0 (Below w.heap.size w w'))
  case atStart=>exact ⟨(([]:List ByteArray)),(0),rd_,H',⟨Nat.le_refl _⟩,⟨by first|exact Kd.R_nil _ _ _ _ _|exact Kd.N_nil _ _ _ _ _|exact Kd.V_nil _ _ _ _ _|exact Kd.Q_nil _ _ _ _ _|exact Kd.S_nil _ _ _ _ _⟩,⟨be⟩⟩
  case round=>
   clear H'
   try clear c1
   try clear p2
   try clear c3
   obtain ⟨x3_1,x11_1,rfl,HA,HK1,HO_3,HB⟩:=hrel
   cases gk with
   | zero=>exact absurd HA.out (by simp [impl_DevsText.l0])
   | succ k1=>
    have H:=HA.out
    clear HA
    simp only [impl_DevsText.l0] at H
    by_cases c5:x11_1 < (l0.length:Int)
    ·rw [if_pos c5] at H
     have c5b0:decide (x11_1 < (l0.length:Int))=true:=decide_eq_true c5
     clear c5
     by_cases c6:0≤x11_1
     ·rw [if_pos c6] at H
      have c6b0:decide (0≤x11_1)=true:=decide_eq_true c6
      clear c6
      by_cases c7:x11_1 < (l0.length:Int)
      ·rw [if_pos c7] at H
       have c7b0:decide (x11_1 < (l0.length:Int))=true:=decide_eq_true c7
       clear c7
       replace H:=Option.bind_eq_some_iff.mp H
       obtain ⟨t111,A80,H⟩:=H
       try dsimp only at H
       have A8:=Aside0.mk A80
       clear A80
       by_cases c9:t111.size+1≤9223372036854775807
       ·rw [if_pos c9] at H
        have c9b0:=eq_true c9
        have c9b1:decide (t111.size+1≤9223372036854775807)=true:=decide_eq_true c9
        try have c9b2:(9223372036854775807 < t111.size+1)=False:=eq_false (Nat.not_lt.2 c9)
        replace H:=Option.bind_eq_some_iff.mp H
        obtain ⟨t112,A100,H⟩:=H
        try dsimp only at H
        have A10:=Aside0.mk A100
        clear A100
        by_cases c11:(t111 ++ (⟨#[58]⟩:ByteArray)).size+t112.size≤9223372036854775807
        ·rw [if_pos c11] at H
         have c11b0:=eq_true c11
         have c11b1:decide ((t111 ++ (⟨#[58]⟩:ByteArray)).size+t112.size≤9223372036854775807)=true:=decide_eq_true c11
         try have c11b2:(9223372036854775807 < (t111 ++ (⟨#[58]⟩:ByteArray)).size+t112.size)=False:=eq_false (Nat.not_lt.2 c11)
         try (have c11b3:=Nat.not_lt.2 c11;simp only [ByteArray.size_append,one_size] at c11b3;replace c11b3:=eq_false c11b3)
         by_cases c12:((t111 ++ (⟨#[58]⟩:ByteArray)) ++ t112).size+1≤9223372036854775807
         ·rw [if_pos c12] at H
          have c12b0:=eq_true c12
          have c12b1:decide (((t111 ++ (⟨#[58]⟩:ByteArray)) ++ t112).size+1≤9223372036854775807)=true:=decide_eq_true c12
          try have c12b2:(9223372036854775807 < ((t111 ++ (⟨#[58]⟩:ByteArray)) ++ t112).size+1)=False:=eq_false (Nat.not_lt.2 c12)
          try (have c12b3:=Nat.not_lt.2 c12;simp only [ByteArray.size_append,one_size] at c12b3;replace c12b3:=eq_false c12b3)
          replace H:=Option.bind_eq_some_iff.mp H
          obtain ⟨t113,A130,H⟩:=H
          try dsimp only at H
          have A13:=Aside0.mk A130
          clear A130
          by_cases c14:(((t111 ++ (⟨#[58]⟩:ByteArray)) ++ t112) ++ (⟨#[58]⟩:ByteArray)).size+t113.size≤9223372036854775807
          ·rw [if_pos c14] at H
           have c14b0:=eq_true c14
           have c14b1:decide ((((t111 ++ (⟨#[58]⟩:ByteArray)) ++ t112) ++ (⟨#[58]⟩:ByteArray)).size+t113.size≤9223372036854775807)=true:=decide_eq_true c14
           try have c14b2:(9223372036854775807 < (((t111 ++ (⟨#[58]⟩:ByteArray)) ++ t112) ++ (⟨#[58]⟩:ByteArray)).size+t113.size)=False:=eq_false (Nat.not_lt.2 c14)
           try (have c14b3:=Nat.not_lt.2 c14;simp only [ByteArray.size_append,one_size] at c14b3;replace c14b3:=eq_false c14b3)
           by_cases c15:x3_1.length < 8796093022208
           ·rw [if_pos c15] at H
            have LMc15:=Aside0.mk c15
            clear c15
            obtain ⟨y114,hy114⟩ : ∃ y_:List ByteArray,y_=(x3_1 ++ [(((t111 ++ (⟨#[58]⟩:ByteArray)) ++ t112) ++ (⟨#[58]⟩:ByteArray)) ++ t113]):=⟨_,rfl⟩
            replace H:(impl_DevsText.l0 k1 y114 l0 (l0.length:Int) (wrap64 (x11_1+1)))=some r:=by first|(rw [hy114];with_reducible exact H)|(have H2_:=(Option.bind_some _ _).symm.trans H;rw [hy114];with_reducible exact H2_)|(have H2_:=(Option.bind_some _ _).symm.trans H;with_reducible exact H2_)|with_reducible exact H|(rw [hy114];exact H)|exact H
            have Ny114:=Aside0.mk hy114
            clear hy114
            have H':=Aside0.mk H
            clear H
            have p109:0≤(x11_1:Int):=of_decide_eq_true (by first|(with_reducible assumption)|assumption)
            have q109:x11_1 < (l0.length:Int):=of_decide_eq_true (by first|(with_reducible assumption)|assumption)
            obtain ⟨ad109,e109,hx109_0,hx109_1,hx109_2⟩:=at_T53 HR0.out x11_1 p109 q109
            cases e109
            replace hx109_0:=(HB.out.cell (World.block_lt_of_cell? w _ hx109_0)).trans hx109_0
            replace hx109_1:=(HB.out.cell (World.block_lt_of_cell? w _ hx109_1)).trans hx109_1
            replace hx109_2:=(HB.out.cell (World.block_lt_of_cell? w _ hx109_2)).trans hx109_2
            replace p109:=eq_true p109
            replace q109:=eq_true q109
            try go_wp2_with (first|((with_reducible refine gate_dst (N:=5) rfl ?_);refine box_event ?hg (N:=5) ?hd (cs:=#[.int .i64 0,.int .i64 0,.int .i64 0]) (t:=53) ?hr ?_;(case hd=>rfl);(case hg=>rfl);(case hr=>first|(go_simp;done)|(go_simp;rfl));intro gb110 hg w16 hbox hb;have n0_:=Aside0.mk (Kd.R_below (rR HO_3) hb);have n1_:=bs hb;have n2_:=Aside0.mk (hbox);have n3_:=Aside0.mk ((by rw [hg];exact (below_size be):w.heap.size≤gb110));have n4_:=Aside0.mk ((by rw [hg];exact (below_size be):w.heap.size≤gb110));clear HO_3;clear HB;have HO_3:=n0_;have HB:=n1_;have BK110:=n2_;have GW110:=n3_;have GE110:=n4_;clear n0_ n1_ n2_ n3_ n4_;clear hb hbox hg;have hcz17_0:w16.cell? ⟨gb110,0,none⟩=some (.int .i64 0):=(blk_cell BK110.out 0).trans rfl;have hcz17_1:w16.cell? ⟨gb110,1,none⟩=some (.int .i64 0):=(blk_cell BK110.out 1).trans rfl;have hcz17_2:w16.cell? ⟨gb110,2,none⟩=some (.int .i64 0):=(blk_cell BK110.out 2).trans rfl;have hfz17_0:=blk_frozen BK110.out 0;have hfz17_1:=blk_frozen BK110.out 1;have hfz17_2:=blk_frozen BK110.out 2))
            have n0_:Aside0 (Kd.R Kd.string 9 (((w16.setCell ⟨gb110,0,none⟩ (.int .i64 ((rd_T53 l0 x11_1).f0))).setCell ⟨gb110,1,none⟩ (.int .i64 ((rd_T53 l0 x11_1).f1))).setCell ⟨gb110,2,none⟩ (.int .i64 ((rd_T53 l0 x11_1).f2))) w.heap.size (fun _=>True) u3 x3_1):=⟨by (with_reducible repeat (first|apply Kd.R_alloc|apply Kd.R_drewN|apply Kd.R_drew));exact Kd.R_mono (Kd.R_far (p:=⟨gb110,2,none⟩) (Kd.R_far (p:=⟨gb110,1,none⟩) (Kd.R_far (p:=⟨gb110,0,none⟩) (Kd.R_types HO_3.out BK110.out (by decide)) (fun _ hk=>hk.2) (.int .i64 ((rd_T53 l0 x11_1).f0))) (fun _ hk=>hk.2) (.int .i64 ((rd_T53 l0 x11_1).f1))) (fun _ hk=>hk.2) (.int .i64 ((rd_T53 l0 x11_1).f2))) (fun _ hk=>trivial)⟩
            have n1_:Aside0 ((((w16.setCell ⟨gb110,0,none⟩ (.int .i64 ((rd_T53 l0 x11_1).f0))).setCell ⟨gb110,1,none⟩ (.int .i64 ((rd_T53 l0 x11_1).f1))).setCell ⟨gb110,2,none⟩ (.int .i64 ((rd_T53 l0 x11_1).f2))).heap[gb110]?=some (.cells #[.int .i64 ((rd_T53 l0 x11_1).f0),.int .i64 ((rd_T53 l0 x11_1).f1),.int .i64 ((rd_T53 l0 x11_1).f2)] 53 (0,0))):=⟨by (with_reducible repeat (first|refine blk_drewN ?_ _|refine blk_drew ?_|refine blk_alloc ?_ _));refine blk_put (cs:=#[.int .i64 ((rd_T53 l0 x11_1).f0),.int .i64 ((rd_T53 l0 x11_1).f1),.int .i64 0]) ?_ 2 _ rfl;(with_reducible repeat (first|refine blk_drewN ?_ _|refine blk_drew ?_|refine blk_alloc ?_ _));refine blk_put (cs:=#[.int .i64 ((rd_T53 l0 x11_1).f0),.int .i64 0,.int .i64 0]) ?_ 1 _ rfl;(with_reducible repeat (first|refine blk_drewN ?_ _|refine blk_drew ?_|refine blk_alloc ?_ _));refine blk_put (cs:=#[.int .i64 0,.int .i64 0,.int .i64 0]) ?_ 0 _ rfl;(with_reducible repeat (first|refine blk_drewN ?_ _|refine blk_drew ?_|refine blk_alloc ?_ _));exact BK110.out⟩
            have n2_:Aside0 (Below w.heap.size w (((w16.setCell ⟨gb110,0,none⟩ (.int .i64 ((rd_T53 l0 x11_1).f0))).setCell ⟨gb110,1,none⟩ (.int .i64 ((rd_T53 l0 x11_1).f1))).setCell ⟨gb110,2,none⟩ (.int .i64 ((rd_T53 l0 x11_1).f2)))):=⟨be⟩
            (try clear HO_3)
            (try clear BK110)
            (try clear HB)
            generalize (((w16.setCell ⟨gb110,0,none⟩ (.int .i64 ((rd_T53 l0 x11_1).f0))).setCell ⟨gb110,1,none⟩ (.int .i64 ((rd_T53 l0 x11_1).f1))).setCell ⟨gb110,2,none⟩ (.int .i64 ((rd_T53 l0 x11_1).f2)))=w18 at n0_ n1_ n2_ ⊢
            have HO_3:=n0_
            have BK110:=n1_
            have HB:=n2_
            clear n0_ n1_ n2_
            have n0_:=Aside0.mk (Kd.R_drew HO_3.out)
            have n1_:=Aside0.mk (blk_drew BK110.out)
            have n2_:=Aside0.mk (below_drew1 HB.out)
            clear HO_3
            clear BK110
            clear HB
            have HO_3:=n0_
            have BK110:=n1_
            have HB:=n2_
            clear n0_ n1_ n2_
            refine start_ (n:=17) (S:=fun w'=>w'.cell? ⟨gb110,0,none⟩=some (.int .i64 ((rd_T53 l0 x11_1).f0))∧w'.cell? ⟨gb110,1,none⟩=some (.int .i64 ((rd_T53 l0 x11_1).f1))∧w'.cell? ⟨gb110,2,none⟩=some (.int .i64 ((rd_T53 l0 x11_1).f2))) (ds:=[]) (fl 17 0) (by kernel_rfl) rfl rfl ⟨(blk_cell BK110.out 0).trans rfl,(blk_cell BK110.out 1).trans rfl,(blk_cell BK110.out 2).trans rfl⟩ (fun hHeld=>?_);refine with_tabW impl_DevsText.tab7 impl_DevsText.bits7 (fun HT_ HW_=>?_)
            generalize w18.drew=w19 at HO_3 BK110 HB hHeld ⊢
            refine pt 0 15 (fl 17 1) HT_ ?_
            refine pt 1 16 (fl 17 3) HT_ ?_
            refine pt 5 20 (fl 17 35) HT_ ?_
            refine pt 10 25 (fl 17 1059) HT_ ?_
            refine tt 2 17 (fl 17 1063) HT_ HW_ hHeld ?_
            refine tt 6 21 (fl 17 1127) HT_ HW_ hHeld ?_
            refine tt 11 26 (fl 17 3175) HT_ HW_ hHeld ?_
            refine ot 3 (some 18) (fl 17 3183) HT_ (fun K hK=>?_)
            refine goes_ Tryd.func42 (by kernel_rfl) rfl #[.int .i64 ((rd_T53 l0 x11_1).f0)] (by rfl) rfl rfl (by (try simp only [List.map_toArray,List.map_cons,List.map_nil]);first|done|rfl|(simp only [List.length_drop,List.length_take];rfl)) ?_
            with_reducible refine (strconv_Itoa.calls ((rd_T53 l0 x11_1).f0) t111 _ ?side1 A8.out).mono ?_
            (case side1=>exact lb hL)
            rintro e w20 ⟨rfl,hb⟩
            refine ⟨_,rfl,?_⟩
            have n0_:=Aside0.mk (Kd.R_below ((rR HO_3)) hb)
            have n1_:=Aside0.mk (blk_below (g:=gb110) (o:=.cells #[.int .i64 ((rd_T53 l0 x11_1).f0),.int .i64 ((rd_T53 l0 x11_1).f1),.int .i64 ((rd_T53 l0 x11_1).f2)] 53 (0,0)) (bk BK110) hb)
            have n2_:=bs hb
            clear HO_3
            clear BK110
            clear HB
            have HO_3:=n0_
            have BK110:=n1_
            have HB:=n2_
            clear n0_ n1_ n2_
            (try clear hb)
            (try clear hb2)
            (try clear hk)
            (try clear hi)
            refine hK.out _ _ ⟨(blk_cell BK110.out 0).trans rfl,(blk_cell BK110.out 1).trans rfl,(blk_cell BK110.out 2).trans rfl⟩ (fun hHeld=>?_)
            clear hK K
            refine no 18 ?_
            refine pt 4 19 (fl 17 3199) HT_ ?_
            refine ot 7 (some 22) (fl 17 3327) HT_ (fun K hK=>?_)
            refine goes_ Tryd.func42 (by kernel_rfl) rfl #[.int .i64 ((rd_T53 l0 x11_1).f1)] (by rfl) rfl rfl (by (try simp only [List.map_toArray,List.map_cons,List.map_nil]);first|done|rfl|(simp only [List.length_drop,List.length_take];rfl)) ?_
            with_reducible refine (strconv_Itoa.calls ((rd_T53 l0 x11_1).f1) t112 _ ?side1 A10.out).mono ?_
            (case side1=>exact lb hL)
            rintro e w21 ⟨rfl,hb⟩
            refine ⟨_,rfl,?_⟩
            have n0_:=Aside0.mk (Kd.R_below ((rR HO_3)) hb)
            have n1_:=Aside0.mk (blk_below (g:=gb110) (o:=.cells #[.int .i64 ((rd_T53 l0 x11_1).f0),.int .i64 ((rd_T53 l0 x11_1).f1),.int .i64 ((rd_T53 l0 x11_1).f2)] 53 (0,0)) (bk BK110) hb)
            have n2_:=bs hb
            clear HO_3
            clear BK110
            clear HB
            have HO_3:=n0_
            have BK110:=n1_
            have HB:=n2_
            clear n0_ n1_ n2_
            (try clear hb)
            (try clear hb2)
            (try clear hk)
            (try clear hi)
            refine hK.out _ _ ⟨(blk_cell BK110.out 0).trans rfl,(blk_cell BK110.out 1).trans rfl,(blk_cell BK110.out 2).trans rfl⟩ (fun hHeld=>?_)
            clear hK K
            refine no 22 ?_
            refine pt 8 23 (fl 17 3583) HT_ ?_
            refine pt 9 24 (fl 17 4095) HT_ ?_
            refine ot 12 (some 27) (fl 17 8191) HT_ (fun K hK=>?_)
            refine goes_ Tryd.func42 (by kernel_rfl) rfl #[.int .i64 ((rd_T53 l0 x11_1).f2)] (by rfl) rfl rfl (by (try simp only [List.map_toArray,List.map_cons,List.map_nil]);first|done|rfl|(simp only [List.length_drop,List.length_take];rfl)) ?_
            with_reducible refine (strconv_Itoa.calls ((rd_T53 l0 x11_1).f2) t113 _ ?side1 A13.out).mono ?_
            (case side1=>exact lb hL)
            rintro e w22 ⟨rfl,hb⟩
            refine ⟨_,rfl,?_⟩
            have n0_:=Aside0.mk (Kd.R_below ((rR HO_3)) hb)
            have n1_:=Aside0.mk (blk_below (g:=gb110) (o:=.cells #[.int .i64 ((rd_T53 l0 x11_1).f0),.int .i64 ((rd_T53 l0 x11_1).f1),.int .i64 ((rd_T53 l0 x11_1).f2)] 53 (0,0)) (bk BK110) hb)
            have n2_:=bs hb
            clear HO_3
            clear BK110
            clear HB
            have HO_3:=n0_
            have BK110:=n1_
            have HB:=n2_
            clear n0_ n1_ n2_
            (try clear hb)
            (try clear hb2)
            (try clear hk)
            (try clear hi)
            refine hK.out _ _ ⟨(blk_cell BK110.out 0).trans rfl,(blk_cell BK110.out 1).trans rfl,(blk_cell BK110.out 2).trans rfl⟩ (fun hHeld=>?_)
            clear hK K
            refine no 27 ?_
            refine pt 13 28 (fl 17 16383) HT_ ?_
            refine ot 14 (some 29) (fl 17 32767) HT_ (fun K hK=>?_)
            refine value_ (w1:=?_) (v:=?_) (by rfl) rfl ?_ ?_
            rotate_left 2
            ·go_simp
             constructor
             ·rfl
             ·rfl
            refine hK.out _ _ ⟨(blk_cell (blk_alloc BK110.out _) 0).trans rfl,(blk_cell (blk_alloc BK110.out _) 1).trans rfl,(blk_cell (blk_alloc BK110.out _) 2).trans rfl⟩ (fun hHeld=>?_)
            clear hK K
            refine no 29 ?_
            refine ot 15 (some 30) (fl 17 65535) HT_ (fun K hK=>?_)
            refine Kd.R_append_step Kd.string (w0:=w) w.heap.size (by rfl) (.tmp 15) (.tmp 29) 60 9 (.string ⟨#[]⟩) 16 rfl Tryd.underlying60 info9 rfl (by decide) (by omega) u3 x3_1 ((((t111 ++ (⟨#[58]⟩:ByteArray)) ++ t112) ++ (⟨#[58]⟩:ByteArray)) ++ t113) [.string ((((t111 ++ (⟨#[58]⟩:ByteArray)) ++ t112) ++ (⟨#[58]⟩:ByteArray)) ++ t113)] (fun _=>True) (fun _=>False) rfl rfl ?aP (fun _ hk=>hk.elim) ?aF ?aO ?aB ?aS ?aL ?_
            (case aP=>exact rfl)
            (case aB=>exact be)
            (case aF=>exact (fun _ _=>trivial))
            (case aO=>exact (rR HO_3))
            (case aS=>exact (below_size be))
            (case aL=>have:=LMc15.out;omega)
            intro v115 w23 ho hb hg hat
            rw [← Ny114.out] at ho
            have n0_:=Aside0.mk (blk_grown (g:=gb110) (o:=.cells #[.int .i64 ((rd_T53 l0 x11_1).f0),.int .i64 ((rd_T53 l0 x11_1).f1),.int .i64 ((rd_T53 l0 x11_1).f2)] 53 (0,0)) (bk BK110) hg (Kd.R_ne HO_3.out BK110.out (by decide)))
            have n1_:=Aside0.mk (hb)
            have n2_:=Aside0.mk (ho)
            clear BK110
            clear HB
            clear HO_3
            have BK110:=n0_
            have HB:=n1_
            have HO116:=n2_
            clear n0_ n1_ n2_
            clear ho hb hg hat
            refine hK.out _ _ ⟨(blk_cell BK110.out 0).trans rfl,(blk_cell BK110.out 1).trans rfl,(blk_cell BK110.out 2).trans rfl⟩ (fun hHeld=>?_)
            clear hK K
            refine no 30 ?_
            refine pt 16 3 (fl 17 131071) HT_ ?_
            refine done_ (done_of HT_.out (by kernel_rfl)) ?_
            try go_wp2
            go_roundg k1
            case measure=>have:=HK1.out;omega
            case rel=>exact ⟨(y114),(wrap64 (x11_1+1)),rd_,H',⟨by have:=HK1.out;omega⟩,⟨rR HO116⟩,⟨be⟩⟩
           ·rw [if_neg c15] at H
            exact absurd H (by simp)
          ·rw [if_neg c14] at H
           exact absurd H (by simp)
         ·rw [if_neg c12] at H
          exact absurd H (by simp)
        ·rw [if_neg c11] at H
         exact absurd H (by simp)
       ·rw [if_neg c9] at H
        exact absurd H (by simp)
      ·rw [if_neg c7] at H
       exact absurd H (by simp)
     ·rw [if_neg c6] at H
      exact absurd H (by simp)
    ·rw [if_neg c5] at H
     have c5b0:decide (x11_1 < (l0.length:Int))=false:=decide_eq_false c5
     clear c5
     replace H:=Option.bind_eq_some_iff.mp H
     obtain ⟨⟨t117,t118⟩,A240,H⟩:=H
     try dsimp only at H
     have A24:=Aside0.mk A240
     clear A240
     obtain rfl:=Option.some.inj H
     obtain ⟨Ao25,co25,eo25⟩:=Kd.R_slice HO_3.out
     subst eo25
     go_wp2_with (first|((with_reducible refine gate_callee (f:=44) rfl ?_);refine goesL_ (some 33) rfl rfl Tryd.func44 (by kernel_rfl) rfl #[.slice Ao25 x3_1.length co25,.string (⟨#[32]⟩:ByteArray)] rfl (by (try simp only [List.map_toArray,List.map_cons,List.map_nil]);first|done|rfl|(simp only [List.length_drop,List.length_take];rfl)) ?_;(with_reducible refine (strings_Join.calls (fun k_=>some k_=(.slice Ao25 x3_1.length co25:Value).ownBlock) (.slice Ao25 x3_1.length co25) x3_1 (⟨#[32]⟩:ByteArray) t117 t118 w _ ?side1 ?side2 A24.out).mono ?_);(case side1=>exact be);(case side2=>exact Kd.R_tight rfl HO_3.out);rintro e w26 ⟨rfl,hy0,hb,hkp⟩;refine ⟨_,rfl,?_⟩;have n0_:=Aside0.mk (Kd.R_reok rfl hy0 (fun k_ e_=>HO_3.out.1 k_ e_));have n1_:=Aside0.mk (hb);clear HO_3;clear HB;have HO_3:=n0_;have HB:=n1_;clear n0_ n1_;(try clear hb);(try clear hkp);(try clear hy0)))
     go_ret
     exact ⟨rz,be⟩
 ·replace c3:=Bool.eq_false_iff.mpr c3
  subst c3
  have H1:(some (⟨#[]⟩:ByteArray))=some r:=by rw [if_neg (show ¬ (false=true) by decide)] at H;exact H
  clear H
  have H:=H1
  clear H1
  obtain rfl:=Option.some.inj H
  go_enter Tryd.func17,Tryd.ntmps17
  go_wp2_with (first|((with_reducible refine gate_callee (f:=34) rfl ?_);refine goesL_ (some 7) rfl rfl Tryd.func34 (by kernel_rfl) rfl #[.slice A0 l0.length c0] rfl (by (try simp only [List.map_toArray,List.map_cons,List.map_nil]);first|done|rfl|(simp only [List.length_drop,List.length_take];rfl)) ?_;(with_reducible refine (impl_DevsOk.calls k _ _ l0 false _ ?side1 ?side2 A2.out).mono ?_);(case side1=>exact sC HR0);(case side2=>exact HC0.out);rintro e w27 ⟨rfl,hb⟩;refine ⟨_,rfl,?_⟩;have n0_:=bs hb;clear HB;have HB:=n0_;clear n0_;(try clear hb);(try clear hb2);(try clear hk);(try clear hi)))
  go_ret
  exact ⟨rz,be⟩
def laws_big.f (l0:List Int):Option (Bool):=some (decide ((l0.length:Int) > 1048576))
set_option maxHeartbeats 8000000 in
set_option maxRecDepth 100000 in
theorem laws_big.calls (A0:Option Addr) (c0:Nat) (l0:List Int) (r:Bool) (w:World) (hr0:Kd.C (Kd.int .u8) w A0 l0.length l0) (hc0:l0.length≤c0) (h:laws_big.f l0=some r) :
  Calls Tryd.prog 22 #[.slice A0 l0.length c0] w fun e w'=>e = .returned (.bool r)∧Drawn0 w w':=by
 have HR0:=Aside0.mk hr0
 have HC0:=Aside0.mk hc0
 clear hr0 hc0
 have H:(some (decide ((l0.length:Int) > 1048576)))=some r:=h
 clear h
 obtain rfl:=Option.some.inj H
 go_enter Tryd.func22,Tryd.ntmps22
 go_wp2
 go_ret
 exact ⟨by first|rfl|(simp;done)|(simp [*];done),by repeat (first|exact Drawn0.refl _|apply Drawn0.step)⟩
def spec_l1In.f (a0:Int) (a1:Int) (a2:Int):Option (Bool):=if a0 ≥ a1 then (some (decide (a0≤a2))) else (some false)
set_option maxHeartbeats 8000000 in
set_option maxRecDepth 100000 in
theorem spec_l1In.calls (a0:Int) (a1:Int) (a2:Int) (r:Bool) (w:World) (h:spec_l1In.f a0 a1 a2=some r) :
  Calls Tryd.prog 52 #[.int .i64 a0,.int .i64 a1,.int .i64 a2] w fun e w'=>e = .returned (.bool r)∧Drawn0 w w':=by
 have H:(if a0 ≥ a1 then (some (decide (a0≤a2))) else (some false))=some r:=h
 clear h
 by_cases c4:a0 ≥ a1
 ·rw [if_pos c4] at H
  have c4b0:decide (a1≤a0)=true:=decide_eq_true c4
  clear c4
  obtain rfl:=Option.some.inj H
  go_enter Tryd.func52,Tryd.ntmps52
  go_wp2
  go_ret
  exact ⟨by first|rfl|(simp;done)|(simp [*];done),by repeat (first|exact Drawn0.refl _|apply Drawn0.step)⟩
 ·rw [if_neg c4] at H
  have c4b0:decide (a1≤a0)=false:=decide_eq_false c4
  clear c4
  obtain rfl:=Option.some.inj H
  go_enter Tryd.func52,Tryd.ntmps52
  go_wp2
  go_ret
  exact ⟨by first|rfl|(simp;done)|(simp [*];done),by repeat (first|exact Drawn0.refl _|apply Drawn0.step)⟩
end Go.Proofs.YtnoglmdicdpabaaDoor.PFnDevsRead
