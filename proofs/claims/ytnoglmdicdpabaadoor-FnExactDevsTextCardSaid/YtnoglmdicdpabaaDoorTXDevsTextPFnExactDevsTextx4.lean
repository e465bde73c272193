/- Trimmed by a program of this session (trim.py). Not trusted: Lean checks it. -/
import Derived.Test.YtnoglmdicdpabaaDoorTXDevsTextPFnExactDevsTextx0
import Derived.Test.YtnoglmdicdpabaaDoorTXDevsTextPFnExactDevsTextx1
import Derived.Test.YtnoglmdicdpabaaDoorTXDevsTextPFnExactDevsTextx2
import Derived.Test.YtnoglmdicdpabaaDoorTXDevsTextPFnExactDevsTextx3
namespace Go.Proofs.YtnoglmdicdpabaaDoor.PFnExactDevsText
open Go.RowKit Go.Proofs.YtnoglmdicdpabaaDoorW.PrintWords Go.Proofs.YtnoglmdicdpabaaDoorW.PrintLast Go.Proofs.YtnoglmdicdpabaaDoorW.PrintMore Go.Proofs.YtnoglmdicdpabaaDoor.St
attribute [local go_sem] max2_int min2_int max_two min_two max_three min_three max_four min_four
set_option linter.unusedVariables false
set_option linter.unusedSimpArgs false
def impl_DevsText.l0:Nat→List ByteArray→List (S53)→Int→Int→Option (ByteArray)
 | 0,_,_,_,_=>none
 | k+1,x3,x9,x10,x11=>if x11 < x10 then (if 0≤x11 then (if x11 < (x9.length:Int) then ((strconv_Itoa.f ((rd_T53 x9 x11).f0)).bind fun t149=>(if t149.size+1≤9223372036854775807 then ((strconv_Itoa.f ((rd_T53 x9 x11).f1)).bind fun t150=>(if (t149 ++ (⟨#[58]⟩:ByteArray)).size+t150.size≤9223372036854775807 then (if ((t149 ++ (⟨#[58]⟩:ByteArray)) ++ t150).size+1≤9223372036854775807 then ((strconv_Itoa.f ((rd_T53 x9 x11).f2)).bind fun t151=>(if (((t149 ++ (⟨#[58]⟩:ByteArray)) ++ t150) ++ (⟨#[58]⟩:ByteArray)).size+t151.size≤9223372036854775807 then (if x3.length < 8796093022208 then (impl_DevsText.l0 k (x3 ++ [(((t149 ++ (⟨#[58]⟩:ByteArray)) ++ t150) ++ (⟨#[58]⟩:ByteArray)) ++ t151]) x9 x10 (wrap64 (x11+1))) else (none)) else (none))) else (none)) else (none))) else (none))) else (none)) else (none)) else ((strings_Join.f x3 (⟨#[32]⟩:ByteArray)).bind fun bt155=>(some bt155.1))
def impl_DevsText.f (k:Nat) (l0:List (S53)):Option (ByteArray):=(impl_DevsOk.f k l0).bind fun t146=>(if t146=true then (impl_DevsText.l0 k ([]:List ByteArray) l0 (l0.length:Int) 0) else (some (⟨#[]⟩:ByteArray)))
def impl_DevsText.T7:Bool × List (List Nat × List Nat):=(true,[([],[]),([],[]),([1],[1]),([2],[2]),([3],[3]),([],[]),([5],[5]),([6,3],[6]),([4,7],[4,7]),([8],[8]),([],[]),([10],[10]),([11,7],[11]),([9,12],[9,12]),([13],[13]),([0,14,12],[0,14]),([15,15,0,1,2,3,4,5,6,7,8,9,10,11,12,13,14,15],[0,15])])
def impl_DevsText.B7:List Nat:=[0,0,2,6,14,0,32,110,254,510,0,1024,3310,8190,16382,32767,65535]
theorem impl_DevsText.tab7:rtab .any (opsOf Tryd.f17 7)=impl_DevsText.T7:=by kernel_rfl
theorem impl_DevsText.bits7:waitsOk impl_DevsText.T7.2 impl_DevsText.B7=true:=by kernel_rfl
set_option maxHeartbeats 8000000 in
set_option maxRecDepth 100000 in
theorem impl_DevsText.calls (k:Nat) (A0:Option Addr) (c0:Nat) (l0:List (S53)) (r:ByteArray) (w:World) (hL:Aside0 (Laid w)) (hr0:Kd.C k53 w A0 l0.length l0) (hc0:l0.length≤c0) (h:impl_DevsText.f k l0=some r) :
  Calls Tryd.prog 17 #[.slice A0 l0.length c0] w fun e w'=>e = .returned (.string r)∧Below w.heap.size w w':=by
 have hu53:=Tryd.underlying53
 have HR0:=Aside0.mk hr0
 have HC0:=Aside0.mk hc0
 clear hr0 hc0
 have HB:=Aside0.mk (Below.refl w.heap.size w)
 have H:((impl_DevsOk.f k l0).bind fun t146=>(if t146=true then (impl_DevsText.l0 k ([]:List ByteArray) l0 (l0.length:Int) 0) else (some (⟨#[]⟩:ByteArray))))=some r:=h
 clear h
 replace H:=Option.bind_eq_some_iff.mp H
 obtain ⟨t146,A20,H⟩:=H
 try dsimp only at H
 have A2:=Aside0.mk A20
 clear A20
 by_cases c3:t146=true
 ·subst c3
  rw [if_pos rfl] at H
  have H':=Aside0.mk H
  clear H
  go_enter Tryd.func17,Tryd.ntmps17
  go_wp2_with (first|((with_reducible refine gate_callee (f:=34) rfl ?_);refine goesL_ (some 7) rfl rfl Tryd.func34 (by kernel_rfl) rfl #[.slice A0 l0.length c0] rfl (by (try simp only [List.map_toArray,List.map_cons,List.map_nil]);first|done|rfl|(simp only [List.length_drop,List.length_take];rfl)) ?_;(with_reducible refine (impl_DevsOk.calls k _ _ l0 true _ ?side1 ?side2 A2.out).mono ?_);(case side1=>exact sC HR0);(case side2=>exact HC0.out);rintro e w4 ⟨rfl,hb⟩;refine ⟨_,rfl,?_⟩;have n0_:=bs hb;clear HB;have HB:=n0_;clear n0_;(try clear hb);(try clear hb2);(try clear hk);(try clear hi)))
  go_loopg [3,11] k (fun kq v3 v11 w'=>∃ (x3_1:List ByteArray) (x11_1:Int),v11 = .int .i64 x11_1∧Aside0 (impl_DevsText.l0 kq x3_1 l0 (l0.length:Int) x11_1=some r)∧Aside0 (kq≤k)∧Aside0 (Kd.R Kd.string 9 w' w.heap.size (fun _=>True) v3 x3_1)∧Aside0 (Below w.heap.size w w'))
  case atStart=>exact ⟨(([]:List ByteArray)),(0),rd_,H',⟨Nat.le_refl _⟩,⟨by first|exact Kd.R_nil _ _ _ _ _|exact Kd.N_nil _ _ _ _ _|exact Kd.V_nil _ _ _ _ _|exact Kd.Q_nil _ _ _ _ _|exact Kd.S_nil _ _ _ _ _⟩,⟨be⟩⟩
  case round=>
   clear H'
   try clear c1
   try clear p2
   try clear c3
   obtain ⟨x3_1,x11_1,rfl,HA,HK1,HO_3,HB⟩:=hrel
   cases gk with
   | zero=>exact absurd HA.out (by simp [impl_DevsText.l0])
   | succ k1=>
    have H:=HA.out
    clear HA
    simp only [impl_DevsText.l0] at H
    by_cases c5:x11_1 < (l0.length:Int)
    ·rw [if_pos c5] at H
     have c5b0:decide (x11_1 < (l0.length:Int))=true:=decide_eq_true c5
     clear c5
     by_cases c6:0≤x11_1
     ·rw [if_pos c6] at H
      have c6b0:decide (0≤x11_1)=true:=decide_eq_true c6
      clear c6
      by_cases c7:x11_1 < (l0.length:Int)
      ·rw [if_pos c7] at H
       have c7b0:decide (x11_1 < (l0.length:Int))=true:=decide_eq_true c7
       clear c7
       replace H:=Option.bind_eq_some_iff.mp H
       obtain ⟨t149,A80,H⟩:=H
       try dsimp only at H
       have A8:=Aside0.mk A80
       clear A80
       by_cases c9:t149.size+1≤9223372036854775807
       ·rw [if_pos c9] at H
        have c9b0:=eq_true c9
        have c9b1:decide (t149.size+1≤9223372036854775807)=true:=decide_eq_true c9
        try have c9b2:(9223372036854775807 < t149.size+1)=False:=eq_false (Nat.not_lt.2 c9)
        replace H:=Option.bind_eq_some_iff.mp H
        obtain ⟨t150,A100,H⟩:=H
        try dsimp only at H
        have A10:=Aside0.mk A100
        clear A100
        by_cases c11:(t149 ++ (⟨#[58]⟩:ByteArray)).size+t150.size≤9223372036854775807
        ·rw [if_pos c11] at H
         have c11b0:=eq_true c11
         have c11b1:decide ((t149 ++ (⟨#[58]⟩:ByteArray)).size+t150.size≤9223372036854775807)=true:=decide_eq_true c11
         try have c11b2:(9223372036854775807 < (t149 ++ (⟨#[58]⟩:ByteArray)).size+t150.size)=False:=eq_false (Nat.not_lt.2 c11)
         try (have c11b3:=Nat.not_lt.2 c11;simp only [ByteArray.size_append,one_size] at c11b3;replace c11b3:=eq_false c11b3)
         by_cases c12:((t149 ++ (⟨#[58]⟩:ByteArray)) ++ t150).size+1≤9223372036854775807
         ·rw [if_pos c12] at H
          have c12b0:=eq_true c12
          have c12b1:decide (((t149 ++ (⟨#[58]⟩:ByteArray)) ++ t150).size+1≤9223372036854775807)=true:=decide_eq_true c12
          try have c12b2:(9223372036854775807 < ((t149 ++ (⟨#[58]⟩:ByteArray)) ++ t150).size+1)=False:=eq_false (Nat.not_lt.2 c12)
          try (have c12b3:=Nat.not_lt.2 c12;simp only [ByteArray.size_append,one_size] at c12b3;replace c12b3:=eq_false c12b3)
          replace H:=Option.bind_eq_some_iff.mp H
          obtain ⟨t151,A130,H⟩:=H
          try dsimp only at H
          have A13:=Aside0.mk A130
          clear A130
          by_cases c14:(((t149 ++ (⟨#[58]⟩:ByteArray)) ++ t150) ++ (⟨#[58]⟩:ByteArray)).size+t151.size≤9223372036854775807
          ·rw [if_pos c14] at H
           have c14b0:=eq_true c14
           have c14b1:decide ((((t149 ++ (⟨#[58]⟩:ByteArray)) ++ t150) ++ (⟨#[58]⟩:ByteArray)).size+t151.size≤9223372036854775807)=true:=decide_eq_true c14
           try have c14b2:(9223372036854775807 < (((t149 ++ (⟨#[58]⟩:ByteArray)) ++ t150) ++ (⟨#[58]⟩:ByteArray)).size+t151.size)=False:=eq_false (Nat.not_lt.2 c14)
           try (have c14b3:=Nat.not_lt.2 c14;simp only [ByteArray.size_append,one_size] at c14b3;replace c14b3:=eq_false c14b3)
           by_cases c15:x3_1.length < 8796093022208
           ·rw [if_pos c15] at H
            have LMc15:=Aside0.mk c15
            clear c15
            obtain ⟨y152,hy152⟩ : ∃ y_:List ByteArray,y_=(x3_1 ++ [(((t149 ++ (⟨#[58]⟩:ByteArray)) ++ t150) ++ (⟨#[58]⟩:ByteArray)) ++ t151]):=⟨_,rfl⟩
            replace H:(impl_DevsText.l0 k1 y152 l0 (l0.length:Int) (wrap64 (x11_1+1)))=some r:=by first|(rw [hy152];with_reducible exact H)|(have H2_:=(Option.bind_some _ _).symm.trans H;rw [hy152];with_reducible exact H2_)|(have H2_:=(Option.bind_some _ _).symm.trans H;with_reducible exact H2_)|with_reducible exact H|(rw [hy152];exact H)|exact H
            have Ny152:=Aside0.mk hy152
            clear hy152
            have H':=Aside0.mk H
            clear H
            have p147:0≤(x11_1:Int):=of_decide_eq_true (by first|(with_reducible assumption)|assumption)
            have q147:x11_1 < (l0.length:Int):=of_decide_eq_true (by first|(with_reducible assumption)|assumption)
            obtain ⟨ad147,e147,hx147_0,hx147_1,hx147_2⟩:=at_T53 HR0.out x11_1 p147 q147
            cases e147
            replace hx147_0:=(HB.out.cell (World.block_lt_of_cell? w _ hx147_0)).trans hx147_0
            replace hx147_1:=(HB.out.cell (World.block_lt_of_cell? w _ hx147_1)).trans hx147_1
            replace hx147_2:=(HB.out.cell (World.block_lt_of_cell? w _ hx147_2)).trans hx147_2
            replace p147:=eq_true p147
            replace q147:=eq_true q147
            try go_wp2_with (first|((with_reducible refine gate_dst (N:=5) rfl ?_);refine box_event ?hg (N:=5) ?hd (cs:=#[.int .i64 0,.int .i64 0,.int .i64 0]) (t:=53) ?hr ?_;(case hd=>rfl);(case hg=>rfl);(case hr=>first|(go_simp;done)|(go_simp;rfl));intro gb148 hg w16 hbox hb;have n0_:=Aside0.mk (Kd.R_below (rR HO_3) hb);have n1_:=bs hb;have n2_:=Aside0.mk (hbox);have n3_:=Aside0.mk ((by rw [hg];exact (below_size be):w.heap.size≤gb148));have n4_:=Aside0.mk ((by rw [hg];exact (below_size be):w.heap.size≤gb148));clear HO_3;clear HB;have HO_3:=n0_;have HB:=n1_;have BK148:=n2_;have GW148:=n3_;have GE148:=n4_;clear n0_ n1_ n2_ n3_ n4_;clear hb hbox hg;have hcz17_0:w16.cell? ⟨gb148,0,none⟩=some (.int .i64 0):=(blk_cell BK148.out 0).trans rfl;have hcz17_1:w16.cell? ⟨gb148,1,none⟩=some (.int .i64 0):=(blk_cell BK148.out 1).trans rfl;have hcz17_2:w16.cell? ⟨gb148,2,none⟩=some (.int .i64 0):=(blk_cell BK148.out 2).trans rfl;have hfz17_0:=blk_frozen BK148.out 0;have hfz17_1:=blk_frozen BK148.out 1;have hfz17_2:=blk_frozen BK148.out 2))
            have n0_:Aside0 (Kd.R Kd.string 9 (((w16.setCell ⟨gb148,0,none⟩ (.int .i64 ((rd_T53 l0 x11_1).f0))).setCell ⟨gb148,1,none⟩ (.int .i64 ((rd_T53 l0 x11_1).f1))).setCell ⟨gb148,2,none⟩ (.int .i64 ((rd_T53 l0 x11_1).f2))) w.heap.size (fun _=>True) u3 x3_1):=⟨by (with_reducible repeat (first|apply Kd.R_alloc|apply Kd.R_drewN|apply Kd.R_drew));exact Kd.R_mono (Kd.R_far (p:=⟨gb148,2,none⟩) (Kd.R_far (p:=⟨gb148,1,none⟩) (Kd.R_far (p:=⟨gb148,0,none⟩) (Kd.R_types HO_3.out BK148.out (by decide)) (fun _ hk=>hk.2) (.int .i64 ((rd_T53 l0 x11_1).f0))) (fun _ hk=>hk.2) (.int .i64 ((rd_T53 l0 x11_1).f1))) (fun _ hk=>hk.2) (.int .i64 ((rd_T53 l0 x11_1).f2))) (fun _ hk=>trivial)⟩
            have n1_:Aside0 ((((w16.setCell ⟨gb148,0,none⟩ (.int .i64 ((rd_T53 l0 x11_1).f0))).setCell ⟨gb148,1,none⟩ (.int .i64 ((rd_T53 l0 x11_1).f1))).setCell ⟨gb148,2,none⟩ (.int .i64 ((rd_T53 l0 x11_1).f2))).heap[gb148]?=some (.cells #[.int .i64 ((rd_T53 l0 x11_1).f0),.int .i64 ((rd_T53 l0 x11_1).f1),.int .i64 ((rd_T53 l0 x11_1).f2)] 53 (0,0))):=⟨by (with_reducible repeat (first|refine blk_drewN ?_ _|refine blk_drew ?_|refine blk_alloc ?_ _));refine blk_put (cs:=#[.int .i64 ((rd_T53 l0 x11_1).f0),.int .i64 ((rd_T53 l0 x11_1).f1),.int .i64 0]) ?_ 2 _ rfl;(with_reducible repeat (first|refine blk_drewN ?_ _|refine blk_drew ?_|refine blk_alloc ?_ _));refine blk_put (cs:=#[.int .i64 ((rd_T53 l0 x11_1).f0),.int .i64 0,.int .i64 0]) ?_ 1 _ rfl;(with_reducible repeat (first|refine blk_drewN ?_ _|refine blk_drew ?_|refine blk_alloc ?_ _));refine blk_put (cs:=#[.int .i64 0,.int .i64 0,.int .i64 0]) ?_ 0 _ rfl;(with_reducible repeat (first|refine blk_drewN ?_ _|refine blk_drew ?_|refine blk_alloc ?_ _));exact BK148.out⟩
            have n2_:Aside0 (Below w.heap.size w (((w16.setCell ⟨gb148,0,none⟩ (.int .i64 ((rd_T53 l0 x11_1).f0))).setCell ⟨gb148,1,none⟩ (.int .i64 ((rd_T53 l0 x11_1).f1))).setCell ⟨gb148,2,none⟩ (.int .i64 ((rd_T53 l0 x11_1).f2)))):=⟨be⟩
            (try clear HO_3)
            (try clear BK148)
            (try clear HB)
            generalize (((w16.setCell ⟨gb148,0,none⟩ (.int .i64 ((rd_T53 l0 x11_1).f0))).setCell ⟨gb148,1,none⟩ (.int .i64 ((rd_T53 l0 x11_1).f1))).setCell ⟨gb148,2,none⟩ (.int .i64 ((rd_T53 l0 x11_1).f2)))=w18 at n0_ n1_ n2_ ⊢
            have HO_3:=n0_
            have BK148:=n1_
            have HB:=n2_
            clear n0_ n1_ n2_
            have n0_:=Aside0.mk (Kd.R_drew HO_3.out)
            have n1_:=Aside0.mk (blk_drew BK148.out)
            have n2_:=Aside0.mk (below_drew1 HB.out)
            clear HO_3
            clear BK148
            clear HB
            have HO_3:=n0_
            have BK148:=n1_
            have HB:=n2_
            clear n0_ n1_ n2_
            refine start_ (n:=17) (S:=fun w'=>w'.cell? ⟨gb148,0,none⟩=some (.int .i64 ((rd_T53 l0 x11_1).f0))∧w'.cell? ⟨gb148,1,none⟩=some (.int .i64 ((rd_T53 l0 x11_1).f1))∧w'.cell? ⟨gb148,2,none⟩=some (.int .i64 ((rd_T53 l0 x11_1).f2))) (ds:=[]) (fl 17 0) (by kernel_rfl) rfl rfl ⟨(blk_cell BK148.out 0).trans rfl,(blk_cell BK148.out 1).trans rfl,(blk_cell BK148.out 2).trans rfl⟩ (fun hHeld=>?_);refine with_tabW impl_DevsText.tab7 impl_DevsText.bits7 (fun HT_ HW_=>?_)
            generalize w18.drew=w19 at HO_3 BK148 HB hHeld ⊢
            refine pt 0 15 (fl 17 1) HT_ ?_
            refine pt 1 16 (fl 17 3) HT_ ?_
            refine pt 5 20 (fl 17 35) HT_ ?_
            refine pt 10 25 (fl 17 1059) HT_ ?_
            refine tt 2 17 (fl 17 1063) HT_ HW_ hHeld ?_
            refine tt 6 21 (fl 17 1127) HT_ HW_ hHeld ?_
            refine tt 11 26 (fl 17 3175) HT_ HW_ hHeld ?_
            refine ot 3 (some 18) (fl 17 3183) HT_ (fun K hK=>?_)
            refine goes_ Tryd.func42 (by kernel_rfl) rfl #[.int .i64 ((rd_T53 l0 x11_1).f0)] (by rfl) rfl rfl (by (try simp only [List.map_toArray,List.map_cons,List.map_nil]);first|done|rfl|(simp only [List.length_drop,List.length_take];rfl)) ?_
            with_reducible refine (strconv_Itoa.calls ((rd_T53 l0 x11_1).f0) t149 _ ?side1 A8.out).mono ?_
            (case side1=>exact lb hL)
            rintro e w20 ⟨rfl,hb⟩
            refine ⟨_,rfl,?_⟩
            have n0_:=Aside0.mk (Kd.R_below ((rR HO_3)) hb)
            have n1_:=Aside0.mk (blk_below (g:=gb148) (o:=.cells #[.int .i64 ((rd_T53 l0 x11_1).f0),.int .i64 ((rd_T53 l0 x11_1).f1),.int .i64 ((rd_T53 l0 x11_1).f2)] 53 (0,0)) (bk BK148) hb)
            have n2_:=bs hb
            clear HO_3
            clear BK148
            clear HB
            have HO_3:=n0_
            have BK148:=n1_
            have HB:=n2_
            clear n0_ n1_ n2_
            (try clear hb)
            (try clear hb2)
            (try clear hk)
            (try clear hi)
            refine hK.out _ _ ⟨(blk_cell BK148.out 0).trans rfl,(blk_cell BK148.out 1).trans rfl,(blk_cell BK148.out 2).trans rfl⟩ (fun hHeld=>?_)
            clear hK K
            refine no 18 ?_
            refine pt 4 19 (fl 17 3199) HT_ ?_
            refine ot 7 (some 22) (fl 17 3327) HT_ (fun K hK=>?_)
            refine goes_ Tryd.func42 (by kernel_rfl) rfl #[.int .i64 ((rd_T53 l0 x11_1).f1)] (by rfl) rfl rfl (by (try simp only [List.map_toArray,List.map_cons,List.map_nil]);first|done|rfl|(simp only [List.length_drop,List.length_take];rfl)) ?_
            with_reducible refine (strconv_Itoa.calls ((rd_T53 l0 x11_1).f1) t150 _ ?side1 A10.out).mono ?_
            (case side1=>exact lb hL)
            rintro e w21 ⟨rfl,hb⟩
            refine ⟨_,rfl,?_⟩
            have n0_:=Aside0.mk (Kd.R_below ((rR HO_3)) hb)
            have n1_:=Aside0.mk (blk_below (g:=gb148) (o:=.cells #[.int .i64 ((rd_T53 l0 x11_1).f0),.int .i64 ((rd_T53 l0 x11_1).f1),.int .i64 ((rd_T53 l0 x11_1).f2)] 53 (0,0)) (bk BK148) hb)
            have n2_:=bs hb
            clear HO_3
            clear BK148
            clear HB
            have HO_3:=n0_
            have BK148:=n1_
            have HB:=n2_
            clear n0_ n1_ n2_
            (try clear hb)
            (try clear hb2)
            (try clear hk)
            (try clear hi)
            refine hK.out _ _ ⟨(blk_cell BK148.out 0).trans rfl,(blk_cell BK148.out 1).trans rfl,(blk_cell BK148.out 2).trans rfl⟩ (fun hHeld=>?_)
            clear hK K
            refine no 22 ?_
            refine pt 8 23 (fl 17 3583) HT_ ?_
            refine pt 9 24 (fl 17 4095) HT_ ?_
            refine ot 12 (some 27) (fl 17 8191) HT_ (fun K hK=>?_)
            refine goes_ Tryd.func42 (by kernel_rfl) rfl #[.int .i64 ((rd_T53 l0 x11_1).f2)] (by rfl) rfl rfl (by (try simp only [List.map_toArray,List.map_cons,List.map_nil]);first|done|rfl|(simp only [List.length_drop,List.length_take];rfl)) ?_
            with_reducible refine (strconv_Itoa.calls ((rd_T53 l0 x11_1).f2) t151 _ ?side1 A13.out).mono ?_
            (case side1=>exact lb hL)
            rintro e w22 ⟨rfl,hb⟩
            refine ⟨_,rfl,?_⟩
            have n0_:=Aside0.mk (Kd.R_below ((rR HO_3)) hb)
            have n1_:=Aside0.mk (blk_below (g:=gb148) (o:=.cells #[.int .i64 ((rd_T53 l0 x11_1).f0),.int .i64 ((rd_T53 l0 x11_1).f1),.int .i64 ((rd_T53 l0 x11_1).f2)] 53 (0,0)) (bk BK148) hb)
            have n2_:=bs hb
            clear HO_3
            clear BK148
            clear HB
            have HO_3:=n0_
            have BK148:=n1_
            have HB:=n2_
            clear n0_ n1_ n2_
            (try clear hb)
            (try clear hb2)
            (try clear hk)
            (try clear hi)
            refine hK.out _ _ ⟨(blk_cell BK148.out 0).trans rfl,(blk_cell BK148.out 1).trans rfl,(blk_cell BK148.out 2).trans rfl⟩ (fun hHeld=>?_)
            clear hK K
            refine no 27 ?_
            refine pt 13 28 (fl 17 16383) HT_ ?_
            refine ot 14 (some 29) (fl 17 32767) HT_ (fun K hK=>?_)
            refine value_ (w1:=?_) (v:=?_) (by rfl) rfl ?_ ?_
            rotate_left 2
            ·go_simp
             constructor
             ·rfl
             ·rfl
            refine hK.out _ _ ⟨(blk_cell (blk_alloc BK148.out _) 0).trans rfl,(blk_cell (blk_alloc BK148.out _) 1).trans rfl,(blk_cell (blk_alloc BK148.out _) 2).trans rfl⟩ (fun hHeld=>?_)
            clear hK K
            refine no 29 ?_
            refine ot 15 (some 30) (fl 17 65535) HT_ (fun K hK=>?_)
            refine Kd.R_append_step Kd.string (w0:=w) w.heap.size (by rfl) (.tmp 15) (.tmp 29) 60 9 (.string ⟨#[]⟩) 16 rfl Tryd.underlying60 info9 rfl (by decide) (by omega) u3 x3_1 ((((t149 ++ (⟨#[58]⟩:ByteArray)) ++ t150) ++ (⟨#[58]⟩:ByteArray)) ++ t151) [.string ((((t149 ++ (⟨#[58]⟩:ByteArray)) ++ t150) ++ (⟨#[58]⟩:ByteArray)) ++ t151)] (fun _=>True) (fun _=>False) rfl rfl ?aP (fun _ hk=>hk.elim) ?aF ?aO ?aB ?aS ?aL ?_
            (case aP=>exact rfl)
            (case aB=>exact be)
            (case aF=>exact (fun _ _=>trivial))
            (case aO=>exact (rR HO_3))
            (case aS=>exact (below_size be))
            (case aL=>have:=LMc15.out;omega)
            intro v153 w23 ho hb hg hat
            rw [← Ny152.out] at ho
            have n0_:=Aside0.mk (blk_grown (g:=gb148) (o:=.cells #[.int .i64 ((rd_T53 l0 x11_1).f0),.int .i64 ((rd_T53 l0 x11_1).f1),.int .i64 ((rd_T53 l0 x11_1).f2)] 53 (0,0)) (bk BK148) hg (Kd.R_ne HO_3.out BK148.out (by decide)))
            have n1_:=Aside0.mk (hb)
            have n2_:=Aside0.mk (ho)
            clear BK148
            clear HB
            clear HO_3
            have BK148:=n0_
            have HB:=n1_
            have HO154:=n2_
            clear n0_ n1_ n2_
            clear ho hb hg hat
            refine hK.out _ _ ⟨(blk_cell BK148.out 0).trans rfl,(blk_cell BK148.out 1).trans rfl,(blk_cell BK148.out 2).trans rfl⟩ (fun hHeld=>?_)
            clear hK K
            refine no 30 ?_
            refine pt 16 3 (fl 17 131071) HT_ ?_
            refine done_ (done_of HT_.out (by kernel_rfl)) ?_
            try go_wp2
            go_roundg k1
            case measure=>have:=HK1.out;omega
            case rel=>exact ⟨(y152),(wrap64 (x11_1+1)),rd_,H',⟨by have:=HK1.out;omega⟩,⟨rR HO154⟩,⟨be⟩⟩
           ·rw [if_neg c15] at H
            exact absurd H (by simp)
          ·rw [if_neg c14] at H
           exact absurd H (by simp)
         ·rw [if_neg c12] at H
          exact absurd H (by simp)
        ·rw [if_neg c11] at H
         exact absurd H (by simp)
       ·rw [if_neg c9] at H
        exact absurd H (by simp)
      ·rw [if_neg c7] at H
       exact absurd H (by simp)
     ·rw [if_neg c6] at H
      exact absurd H (by simp)
    ·rw [if_neg c5] at H
     have c5b0:decide (x11_1 < (l0.length:Int))=false:=decide_eq_false c5
     clear c5
     replace H:=Option.bind_eq_some_iff.mp H
     obtain ⟨⟨t155,t156⟩,A240,H⟩:=H
     try dsimp only at H
     have A24:=Aside0.mk A240
     clear A240
     obtain rfl:=Option.some.inj H
     obtain ⟨Ao25,co25,eo25⟩:=Kd.R_slice HO_3.out
     subst eo25
     go_wp2_with (first|((with_reducible refine gate_callee (f:=44) rfl ?_);refine goesL_ (some 33) rfl rfl Tryd.func44 (by kernel_rfl) rfl #[.slice Ao25 x3_1.length co25,.string (⟨#[32]⟩:ByteArray)] rfl (by (try simp only [List.map_toArray,List.map_cons,List.map_nil]);first|done|rfl|(simp only [List.length_drop,List.length_take];rfl)) ?_;(with_reducible refine (strings_Join.calls (fun k_=>some k_=(.slice Ao25 x3_1.length co25:Value).ownBlock) (.slice Ao25 x3_1.length co25) x3_1 (⟨#[32]⟩:ByteArray) t155 t156 w _ ?side1 ?side2 A24.out).mono ?_);(case side1=>exact be);(case side2=>exact Kd.R_tight rfl HO_3.out);rintro e w26 ⟨rfl,hy0,hb,hkp⟩;refine ⟨_,rfl,?_⟩;have n0_:=Aside0.mk (Kd.R_reok rfl hy0 (fun k_ e_=>HO_3.out.1 k_ e_));have n1_:=Aside0.mk (hb);clear HO_3;clear HB;have HO_3:=n0_;have HB:=n1_;clear n0_ n1_;(try clear hb);(try clear hkp);(try clear hy0)))
     go_ret
     exact ⟨rz,be⟩
 ·replace c3:=Bool.eq_false_iff.mpr c3
  subst c3
  have H1:(some (⟨#[]⟩:ByteArray))=some r:=by rw [if_neg (show ¬ (false=true) by decide)] at H;exact H
  clear H
  have H:=H1
  clear H1
  obtain rfl:=Option.some.inj H
  go_enter Tryd.func17,Tryd.ntmps17
  go_wp2_with (first|((with_reducible refine gate_callee (f:=34) rfl ?_);refine goesL_ (some 7) rfl rfl Tryd.func34 (by kernel_rfl) rfl #[.slice A0 l0.length c0] rfl (by (try simp only [List.map_toArray,List.map_cons,List.map_nil]);first|done|rfl|(simp only [List.length_drop,List.length_take];rfl)) ?_;(with_reducible refine (impl_DevsOk.calls k _ _ l0 false _ ?side1 ?side2 A2.out).mono ?_);(case side1=>exact sC HR0);(case side2=>exact HC0.out);rintro e w27 ⟨rfl,hb⟩;refine ⟨_,rfl,?_⟩;have n0_:=bs hb;clear HB;have HB:=n0_;clear n0_;(try clear hb);(try clear hb2);(try clear hk);(try clear hi)))
  go_ret
  exact ⟨rz,be⟩
def laws_eqDev.f (a0_0:Int) (a0_1:Int) (a0_2:Int) (a1_0:Int) (a1_1:Int) (a1_2:Int):Option (Bool):=if a0_0=a1_0 then (if a0_1=a1_1 then (if a0_2=a1_2 then (some true) else (some false)) else (some false)) else (some false)
set_option maxHeartbeats 8000000 in
set_option maxRecDepth 100000 in
theorem laws_eqDev.calls (a0_0:Int) (a0_1:Int) (a0_2:Int) (a1_0:Int) (a1_1:Int) (a1_2:Int) (r:Bool) (w:World) (h:laws_eqDev.f a0_0 a0_1 a0_2 a1_0 a1_1 a1_2=some r) :
  Calls Tryd.prog 45 #[.agg #[.int .i64 a0_0,.int .i64 a0_1,.int .i64 a0_2],.agg #[.int .i64 a1_0,.int .i64 a1_1,.int .i64 a1_2]] w fun e w'=>e = .returned (.bool r)∧Below w.heap.size w w':=by
 have hu53:=Tryd.underlying53
 have HB:=Aside0.mk (Below.refl w.heap.size w)
 have H:(if a0_0=a1_0 then (if a0_1=a1_1 then (if a0_2=a1_2 then (some true) else (some false)) else (some false)) else (some false))=some r:=h
 clear h
 by_cases c3:a0_0=a1_0
 ·rw [if_pos c3] at H
  have c3b0:(a0_0 == a1_0)=true:=beq_iff_eq.mpr c3
  have c3b1:(a0_0 != a1_0)=false:=bne_eq_false_iff_eq.mpr c3
  clear c3
  by_cases c4:a0_1=a1_1
  ·rw [if_pos c4] at H
   have c4b0:(a0_1 == a1_1)=true:=beq_iff_eq.mpr c4
   have c4b1:(a0_1 != a1_1)=false:=bne_eq_false_iff_eq.mpr c4
   clear c4
   by_cases c5:a0_2=a1_2
   ·rw [if_pos c5] at H
    have c5b0:(a0_2 == a1_2)=true:=beq_iff_eq.mpr c5
    have c5b1:(a0_2 != a1_2)=false:=bne_eq_false_iff_eq.mpr c5
    clear c5
    obtain rfl:=Option.some.inj H
    go_enter Tryd.func45,Tryd.ntmps45
    go_wp2_with (first|((with_reducible refine gate_dst (N:=2) rfl ?_);refine box_event ?hg (N:=2) ?hd (cs:=#[.int .i64 a0_0,.int .i64 a0_1,.int .i64 a0_2]) (t:=53) ?hr ?_;(case hd=>rfl);(case hg=>rfl);(case hr=>first|(go_simp;done)|(go_simp;rfl));intro gb157 hg w6 hbox hb;have n0_:=bs hb;have n1_:=Aside0.mk (hbox);have n2_:=Aside0.mk ((by rw [hg];exact (below_size be):w.heap.size≤gb157));have n3_:=Aside0.mk ((by rw [hg];exact (below_size be):w.heap.size≤gb157));clear HB;have HB:=n0_;have BK157:=n1_;have GW157:=n2_;have GE157:=n3_;clear n0_ n1_ n2_ n3_;clear hb hbox hg)|((with_reducible refine gate_dst (N:=3) rfl ?_);refine box_event ?hg (N:=3) ?hd (cs:=#[.int .i64 a1_0,.int .i64 a1_1,.int .i64 a1_2]) (t:=53) ?hr ?_;(case hd=>rfl);(case hg=>rfl);(case hr=>first|(go_simp;done)|(go_simp;rfl));intro gb158 hg w7 hbox hb;have n0_:=Aside0.mk (blk_below (g:=gb157) (o:=.cells #[.int .i64 a0_0,.int .i64 a0_1,.int .i64 a0_2] 53 (0,0)) (bk BK157) hb);have n1_:=bs hb;have n2_:=Aside0.mk (hbox);have n3_:=Aside0.mk ((by rw [hg];exact (below_size be):w.heap.size≤gb158));have n4_:=Aside0.mk ((by rw [hg];exact (below_size be):w.heap.size≤gb158));have n5_:=Aside0.mk ((by rw [hg];exact Nat.ne_of_lt (blk_lt (g:=gb157) (o:=.cells #[.int .i64 a0_0,.int .i64 a0_1,.int .i64 a0_2] 53 (0,0)) (bk BK157)):gb157 ≠ gb158));have n6_:=Aside0.mk ((by rw [hg];exact Nat.ne_of_gt (blk_lt (g:=gb157) (o:=.cells #[.int .i64 a0_0,.int .i64 a0_1,.int .i64 a0_2] 53 (0,0)) (bk BK157)):gb158 ≠ gb157));clear BK157;clear HB;have BK157:=n0_;have HB:=n1_;have BK158:=n2_;have GW158:=n3_;have GE158:=n4_;have NB157_158:=n5_;have NB158_157:=n6_;clear n0_ n1_ n2_ n3_ n4_ n5_ n6_;clear hb hbox hg;have hnb8:=NB157_158.out;have hnc8:=NB158_157.out;have hcz9_0:w7.cell? ⟨gb157,0,none⟩=some (.int .i64 a0_0):=(blk_cell BK157.out 0).trans rfl;have hcz9_1:w7.cell? ⟨gb157,1,none⟩=some (.int .i64 a0_1):=(blk_cell BK157.out 1).trans rfl;have hcz9_2:w7.cell? ⟨gb157,2,none⟩=some (.int .i64 a0_2):=(blk_cell BK157.out 2).trans rfl;have hfz9_0:=blk_frozen BK157.out 0;have hfz9_1:=blk_frozen BK157.out 1;have hfz9_2:=blk_frozen BK157.out 2;have hcz10_0:w7.cell? ⟨gb158,0,none⟩=some (.int .i64 a1_0):=(blk_cell BK158.out 0).trans rfl;have hcz10_1:w7.cell? ⟨gb158,1,none⟩=some (.int .i64 a1_1):=(blk_cell BK158.out 1).trans rfl;have hcz10_2:w7.cell? ⟨gb158,2,none⟩=some (.int .i64 a1_2):=(blk_cell BK158.out 2).trans rfl;have hfz10_0:=blk_frozen BK158.out 0;have hfz10_1:=blk_frozen BK158.out 1;have hfz10_2:=blk_frozen BK158.out 2))
    go_ret
    exact ⟨rz,be⟩
   ·rw [if_neg c5] at H
    have c5b0:(a0_2 == a1_2)=false:=beq_eq_false_iff_ne.mpr c5
    have c5b1:(a0_2 != a1_2)=true:=bne_iff_ne.mpr c5
    obtain rfl:=Option.some.inj H
    go_enter Tryd.func45,Tryd.ntmps45
    go_wp2_with (first|((with_reducible refine gate_dst (N:=2) rfl ?_);refine box_event ?hg (N:=2) ?hd (cs:=#[.int .i64 a0_0,.int .i64 a0_1,.int .i64 a0_2]) (t:=53) ?hr ?_;(case hd=>rfl);(case hg=>rfl);(case hr=>first|(go_simp;done)|(go_simp;rfl));intro gb157 hg w11 hbox hb;have n0_:=bs hb;have n1_:=Aside0.mk (hbox);have n2_:=Aside0.mk ((by rw [hg];exact (below_size be):w.heap.size≤gb157));have n3_:=Aside0.mk ((by rw [hg];exact (below_size be):w.heap.size≤gb157));clear HB;have HB:=n0_;have BK157:=n1_;have GW157:=n2_;have GE157:=n3_;clear n0_ n1_ n2_ n3_;clear hb hbox hg)|((with_reducible refine gate_dst (N:=3) rfl ?_);refine box_event ?hg (N:=3) ?hd (cs:=#[.int .i64 a1_0,.int .i64 a1_1,.int .i64 a1_2]) (t:=53) ?hr ?_;(case hd=>rfl);(case hg=>rfl);(case hr=>first|(go_simp;done)|(go_simp;rfl));intro gb158 hg w12 hbox hb;have n0_:=Aside0.mk (blk_below (g:=gb157) (o:=.cells #[.int .i64 a0_0,.int .i64 a0_1,.int .i64 a0_2] 53 (0,0)) (bk BK157) hb);have n1_:=bs hb;have n2_:=Aside0.mk (hbox);have n3_:=Aside0.mk ((by rw [hg];exact (below_size be):w.heap.size≤gb158));have n4_:=Aside0.mk ((by rw [hg];exact (below_size be):w.heap.size≤gb158));have n5_:=Aside0.mk ((by rw [hg];exact Nat.ne_of_lt (blk_lt (g:=gb157) (o:=.cells #[.int .i64 a0_0,.int .i64 a0_1,.int .i64 a0_2] 53 (0,0)) (bk BK157)):gb157 ≠ gb158));have n6_:=Aside0.mk ((by rw [hg];exact Nat.ne_of_gt (blk_lt (g:=gb157) (o:=.cells #[.int .i64 a0_0,.int .i64 a0_1,.int .i64 a0_2] 53 (0,0)) (bk BK157)):gb158 ≠ gb157));clear BK157;clear HB;have BK157:=n0_;have HB:=n1_;have BK158:=n2_;have GW158:=n3_;have GE158:=n4_;have NB157_158:=n5_;have NB158_157:=n6_;clear n0_ n1_ n2_ n3_ n4_ n5_ n6_;clear hb hbox hg;have hnb13:=NB157_158.out;have hnc13:=NB158_157.out;have hcz14_0:w12.cell? ⟨gb157,0,none⟩=some (.int .i64 a0_0):=(blk_cell BK157.out 0).trans rfl;have hcz14_1:w12.cell? ⟨gb157,1,none⟩=some (.int .i64 a0_1):=(blk_cell BK157.out 1).trans rfl;have hcz14_2:w12.cell? ⟨gb157,2,none⟩=some (.int .i64 a0_2):=(blk_cell BK157.out 2).trans rfl;have hfz14_0:=blk_frozen BK157.out 0;have hfz14_1:=blk_frozen BK157.out 1;have hfz14_2:=blk_frozen BK157.out 2;have hcz15_0:w12.cell? ⟨gb158,0,none⟩=some (.int .i64 a1_0):=(blk_cell BK158.out 0).trans rfl;have hcz15_1:w12.cell? ⟨gb158,1,none⟩=some (.int .i64 a1_1):=(blk_cell BK158.out 1).trans rfl;have hcz15_2:w12.cell? ⟨gb158,2,none⟩=some (.int .i64 a1_2):=(blk_cell BK158.out 2).trans rfl;have hfz15_0:=blk_frozen BK158.out 0;have hfz15_1:=blk_frozen BK158.out 1;have hfz15_2:=blk_frozen BK158.out 2))
    go_ret
    exact ⟨rz,be⟩
  ·rw [if_neg c4] at H
   have c4b0:(a0_1 == a1_1)=false:=beq_eq_false_iff_ne.mpr c4
   have c4b1:(a0_1 != a1_1)=true:=bne_iff_ne.mpr c4
   obtain rfl:=Option.some.inj H
   go_enter Tryd.func45,Tryd.ntmps45
   go_wp2_with (first|((with_reducible refine gate_dst (N:=2) rfl ?_);refine box_event ?hg (N:=2) ?hd (cs:=#[.int .i64 a0_0,.int .i64 a0_1,.int .i64 a0_2]) (t:=53) ?hr ?_;(case hd=>rfl);(case hg=>rfl);(case hr=>first|(go_simp;done)|(go_simp;rfl));intro gb157 hg w16 hbox hb;have n0_:=bs hb;have n1_:=Aside0.mk (hbox);have n2_:=Aside0.mk ((by rw [hg];exact (below_size be):w.heap.size≤gb157));have n3_:=Aside0.mk ((by rw [hg];exact (below_size be):w.heap.size≤gb157));clear HB;have HB:=n0_;have BK157:=n1_;have GW157:=n2_;have GE157:=n3_;clear n0_ n1_ n2_ n3_;clear hb hbox hg)|((with_reducible refine gate_dst (N:=3) rfl ?_);refine box_event ?hg (N:=3) ?hd (cs:=#[.int .i64 a1_0,.int .i64 a1_1,.int .i64 a1_2]) (t:=53) ?hr ?_;(case hd=>rfl);(case hg=>rfl);(case hr=>first|(go_simp;done)|(go_simp;rfl));intro gb158 hg w17 hbox hb;have n0_:=Aside0.mk (blk_below (g:=gb157) (o:=.cells #[.int .i64 a0_0,.int .i64 a0_1,.int .i64 a0_2] 53 (0,0)) (bk BK157) hb);have n1_:=bs hb;have n2_:=Aside0.mk (hbox);have n3_:=Aside0.mk ((by rw [hg];exact (below_size be):w.heap.size≤gb158));have n4_:=Aside0.mk ((by rw [hg];exact (below_size be):w.heap.size≤gb158));have n5_:=Aside0.mk ((by rw [hg];exact Nat.ne_of_lt (blk_lt (g:=gb157) (o:=.cells #[.int .i64 a0_0,.int .i64 a0_1,.int .i64 a0_2] 53 (0,0)) (bk BK157)):gb157 ≠ gb158));have n6_:=Aside0.mk ((by rw [hg];exact Nat.ne_of_gt (blk_lt (g:=gb157) (o:=.cells #[.int .i64 a0_0,.int .i64 a0_1,.int .i64 a0_2] 53 (0,0)) (bk BK157)):gb158 ≠ gb157));clear BK157;clear HB;have BK157:=n0_;have HB:=n1_;have BK158:=n2_;have GW158:=n3_;have GE158:=n4_;have NB157_158:=n5_;have NB158_157:=n6_;clear n0_ n1_ n2_ n3_ n4_ n5_ n6_;clear hb hbox hg;have hnb18:=NB157_158.out;have hnc18:=NB158_157.out;have hcz19_0:w17.cell? ⟨gb157,0,none⟩=some (.int .i64 a0_0):=(blk_cell BK157.out 0).trans rfl;have hcz19_1:w17.cell? ⟨gb157,1,none⟩=some (.int .i64 a0_1):=(blk_cell BK157.out 1).trans rfl;have hcz19_2:w17.cell? ⟨gb157,2,none⟩=some (.int .i64 a0_2):=(blk_cell BK157.out 2).trans rfl;have hfz19_0:=blk_frozen BK157.out 0;have hfz19_1:=blk_frozen BK157.out 1;have hfz19_2:=blk_frozen BK157.out 2;have hcz20_0:w17.cell? ⟨gb158,0,none⟩=some (.int .i64 a1_0):=(blk_cell BK158.out 0).trans rfl;have hcz20_1:w17.cell? ⟨gb158,1,none⟩=some (.int .i64 a1_1):=(blk_cell BK158.out 1).trans rfl;have hcz20_2:w17.cell? ⟨gb158,2,none⟩=some (.int .i64 a1_2):=(blk_cell BK158.out 2).trans rfl;have hfz20_0:=blk_frozen BK158.out 0;have hfz20_1:=blk_frozen BK158.out 1;have hfz20_2:=blk_frozen BK158.out 2))
   go_ret
   exact ⟨rz,be⟩
 ·rw [if_neg c3] at H
  have c3b0:(a0_0 == a1_0)=false:=beq_eq_false_iff_ne.mpr c3
  have c3b1:(a0_0 != a1_0)=true:=bne_iff_ne.mpr c3
  obtain rfl:=Option.some.inj H
  go_enter Tryd.func45,Tryd.ntmps45
  go_wp2_with (first|((with_reducible refine gate_dst (N:=2) rfl ?_);refine box_event ?hg (N:=2) ?hd (cs:=#[.int .i64 a0_0,.int .i64 a0_1,.int .i64 a0_2]) (t:=53) ?hr ?_;(case hd=>rfl);(case hg=>rfl);(case hr=>first|(go_simp;done)|(go_simp;rfl));intro gb157 hg w21 hbox hb;have n0_:=bs hb;have n1_:=Aside0.mk (hbox);have n2_:=Aside0.mk ((by rw [hg];exact (below_size be):w.heap.size≤gb157));have n3_:=Aside0.mk ((by rw [hg];exact (below_size be):w.heap.size≤gb157));clear HB;have HB:=n0_;have BK157:=n1_;have GW157:=n2_;have GE157:=n3_;clear n0_ n1_ n2_ n3_;clear hb hbox hg)|((with_reducible refine gate_dst (N:=3) rfl ?_);refine box_event ?hg (N:=3) ?hd (cs:=#[.int .i64 a1_0,.int .i64 a1_1,.int .i64 a1_2]) (t:=53) ?hr ?_;(case hd=>rfl);(case hg=>rfl);(case hr=>first|(go_simp;done)|(go_simp;rfl));intro gb158 hg w22 hbox hb;have n0_:=Aside0.mk (blk_below (g:=gb157) (o:=.cells #[.int .i64 a0_0,.int .i64 a0_1,.int .i64 a0_2] 53 (0,0)) (bk BK157) hb);have n1_:=bs hb;have n2_:=Aside0.mk (hbox);have n3_:=Aside0.mk ((by rw [hg];exact (below_size be):w.heap.size≤gb158));have n4_:=Aside0.mk ((by rw [hg];exact (below_size be):w.heap.size≤gb158));have n5_:=Aside0.mk ((by rw [hg];exact Nat.ne_of_lt (blk_lt (g:=gb157) (o:=.cells #[.int .i64 a0_0,.int .i64 a0_1,.int .i64 a0_2] 53 (0,0)) (bk BK157)):gb157 ≠ gb158));have n6_:=Aside0.mk ((by rw [hg];exact Nat.ne_of_gt (blk_lt (g:=gb157) (o:=.cells #[.int .i64 a0_0,.int .i64 a0_1,.int .i64 a0_2] 53 (0,0)) (bk BK157)):gb158 ≠ gb157));clear BK157;clear HB;have BK157:=n0_;have HB:=n1_;have BK158:=n2_;have GW158:=n3_;have GE158:=n4_;have NB157_158:=n5_;have NB158_157:=n6_;clear n0_ n1_ n2_ n3_ n4_ n5_ n6_;clear hb hbox hg;have hnb23:=NB157_158.out;have hnc23:=NB158_157.out;have hcz24_0:w22.cell? ⟨gb157,0,none⟩=some (.int .i64 a0_0):=(blk_cell BK157.out 0).trans rfl;have hcz24_1:w22.cell? ⟨gb157,1,none⟩=some (.int .i64 a0_1):=(blk_cell BK157.out 1).trans rfl;have hcz24_2:w22.cell? ⟨gb157,2,none⟩=some (.int .i64 a0_2):=(blk_cell BK157.out 2).trans rfl;have hfz24_0:=blk_frozen BK157.out 0;have hfz24_1:=blk_frozen BK157.out 1;have hfz24_2:=blk_frozen BK157.out 2;have hcz25_0:w22.cell? ⟨gb158,0,none⟩=some (.int .i64 a1_0):=(blk_cell BK158.out 0).trans rfl;have hcz25_1:w22.cell? ⟨gb158,1,none⟩=some (.int .i64 a1_1):=(blk_cell BK158.out 1).trans rfl;have hcz25_2:w22.cell? ⟨gb158,2,none⟩=some (.int .i64 a1_2):=(blk_cell BK158.out 2).trans rfl;have hfz25_0:=blk_frozen BK158.out 0;have hfz25_1:=blk_frozen BK158.out 1;have hfz25_2:=blk_frozen BK158.out 2))
  go_ret
  exact ⟨rz,be⟩
def laws_eqDevS.l0:Nat→List (S53)→List (S53)→Int→Option (Bool)
 | 0,_,_,_=>none
 | k+1,x0,x1,x5=>if x5 < (x0.length:Int) then (if 0≤x5 then (if x5 < (x1.length:Int) then ((laws_eqDev.f ((rd_T53 x0 x5).f0) ((rd_T53 x0 x5).f1) ((rd_T53 x0 x5).f2) ((rd_T53 x1 x5).f0) ((rd_T53 x1 x5).f1) ((rd_T53 x1 x5).f2)).bind fun t161=>(if t161=true then (laws_eqDevS.l0 k x0 x1 (wrap64 (x5+1))) else (some false))) else (none)) else (none)) else (some true)
def laws_eqDevS.f (k:Nat) (l0:List (S53)) (l1:List (S53)):Option (Bool):=if (l0.length:Int)=(l1.length:Int) then (laws_eqDevS.l0 k l0 l1 0) else (some false)
def laws_eqDevS.T6:Bool × List (List Nat × List Nat):=(true,[([],[]),([],[]),([0,1],[0,1]),([2],[2]),([],[]),([],[]),([4,5],[4,5]),([6],[6]),([3,7],[3,7]),([8],[8])])
def laws_eqDevS.B6:List Nat:=[0,0,3,7,0,0,48,112,255,511]
theorem laws_eqDevS.tab6:rtab .any (opsOf Tryd.f18 6)=laws_eqDevS.T6:=by kernel_rfl
theorem laws_eqDevS.bits6:waitsOk laws_eqDevS.T6.2 laws_eqDevS.B6=true:=by kernel_rfl
set_option maxHeartbeats 8000000 in
set_option maxRecDepth 100000 in
theorem laws_eqDevS.calls (k:Nat) (A0:Option Addr) (c0:Nat) (l0:List (S53)) (A1:Option Addr) (c1:Nat) (l1:List (S53)) (r:Bool) (w:World) (hr0:Kd.C k53 w A0 l0.length l0) (hc0:l0.length≤c0) (hr1:Kd.C k53 w A1 l1.length l1) (hc1:l1.length≤c1) (h:laws_eqDevS.f k l0 l1=some r) :
  Calls Tryd.prog 18 #[.slice A0 l0.length c0,.slice A1 l1.length c1] w fun e w'=>e = .returned (.bool r)∧Below w.heap.size w w':=by
 have hu53:=Tryd.underlying53
 have HR0:=Aside0.mk hr0
 have HC0:=Aside0.mk hc0
 clear hr0 hc0
 have HR1:=Aside0.mk hr1
 have HC1:=Aside0.mk hc1
 clear hr1 hc1
 have HB:=Aside0.mk (Below.refl w.heap.size w)
 have H:(if (l0.length:Int)=(l1.length:Int) then (laws_eqDevS.l0 k l0 l1 0) else (some false))=some r:=h
 clear h
 by_cases c3:(l0.length:Int)=(l1.length:Int)
 ·rw [if_pos c3] at H
  have c3b0:((l0.length:Int) == (l1.length:Int))=true:=beq_iff_eq.mpr c3
  have c3b1:((l0.length:Int) != (l1.length:Int))=false:=bne_eq_false_iff_eq.mpr c3
  have c3b2:(l0.length == l1.length)=true:=by first|simpa using c3|(simp at c3 ⊢;omega)
  clear c3
  have H':=Aside0.mk H
  clear H
  go_enter Tryd.func18,Tryd.ntmps18
  go_wp2
  go_loopg [5] k (fun kq v5 w'=>∃ (x5_1:Int),v5 = .int .i64 x5_1∧Aside0 (laws_eqDevS.l0 kq l0 l1 x5_1=some r)∧Aside0 (kq≤k)∧Aside0 (Below w.heap.size w w'))
  case atStart=>exact ⟨(0),rd_,H',⟨Nat.le_refl _⟩,⟨be⟩⟩
  case round=>
   clear H'
   try clear c1
   try clear p2
   try clear c3
   try clear c3b0
   try clear c3b1
   try clear c3b2
   obtain ⟨x5_1,rfl,HA,HK1,HB⟩:=hrel
   cases gk with
   | zero=>exact absurd HA.out (by simp [laws_eqDevS.l0])
   | succ k1=>
    have H:=HA.out
    clear HA
    simp only [laws_eqDevS.l0] at H
    by_cases c4:x5_1 < (l0.length:Int)
    ·rw [if_pos c4] at H
     have c4b0:decide (x5_1 < (l0.length:Int))=true:=decide_eq_true c4
     clear c4
     by_cases c5:0≤x5_1
     ·rw [if_pos c5] at H
      have c5b0:decide (0≤x5_1)=true:=decide_eq_true c5
      clear c5
      by_cases c6:x5_1 < (l1.length:Int)
      ·rw [if_pos c6] at H
       have c6b0:decide (x5_1 < (l1.length:Int))=true:=decide_eq_true c6
       clear c6
       replace H:=Option.bind_eq_some_iff.mp H
       obtain ⟨t161,A70,H⟩:=H
       try dsimp only at H
       have A7:=Aside0.mk A70
       clear A70
       by_cases c8:t161=true
       ·subst c8
        rw [if_pos rfl] at H
        have H':=Aside0.mk H
        clear H
        try go_wp2
        have n0_:=Aside0.mk (below_drew1 HB.out)
        clear HB
        have HB:=n0_
        clear n0_
        have p159:0≤(x5_1:Int):=of_decide_eq_true (by first|(with_reducible assumption)|assumption)
        have q159:x5_1 < (l0.length:Int):=of_decide_eq_true (by first|(with_reducible assumption)|assumption)
        obtain ⟨ad159,e159,hx159_0,hx159_1,hx159_2⟩:=at_T53 HR0.out x5_1 p159 q159
        have hw159_2:=hx159_2
        have hw159_1:=hx159_1
        have hw159_0:=hx159_0
        cases e159
        replace hx159_0:=(HB.out.cell (World.block_lt_of_cell? w _ hx159_0)).trans hx159_0
        replace hx159_1:=(HB.out.cell (World.block_lt_of_cell? w _ hx159_1)).trans hx159_1
        replace hx159_2:=(HB.out.cell (World.block_lt_of_cell? w _ hx159_2)).trans hx159_2
        replace p159:=eq_true p159
        replace q159:=eq_true q159
        have p160:0≤(x5_1:Int):=of_decide_eq_true (by first|(with_reducible assumption)|assumption)
        have q160:x5_1 < (l1.length:Int):=of_decide_eq_true (by first|(with_reducible assumption)|assumption)
        obtain ⟨ad160,e160,hx160_0,hx160_1,hx160_2⟩:=at_T53 HR1.out x5_1 p160 q160
        have hw160_2:=hx160_2
        have hw160_1:=hx160_1
        have hw160_0:=hx160_0
        cases e160
        replace hx160_0:=(HB.out.cell (World.block_lt_of_cell? w _ hx160_0)).trans hx160_0
        replace hx160_1:=(HB.out.cell (World.block_lt_of_cell? w _ hx160_1)).trans hx160_1
        replace hx160_2:=(HB.out.cell (World.block_lt_of_cell? w _ hx160_2)).trans hx160_2
        replace p160:=eq_true p160
        replace q160:=eq_true q160
        refine start_ (n:=10) (S:=fun w'=>w'.cell? (ad159.add ((x5_1).toNat * 3))=some (.int .i64 ((rd_T53 l0 x5_1).f0))∧w'.cell? ⟨(ad159.add ((x5_1).toNat * 3)).block,(ad159.add ((x5_1).toNat * 3)).off+1,none⟩=some (.int .i64 ((rd_T53 l0 x5_1).f1))∧w'.cell? ⟨(ad159.add ((x5_1).toNat * 3)).block,(ad159.add ((x5_1).toNat * 3)).off+2,none⟩=some (.int .i64 ((rd_T53 l0 x5_1).f2))∧w'.cell? (ad160.add ((x5_1).toNat * 3))=some (.int .i64 ((rd_T53 l1 x5_1).f0))∧w'.cell? ⟨(ad160.add ((x5_1).toNat * 3)).block,(ad160.add ((x5_1).toNat * 3)).off+1,none⟩=some (.int .i64 ((rd_T53 l1 x5_1).f1))∧w'.cell? ⟨(ad160.add ((x5_1).toNat * 3)).block,(ad160.add ((x5_1).toNat * 3)).off+2,none⟩=some (.int .i64 ((rd_T53 l1 x5_1).f2))) (ds:=[]) (fl 10 0) (by kernel_rfl) rfl rfl ⟨((HB.out.cell (World.block_lt_of_cell? w _ hw159_0)).trans hw159_0),((HB.out.cell (World.block_lt_of_cell? w _ hw159_1)).trans hw159_1),((HB.out.cell (World.block_lt_of_cell? w _ hw159_2)).trans hw159_2),((HB.out.cell (World.block_lt_of_cell? w _ hw160_0)).trans hw160_0),((HB.out.cell (World.block_lt_of_cell? w _ hw160_1)).trans hw160_1),((HB.out.cell (World.block_lt_of_cell? w _ hw160_2)).trans hw160_2)⟩ (fun hHeld=>?_);refine with_tabW laws_eqDevS.tab6 laws_eqDevS.bits6 (fun HT_ HW_=>?_)
        generalize wr.drew=w9 at HB hx159_0 hx159_1 hx159_2 hx160_0 hx160_1 hx160_2 hHeld ⊢
        refine pt 0 17 (fl 10 1) HT_ ?_
        refine pt 1 18 (fl 10 3) HT_ ?_
        refine pt 2 19 (fl 10 7) HT_ ?_
        refine pt 4 21 (fl 10 23) HT_ ?_
        refine pt 5 22 (fl 10 55) HT_ ?_
        refine pt 6 23 (fl 10 119) HT_ ?_
        refine tt 3 20 (fl 10 127) HT_ HW_ hHeld ?_
        refine tt 7 24 (fl 10 255) HT_ HW_ hHeld ?_
        refine ot 8 (some 25) (fl 10 511) HT_ (fun K hK=>?_)
        refine goes_ Tryd.func45 (by kernel_rfl) rfl #[.agg #[.int .i64 ((rd_T53 l0 x5_1).f0),.int .i64 ((rd_T53 l0 x5_1).f1),.int .i64 ((rd_T53 l0 x5_1).f2)],.agg #[.int .i64 ((rd_T53 l1 x5_1).f0),.int .i64 ((rd_T53 l1 x5_1).f1),.int .i64 ((rd_T53 l1 x5_1).f2)]] (by rfl) rfl rfl (by (try simp only [List.map_toArray,List.map_cons,List.map_nil]);first|done|rfl|(simp only [List.length_drop,List.length_take];rfl)) ?_
        with_reducible refine (laws_eqDev.calls ((rd_T53 l0 x5_1).f0) ((rd_T53 l0 x5_1).f1) ((rd_T53 l0 x5_1).f2) ((rd_T53 l1 x5_1).f0) ((rd_T53 l1 x5_1).f1) ((rd_T53 l1 x5_1).f2) true _ A7.out).mono ?_
        rintro e w10 ⟨rfl,hb⟩
        refine ⟨_,rfl,?_⟩
        have n0_:=bs hb
        clear HB
        have HB:=n0_
        clear n0_
        (try clear hb)
        (try clear hb2)
        (try clear hk)
        (try clear hi)
        refine hK.out _ _ ⟨((HB.out.cell (World.block_lt_of_cell? w _ hw159_0)).trans hw159_0),((HB.out.cell (World.block_lt_of_cell? w _ hw159_1)).trans hw159_1),((HB.out.cell (World.block_lt_of_cell? w _ hw159_2)).trans hw159_2),((HB.out.cell (World.block_lt_of_cell? w _ hw160_0)).trans hw160_0),((HB.out.cell (World.block_lt_of_cell? w _ hw160_1)).trans hw160_1),((HB.out.cell (World.block_lt_of_cell? w _ hw160_2)).trans hw160_2)⟩ (fun hHeld=>?_)
        clear hK K
        refine no 25 ?_
        refine pt 9 26 (fl 10 1023) HT_ ?_
        refine done_ (done_of HT_.out (by kernel_rfl)) ?_
        try go_wp2
        go_roundg k1
        case measure=>have:=HK1.out;omega
        case rel=>exact ⟨(wrap64 (x5_1+1)),rd_,H',⟨by have:=HK1.out;omega⟩,⟨be⟩⟩
       ·replace c8:=Bool.eq_false_iff.mpr c8
        subst c8
        have H1:(some false)=some r:=by rw [if_neg (show ¬ (false=true) by decide)] at H;exact H
        clear H
        have H:=H1
        clear H1
        obtain rfl:=Option.some.inj H
        try go_wp2
        have n0_:=Aside0.mk (below_drew1 HB.out)
        clear HB
        have HB:=n0_
        clear n0_
        have p159:0≤(x5_1:Int):=of_decide_eq_true (by first|(with_reducible assumption)|assumption)
        have q159:x5_1 < (l0.length:Int):=of_decide_eq_true (by first|(with_reducible assumption)|assumption)
        obtain ⟨ad159,e159,hx159_0,hx159_1,hx159_2⟩:=at_T53 HR0.out x5_1 p159 q159
        have hw159_2:=hx159_2
        have hw159_1:=hx159_1
        have hw159_0:=hx159_0
        cases e159
        replace hx159_0:=(HB.out.cell (World.block_lt_of_cell? w _ hx159_0)).trans hx159_0
        replace hx159_1:=(HB.out.cell (World.block_lt_of_cell? w _ hx159_1)).trans hx159_1
        replace hx159_2:=(HB.out.cell (World.block_lt_of_cell? w _ hx159_2)).trans hx159_2
        replace p159:=eq_true p159
        replace q159:=eq_true q159
        have p160:0≤(x5_1:Int):=of_decide_eq_true (by first|(with_reducible assumption)|assumption)
        have q160:x5_1 < (l1.length:Int):=of_decide_eq_true (by first|(with_reducible assumption)|assumption)
        obtain ⟨ad160,e160,hx160_0,hx160_1,hx160_2⟩:=at_T53 HR1.out x5_1 p160 q160
        have hw160_2:=hx160_2
        have hw160_1:=hx160_1
        have hw160_0:=hx160_0
        cases e160
        replace hx160_0:=(HB.out.cell (World.block_lt_of_cell? w _ hx160_0)).trans hx160_0
        replace hx160_1:=(HB.out.cell (World.block_lt_of_cell? w _ hx160_1)).trans hx160_1
        replace hx160_2:=(HB.out.cell (World.block_lt_of_cell? w _ hx160_2)).trans hx160_2
        replace p160:=eq_true p160
        replace q160:=eq_true q160
        refine start_ (n:=10) (S:=fun w'=>w'.cell? (ad159.add ((x5_1).toNat * 3))=some (.int .i64 ((rd_T53 l0 x5_1).f0))∧w'.cell? ⟨(ad159.add ((x5_1).toNat * 3)).block,(ad159.add ((x5_1).toNat * 3)).off+1,none⟩=some (.int .i64 ((rd_T53 l0 x5_1).f1))∧w'.cell? ⟨(ad159.add ((x5_1).toNat * 3)).block,(ad159.add ((x5_1).toNat * 3)).off+2,none⟩=some (.int .i64 ((rd_T53 l0 x5_1).f2))∧w'.cell? (ad160.add ((x5_1).toNat * 3))=some (.int .i64 ((rd_T53 l1 x5_1).f0))∧w'.cell? ⟨(ad160.add ((x5_1).toNat * 3)).block,(ad160.add ((x5_1).toNat * 3)).off+1,none⟩=some (.int .i64 ((rd_T53 l1 x5_1).f1))∧w'.cell? ⟨(ad160.add ((x5_1).toNat * 3)).block,(ad160.add ((x5_1).toNat * 3)).off+2,none⟩=some (.int .i64 ((rd_T53 l1 x5_1).f2))) (ds:=[]) (fl 10 0) (by kernel_rfl) rfl rfl ⟨((HB.out.cell (World.block_lt_of_cell? w _ hw159_0)).trans hw159_0),((HB.out.cell (World.block_lt_of_cell? w _ hw159_1)).trans hw159_1),((HB.out.cell (World.block_lt_of_cell? w _ hw159_2)).trans hw159_2),((HB.out.cell (World.block_lt_of_cell? w _ hw160_0)).trans hw160_0),((HB.out.cell (World.block_lt_of_cell? w _ hw160_1)).trans hw160_1),((HB.out.cell (World.block_lt_of_cell? w _ hw160_2)).trans hw160_2)⟩ (fun hHeld=>?_);refine with_tabW laws_eqDevS.tab6 laws_eqDevS.bits6 (fun HT_ HW_=>?_)
        generalize wr.drew=w11 at HB hx159_0 hx159_1 hx159_2 hx160_0 hx160_1 hx160_2 hHeld ⊢
        refine pt 0 17 (fl 10 1) HT_ ?_
        refine pt 1 18 (fl 10 3) HT_ ?_
        refine pt 2 19 (fl 10 7) HT_ ?_
        refine pt 4 21 (fl 10 23) HT_ ?_
        refine pt 5 22 (fl 10 55) HT_ ?_
        refine pt 6 23 (fl 10 119) HT_ ?_
        refine tt 3 20 (fl 10 127) HT_ HW_ hHeld ?_
        refine tt 7 24 (fl 10 255) HT_ HW_ hHeld ?_
        refine ot 8 (some 25) (fl 10 511) HT_ (fun K hK=>?_)
        refine goes_ Tryd.func45 (by kernel_rfl) rfl #[.agg #[.int .i64 ((rd_T53 l0 x5_1).f0),.int .i64 ((rd_T53 l0 x5_1).f1),.int .i64 ((rd_T53 l0 x5_1).f2)],.agg #[.int .i64 ((rd_T53 l1 x5_1).f0),.int .i64 ((rd_T53 l1 x5_1).f1),.int .i64 ((rd_T53 l1 x5_1).f2)]] (by rfl) rfl rfl (by (try simp only [List.map_toArray,List.map_cons,List.map_nil]);first|done|rfl|(simp only [List.length_drop,List.length_take];rfl)) ?_
        with_reducible refine (laws_eqDev.calls ((rd_T53 l0 x5_1).f0) ((rd_T53 l0 x5_1).f1) ((rd_T53 l0 x5_1).f2) ((rd_T53 l1 x5_1).f0) ((rd_T53 l1 x5_1).f1) ((rd_T53 l1 x5_1).f2) false _ A7.out).mono ?_
        rintro e w12 ⟨rfl,hb⟩
        refine ⟨_,rfl,?_⟩
        have n0_:=bs hb
        clear HB
        have HB:=n0_
        clear n0_
        (try clear hb)
        (try clear hb2)
        (try clear hk)
        (try clear hi)
        refine hK.out _ _ ⟨((HB.out.cell (World.block_lt_of_cell? w _ hw159_0)).trans hw159_0),((HB.out.cell (World.block_lt_of_cell? w _ hw159_1)).trans hw159_1),((HB.out.cell (World.block_lt_of_cell? w _ hw159_2)).trans hw159_2),((HB.out.cell (World.block_lt_of_cell? w _ hw160_0)).trans hw160_0),((HB.out.cell (World.block_lt_of_cell? w _ hw160_1)).trans hw160_1),((HB.out.cell (World.block_lt_of_cell? w _ hw160_2)).trans hw160_2)⟩ (fun hHeld=>?_)
        clear hK K
        refine no 25 ?_
        refine pt 9 26 (fl 10 1023) HT_ ?_
        refine done_ (done_of HT_.out (by kernel_rfl)) ?_
        try go_wp2
        go_ret
        exact ⟨rz,be⟩
      ·rw [if_neg c6] at H
       exact absurd H (by simp)
     ·rw [if_neg c5] at H
      exact absurd H (by simp)
    ·rw [if_neg c4] at H
     have c4b0:decide (x5_1 < (l0.length:Int))=false:=decide_eq_false c4
     clear c4
     obtain rfl:=Option.some.inj H
     go_wp2
     go_ret
     exact ⟨rz,be⟩
 ·rw [if_neg c3] at H
  have c3b0:((l0.length:Int) == (l1.length:Int))=false:=beq_eq_false_iff_ne.mpr c3
  have c3b1:((l0.length:Int) != (l1.length:Int))=true:=bne_iff_ne.mpr c3
  have c3b2:(l0.length == l1.length)=false:=by first|simpa using c3|(simp at c3 ⊢;omega)
  obtain rfl:=Option.some.inj H
  go_enter Tryd.func18,Tryd.ntmps18
  go_wp2
  go_ret
  exact ⟨rz,be⟩
def laws_FnExactDevsText.f (k:Nat) (l0:List (S59)):Option (Bool):=(laws_szDevS.f l0 1048576).bind fun t162=>(if t162 < 0 then (some true) else ((laws_toDevS.f k l0).bind fun t163=>((spec_DevsText.f k t163).bind fun t166=>((laws_toDevS.f k l0).bind fun t167=>((impl_DevsText.f k t167).bind fun t170=>(if t170.toList=t166.toList then ((laws_toDevS.f k l0).bind fun t171=>((laws_eqDevS.f k t167 t171).bind fun t174=>(if t174=true then (some true) else (some false)))) else (some false)))))))
set_option maxHeartbeats 8000000 in
set_option maxRecDepth 100000 in
theorem laws_FnExactDevsText.calls (k:Nat) (A0:Option Addr) (c0:Nat) (l0:List (S59)) (r:Bool) (w:World) (hL:Aside0 (Laid w)) (hr0:Kd.C k59 w A0 l0.length l0) (hc0:l0.length≤c0) (h:laws_FnExactDevsText.f k l0=some r) (hr_:Aside0 (r=true)) :
  Calls Tryd.prog 4 #[.slice A0 l0.length c0] w fun e w'=>e = .returned (.bool r)∧Below w.heap.size w w':=by
 have HR0:=Aside0.mk hr0
 have HC0:=Aside0.mk hc0
 clear hr0 hc0
 have HB:=Aside0.mk (Below.refl w.heap.size w)
 have H:((laws_szDevS.f l0 1048576).bind fun t162=>(if t162 < 0 then (some true) else ((laws_toDevS.f k l0).bind fun t163=>((spec_DevsText.f k t163).bind fun t166=>((laws_toDevS.f k l0).bind fun t167=>((impl_DevsText.f k t167).bind fun t170=>(if t170.toList=t166.toList then ((laws_toDevS.f k l0).bind fun t171=>((laws_eqDevS.f k t167 t171).bind fun t174=>(if t174=true then (some true) else (some false)))) else (some false))))))))=some r:=h
 clear h
 replace H:=Option.bind_eq_some_iff.mp H
 obtain ⟨t162,A20,H⟩:=H
 try dsimp only at H
 have A2:=Aside0.mk A20
 clear A20
 by_cases c3:t162 < 0
 ·rw [if_pos c3] at H
  have c3b0:decide (t162 < 0)=true:=decide_eq_true c3
  clear c3
  obtain rfl:=Option.some.inj H
  go_enter Tryd.func4,Tryd.ntmps4
  go_wp2_with (first|((with_reducible refine gate_callee (f:=14) rfl ?_);refine goesL_ (some 9) rfl rfl Tryd.func14 (by kernel_rfl) rfl #[.slice A0 l0.length c0,.int .i64 1048576] rfl (by (try simp only [List.map_toArray,List.map_cons,List.map_nil]);first|done|rfl|(simp only [List.length_drop,List.length_take];rfl)) ?_;(with_reducible refine (laws_szDevS.calls _ _ l0 1048576 t162 _ ?side1 ?side2 A2.out).mono ?_);(case side1=>exact sC HR0);(case side2=>exact HC0.out);rintro e w' ⟨rfl,⟨nd,rfl⟩⟩;refine ⟨_,rfl,?_⟩))
  go_ret
  exact ⟨rz,be⟩
 ·rw [if_neg c3] at H
  have c3b0:decide (t162 < 0)=false:=decide_eq_false c3
  clear c3
  replace H:=Option.bind_eq_some_iff.mp H
  obtain ⟨t163,A40,H⟩:=H
  try dsimp only at H
  have A4:=Aside0.mk A40
  clear A40
  replace H:=Option.bind_eq_some_iff.mp H
  obtain ⟨t166,A50,H⟩:=H
  try dsimp only at H
  have A5:=Aside0.mk A50
  clear A50
  replace H:=Option.bind_eq_some_iff.mp H
  obtain ⟨t167,A60,H⟩:=H
  try dsimp only at H
  have A6:=Aside0.mk A60
  clear A60
  replace H:=Option.bind_eq_some_iff.mp H
  obtain ⟨t170,A70,H⟩:=H
  try dsimp only at H
  have A7:=Aside0.mk A70
  clear A70
  by_cases c8:t170.toList=t166.toList
  ·rw [if_pos c8] at H
   have c8b0:(t170.toList == t166.toList)=true:=beq_iff_eq.mpr c8
   have c8b1:(t170.toList != t166.toList)=false:=bne_eq_false_iff_eq.mpr c8
   clear c8
   replace H:=Option.bind_eq_some_iff.mp H
   obtain ⟨t171,A90,H⟩:=H
   try dsimp only at H
   have A9:=Aside0.mk A90
   clear A90
   replace H:=Option.bind_eq_some_iff.mp H
   obtain ⟨t174,A100,H⟩:=H
   try dsimp only at H
   have A10:=Aside0.mk A100
   clear A100
   by_cases c11:t174=true
   ·subst c11
    rw [if_pos rfl] at H
    obtain rfl:=Option.some.inj H
    go_enter Tryd.func4,Tryd.ntmps4
    go_wp2_with (first|((with_reducible refine gate_callee (f:=14) rfl ?_);refine goesL_ (some 9) rfl rfl Tryd.func14 (by kernel_rfl) rfl #[.slice A0 l0.length c0,.int .i64 1048576] rfl (by (try simp only [List.map_toArray,List.map_cons,List.map_nil]);first|done|rfl|(simp only [List.length_drop,List.length_take];rfl)) ?_;(with_reducible refine (laws_szDevS.calls _ _ l0 1048576 t162 _ ?side1 ?side2 A2.out).mono ?_);(case side1=>exact sC HR0);(case side2=>exact HC0.out);rintro e w' ⟨rfl,⟨nd,rfl⟩⟩;refine ⟨_,rfl,?_⟩)|((with_reducible refine gate_callee (f:=16) rfl ?_);refine goesL_ (some 13) rfl rfl Tryd.func16 (by kernel_rfl) rfl #[.slice A0 l0.length c0] rfl (by (try simp only [List.map_toArray,List.map_cons,List.map_nil]);first|done|rfl|(simp only [List.length_drop,List.length_take];rfl)) ?_;(with_reducible refine (laws_toDevS.calls k _ _ l0 t163 _ ?side1 ?side2 A4.out).mono ?_);(case side1=>exact sC HR0);(case side2=>exact HC0.out);rintro e w12 ⟨v164,rfl,ho0,hb⟩;refine ⟨_,rfl,?_⟩;have n0_:=Aside0.mk (Kd.R_lower ho0 (below_size be));have n1_:=bs hb;clear HB;have HO165:=n0_;have HB:=n1_;clear n0_ n1_;(try clear hb);(try clear hb2);(try clear hk);(try clear hi);(try clear ho0);obtain ⟨Ao13,co13,eo13⟩:=Kd.R_slice HO165.out;subst eo13)|((with_reducible refine gate_callee (f:=15) rfl ?_);refine goesL_ (some 14) rfl rfl Tryd.func15 (by kernel_rfl) rfl #[.slice Ao13 t163.length co13] rfl (by (try simp only [List.map_toArray,List.map_cons,List.map_nil]);first|done|rfl|(simp only [List.length_drop,List.length_take];rfl)) ?_;(with_reducible refine (spec_DevsText.calls k _ _ t163 t166 _ ?side1 ?side2 A5.out).mono ?_);(case side1=>exact sR HO165);(case side2=>exact (Kd.R_reads' HO165.out).2.1);rintro e w14 ⟨rfl,hb⟩;refine ⟨_,rfl,?_⟩;have n0_:=Aside0.mk (Kd.R_below ((rR HO165)) hb);have n1_:=bs hb;clear HO165;clear HB;have HO165:=n0_;have HB:=n1_;clear n0_ n1_;(try clear hb);(try clear hb2);(try clear hk);(try clear hi))|((with_reducible refine gate_callee (f:=16) rfl ?_);refine goesL_ (some 16) rfl rfl Tryd.func16 (by kernel_rfl) rfl #[.slice A0 l0.length c0] rfl (by (try simp only [List.map_toArray,List.map_cons,List.map_nil]);first|done|rfl|(simp only [List.length_drop,List.length_take];rfl)) ?_;(with_reducible refine (laws_toDevS.calls k _ _ l0 t167 _ ?side1 ?side2 A6.out).mono ?_);(case side1=>exact rC HR0);(case side2=>exact HC0.out);rintro e w15 ⟨v168,rfl,ho0,hb⟩;refine ⟨_,rfl,?_⟩;have n0_:=Aside0.mk (Kd.R_elder' (rR HO165) (Kd.R_base ho0) hb);have n1_:=Aside0.mk (Kd.R_lower (Kd.R_new' ho0 (Kd.R_lt (rR HO165))) (below_size be));have n2_:=bs hb;clear HO165;clear HB;have HO165:=n0_;have HO169:=n1_;have HB:=n2_;clear n0_ n1_ n2_;(try clear hb);(try clear hb2);(try clear hk);(try clear hi);(try clear ho0);obtain ⟨Ao16,co16,eo16⟩:=Kd.R_slice HO169.out;subst eo16)|((with_reducible refine gate_callee (f:=17) rfl ?_);refine goesL_ (some 18) rfl rfl Tryd.func17 (by kernel_rfl) rfl #[.slice Ao16 t167.length co16] rfl (by (try simp only [List.map_toArray,List.map_cons,List.map_nil]);first|done|rfl|(simp only [List.length_drop,List.length_take];rfl)) ?_;(with_reducible refine (impl_DevsText.calls k _ _ t167 t170 _ ?side3 ?side1 ?side2 A7.out).mono ?_);(case side1=>exact sR HO169);(case side2=>exact (Kd.R_reads' HO169.out).2.1);(case side3=>exact lb hL);rintro e w17 ⟨rfl,hb⟩;refine ⟨_,rfl,?_⟩;have n0_:=Aside0.mk (Kd.R_below ((rR HO165)) hb);have n1_:=Aside0.mk (Kd.R_below ((rR HO169)) hb);have n2_:=bs hb;clear HO165;clear HO169;clear HB;have HO165:=n0_;have HO169:=n1_;have HB:=n2_;clear n0_ n1_ n2_;(try clear hb);(try clear hb2);(try clear hk);(try clear hi))|((with_reducible refine gate_callee (f:=16) rfl ?_);refine goesL_ (some 24) rfl rfl Tryd.func16 (by kernel_rfl) rfl #[.slice A0 l0.length c0] rfl (by (try simp only [List.map_toArray,List.map_cons,List.map_nil]);first|done|rfl|(simp only [List.length_drop,List.length_take];rfl)) ?_;(with_reducible refine (laws_toDevS.calls k _ _ l0 t171 _ ?side1 ?side2 A9.out).mono ?_);(case side1=>exact rC HR0);(case side2=>exact HC0.out);rintro e w18 ⟨v172,rfl,ho0,hb⟩;refine ⟨_,rfl,?_⟩;have n0_:=Aside0.mk (Kd.R_elder' (rR HO165) (Kd.R_base ho0) hb);have n1_:=Aside0.mk (Kd.R_elder' (rR HO169) (Kd.R_base ho0) hb);have n2_:=Aside0.mk (Kd.R_lower (Kd.R_new' (Kd.R_new' ho0 (Kd.R_lt (rR HO165))) (Kd.R_lt (rR HO169))) (below_size be));have n3_:=bs hb;clear HO165;clear HO169;clear HB;have HO165:=n0_;have HO169:=n1_;have HO173:=n2_;have HB:=n3_;clear n0_ n1_ n2_ n3_;(try clear hb);(try clear hb2);(try clear hk);(try clear hi);(try clear ho0);obtain ⟨Ao19,co19,eo19⟩:=Kd.R_slice HO173.out;subst eo19)|((with_reducible refine gate_callee (f:=18) rfl ?_);refine goesL_ (some 25) rfl rfl Tryd.func18 (by kernel_rfl) rfl #[.slice Ao16 t167.length co16,.slice Ao19 t171.length co19] rfl (by (try simp only [List.map_toArray,List.map_cons,List.map_nil]);first|done|rfl|(simp only [List.length_drop,List.length_take];rfl)) ?_;(with_reducible refine (laws_eqDevS.calls k _ _ t167 _ _ t171 true _ ?side1 ?side2 ?side3 ?side4 A10.out).mono ?_);(case side1=>exact sR HO169);(case side2=>exact (Kd.R_reads' HO169.out).2.1);(case side3=>exact sR HO173);(case side4=>exact (Kd.R_reads' HO173.out).2.1);rintro e w20 ⟨rfl,hb⟩;refine ⟨_,rfl,?_⟩;have n0_:=Aside0.mk (Kd.R_below ((rR HO165)) hb);have n1_:=Aside0.mk (Kd.R_below ((rR HO169)) hb);have n2_:=Aside0.mk (Kd.R_below ((rR HO173)) hb);have n3_:=bs hb;clear HO165;clear HO169;clear HO173;clear HB;have HO165:=n0_;have HO169:=n1_;have HO173:=n2_;have HB:=n3_;clear n0_ n1_ n2_ n3_;(try clear hb);(try clear hb2);(try clear hk);(try clear hi)))
    go_ret
    exact ⟨rz,be⟩
   ·replace c11:=Bool.eq_false_iff.mpr c11
    subst c11
    have H1:(some false)=some r:=by rw [if_neg (show ¬ (false=true) by decide)] at H;exact H
    clear H
    have H:=H1
    clear H1
    exact absurd ((Option.some.inj H).trans hr_.out) (by decide)
  ·rw [if_neg c8] at H
   have c8b0:(t170.toList == t166.toList)=false:=beq_eq_false_iff_ne.mpr c8
   have c8b1:(t170.toList != t166.toList)=true:=bne_iff_ne.mpr c8
   exact absurd ((Option.some.inj H).trans hr_.out) (by decide)
end Go.Proofs.YtnoglmdicdpabaaDoor.PFnExactDevsText
