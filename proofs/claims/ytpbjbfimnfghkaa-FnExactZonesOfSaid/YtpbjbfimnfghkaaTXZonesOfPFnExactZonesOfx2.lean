/- Trimmed by a program of this session (trim.py). Not trusted: Lean checks it. -/
import Derived.Test.YtpbjbfimnfghkaaTXZonesOfPFnExactZonesOfx0
import Derived.Test.YtpbjbfimnfghkaaTXZonesOfPFnExactZonesOfx1
import Derived.Sort.OwnSortedInts
import Derived.Test.YtpbjbfimnfghkaaTXZonesOfShelf
namespace Go.Proofs.Ytpbjbfimnfghkaa.PFnExactZonesOf
open Go.RowKit Go.Proofs.YtpbjbfimnfghkaaW.PrintWords Go.Proofs.YtpbjbfimnfghkaaW.PrintLast Go.Proofs.YtpbjbfimnfghkaaW.PrintMore Go.Proofs.Ytpbjbfimnfghkaa.St
attribute [local go_sem] max2_int min2_int max_two min_two max_three min_three max_four min_four
set_option linter.unusedVariables false
set_option linter.unusedSimpArgs false
mutual
def spec_ZonesOf.l0:Nat→List (S61)→List Int→Int→Option (List Int)
 | 0,_,_,_=>none
 | k+1,x0,x3,x4=>if x4 < (x0.length:Int) then (if 0≤x4 then ((spec_l4Has.f k x3 ((rd_T61 x0 x4).f1)).bind fun t125=>(if t125=true then (spec_ZonesOf.l0 k x0 x3 (wrap64 (x4+1))) else (if x3.length < 17592186044416 then (spec_ZonesOf.l1 k x0 (x3 ++ [(rd_T61 x0 x4).f1]) x4 ((rd_T61 x0 x4).f1) (x3.length:Int)) else (none)))) else (none)) else (some x3)
def spec_ZonesOf.l1:Nat→List (S61)→List Int→Int→Int→Int→Option (List Int)
 | 0,_,_,_,_,_=>none
 | k+1,x0,x3,x4,x5,x6=>if x6 > 0 then (if 0≤(wrap64 (x6 - 1)) then (if (wrap64 (x6 - 1)) < (x3.length:Int) then (if (rd x3 (wrap64 (x6 - 1))) > x5 then (if 0≤x6 then (if x6 < (x3.length:Int) then (spec_ZonesOf.l1 k x0 (x3.set (x6:Int).toNat (rd x3 (wrap64 (x6 - 1)))) x4 x5 (wrap64 (x6 - 1))) else (none)) else (none)) else (if 0≤x6 then (if x6 < (x3.length:Int) then (spec_ZonesOf.l0 k x0 (x3.set (x6:Int).toNat x5) (wrap64 (x4+1))) else (none)) else (none))) else (none)) else (none)) else (if 0≤x6 then (if x6 < (x3.length:Int) then (spec_ZonesOf.l0 k x0 (x3.set (x6:Int).toNat x5) (wrap64 (x4+1))) else (none)) else (none))
end
def spec_ZonesOf.f (k:Nat) (l0:List (S61)):Option (List Int):=spec_ZonesOf.l0 k l0 (([]:List Int)) 0
set_option maxHeartbeats 8000000 in
set_option maxRecDepth 100000 in
theorem spec_ZonesOf.calls (k:Nat) (A0:Option Addr) (c0:Nat) (l0:List (S61)) (r:List Int) (w:World) (hr0:Kd.C k61 w A0 l0.length l0) (hc0:l0.length≤c0) (h:spec_ZonesOf.f k l0=some r) :
  Calls Try.prog 25 #[.slice A0 l0.length c0] w fun e w'=>∃ v0_:Value,e = .returned (v0_)∧Kd.R (Kd.int .i64) 3 w' w.heap.size (fun _=>True) v0_ r∧Below w.heap.size w w':=by
 have HR0:=Aside0.mk hr0
 have HC0:=Aside0.mk hc0
 clear hr0 hc0
 have HB:=Aside0.mk (Below.refl w.heap.size w)
 have H:(spec_ZonesOf.l0 k l0 (([]:List Int)) 0)=some r:=h
 clear h
 obtain ⟨y121,hy121⟩ : ∃ y_:List Int,y_=(([]:List Int)):=⟨_,rfl⟩
 replace H:(spec_ZonesOf.l0 k l0 y121 0)=some r:=by first|(rw [hy121];with_reducible exact H)|(have H2_:=(Option.bind_some _ _).symm.trans H;rw [hy121];with_reducible exact H2_)|(have H2_:=(Option.bind_some _ _).symm.trans H;with_reducible exact H2_)|with_reducible exact H|(rw [hy121];exact H)|exact H
 have Ny121:=Aside0.mk hy121
 clear hy121
 have H':=Aside0.mk H
 clear H
 go_enter Try.func25,Try.ntmps25
 go_wp2_with (first|((with_reducible refine gate_dst (N:=7) rfl ?_);refine Kd.R_lit (Kd.int .i64) _ 3 ?hg (N:=7) ?hd (xs:=([]:List Int)) (inner:=[]) (ok:=fun _=>True) (okp:=fun _=>True) ?hr ?hp (fun _ hk=>hk) trivial (Below.refl _ _) (Nat.le_refl _) (by simp) ?_;(case hd=>rfl);(case hg=>rfl);(case hr=>first|(go_simp;done)|(go_simp;rfl));(case hp=>exact (Reps.none _ _));intro v122 w2 ho3 hb hg_ hnew_;clear hg_ hnew_;(first|rw [← Ny121.out] at ho3|(simp only [Int.reduceToNat] at ho3;rw [← Ny121.out] at ho3));have n0_:=Aside0.mk (Kd.R_lower ho3 (below_size be));have n1_:=bs hb;clear HB;have HO123:=n0_;have HB:=n1_;clear n0_ n1_;clear hb ho3))
 go_loopg [3,4] k (fun kq v3 v4 w'=>∃ (x3_1:List Int) (x4_1:Int),v4 = .int .i64 x4_1∧Aside0 (spec_ZonesOf.l0 kq l0 x3_1 x4_1=some r)∧Aside0 (kq≤k)∧Aside0 (Kd.R (Kd.int .i64) 3 w' w.heap.size (fun _=>True) v3 x3_1)∧Aside0 (Below w.heap.size w w'))
 case atStart=>exact ⟨(y121),(0),rd_,H',⟨Nat.le_refl _⟩,⟨rR HO123⟩,⟨be⟩⟩
 case round=>
  clear H'
  try clear c2
  try clear p2
  obtain ⟨x3_1,x4_1,rfl,HA,HK1,HO_3,HB⟩:=hrel
  cases gk with
  | zero=>exact absurd HA.out (by simp [spec_ZonesOf.l0])
  | succ k1=>
   have H:=HA.out
   clear HA
   simp only [spec_ZonesOf.l0] at H
   by_cases c4:x4_1 < (l0.length:Int)
   ·rw [if_pos c4] at H
    have c4b0:decide (x4_1 < (l0.length:Int))=true:=decide_eq_true c4
    clear c4
    by_cases c5:0≤x4_1
    ·rw [if_pos c5] at H
     have c5b0:decide (0≤x4_1)=true:=decide_eq_true c5
     clear c5
     replace H:=Option.bind_eq_some_iff.mp H
     obtain ⟨t125,A60,H⟩:=H
     try dsimp only at H
     have A6:=Aside0.mk A60
     clear A60
     by_cases c7:t125=true
     ·subst c7
      rw [if_pos rfl] at H
      have H':=Aside0.mk H
      clear H
      have p124:0≤(x4_1:Int):=of_decide_eq_true (by first|(with_reducible assumption)|assumption)
      have q124:x4_1 < (l0.length:Int):=of_decide_eq_true (by first|(with_reducible assumption)|assumption)
      obtain ⟨ad124,e124,hx124_0,hx124_1,hx124_2⟩:=at_T61 HR0.out x4_1 p124 q124
      cases e124
      replace hx124_0:=(HB.out.cell (World.block_lt_of_cell? w _ hx124_0)).trans hx124_0
      replace hx124_1:=(HB.out.cell (World.block_lt_of_cell? w _ hx124_1)).trans hx124_1
      replace hx124_2:=(HB.out.cell (World.block_lt_of_cell? w _ hx124_2)).trans hx124_2
      replace p124:=eq_true p124
      replace q124:=eq_true q124
      obtain ⟨Ao8,co8,eo8⟩:=Kd.R_slice HO_3.out
      subst eo8
      go_wp2_with (first|((with_reducible refine gate_callee (f:=68) rfl ?_);refine goesL_ (some 21) rfl rfl Try.func68 (by kernel_rfl) rfl #[.slice Ao8 x3_1.length co8,.int .i64 ((rd_T61 l0 x4_1).f1)] rfl (by (try simp only [List.map_toArray,List.map_cons,List.map_nil]);first|done|rfl|(simp only [List.length_drop,List.length_take];rfl)) ?_;(with_reducible refine (spec_l4Has.calls k1 _ _ x3_1 ((rd_T61 l0 x4_1).f1) true _ ?side1 ?side2 A6.out).mono ?_);(case side1=>exact sR HO_3);(case side2=>exact (Kd.R_reads' HO_3.out).2.1);rintro e w' ⟨rfl,⟨nd,rfl⟩⟩;refine ⟨_,rfl,?_⟩))
      go_roundg k1
      case measure=>have:=HK1.out;omega
      case rel=>exact ⟨(x3_1),(wrap64 (x4_1+1)),rd_,H',⟨by have:=HK1.out;omega⟩,⟨rR HO_3⟩,⟨be⟩⟩
     ·replace c7:=Bool.eq_false_iff.mpr c7
      subst c7
      have H1:(if x3_1.length < 17592186044416 then (spec_ZonesOf.l1 k1 l0 (x3_1 ++ [(rd_T61 l0 x4_1).f1]) x4_1 ((rd_T61 l0 x4_1).f1) (x3_1.length:Int)) else (none))=some r:=by rw [if_neg (show ¬ (false=true) by decide)] at H;exact H
      clear H
      have H:=H1
      clear H1
      by_cases c9:x3_1.length < 17592186044416
      ·rw [if_pos c9] at H
       have LMc9:=Aside0.mk c9
       clear c9
       obtain ⟨y126,hy126⟩ : ∃ y_:List Int,y_=(x3_1 ++ [(rd_T61 l0 x4_1).f1]):=⟨_,rfl⟩
       replace H:(spec_ZonesOf.l1 k1 l0 y126 x4_1 ((rd_T61 l0 x4_1).f1) (x3_1.length:Int))=some r:=by first|(rw [hy126];with_reducible exact H)|(have H2_:=(Option.bind_some _ _).symm.trans H;rw [hy126];with_reducible exact H2_)|(have H2_:=(Option.bind_some _ _).symm.trans H;with_reducible exact H2_)|with_reducible exact H|(rw [hy126];exact H)|exact H
       have Ny126:=Aside0.mk hy126
       clear hy126
       have H':=Aside0.mk H
       clear H
       have p124:0≤(x4_1:Int):=of_decide_eq_true (by first|(with_reducible assumption)|assumption)
       have q124:x4_1 < (l0.length:Int):=of_decide_eq_true (by first|(with_reducible assumption)|assumption)
       obtain ⟨ad124,e124,hx124_0,hx124_1,hx124_2⟩:=at_T61 HR0.out x4_1 p124 q124
       cases e124
       replace hx124_0:=(HB.out.cell (World.block_lt_of_cell? w _ hx124_0)).trans hx124_0
       replace hx124_1:=(HB.out.cell (World.block_lt_of_cell? w _ hx124_1)).trans hx124_1
       replace hx124_2:=(HB.out.cell (World.block_lt_of_cell? w _ hx124_2)).trans hx124_2
       replace p124:=eq_true p124
       replace q124:=eq_true q124
       obtain ⟨Ao10,co10,eo10⟩:=Kd.R_slice HO_3.out
       subst eo10
       go_wp2_with (first|((with_reducible refine gate_callee (f:=68) rfl ?_);refine goesL_ (some 21) rfl rfl Try.func68 (by kernel_rfl) rfl #[.slice Ao10 x3_1.length co10,.int .i64 ((rd_T61 l0 x4_1).f1)] rfl (by (try simp only [List.map_toArray,List.map_cons,List.map_nil]);first|done|rfl|(simp only [List.length_drop,List.length_take];rfl)) ?_;(with_reducible refine (spec_l4Has.calls k1 _ _ x3_1 ((rd_T61 l0 x4_1).f1) false _ ?side1 ?side2 A6.out).mono ?_);(case side1=>exact sR HO_3);(case side2=>exact (Kd.R_reads' HO_3.out).2.1);rintro e w' ⟨rfl,⟨nd,rfl⟩⟩;refine ⟨_,rfl,?_⟩)|((with_reducible refine gate_builtin (b:=.append) (xs:=#[.tmp 24,.tmp 26]) rfl ?_);at_builtin;refine Kd.R_append (Kd.int .i64) (w0:=w) w.heap.size rfl (.tmp 24) (.tmp 26) 33 3 (.int .i64 0) 8 rfl Try.underlying33 info3 rfl (by decide) (by omega) (.slice Ao10 x3_1.length co10) x3_1 ((rd_T61 l0 x4_1).f1) [.int .i64 ((rd_T61 l0 x4_1).f1)] (fun _=>True) (fun _=>False) rfl rfl ?aP (fun _ hk=>hk.elim) ?aF ?aO ?aB ?aS ?aL ?_;(case aP=>exact rfl);(case aB=>exact be);(case aF=>exact (fun _ _=>trivial));(case aO=>exact (rR HO_3));(case aS=>exact (below_size be));(case aL=>have:=LMc9.out;omega);intro v127 w11 ho hb hg hat;rw [← Ny126.out] at ho;have n0_:=Aside0.mk (hb);have n1_:=Aside0.mk (ho);clear HB;clear HO_3;have HB:=n0_;have HO128:=n1_;clear n0_ n1_;clear ho hb hg hat))
       go_loopg [6] k1 (fun kq v6 w'=>∃ (x3_2:List Int) (x6_2:Int),v6 = .int .i64 x6_2∧Aside0 (spec_ZonesOf.l1 kq l0 x3_2 x4_1 ((rd_T61 l0 x4_1).f1) x6_2=some r)∧Aside0 (kq≤k1)∧Aside0 (Kd.R (Kd.int .i64) 3 w' w.heap.size (fun _=>True) v127 x3_2)∧Aside0 (Below w.heap.size w w'))
       case atStart=>exact ⟨(y126),((x3_1.length:Int)),rd_,H',⟨Nat.le_refl _⟩,⟨rR HO128⟩,⟨be⟩⟩
       case round=>
        clear H'
        try clear p1
        try clear q1
        try clear hx1
        try clear c2
        try clear p2
        try clear c4
        try clear c4b0
        try clear c5
        try clear c5b0
        try clear c6
        try clear p6
        try clear c7
        try clear c9
        try clear hx124_0
        try clear hx124_1
        try clear hx124_2
        try clear p124
        try clear p2
        try clear q124
        obtain ⟨x3_2,x6_2,rfl,HA,HK2,HO_3,HB⟩:=hrel
        cases gk with
        | zero=>exact absurd HA.out (by simp [spec_ZonesOf.l1])
        | succ k2=>
         have H:=HA.out
         clear HA
         simp only [spec_ZonesOf.l1] at H
         by_cases c12:x6_2 > 0
         ·rw [if_pos c12] at H
          have c12b0:decide (0 < x6_2)=true:=decide_eq_true c12
          clear c12
          obtain ⟨ji13,hji13⟩ : ∃ j_:Int,(wrap64 (x6_2 - 1))=j_:=⟨_,rfl⟩
          replace H:(if 0≤(ji13) then (if (ji13) < (x3_2.length:Int) then (if (rd x3_2 (ji13)) > ((rd_T61 l0 x4_1).f1) then (if 0≤x6_2 then (if x6_2 < (x3_2.length:Int) then (spec_ZonesOf.l1 k2 l0 (x3_2.set (x6_2:Int).toNat (rd x3_2 (ji13))) x4_1 ((rd_T61 l0 x4_1).f1) ji13) else (none)) else (none)) else (if 0≤x6_2 then (if x6_2 < (x3_2.length:Int) then (spec_ZonesOf.l0 k2 l0 (x3_2.set (x6_2:Int).toNat ((rd_T61 l0 x4_1).f1)) (wrap64 (x4_1+1))) else (none)) else (none))) else (none)) else (none))=some r:=by first|(rw [hji13] at H;exact H)|(simp only [hji13] at H ⊢;exact H)
          have hji13w:(IntKind.i64.wrap (x6_2 - 1))=ji13:=(i64_w _).trans hji13
          by_cases c14:0≤(ji13)
          ·rw [if_pos c14] at H
           have c14b0:decide (0≤(ji13))=true:=decide_eq_true c14
           clear c14
           by_cases c15:(ji13) < (x3_2.length:Int)
           ·rw [if_pos c15] at H
            have c15b0:decide ((ji13) < (x3_2.length:Int))=true:=decide_eq_true c15
            clear c15
            by_cases c16:(rd x3_2 (ji13)) > ((rd_T61 l0 x4_1).f1)
            ·rw [if_pos c16] at H
             have c16b0:decide (((rd_T61 l0 x4_1).f1) < (rd x3_2 (ji13)))=true:=decide_eq_true c16
             clear c16
             by_cases c17:0≤x6_2
             ·rw [if_pos c17] at H
              have c17b0:decide (0≤x6_2)=true:=decide_eq_true c17
              clear c17
              by_cases c18:x6_2 < (x3_2.length:Int)
              ·rw [if_pos c18] at H
               have c18b0:decide (x6_2 < (x3_2.length:Int))=true:=decide_eq_true c18
               clear c18
               obtain ⟨y131,hy131⟩ : ∃ y_:List Int,y_=(x3_2.set (x6_2:Int).toNat (rd x3_2 (ji13))):=⟨_,rfl⟩
               replace H:(spec_ZonesOf.l1 k2 l0 y131 x4_1 ((rd_T61 l0 x4_1).f1) ji13)=some r:=by first|(rw [hy131];with_reducible exact H)|(have H2_:=(Option.bind_some _ _).symm.trans H;rw [hy131];with_reducible exact H2_)|(have H2_:=(Option.bind_some _ _).symm.trans H;with_reducible exact H2_)|with_reducible exact H|(rw [hy131];exact H)|exact H
               have Ny131:=Aside0.mk hy131
               clear hy131
               have H':=Aside0.mk H
               clear H
               obtain ⟨Ao20,co20,eo20⟩:=Kd.R_slice HO_3.out
               subst eo20
               have p129:0≤((ji13):Int):=of_decide_eq_true (by first|(with_reducible assumption)|assumption)
               have q129:(ji13) < (x3_2.length:Int):=of_decide_eq_true (by first|(with_reducible assumption)|assumption)
               obtain ⟨ad129,e129,hx129_0⟩:=Kd.at_int (Kd.R_reads' HO_3.out).2.2 (ji13) p129 q129
               cases e129
               replace p129:=eq_true p129
               replace q129:=eq_true q129
               have p130:0≤((ji13):Int):=of_decide_eq_true (by first|(with_reducible assumption)|assumption)
               have q130:(ji13) < (x3_2.length:Int):=of_decide_eq_true (by first|(with_reducible assumption)|assumption)
               obtain ⟨ad130,e130,hx130_0⟩:=Kd.at_int (Kd.R_reads' HO_3.out).2.2 (ji13) p130 q130
               obtain rfl:ad129=ad130:=(by injection e130)
               replace p130:=eq_true p130
               replace q130:=eq_true q130
               have p19:0≤(x6_2:Int):=of_decide_eq_true (by first|(with_reducible assumption)|assumption)
               have q19:(x6_2:Int) < ((x3_2.length:Int):Int):=of_decide_eq_true (by first|(with_reducible assumption)|assumption)
               obtain ⟨go19,co19,eo19,gb19,gl19,cl19,HG19⟩:=Kd.R_form HO_3.out (by omega)
               (first|cases eo19|(injection eo19 with ea_ en_ ec_;(first|subst ea_|(injection ea_ with ea_;subst ea_));subst ec_;clear en_))
               have GB19:=Aside0.mk gb19
               have GG19:=Aside0.mk HG19
               clear gb19 gl19 HG19
               (first|simp only [add_plain] at hx129_0|skip)
               (first|simp only [add_plain] at hx130_0|skip)
               obtain ⟨hx19_0,hf19_0⟩:=Kd.R_celln 0 HO_3.out (x6_2:Int) p19 q19
               replace p19:=eq_true p19
               replace q19:=eq_true q19
               have HP21:=Kd.R_putg HO_3.out (x6_2:Int) (rd x3_2 (ji13))
               go_wp2_with (first|((with_reducible refine gate_store (t:=3) (p:=46) rfl ?_);refine store_event (t:=3) (p:=46) (v:=?vo_w22) (w1:=(wr.setCell ⟨go19,(x6_2:Int).toNat,none⟩ (.int .i64 (rd x3_2 (ji13))))) ?hg ?ho ?hn ?hr ?_;(case ho=>rfl);(case hg=>rfl);(case hn=>rfl);(case hr=>first|(go_simp;done)|(go_simp;rfl));intro w22 hw;have hg:wr.grownBy w22 (some go19):=(by rw [hw];exact HP21.2);have hp_:Kd.R (Kd.int .i64) 3 w22 w.heap.size (fun _=>True) (.slice (some ⟨go19,0,none⟩) x3_2.length co20) y131:=(by rw [hw,Ny131.out];exact HP21.1);clear HP21;have n0_:=Aside0.mk (hp_);have n1_:=Aside0.mk ((by rw [hw];exact below_set (HB.out) GB19.out:Below w.heap.size w w22));clear HO_3;clear HB;have HO_3:=n0_;have HB:=n1_;clear n0_ n1_;clear hg hw hp_))
               go_roundg k2
               case measure=>have:=HK1.out;have:=HK2.out;omega
               case rel=>exact ⟨(y131),(ji13),(by first|rfl|(simp;done)|(simp only [← hji13] <;> (first|rfl|simp))|(simp [*];done)),H',⟨by have:=HK1.out;have:=HK2.out;omega⟩,⟨rR HO_3⟩,⟨be⟩⟩
              ·rw [if_neg c18] at H
               exact absurd H (by simp)
             ·rw [if_neg c17] at H
              exact absurd H (by simp)
            ·rw [if_neg c16] at H
             have c16b0:decide (((rd_T61 l0 x4_1).f1) < (rd x3_2 (ji13)))=false:=decide_eq_false c16
             clear c16
             by_cases c23:0≤x6_2
             ·rw [if_pos c23] at H
              have c23b0:decide (0≤x6_2)=true:=decide_eq_true c23
              clear c23
              by_cases c24:x6_2 < (x3_2.length:Int)
              ·rw [if_pos c24] at H
               have c24b0:decide (x6_2 < (x3_2.length:Int))=true:=decide_eq_true c24
               clear c24
               obtain ⟨y132,hy132⟩ : ∃ y_:List Int,y_=(x3_2.set (x6_2:Int).toNat ((rd_T61 l0 x4_1).f1)):=⟨_,rfl⟩
               replace H:(spec_ZonesOf.l0 k2 l0 y132 (wrap64 (x4_1+1)))=some r:=by first|(rw [hy132];with_reducible exact H)|(have H2_:=(Option.bind_some _ _).symm.trans H;rw [hy132];with_reducible exact H2_)|(have H2_:=(Option.bind_some _ _).symm.trans H;with_reducible exact H2_)|with_reducible exact H|(rw [hy132];exact H)|exact H
               have Ny132:=Aside0.mk hy132
               clear hy132
               have H':=Aside0.mk H
               clear H
               obtain ⟨Ao26,co26,eo26⟩:=Kd.R_slice HO_3.out
               subst eo26
               have p129:0≤((ji13):Int):=of_decide_eq_true (by first|(with_reducible assumption)|assumption)
               have q129:(ji13) < (x3_2.length:Int):=of_decide_eq_true (by first|(with_reducible assumption)|assumption)
               obtain ⟨ad129,e129,hx129_0⟩:=Kd.at_int (Kd.R_reads' HO_3.out).2.2 (ji13) p129 q129
               cases e129
               replace p129:=eq_true p129
               replace q129:=eq_true q129
               have p25:0≤(x6_2:Int):=of_decide_eq_true (by first|(with_reducible assumption)|assumption)
               have q25:(x6_2:Int) < ((x3_2.length:Int):Int):=of_decide_eq_true (by first|(with_reducible assumption)|assumption)
               obtain ⟨go25,co25,eo25,gb25,gl25,cl25,HG25⟩:=Kd.R_form HO_3.out (by omega)
               (first|cases eo25|(injection eo25 with ea_ en_ ec_;(first|subst ea_|(injection ea_ with ea_;subst ea_));subst ec_;clear en_))
               have GB25:=Aside0.mk gb25
               have GG25:=Aside0.mk HG25
               clear gb25 gl25 HG25
               (first|simp only [add_plain] at hx129_0|skip)
               obtain ⟨hx25_0,hf25_0⟩:=Kd.R_celln 0 HO_3.out (x6_2:Int) p25 q25
               replace p25:=eq_true p25
               replace q25:=eq_true q25
               have HP27:=Kd.R_putg HO_3.out (x6_2:Int) ((rd_T61 l0 x4_1).f1)
               go_wp2_with (first|((with_reducible refine gate_store (t:=3) (p:=52) rfl ?_);refine store_event (t:=3) (p:=52) (v:=?vo_w28) (w1:=(wr.setCell ⟨go25,(x6_2:Int).toNat,none⟩ (.int .i64 ((rd_T61 l0 x4_1).f1)))) ?hg ?ho ?hn ?hr ?_;(case ho=>rfl);(case hg=>rfl);(case hn=>rfl);(case hr=>first|(go_simp;done)|(go_simp;rfl));intro w28 hw;have hg:wr.grownBy w28 (some go25):=(by rw [hw];exact HP27.2);have hp_:Kd.R (Kd.int .i64) 3 w28 w.heap.size (fun _=>True) (.slice (some ⟨go25,0,none⟩) x3_2.length co26) y132:=(by rw [hw,Ny132.out];exact HP27.1);clear HP27;have n0_:=Aside0.mk (hp_);have n1_:=Aside0.mk ((by rw [hw];exact below_set (HB.out) GB25.out:Below w.heap.size w w28));clear HO_3;clear HB;have HO_3:=n0_;have HB:=n1_;clear n0_ n1_;clear hg hw hp_))
               go_roundg k2
               case measure=>have:=HK1.out;have:=HK2.out;omega
               case rel=>exact ⟨(y132),(wrap64 (x4_1+1)),rd_,H',⟨by have:=HK1.out;have:=HK2.out;omega⟩,⟨rR HO_3⟩,⟨be⟩⟩
              ·rw [if_neg c24] at H
               exact absurd H (by simp)
             ·rw [if_neg c23] at H
              exact absurd H (by simp)
           ·rw [if_neg c15] at H
            exact absurd H (by simp)
          ·rw [if_neg c14] at H
           exact absurd H (by simp)
         ·rw [if_neg c12] at H
          have c12b0:decide (0 < x6_2)=false:=decide_eq_false c12
          clear c12
          by_cases c29:0≤x6_2
          ·rw [if_pos c29] at H
           have c29b0:decide (0≤x6_2)=true:=decide_eq_true c29
           clear c29
           by_cases c30:x6_2 < (x3_2.length:Int)
           ·rw [if_pos c30] at H
            have c30b0:decide (x6_2 < (x3_2.length:Int))=true:=decide_eq_true c30
            clear c30
            obtain ⟨y133,hy133⟩ : ∃ y_:List Int,y_=(x3_2.set (x6_2:Int).toNat ((rd_T61 l0 x4_1).f1)):=⟨_,rfl⟩
            replace H:(spec_ZonesOf.l0 k2 l0 y133 (wrap64 (x4_1+1)))=some r:=by first|(rw [hy133];with_reducible exact H)|(have H2_:=(Option.bind_some _ _).symm.trans H;rw [hy133];with_reducible exact H2_)|(have H2_:=(Option.bind_some _ _).symm.trans H;with_reducible exact H2_)|with_reducible exact H|(rw [hy133];exact H)|exact H
            have Ny133:=Aside0.mk hy133
            clear hy133
            have H':=Aside0.mk H
            clear H
            have p31:0≤(x6_2:Int):=of_decide_eq_true (by first|(with_reducible assumption)|assumption)
            have q31:(x6_2:Int) < ((x3_2.length:Int):Int):=of_decide_eq_true (by first|(with_reducible assumption)|assumption)
            obtain ⟨go31,co31,eo31,gb31,gl31,cl31,HG31⟩:=Kd.R_form HO_3.out (by omega)
            (first|cases eo31|(injection eo31 with ea_ en_ ec_;(first|subst ea_|(injection ea_ with ea_;subst ea_));subst ec_;clear en_))
            have GB31:=Aside0.mk gb31
            have GG31:=Aside0.mk HG31
            clear gb31 gl31 HG31
            obtain ⟨hx31_0,hf31_0⟩:=Kd.R_celln 0 HO_3.out (x6_2:Int) p31 q31
            replace p31:=eq_true p31
            replace q31:=eq_true q31
            have HP32:=Kd.R_putg HO_3.out (x6_2:Int) ((rd_T61 l0 x4_1).f1)
            go_wp2_with (first|((with_reducible refine gate_store (t:=3) (p:=52) rfl ?_);refine store_event (t:=3) (p:=52) (v:=?vo_w33) (w1:=(wr.setCell ⟨go31,(x6_2:Int).toNat,none⟩ (.int .i64 ((rd_T61 l0 x4_1).f1)))) ?hg ?ho ?hn ?hr ?_;(case ho=>rfl);(case hg=>rfl);(case hn=>rfl);(case hr=>first|(go_simp;done)|(go_simp;rfl));intro w33 hw;have hg:wr.grownBy w33 (some go31):=(by rw [hw];exact HP32.2);have hp_:Kd.R (Kd.int .i64) 3 w33 w.heap.size (fun _=>True) (.slice (some ⟨go31,0,none⟩) x3_2.length co31) y133:=(by rw [hw,Ny133.out];exact HP32.1);clear HP32;have n0_:=Aside0.mk (hp_);have n1_:=Aside0.mk ((by rw [hw];exact below_set (HB.out) GB31.out:Below w.heap.size w w33));clear HO_3;clear HB;have HO_3:=n0_;have HB:=n1_;clear n0_ n1_;clear hg hw hp_))
            go_roundg k2
            case measure=>have:=HK1.out;have:=HK2.out;omega
            case rel=>exact ⟨(y133),(wrap64 (x4_1+1)),rd_,H',⟨by have:=HK1.out;have:=HK2.out;omega⟩,⟨rR HO_3⟩,⟨be⟩⟩
           ·rw [if_neg c30] at H
            exact absurd H (by simp)
          ·rw [if_neg c29] at H
           exact absurd H (by simp)
      ·rw [if_neg c9] at H
       exact absurd H (by simp)
    ·rw [if_neg c5] at H
     exact absurd H (by simp)
   ·rw [if_neg c4] at H
    have c4b0:decide (x4_1 < (l0.length:Int))=false:=decide_eq_false c4
    clear c4
    obtain rfl:=Option.some.inj H
    go_wp2
    go_ret
    exact ⟨_,rz,rR HO_3,be⟩
def impl_hasInt.l0:Nat→Int→List Int→Int→Int→Option (Bool)
 | 0,_,_,_,_=>none
 | k+1,x1,x7,x8,x9=>if x9 < x8 then (if 0≤x9 then (if x9 < (x7.length:Int) then (if (rd x7 x9)=x1 then (some true) else (impl_hasInt.l0 k x1 x7 x8 (wrap64 (x9+1)))) else (none)) else (none)) else (some false)
def impl_hasInt.f (k:Nat) (l0:List Int) (a1:Int):Option (Bool):=impl_hasInt.l0 k a1 l0 (l0.length:Int) 0
set_option maxHeartbeats 8000000 in
set_option maxRecDepth 100000 in
theorem impl_hasInt.calls (k:Nat) (A0:Option Addr) (c0:Nat) (l0:List Int) (a1:Int) (r:Bool) (w:World) (hr0:Kd.C (Kd.int .i64) w A0 l0.length l0) (hc0:l0.length≤c0) (h:impl_hasInt.f k l0 a1=some r) :
  Calls Try.prog 52 #[.slice A0 l0.length c0,.int .i64 a1] w fun e w'=>e = .returned (.bool r)∧Drawn0 w w':=by
 have HR0:=Aside0.mk hr0
 have HC0:=Aside0.mk hc0
 clear hr0 hc0
 have H:(impl_hasInt.l0 k a1 l0 (l0.length:Int) 0)=some r:=h
 clear h
 have H':=Aside0.mk H
 clear H
 go_enter Try.func52,Try.ntmps52
 go_wp2
 go_loopg [9] k (fun kq v9 w'=>∃ (x9_1:Int),v9 = .int .i64 x9_1∧Aside0 (impl_hasInt.l0 kq a1 l0 (l0.length:Int) x9_1=some r)∧Aside0 (kq≤k)∧Drawn0 w w')
 case atStart=>exact ⟨(0),rd_,H',⟨Nat.le_refl _⟩,by repeat (first|exact Drawn0.refl _|apply Drawn0.step)⟩
 case round=>
  clear H'
  try clear p2
  obtain ⟨x9_1,rfl,HA,HK1,⟨m1,rfl⟩⟩:=hrel
  cases gk with
  | zero=>exact absurd HA.out (by simp [impl_hasInt.l0])
  | succ k1=>
   have H:=HA.out
   clear HA
   simp only [impl_hasInt.l0] at H
   by_cases c3:x9_1 < (l0.length:Int)
   ·rw [if_pos c3] at H
    have c3b0:decide (x9_1 < (l0.length:Int))=true:=decide_eq_true c3
    clear c3
    by_cases c4:0≤x9_1
    ·rw [if_pos c4] at H
     have c4b0:decide (0≤x9_1)=true:=decide_eq_true c4
     clear c4
     by_cases c5:x9_1 < (l0.length:Int)
     ·rw [if_pos c5] at H
      have c5b0:decide (x9_1 < (l0.length:Int))=true:=decide_eq_true c5
      clear c5
      by_cases c6:(rd l0 x9_1)=a1
      ·rw [if_pos c6] at H
       have c6b0:((rd l0 x9_1) == a1)=true:=beq_iff_eq.mpr c6
       have c6b1:((rd l0 x9_1) != a1)=false:=bne_eq_false_iff_eq.mpr c6
       clear c6
       obtain rfl:=Option.some.inj H
       have p134:0≤(x9_1:Int):=of_decide_eq_true (by first|(with_reducible assumption)|assumption)
       have q134:x9_1 < (l0.length:Int):=of_decide_eq_true (by first|(with_reducible assumption)|assumption)
       obtain ⟨ad134,e134,hx134_0⟩:=Kd.at_int HR0.out x9_1 p134 q134
       cases e134
       replace p134:=eq_true p134
       replace q134:=eq_true q134
       go_wp2
       go_ret
       exact ⟨by first|rfl|(simp;done)|(simp [*];done),by repeat (first|exact Drawn0.refl _|apply Drawn0.step)⟩
      ·rw [if_neg c6] at H
       have c6b0:((rd l0 x9_1) == a1)=false:=beq_eq_false_iff_ne.mpr c6
       have c6b1:((rd l0 x9_1) != a1)=true:=bne_iff_ne.mpr c6
       have H':=Aside0.mk H
       clear H
       have p134:0≤(x9_1:Int):=of_decide_eq_true (by first|(with_reducible assumption)|assumption)
       have q134:x9_1 < (l0.length:Int):=of_decide_eq_true (by first|(with_reducible assumption)|assumption)
       obtain ⟨ad134,e134,hx134_0⟩:=Kd.at_int HR0.out x9_1 p134 q134
       cases e134
       replace p134:=eq_true p134
       replace q134:=eq_true q134
       go_wp2
       go_roundg k1
       case measure=>have:=HK1.out;omega
       case rel=>exact ⟨(wrap64 (x9_1+1)),rd_,H',⟨by have:=HK1.out;omega⟩,by repeat (first|exact Drawn0.refl _|apply Drawn0.step)⟩
     ·rw [if_neg c5] at H
      exact absurd H (by simp)
    ·rw [if_neg c4] at H
     exact absurd H (by simp)
   ·rw [if_neg c3] at H
    have c3b0:decide (x9_1 < (l0.length:Int))=false:=decide_eq_false c3
    clear c3
    obtain rfl:=Option.some.inj H
    go_wp2
    go_ret
    exact ⟨by first|rfl|(simp;done)|(simp [*];done),by repeat (first|exact Drawn0.refl _|apply Drawn0.step)⟩
def sort_Ints.f (l0:List Int):Option (List Int):=if l0.length < 4611686018427387904 then (some (l0.mergeSort fun x y=>decide (x≤y))) else (none)
set_option maxHeartbeats 4000000 in
theorem sort_Ints.calls (P0_:Nat→Prop) (u9000_:Value) (l0:List Int) (r:List Int) (w0 w:World) (hB:Below w0.heap.size w0 w) (ho0:Kd.R (Kd.int .i64) 3 w w0.heap.size P0_ u9000_ l0) (h:sort_Ints.f l0=some r) :
  Calls Try.prog 69 #[u9000_] w fun e w'=>e = .returned (.tuple #[])∧Kd.R (Kd.int .i64) 3 w' w0.heap.size (fun k_=>(P0_ k_ ∨ w.heap.size≤k_)) u9000_ r∧Below w0.heap.size w0 w' ∧ Kept w w' (fun k_=>P0_ k_):=by
 unfold sort_Ints.f at h
 by_cases hl:l0.length < 4611686018427387904
 ·rw [if_pos hl] at h
  obtain rfl:=Option.some.inj h
  have ho:=Kd.own_of_R ho0
  rcases ho.2 with ⟨hu,hz⟩|⟨g,cap,cur,hu,hg,hh,h1,h2,h3,h4⟩
  ·subst hu
   have hz0:l0=[]:=by
    cases l0 with
    | nil=>rfl
    | cons a t=>exact absurd hz (by simp)
   subst hz0
   refine (Try.sort_Ints_none none 0 w).mono fun e w' he=>?_
   obtain ⟨rfl,rfl⟩:=he
   refine ⟨rfl,Kd.R_mono (by simpa using ho0) (fun _ hk=>.inl hk),hB,Kept.refl _ _⟩
  ·subst hu
   have hlt:g < w.heap.size:=(Array.getElem?_eq_some_iff.1 hh).1
   have ht:cur.toList.take l0.length=l0.map (Value.int .i64):=by simpa [encs] using h4
   refine (Try.sort_Ints g 0 cap l0 w (holds_of_blockI hh ht) hlt hl).mono fun e w' he=>?_
   obtain ⟨rfl,n,os,rfl⟩:=he
   have hlen:(l0.mergeSort fun x y=>decide (x≤y)).length=l0.length:=List.length_mergeSort _
   have hgr:=grownBy_sortedI (w:=w) (g:=g) (n:=n) (os:=os) (l0.mergeSort fun x y=>decide (x≤y)).toArray
   have hown:=ownsRow_sortedI (base:=w0.heap.size) (n:=n) (os:=os) hlen hg hh h1 h2 (by simpa using h3)
   have hP:P0_ g:=ho0.1 g (by simp [Value.ownBlock])
   refine ⟨rfl,?_,hB.grown hgr hB.size (fun k hk=>by injection hk with hk;subst hk;exact hg),⟨hgr.size,fun i hi hn=>hgr.block i hi (fun he=>by injection he with he;subst he;exact hn hP)⟩⟩
   refine Kd.R_of_own ?_ (fun k hk=>.inl ?_)
   ·rw [hlen];exact hown
   ·exact ho0.1 k hk
 ·rw [if_neg hl] at h
  cases h
def impl_ZonesOf.l0:Nat→List Int→List (S61)→Int→Int→Option (List Int)
 | 0,_,_,_,_=>none
 | k+1,x3,x6,x7,x8=>if x8 < x7 then (if 0≤x8 then (if x8 < (x6.length:Int) then ((impl_hasInt.f k x3 ((rd_T61 x6 x8).f1)).bind fun t137=>(if t137=true then (impl_ZonesOf.l0 k x3 x6 x7 (wrap64 (x8+1))) else (if x3.length < 17592186044416 then (impl_ZonesOf.l0 k (x3 ++ [(rd_T61 x6 x8).f1]) x6 x7 (wrap64 (x8+1))) else (none)))) else (none)) else (none)) else ((sort_Ints.f x3).bind fun t141=>(some t141))
def impl_ZonesOf.f (k:Nat) (l0:List (S61)):Option (List Int):=impl_ZonesOf.l0 k ([]:List Int) l0 (l0.length:Int) 0
set_option maxHeartbeats 8000000 in
set_option maxRecDepth 100000 in
theorem impl_ZonesOf.calls (k:Nat) (A0:Option Addr) (c0:Nat) (l0:List (S61)) (r:List Int) (w:World) (hr0:Kd.C k61 w A0 l0.length l0) (hc0:l0.length≤c0) (h:impl_ZonesOf.f k l0=some r) :
  Calls Try.prog 26 #[.slice A0 l0.length c0] w fun e w'=>∃ v0_:Value,e = .returned (v0_)∧Kd.R (Kd.int .i64) 3 w' w.heap.size (fun _=>True) v0_ r∧Below w.heap.size w w':=by
 have hu61:=Try.underlying61
 have HR0:=Aside0.mk hr0
 have HC0:=Aside0.mk hc0
 clear hr0 hc0
 have HB:=Aside0.mk (Below.refl w.heap.size w)
 have H:(impl_ZonesOf.l0 k ([]:List Int) l0 (l0.length:Int) 0)=some r:=h
 clear h
 have H':=Aside0.mk H
 clear H
 go_enter Try.func26,Try.ntmps26
 go_wp2
 go_loopg [3,8] k (fun kq v3 v8 w'=>∃ (x3_1:List Int) (x8_1:Int),v8 = .int .i64 x8_1∧Aside0 (impl_ZonesOf.l0 kq x3_1 l0 (l0.length:Int) x8_1=some r)∧Aside0 (kq≤k)∧Aside0 (Kd.R (Kd.int .i64) 3 w' w.heap.size (fun _=>True) v3 x3_1)∧Aside0 (Below w.heap.size w w'))
 case atStart=>exact ⟨(([]:List Int)),(0),rd_,H',⟨Nat.le_refl _⟩,⟨by first|exact Kd.R_nil _ _ _ _ _|exact Kd.N_nil _ _ _ _ _|exact Kd.V_nil _ _ _ _ _|exact Kd.Q_nil _ _ _ _ _|exact Kd.S_nil _ _ _ _ _⟩,⟨be⟩⟩
 case round=>
  clear H'
  obtain ⟨x3_1,x8_1,rfl,HA,HK1,HO_3,HB⟩:=hrel
  cases gk with
  | zero=>exact absurd HA.out (by simp [impl_ZonesOf.l0])
  | succ k1=>
   have H:=HA.out
   clear HA
   simp only [impl_ZonesOf.l0] at H
   by_cases c2:x8_1 < (l0.length:Int)
   ·rw [if_pos c2] at H
    have c2b0:decide (x8_1 < (l0.length:Int))=true:=decide_eq_true c2
    clear c2
    by_cases c3:0≤x8_1
    ·rw [if_pos c3] at H
     have c3b0:decide (0≤x8_1)=true:=decide_eq_true c3
     clear c3
     by_cases c4:x8_1 < (l0.length:Int)
     ·rw [if_pos c4] at H
      have c4b0:decide (x8_1 < (l0.length:Int))=true:=decide_eq_true c4
      clear c4
      replace H:=Option.bind_eq_some_iff.mp H
      obtain ⟨t137,A50,H⟩:=H
      try dsimp only at H
      have A5:=Aside0.mk A50
      clear A50
      by_cases c6:t137=true
      ·subst c6
       rw [if_pos rfl] at H
       have H':=Aside0.mk H
       clear H
       have p135:0≤(x8_1:Int):=of_decide_eq_true (by first|(with_reducible assumption)|assumption)
       have q135:x8_1 < (l0.length:Int):=of_decide_eq_true (by first|(with_reducible assumption)|assumption)
       obtain ⟨ad135,e135,hx135_0,hx135_1,hx135_2⟩:=at_T61 HR0.out x8_1 p135 q135
       cases e135
       replace hx135_0:=(HB.out.cell (World.block_lt_of_cell? w _ hx135_0)).trans hx135_0
       replace hx135_1:=(HB.out.cell (World.block_lt_of_cell? w _ hx135_1)).trans hx135_1
       replace hx135_2:=(HB.out.cell (World.block_lt_of_cell? w _ hx135_2)).trans hx135_2
       replace p135:=eq_true p135
       replace q135:=eq_true q135
       go_wp2_with (first|((with_reducible refine gate_dst (N:=5) rfl ?_);refine box_event ?hg (N:=5) ?hd (cs:=#[.int .i64 0,.int .i64 0,.int .i64 0]) (t:=61) ?hr ?_;(case hd=>rfl);(case hg=>rfl);(case hr=>first|(go_simp;done)|(go_simp;rfl));intro gb136 hg w7 hbox hb;have n0_:=Aside0.mk (Kd.R_below (rR HO_3) hb);have n1_:=bs hb;have n2_:=Aside0.mk (hbox);have n3_:=Aside0.mk ((by rw [hg];exact (below_size be):w.heap.size≤gb136));have n4_:=Aside0.mk ((by rw [hg];exact (below_size be):w.heap.size≤gb136));clear HO_3;clear HB;have HO_3:=n0_;have HB:=n1_;have BK136:=n2_;have GW136:=n3_;have GE136:=n4_;clear n0_ n1_ n2_ n3_ n4_;clear hb hbox hg;have hcz8_0:w7.cell? ⟨gb136,0,none⟩=some (.int .i64 0):=(blk_cell BK136.out 0).trans rfl;have hcz8_1:w7.cell? ⟨gb136,1,none⟩=some (.int .i64 0):=(blk_cell BK136.out 1).trans rfl;have hcz8_2:w7.cell? ⟨gb136,2,none⟩=some (.int .i64 0):=(blk_cell BK136.out 2).trans rfl;have hfz8_0:=blk_frozen BK136.out 0;have hfz8_1:=blk_frozen BK136.out 1;have hfz8_2:=blk_frozen BK136.out 2;obtain ⟨Ao9,co9,eo9⟩:=Kd.R_slice HO_3.out;subst eo9)|((with_reducible refine gate_callee (f:=52) rfl ?_);refine goesL_ (some 15) rfl rfl Try.func52 (by kernel_rfl) rfl #[.slice Ao9 x3_1.length co9,.int .i64 ((rd_T61 l0 x8_1).f1)] rfl (by (try simp only [List.map_toArray,List.map_cons,List.map_nil]);first|done|rfl|(simp only [List.length_drop,List.length_take];rfl)) ?_;(with_reducible refine (impl_hasInt.calls k1 _ _ x3_1 ((rd_T61 l0 x8_1).f1) true _ ?side1 ?side2 A5.out).mono ?_);(case side1=>refine (Kd.R_reads' (e:=3) (base:=w.heap.size) (ok:=fun k_=>True) (n:=x3_1.length) (c:=co9) ?_).2.2;exact (by (with_reducible repeat (first|apply Kd.R_alloc|apply Kd.R_drewN|apply Kd.R_drew));exact (Kd.R_mono (Kd.R_far (p:=⟨gb136,2,none⟩) (Kd.R_far (p:=⟨gb136,1,none⟩) (Kd.R_far (p:=⟨gb136,0,none⟩) (Kd.R_types HO_3.out BK136.out (by decide)) (fun _ hk=>hk.2) (.int .i64 ((rd_T61 l0 x8_1).f0))) (fun _ hk=>hk.2) (.int .i64 ((rd_T61 l0 x8_1).f1))) (fun _ hk=>hk.2) (.int .i64 ((rd_T61 l0 x8_1).f2))) (fun _ h_=>h_.1))));(case side2=>exact (Kd.R_reads' HO_3.out).2.1);rintro e w' ⟨rfl,⟨nd,rfl⟩⟩;refine ⟨_,rfl,?_⟩))
       go_roundg k1
       case measure=>have:=HK1.out;omega
       case rel=>exact ⟨(x3_1),(wrap64 (x8_1+1)),rd_,H',⟨by have:=HK1.out;omega⟩,⟨by (with_reducible repeat (first|apply Kd.R_alloc|apply Kd.R_drewN|apply Kd.R_drew));exact Kd.R_mono (Kd.R_far (p:=⟨gb136,2,none⟩) (Kd.R_far (p:=⟨gb136,1,none⟩) (Kd.R_far (p:=⟨gb136,0,none⟩) (Kd.R_types HO_3.out BK136.out (by decide)) (fun _ hk=>hk.2) (.int .i64 ((rd_T61 l0 x8_1).f0))) (fun _ hk=>hk.2) (.int .i64 ((rd_T61 l0 x8_1).f1))) (fun _ hk=>hk.2) (.int .i64 ((rd_T61 l0 x8_1).f2))) (fun _ hk=>trivial)⟩,⟨be⟩⟩
      ·replace c6:=Bool.eq_false_iff.mpr c6
       subst c6
       have H1:(if x3_1.length < 17592186044416 then (impl_ZonesOf.l0 k1 (x3_1 ++ [(rd_T61 l0 x8_1).f1]) l0 (l0.length:Int) (wrap64 (x8_1+1))) else (none))=some r:=by rw [if_neg (show ¬ (false=true) by decide)] at H;exact H
       clear H
       have H:=H1
       clear H1
       by_cases c10:x3_1.length < 17592186044416
       ·rw [if_pos c10] at H
        have LMc10:=Aside0.mk c10
        clear c10
        obtain ⟨y138,hy138⟩ : ∃ y_:List Int,y_=(x3_1 ++ [(rd_T61 l0 x8_1).f1]):=⟨_,rfl⟩
        replace H:(impl_ZonesOf.l0 k1 y138 l0 (l0.length:Int) (wrap64 (x8_1+1)))=some r:=by first|(rw [hy138];with_reducible exact H)|(have H2_:=(Option.bind_some _ _).symm.trans H;rw [hy138];with_reducible exact H2_)|(have H2_:=(Option.bind_some _ _).symm.trans H;with_reducible exact H2_)|with_reducible exact H|(rw [hy138];exact H)|exact H
        have Ny138:=Aside0.mk hy138
        clear hy138
        have H':=Aside0.mk H
        clear H
        have p135:0≤(x8_1:Int):=of_decide_eq_true (by first|(with_reducible assumption)|assumption)
        have q135:x8_1 < (l0.length:Int):=of_decide_eq_true (by first|(with_reducible assumption)|assumption)
        obtain ⟨ad135,e135,hx135_0,hx135_1,hx135_2⟩:=at_T61 HR0.out x8_1 p135 q135
        cases e135
        replace hx135_0:=(HB.out.cell (World.block_lt_of_cell? w _ hx135_0)).trans hx135_0
        replace hx135_1:=(HB.out.cell (World.block_lt_of_cell? w _ hx135_1)).trans hx135_1
        replace hx135_2:=(HB.out.cell (World.block_lt_of_cell? w _ hx135_2)).trans hx135_2
        replace p135:=eq_true p135
        replace q135:=eq_true q135
        go_wp2_with (first|((with_reducible refine gate_dst (N:=5) rfl ?_);refine box_event ?hg (N:=5) ?hd (cs:=#[.int .i64 0,.int .i64 0,.int .i64 0]) (t:=61) ?hr ?_;(case hd=>rfl);(case hg=>rfl);(case hr=>first|(go_simp;done)|(go_simp;rfl));intro gb136 hg w11 hbox hb;have n0_:=Aside0.mk (Kd.R_below (rR HO_3) hb);have n1_:=bs hb;have n2_:=Aside0.mk (hbox);have n3_:=Aside0.mk ((by rw [hg];exact (below_size be):w.heap.size≤gb136));have n4_:=Aside0.mk ((by rw [hg];exact (below_size be):w.heap.size≤gb136));clear HO_3;clear HB;have HO_3:=n0_;have HB:=n1_;have BK136:=n2_;have GW136:=n3_;have GE136:=n4_;clear n0_ n1_ n2_ n3_ n4_;clear hb hbox hg;have hcz12_0:w11.cell? ⟨gb136,0,none⟩=some (.int .i64 0):=(blk_cell BK136.out 0).trans rfl;have hcz12_1:w11.cell? ⟨gb136,1,none⟩=some (.int .i64 0):=(blk_cell BK136.out 1).trans rfl;have hcz12_2:w11.cell? ⟨gb136,2,none⟩=some (.int .i64 0):=(blk_cell BK136.out 2).trans rfl;have hfz12_0:=blk_frozen BK136.out 0;have hfz12_1:=blk_frozen BK136.out 1;have hfz12_2:=blk_frozen BK136.out 2;obtain ⟨Ao13,co13,eo13⟩:=Kd.R_slice HO_3.out;subst eo13)|((with_reducible refine gate_callee (f:=52) rfl ?_);refine goesL_ (some 15) rfl rfl Try.func52 (by kernel_rfl) rfl #[.slice Ao13 x3_1.length co13,.int .i64 ((rd_T61 l0 x8_1).f1)] rfl (by (try simp only [List.map_toArray,List.map_cons,List.map_nil]);first|done|rfl|(simp only [List.length_drop,List.length_take];rfl)) ?_;(with_reducible refine (impl_hasInt.calls k1 _ _ x3_1 ((rd_T61 l0 x8_1).f1) false _ ?side1 ?side2 A5.out).mono ?_);(case side1=>refine (Kd.R_reads' (e:=3) (base:=w.heap.size) (ok:=fun k_=>True) (n:=x3_1.length) (c:=co13) ?_).2.2;exact (by (with_reducible repeat (first|apply Kd.R_alloc|apply Kd.R_drewN|apply Kd.R_drew));exact (Kd.R_mono (Kd.R_far (p:=⟨gb136,2,none⟩) (Kd.R_far (p:=⟨gb136,1,none⟩) (Kd.R_far (p:=⟨gb136,0,none⟩) (Kd.R_types HO_3.out BK136.out (by decide)) (fun _ hk=>hk.2) (.int .i64 ((rd_T61 l0 x8_1).f0))) (fun _ hk=>hk.2) (.int .i64 ((rd_T61 l0 x8_1).f1))) (fun _ hk=>hk.2) (.int .i64 ((rd_T61 l0 x8_1).f2))) (fun _ h_=>h_.1))));(case side2=>exact (Kd.R_reads' HO_3.out).2.1);rintro e w' ⟨rfl,⟨nd,rfl⟩⟩;refine ⟨_,rfl,?_⟩)|((with_reducible refine gate_builtin (b:=.append) (xs:=#[.tmp 17,.tmp 20]) rfl ?_);at_builtin;refine Kd.R_append (Kd.int .i64) (w0:=w) w.heap.size rfl (.tmp 17) (.tmp 20) 33 3 (.int .i64 0) 8 rfl Try.underlying33 info3 rfl (by decide) (by omega) (.slice Ao13 x3_1.length co13) x3_1 ((rd_T61 l0 x8_1).f1) [.int .i64 ((rd_T61 l0 x8_1).f1)] (fun _=>True) (fun _=>False) rfl (by first|(go_simp;done)|(go_simp;rfl)) ?aP (fun _ hk=>hk.elim) ?aF ?aO ?aB ?aS ?aL ?_;(case aP=>exact rfl);(case aB=>exact be);(case aF=>exact (fun _ _=>trivial));(case aO=>exact (by (with_reducible repeat (first|apply Kd.R_alloc|apply Kd.R_drewN|apply Kd.R_drew));exact Kd.R_mono (Kd.R_far (p:=⟨gb136,2,none⟩) (Kd.R_far (p:=⟨gb136,1,none⟩) (Kd.R_far (p:=⟨gb136,0,none⟩) (Kd.R_types HO_3.out BK136.out (by decide)) (fun _ hk=>hk.2) (.int .i64 ((rd_T61 l0 x8_1).f0))) (fun _ hk=>hk.2) (.int .i64 ((rd_T61 l0 x8_1).f1))) (fun _ hk=>hk.2) (.int .i64 ((rd_T61 l0 x8_1).f2))) (fun _ hk=>trivial)));(case aS=>exact (below_size be));(case aL=>have:=LMc10.out;omega);intro v139 w14 ho hb hg hat;rw [← Ny138.out] at ho;have n0_:=Aside0.mk (blk_grown (g:=gb136) (o:=.cells #[.int .i64 ((rd_T61 l0 x8_1).f0),.int .i64 ((rd_T61 l0 x8_1).f1),.int .i64 ((rd_T61 l0 x8_1).f2)] 61 (0,0)) (by (with_reducible repeat (first|refine blk_drewN ?_ _|refine blk_drew ?_|refine blk_alloc ?_ _));refine blk_put (cs:=#[.int .i64 ((rd_T61 l0 x8_1).f0),.int .i64 ((rd_T61 l0 x8_1).f1),.int .i64 0]) ?_ 2 _ rfl;(with_reducible repeat (first|refine blk_drewN ?_ _|refine blk_drew ?_|refine blk_alloc ?_ _));refine blk_put (cs:=#[.int .i64 ((rd_T61 l0 x8_1).f0),.int .i64 0,.int .i64 0]) ?_ 1 _ rfl;(with_reducible repeat (first|refine blk_drewN ?_ _|refine blk_drew ?_|refine blk_alloc ?_ _));refine blk_put (cs:=#[.int .i64 0,.int .i64 0,.int .i64 0]) ?_ 0 _ rfl;(with_reducible repeat (first|refine blk_drewN ?_ _|refine blk_drew ?_|refine blk_alloc ?_ _));exact BK136.out) hg (Kd.R_ne HO_3.out BK136.out (by decide)));have n1_:=Aside0.mk (hb);have n2_:=Aside0.mk (ho);clear BK136;clear HB;clear HO_3;have BK136:=n0_;have HB:=n1_;have HO140:=n2_;clear n0_ n1_ n2_;clear ho hb hg hat))
        go_roundg k1
        case measure=>have:=HK1.out;omega
        case rel=>exact ⟨(y138),(wrap64 (x8_1+1)),rd_,H',⟨by have:=HK1.out;omega⟩,⟨rR HO140⟩,⟨be⟩⟩
       ·rw [if_neg c10] at H
        exact absurd H (by simp)
     ·rw [if_neg c4] at H
      exact absurd H (by simp)
    ·rw [if_neg c3] at H
     exact absurd H (by simp)
   ·rw [if_neg c2] at H
    have c2b0:decide (x8_1 < (l0.length:Int))=false:=decide_eq_false c2
    clear c2
    replace H:=Option.bind_eq_some_iff.mp H
    obtain ⟨t141,A150,H⟩:=H
    try dsimp only at H
    have A15:=Aside0.mk A150
    clear A150
    obtain rfl:=Option.some.inj H
    obtain ⟨Ao16,co16,eo16⟩:=Kd.R_slice HO_3.out
    subst eo16
    go_wp2_with (first|((with_reducible refine gate_callee (f:=69) rfl ?_);refine goesL_ (some 24) rfl rfl Try.func69 (by kernel_rfl) rfl #[.slice Ao16 x3_1.length co16] rfl (by (try simp only [List.map_toArray,List.map_cons,List.map_nil]);first|done|rfl|(simp only [List.length_drop,List.length_take];rfl)) ?_;(with_reducible refine (sort_Ints.calls (fun k_=>some k_=(.slice Ao16 x3_1.length co16:Value).ownBlock) (.slice Ao16 x3_1.length co16) x3_1 t141 w _ ?side1 ?side2 A15.out).mono ?_);(case side1=>exact be);(case side2=>exact Kd.R_tight rfl HO_3.out);rintro e w17 ⟨rfl,hy0,hb,hkp⟩;refine ⟨_,rfl,?_⟩;have n0_:=Aside0.mk (Kd.R_reok rfl hy0 (fun k_ e_=>HO_3.out.1 k_ e_));have n1_:=Aside0.mk (hb);clear HO_3;clear HB;have HO_3:=n0_;have HB:=n1_;clear n0_ n1_;(try clear hb);(try clear hkp);(try clear hy0)))
    go_ret
    exact ⟨_,rz,rR HO_3,be⟩
def laws_eqIntS.l0:Nat→List Int→List Int→Int→Option (Bool)
 | 0,_,_,_=>none
 | k+1,x0,x1,x5=>if x5 < (x0.length:Int) then (if 0≤x5 then (if x5 < (x1.length:Int) then (if (rd x0 x5)=(rd x1 x5) then (laws_eqIntS.l0 k x0 x1 (wrap64 (x5+1))) else (some false)) else (none)) else (none)) else (some true)
def laws_eqIntS.f (k:Nat) (l0:List Int) (l1:List Int):Option (Bool):=if (l0.length:Int)=(l1.length:Int) then (laws_eqIntS.l0 k l0 l1 0) else (some false)
set_option maxHeartbeats 8000000 in
set_option maxRecDepth 100000 in
theorem laws_eqIntS.calls (k:Nat) (A0:Option Addr) (c0:Nat) (l0:List Int) (A1:Option Addr) (c1:Nat) (l1:List Int) (r:Bool) (w:World) (hr0:Kd.C (Kd.int .i64) w A0 l0.length l0) (hc0:l0.length≤c0) (hr1:Kd.C (Kd.int .i64) w A1 l1.length l1) (hc1:l1.length≤c1) (h:laws_eqIntS.f k l0 l1=some r) :
  Calls Try.prog 27 #[.slice A0 l0.length c0,.slice A1 l1.length c1] w fun e w'=>e = .returned (.bool r)∧Drawn0 w w':=by
 have HR0:=Aside0.mk hr0
 have HC0:=Aside0.mk hc0
 clear hr0 hc0
 have HR1:=Aside0.mk hr1
 have HC1:=Aside0.mk hc1
 clear hr1 hc1
 have H:(if (l0.length:Int)=(l1.length:Int) then (laws_eqIntS.l0 k l0 l1 0) else (some false))=some r:=h
 clear h
 by_cases c3:(l0.length:Int)=(l1.length:Int)
 ·rw [if_pos c3] at H
  have c3b0:((l0.length:Int) == (l1.length:Int))=true:=beq_iff_eq.mpr c3
  have c3b1:((l0.length:Int) != (l1.length:Int))=false:=bne_eq_false_iff_eq.mpr c3
  have c3b2:(l0.length == l1.length)=true:=by first|simpa using c3|(simp at c3 ⊢;omega)
  clear c3
  have H':=Aside0.mk H
  clear H
  go_enter Try.func27,Try.ntmps27
  go_wp2
  repeat (go_quiet (fail);try go_wp2)
  go_loopg [5] k (fun kq v5 w'=>∃ (x5_1:Int),v5 = .int .i64 x5_1∧Aside0 (laws_eqIntS.l0 kq l0 l1 x5_1=some r)∧Aside0 (kq≤k)∧Drawn0 w w')
  case atStart=>exact ⟨(0),rd_,H',⟨Nat.le_refl _⟩,by repeat (first|exact Drawn0.refl _|apply Drawn0.step)⟩
  case round=>
   clear H'
   try clear c1
   try clear c2
   try clear p2
   try clear c3
   try clear c3b0
   try clear c3b1
   try clear c3b2
   obtain ⟨x5_1,rfl,HA,HK1,⟨m1,rfl⟩⟩:=hrel
   cases gk with
   | zero=>exact absurd HA.out (by simp [laws_eqIntS.l0])
   | succ k1=>
    have H:=HA.out
    clear HA
    simp only [laws_eqIntS.l0] at H
    by_cases c4:x5_1 < (l0.length:Int)
    ·rw [if_pos c4] at H
     have c4b0:decide (x5_1 < (l0.length:Int))=true:=decide_eq_true c4
     clear c4
     by_cases c5:0≤x5_1
     ·rw [if_pos c5] at H
      have c5b0:decide (0≤x5_1)=true:=decide_eq_true c5
      clear c5
      by_cases c6:x5_1 < (l1.length:Int)
      ·rw [if_pos c6] at H
       have c6b0:decide (x5_1 < (l1.length:Int))=true:=decide_eq_true c6
       clear c6
       by_cases c7:(rd l0 x5_1)=(rd l1 x5_1)
       ·rw [if_pos c7] at H
        have c7b0:((rd l0 x5_1) == (rd l1 x5_1))=true:=beq_iff_eq.mpr c7
        have c7b1:((rd l0 x5_1) != (rd l1 x5_1))=false:=bne_eq_false_iff_eq.mpr c7
        clear c7
        have H':=Aside0.mk H
        clear H
        have p142:0≤(x5_1:Int):=of_decide_eq_true (by first|(with_reducible assumption)|assumption)
        have q142:x5_1 < (l0.length:Int):=of_decide_eq_true (by first|(with_reducible assumption)|assumption)
        obtain ⟨ad142,e142,hx142_0⟩:=Kd.at_int HR0.out x5_1 p142 q142
        cases e142
        replace p142:=eq_true p142
        replace q142:=eq_true q142
        have p143:0≤(x5_1:Int):=of_decide_eq_true (by first|(with_reducible assumption)|assumption)
        have q143:x5_1 < (l1.length:Int):=of_decide_eq_true (by first|(with_reducible assumption)|assumption)
        obtain ⟨ad143,e143,hx143_0⟩:=Kd.at_int HR1.out x5_1 p143 q143
        cases e143
        replace p143:=eq_true p143
        replace q143:=eq_true q143
        go_wp2
        repeat (go_quiet (fail);try go_wp2)
        go_roundg k1
        case measure=>have:=HK1.out;omega
        case rel=>exact ⟨(wrap64 (x5_1+1)),rd_,H',⟨by have:=HK1.out;omega⟩,by repeat (first|exact Drawn0.refl _|apply Drawn0.step)⟩
       ·rw [if_neg c7] at H
        have c7b0:((rd l0 x5_1) == (rd l1 x5_1))=false:=beq_eq_false_iff_ne.mpr c7
        have c7b1:((rd l0 x5_1) != (rd l1 x5_1))=true:=bne_iff_ne.mpr c7
        obtain rfl:=Option.some.inj H
        have p142:0≤(x5_1:Int):=of_decide_eq_true (by first|(with_reducible assumption)|assumption)
        have q142:x5_1 < (l0.length:Int):=of_decide_eq_true (by first|(with_reducible assumption)|assumption)
        obtain ⟨ad142,e142,hx142_0⟩:=Kd.at_int HR0.out x5_1 p142 q142
        cases e142
        replace p142:=eq_true p142
        replace q142:=eq_true q142
        have p143:0≤(x5_1:Int):=of_decide_eq_true (by first|(with_reducible assumption)|assumption)
        have q143:x5_1 < (l1.length:Int):=of_decide_eq_true (by first|(with_reducible assumption)|assumption)
        obtain ⟨ad143,e143,hx143_0⟩:=Kd.at_int HR1.out x5_1 p143 q143
        cases e143
        replace p143:=eq_true p143
        replace q143:=eq_true q143
        go_wp2
        repeat (go_quiet (fail);try go_wp2)
        go_ret
        exact ⟨by first|rfl|(simp;done)|(simp [*];done),by repeat (first|exact Drawn0.refl _|apply Drawn0.step)⟩
      ·rw [if_neg c6] at H
       exact absurd H (by simp)
     ·rw [if_neg c5] at H
      exact absurd H (by simp)
    ·rw [if_neg c4] at H
     have c4b0:decide (x5_1 < (l0.length:Int))=false:=decide_eq_false c4
     clear c4
     obtain rfl:=Option.some.inj H
     go_wp2
     repeat (go_quiet (fail);try go_wp2)
     go_ret
     exact ⟨by first|rfl|(simp;done)|(simp [*];done),by repeat (first|exact Drawn0.refl _|apply Drawn0.step)⟩
 ·rw [if_neg c3] at H
  have c3b0:((l0.length:Int) == (l1.length:Int))=false:=beq_eq_false_iff_ne.mpr c3
  have c3b1:((l0.length:Int) != (l1.length:Int))=true:=bne_iff_ne.mpr c3
  have c3b2:(l0.length == l1.length)=false:=by first|simpa using c3|(simp at c3 ⊢;omega)
  obtain rfl:=Option.some.inj H
  go_enter Try.func27,Try.ntmps27
  go_wp2
  repeat (go_quiet (fail);try go_wp2)
  go_ret
  exact ⟨by first|rfl|(simp;done)|(simp [*];done),by repeat (first|exact Drawn0.refl _|apply Drawn0.step)⟩
end Go.Proofs.Ytpbjbfimnfghkaa.PFnExactZonesOf
