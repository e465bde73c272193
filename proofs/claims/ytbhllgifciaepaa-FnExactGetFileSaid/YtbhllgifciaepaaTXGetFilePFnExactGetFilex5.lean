/- Trimmed by a program of this session (trim.py). Not trusted: Lean checks it. -/
import Derived.Test.YtbhllgifciaepaaTXGetFilePFnExactGetFilex0
namespace Go.Proofs.Ytbhllgifciaepaa.PFnExactGetFile
open Go.RowKit Go.Proofs.YtbhllgifciaepaaW.PrintWords Go.Proofs.YtbhllgifciaepaaW.PrintLast Go.Proofs.YtbhllgifciaepaaW.PrintMore Go.Proofs.Ytbhllgifciaepaa.St
attribute [local go_sem] max2_int min2_int max_two min_two max_three min_three max_four min_four
set_option linter.unusedVariables false
set_option linter.unusedSimpArgs false
def laws_toByteS.l0:Nat→List Int→List Int→Int→Option (List Int)
 | 0,_,_,_=>none
 | k+1,x0,x3,x4=>if x4 < (x0.length:Int) then (if 0≤x4 then (if x4 < (x3.length:Int) then (laws_toByteS.l0 k x0 (x3.set (x4:Int).toNat (rd x0 x4)) (wrap64 (x4+1))) else (none)) else (none)) else (some x3)
def laws_toByteS.f (k:Nat) (l0:List Int):Option (List Int):=if 0≤(l0.length:Int) then (if ((l0.length:Int):Int).toNat≤281474976710656 then (laws_toByteS.l0 k l0 (List.replicate ((l0.length:Int):Int).toNat 0) 0) else (none)) else (none)
set_option maxHeartbeats 8000000 in
set_option maxRecDepth 100000 in
theorem laws_toByteS.calls (k:Nat) (A0:Option Addr) (c0:Nat) (l0:List Int) (r:List Int) (w:World) (hr0:Kd.C (Kd.int .u8) w A0 l0.length l0) (hc0:l0.length≤c0) (h:laws_toByteS.f k l0=some r) :
  Calls Try.prog 54 #[.slice A0 l0.length c0] w fun e w'=>∃ v0_:Value,e = .returned (v0_)∧Kd.R (Kd.int .u8) 5 w' w.heap.size (fun _=>True) v0_ r∧Below w.heap.size w w':=by
 have HR0:=Aside0.mk hr0
 have HC0:=Aside0.mk hc0
 clear hr0 hc0
 have HB:=Aside0.mk (Below.refl w.heap.size w)
 have H:(if 0≤(l0.length:Int) then (if ((l0.length:Int):Int).toNat≤281474976710656 then (laws_toByteS.l0 k l0 (List.replicate ((l0.length:Int):Int).toNat 0) 0) else (none)) else (none))=some r:=h
 clear h
 by_cases c2:0≤(l0.length:Int)
 ·rw [if_pos c2] at H
  have c2b0:=eq_true c2
  have c2b1:decide (0≤(l0.length:Int))=true:=decide_eq_true c2
  clear c2
  by_cases c3:((l0.length:Int):Int).toNat≤281474976710656
  ·rw [if_pos c3] at H
   have c3b0:=eq_true c3
   have c3b1:decide (((l0.length:Int):Int).toNat≤281474976710656)=true:=decide_eq_true c3
   clear c3
   obtain ⟨y212,hy212⟩ : ∃ y_:List Int,y_=(List.replicate ((l0.length:Int):Int).toNat 0):=⟨_,rfl⟩
   replace H:(laws_toByteS.l0 k l0 y212 0)=some r:=by first|(rw [hy212];with_reducible exact H)|(have H2_:=(Option.bind_some _ _).symm.trans H;rw [hy212];with_reducible exact H2_)|(have H2_:=(Option.bind_some _ _).symm.trans H;with_reducible exact H2_)|with_reducible exact H|(rw [hy212];exact H)|exact H
   have Ny212:=Aside0.mk hy212
   clear hy212
   have H':=Aside0.mk H
   clear H
   go_enter Try.func54,Try.ntmps54
   go_wp2_with (first|((with_reducible refine gate_dst (N:=7) rfl ?_);refine Kd.R_make (Kd.int .u8) _ 5 rfl (N:=7) rfl 54 _ _ rfl (l0.length:Int) rfl rfl Try.underlying54 (.int .u8 0) 1 info5 rfl (by decide) (by omega) 0 (ok:=fun _=>True) (okp:=fun _=>True) rfl (fun _ hk=>hk) trivial (of_decide_eq_true (by first|(with_reducible assumption)|assumption)) (Nat.le_trans (Nat.mul_le_mul_right _ (of_decide_eq_true (by first|(with_reducible assumption)|assumption):(l0.length:Int).toNat≤281474976710656)) (by omega)) (Below.refl _ _) (Nat.le_refl _) ?_;intro v213 w4 ho5 hb hg_ hnew_;clear hg_ hnew_;(first|rw [← Ny212.out] at ho5|(simp only [Int.reduceToNat] at ho5;rw [← Ny212.out] at ho5));have n0_:=Aside0.mk (Kd.R_lower ho5 (below_size be));have n1_:=bs hb;clear HB;have HO214:=n0_;have HB:=n1_;clear n0_ n1_;clear hb ho5))
   go_loopg [4] k (fun kq v4 w'=>∃ (x3_1:List Int) (x4_1:Int),v4 = .int .i64 x4_1∧Aside0 (laws_toByteS.l0 kq l0 x3_1 x4_1=some r)∧Aside0 (kq≤k)∧Aside0 (Kd.R (Kd.int .u8) 5 w' w.heap.size (fun _=>True) v213 x3_1)∧Aside0 (Below w.heap.size w w'))
   case atStart=>exact ⟨(y212),(0),rd_,H',⟨Nat.le_refl _⟩,⟨rR HO214⟩,⟨be⟩⟩
   case round=>
    clear H'
    try clear c2
    try clear c2b0
    try clear c2b1
    try clear p2
    try clear c3
    try clear c3b0
    try clear c3b1
    try clear c5
    obtain ⟨x3_1,x4_1,rfl,HA,HK1,HO_3,HB⟩:=hrel
    cases gk with
    | zero=>exact absurd HA.out (by simp [laws_toByteS.l0])
    | succ k1=>
     have H:=HA.out
     clear HA
     simp only [laws_toByteS.l0] at H
     by_cases c6:x4_1 < (l0.length:Int)
     ·rw [if_pos c6] at H
      have c6b0:decide (x4_1 < (l0.length:Int))=true:=decide_eq_true c6
      clear c6
      by_cases c7:0≤x4_1
      ·rw [if_pos c7] at H
       have c7b0:decide (0≤x4_1)=true:=decide_eq_true c7
       clear c7
       by_cases c8:x4_1 < (x3_1.length:Int)
       ·rw [if_pos c8] at H
        have c8b0:decide (x4_1 < (x3_1.length:Int))=true:=decide_eq_true c8
        clear c8
        obtain ⟨y216,hy216⟩ : ∃ y_:List Int,y_=(x3_1.set (x4_1:Int).toNat (rd l0 x4_1)):=⟨_,rfl⟩
        replace H:(laws_toByteS.l0 k1 l0 y216 (wrap64 (x4_1+1)))=some r:=by first|(rw [hy216];with_reducible exact H)|(have H2_:=(Option.bind_some _ _).symm.trans H;rw [hy216];with_reducible exact H2_)|(have H2_:=(Option.bind_some _ _).symm.trans H;with_reducible exact H2_)|with_reducible exact H|(rw [hy216];exact H)|exact H
        have Ny216:=Aside0.mk hy216
        clear hy216
        have H':=Aside0.mk H
        clear H
        have p215:0≤(x4_1:Int):=of_decide_eq_true (by first|(with_reducible assumption)|assumption)
        have q215:x4_1 < (l0.length:Int):=of_decide_eq_true (by first|(with_reducible assumption)|assumption)
        obtain ⟨ad215,e215,hx215_0⟩:=Kd.at_int HR0.out x4_1 p215 q215
        cases e215
        replace hx215_0:=(HB.out.cell (World.block_lt_of_cell? w _ hx215_0)).trans hx215_0
        replace p215:=eq_true p215
        replace q215:=eq_true q215
        have p9:0≤(x4_1:Int):=of_decide_eq_true (by first|(with_reducible assumption)|assumption)
        have q9:(x4_1:Int) < ((x3_1.length:Int):Int):=of_decide_eq_true (by first|(with_reducible assumption)|assumption)
        obtain ⟨go9,co9,eo9,gb9,gl9,cl9,HG9⟩:=Kd.R_form HO_3.out (by omega)
        (first|cases eo9|(injection eo9 with ea_ en_ ec_;(first|subst ea_|(injection ea_ with ea_;subst ea_));subst ec_;clear en_))
        have GB9:=Aside0.mk gb9
        have GG9:=Aside0.mk HG9
        clear gb9 gl9 HG9
        obtain ⟨hx9_0,hf9_0⟩:=Kd.R_celln 0 HO_3.out (x4_1:Int) p9 q9
        replace p9:=eq_true p9
        replace q9:=eq_true q9
        have HP10:=Kd.R_putg HO_3.out (x4_1:Int) (rd l0 x4_1)
        go_wp2_with (first|((with_reducible refine gate_store (t:=5) (p:=20) rfl ?_);refine store_event (t:=5) (p:=20) (v:=?vo_w11) (w1:=(wr.setCell ⟨go9,(x4_1:Int).toNat,none⟩ (.int .u8 (rd l0 x4_1)))) ?hg ?ho ?hn ?hr ?_;(case ho=>rfl);(case hg=>rfl);(case hn=>rfl);(case hr=>first|(go_simp;done)|(go_simp;rfl));intro w11 hw;have hg:wr.grownBy w11 (some go9):=(by rw [hw];exact HP10.2);have hp_:Kd.R (Kd.int .u8) 5 w11 w.heap.size (fun _=>True) (.slice (some ⟨go9,0,none⟩) x3_1.length co9) y216:=(by rw [hw,Ny216.out];exact HP10.1);clear HP10;have n0_:=Aside0.mk (hp_);have n1_:=Aside0.mk ((by rw [hw];exact below_set (HB.out) GB9.out:Below w.heap.size w w11));clear HO_3;clear HB;have HO_3:=n0_;have HB:=n1_;clear n0_ n1_;clear hg hw hp_))
        go_roundg k1
        case measure=>have:=HK1.out;omega
        case rel=>exact ⟨(y216),(wrap64 (x4_1+1)),rd_,H',⟨by have:=HK1.out;omega⟩,⟨rR HO_3⟩,⟨be⟩⟩
       ·rw [if_neg c8] at H
        exact absurd H (by simp)
      ·rw [if_neg c7] at H
       exact absurd H (by simp)
     ·rw [if_neg c6] at H
      have c6b0:decide (x4_1 < (l0.length:Int))=false:=decide_eq_false c6
      clear c6
      obtain rfl:=Option.some.inj H
      go_wp2
      go_ret
      exact ⟨_,rz,rR HO_3,be⟩
  ·rw [if_neg c3] at H
   exact absurd H (by simp)
 ·rw [if_neg c2] at H
  exact absurd H (by simp)
def impl_in.f (a0:Int) (a1:Int) (a2:Int):Option (Bool):=if a0 ≥ a1 then (some (decide (a0≤a2))) else (some false)
set_option maxHeartbeats 8000000 in
set_option maxRecDepth 100000 in
theorem impl_in.calls (a0:Int) (a1:Int) (a2:Int) (r:Bool) (w:World) (h:impl_in.f a0 a1 a2=some r) :
  Calls Try.prog 101 #[.int .i64 a0,.int .i64 a1,.int .i64 a2] w fun e w'=>e = .returned (.bool r)∧Drawn0 w w':=by
 have H:(if a0 ≥ a1 then (some (decide (a0≤a2))) else (some false))=some r:=h
 clear h
 by_cases c4:a0 ≥ a1
 ·rw [if_pos c4] at H
  have c4b0:decide (a1≤a0)=true:=decide_eq_true c4
  clear c4
  obtain rfl:=Option.some.inj H
  go_enter Try.func101,Try.ntmps101
  go_wp2
  go_ret
  exact ⟨by first|rfl|(simp;done)|(simp [*];done),by repeat (first|exact Drawn0.refl _|apply Drawn0.step)⟩
 ·rw [if_neg c4] at H
  have c4b0:decide (a1≤a0)=false:=decide_eq_false c4
  clear c4
  obtain rfl:=Option.some.inj H
  go_enter Try.func101,Try.ntmps101
  go_wp2
  go_ret
  exact ⟨by first|rfl|(simp;done)|(simp [*];done),by repeat (first|exact Drawn0.refl _|apply Drawn0.step)⟩
def impl_StampOk.f (a0_0:Int) (a0_1:Int) (a0_2:Int):Option (Bool):=(impl_in.f a0_0 0 1000000000).bind fun t218=>(if t218=true then ((impl_in.f a0_1 0 1000000).bind fun t219=>(if t219=true then ((impl_in.f a0_2 0 20).bind fun t220=>(some t220)) else (some false))) else (some false))
set_option maxHeartbeats 8000000 in
set_option maxRecDepth 100000 in
theorem impl_StampOk.calls (a0_0:Int) (a0_1:Int) (a0_2:Int) (r:Bool) (w:World) (h:impl_StampOk.f a0_0 a0_1 a0_2=some r) :
  Calls Try.prog 117 #[.agg #[.int .i64 a0_0,.int .i64 a0_1,.int .i64 a0_2]] w fun e w'=>e = .returned (.bool r)∧Below w.heap.size w w':=by
 have hu59:=Try.underlying59
 have HB:=Aside0.mk (Below.refl w.heap.size w)
 have H:((impl_in.f a0_0 0 1000000000).bind fun t218=>(if t218=true then ((impl_in.f a0_1 0 1000000).bind fun t219=>(if t219=true then ((impl_in.f a0_2 0 20).bind fun t220=>(some t220)) else (some false))) else (some false)))=some r:=h
 clear h
 replace H:=Option.bind_eq_some_iff.mp H
 obtain ⟨t218,A20,H⟩:=H
 try dsimp only at H
 have A2:=Aside0.mk A20
 clear A20
 by_cases c3:t218=true
 ·subst c3
  rw [if_pos rfl] at H
  replace H:=Option.bind_eq_some_iff.mp H
  obtain ⟨t219,A40,H⟩:=H
  try dsimp only at H
  have A4:=Aside0.mk A40
  clear A40
  by_cases c5:t219=true
  ·subst c5
   rw [if_pos rfl] at H
   replace H:=Option.bind_eq_some_iff.mp H
   obtain ⟨t220,A60,H⟩:=H
   try dsimp only at H
   have A6:=Aside0.mk A60
   clear A60
   obtain rfl:=Option.some.inj H
   go_enter Try.func117,Try.ntmps117
   go_wp2_with (first|((with_reducible refine gate_dst (N:=1) rfl ?_);refine box_event ?hg (N:=1) ?hd (cs:=#[.int .i64 a0_0,.int .i64 a0_1,.int .i64 a0_2]) (t:=59) ?hr ?_;(case hd=>rfl);(case hg=>rfl);(case hr=>first|(go_simp;done)|(go_simp;rfl));intro gb217 hg w7 hbox hb;have n0_:=bs hb;have n1_:=Aside0.mk (hbox);have n2_:=Aside0.mk ((by rw [hg];exact (below_size be):w.heap.size≤gb217));have n3_:=Aside0.mk ((by rw [hg];exact (below_size be):w.heap.size≤gb217));clear HB;have HB:=n0_;have BK217:=n1_;have GW217:=n2_;have GE217:=n3_;clear n0_ n1_ n2_ n3_;clear hb hbox hg;have hcz8_0:w7.cell? ⟨gb217,0,none⟩=some (.int .i64 a0_0):=(blk_cell BK217.out 0).trans rfl;have hcz8_1:w7.cell? ⟨gb217,1,none⟩=some (.int .i64 a0_1):=(blk_cell BK217.out 1).trans rfl;have hcz8_2:w7.cell? ⟨gb217,2,none⟩=some (.int .i64 a0_2):=(blk_cell BK217.out 2).trans rfl;have hfz8_0:=blk_frozen BK217.out 0;have hfz8_1:=blk_frozen BK217.out 1;have hfz8_2:=blk_frozen BK217.out 2)|((with_reducible refine gate_callee (f:=101) rfl ?_);refine goesL_ (some 5) rfl rfl Try.func101 (by kernel_rfl) rfl #[.int .i64 a0_0,.int .i64 0,.int .i64 1000000000] rfl (by (try simp only [List.map_toArray,List.map_cons,List.map_nil]);first|done|rfl|(simp only [List.length_drop,List.length_take];rfl)) ?_;(with_reducible refine (impl_in.calls a0_0 0 1000000000 true _ A2.out).mono ?_);rintro e w' ⟨rfl,⟨nd,rfl⟩⟩;refine ⟨_,rfl,?_⟩)|(go_at_call 101;(with_reducible refine (impl_in.calls a0_1 0 1000000 true _ A4.out).mono ?_);rintro e w' ⟨rfl,⟨nd,rfl⟩⟩)|(go_at_call 101;(with_reducible refine (impl_in.calls a0_2 0 20 t220 _ A6.out).mono ?_);rintro e w' ⟨rfl,⟨nd,rfl⟩⟩))
   go_ret
   exact ⟨rz,be⟩
  ·replace c5:=Bool.eq_false_iff.mpr c5
   subst c5
   replace H:=(if_neg (show ¬ (false=true) by decide)).symm.trans H
   obtain rfl:=Option.some.inj H
   go_enter Try.func117,Try.ntmps117
   go_wp2_with (first|((with_reducible refine gate_dst (N:=1) rfl ?_);refine box_event ?hg (N:=1) ?hd (cs:=#[.int .i64 a0_0,.int .i64 a0_1,.int .i64 a0_2]) (t:=59) ?hr ?_;(case hd=>rfl);(case hg=>rfl);(case hr=>first|(go_simp;done)|(go_simp;rfl));intro gb217 hg w9 hbox hb;have n0_:=bs hb;have n1_:=Aside0.mk (hbox);have n2_:=Aside0.mk ((by rw [hg];exact (below_size be):w.heap.size≤gb217));have n3_:=Aside0.mk ((by rw [hg];exact (below_size be):w.heap.size≤gb217));clear HB;have HB:=n0_;have BK217:=n1_;have GW217:=n2_;have GE217:=n3_;clear n0_ n1_ n2_ n3_;clear hb hbox hg;have hcz10_0:w9.cell? ⟨gb217,0,none⟩=some (.int .i64 a0_0):=(blk_cell BK217.out 0).trans rfl;have hcz10_1:w9.cell? ⟨gb217,1,none⟩=some (.int .i64 a0_1):=(blk_cell BK217.out 1).trans rfl;have hcz10_2:w9.cell? ⟨gb217,2,none⟩=some (.int .i64 a0_2):=(blk_cell BK217.out 2).trans rfl;have hfz10_0:=blk_frozen BK217.out 0;have hfz10_1:=blk_frozen BK217.out 1;have hfz10_2:=blk_frozen BK217.out 2)|((with_reducible refine gate_callee (f:=101) rfl ?_);refine goesL_ (some 5) rfl rfl Try.func101 (by kernel_rfl) rfl #[.int .i64 a0_0,.int .i64 0,.int .i64 1000000000] rfl (by (try simp only [List.map_toArray,List.map_cons,List.map_nil]);first|done|rfl|(simp only [List.length_drop,List.length_take];rfl)) ?_;(with_reducible refine (impl_in.calls a0_0 0 1000000000 true _ A2.out).mono ?_);rintro e w' ⟨rfl,⟨nd,rfl⟩⟩;refine ⟨_,rfl,?_⟩)|(go_at_call 101;(with_reducible refine (impl_in.calls a0_1 0 1000000 false _ A4.out).mono ?_);rintro e w' ⟨rfl,⟨nd,rfl⟩⟩))
   go_ret
   exact ⟨rz,be⟩
 ·replace c3:=Bool.eq_false_iff.mpr c3
  subst c3
  replace H:=(if_neg (show ¬ (false=true) by decide)).symm.trans H
  obtain rfl:=Option.some.inj H
  go_enter Try.func117,Try.ntmps117
  go_wp2_with (first|((with_reducible refine gate_dst (N:=1) rfl ?_);refine box_event ?hg (N:=1) ?hd (cs:=#[.int .i64 a0_0,.int .i64 a0_1,.int .i64 a0_2]) (t:=59) ?hr ?_;(case hd=>rfl);(case hg=>rfl);(case hr=>first|(go_simp;done)|(go_simp;rfl));intro gb217 hg w11 hbox hb;have n0_:=bs hb;have n1_:=Aside0.mk (hbox);have n2_:=Aside0.mk ((by rw [hg];exact (below_size be):w.heap.size≤gb217));have n3_:=Aside0.mk ((by rw [hg];exact (below_size be):w.heap.size≤gb217));clear HB;have HB:=n0_;have BK217:=n1_;have GW217:=n2_;have GE217:=n3_;clear n0_ n1_ n2_ n3_;clear hb hbox hg;have hcz12_0:w11.cell? ⟨gb217,0,none⟩=some (.int .i64 a0_0):=(blk_cell BK217.out 0).trans rfl;have hcz12_1:w11.cell? ⟨gb217,1,none⟩=some (.int .i64 a0_1):=(blk_cell BK217.out 1).trans rfl;have hcz12_2:w11.cell? ⟨gb217,2,none⟩=some (.int .i64 a0_2):=(blk_cell BK217.out 2).trans rfl;have hfz12_0:=blk_frozen BK217.out 0;have hfz12_1:=blk_frozen BK217.out 1;have hfz12_2:=blk_frozen BK217.out 2)|((with_reducible refine gate_callee (f:=101) rfl ?_);refine goesL_ (some 5) rfl rfl Try.func101 (by kernel_rfl) rfl #[.int .i64 a0_0,.int .i64 0,.int .i64 1000000000] rfl (by (try simp only [List.map_toArray,List.map_cons,List.map_nil]);first|done|rfl|(simp only [List.length_drop,List.length_take];rfl)) ?_;(with_reducible refine (impl_in.calls a0_0 0 1000000000 false _ A2.out).mono ?_);rintro e w' ⟨rfl,⟨nd,rfl⟩⟩;refine ⟨_,rfl,?_⟩))
  go_ret
  exact ⟨rz,be⟩
def impl_FileOk.f (a0_0:Int) (a0_1:Int) (a0_2:Int) (a0_3:Bool) (l0_4:List Int):Option (Bool):=(impl_StampOk.f a0_0 a0_1 a0_2).bind fun t222=>(if t222=true then (if (l0_4.length:Int)≤200 then (if a0_3=true then (some ((l0_4.length:Int) == 0)) else (some true)) else (some false)) else (some false))
set_option maxHeartbeats 8000000 in
set_option maxRecDepth 100000 in
theorem impl_FileOk.calls (a0_0:Int) (a0_1:Int) (a0_2:Int) (a0_3:Bool) (A0_4:Option Addr) (c0_4:Nat) (l0_4:List Int) (r:Bool) (w:World) (hr0_4:Kd.C (Kd.int .u8) w A0_4 l0_4.length l0_4) (hc0_4:l0_4.length≤c0_4) (h:impl_FileOk.f a0_0 a0_1 a0_2 a0_3 l0_4=some r) :
  Calls Try.prog 66 #[.agg #[.int .i64 a0_0,.int .i64 a0_1,.int .i64 a0_2,.bool a0_3,.slice A0_4 l0_4.length c0_4]] w fun e w'=>e = .returned (.bool r)∧Below w.heap.size w w':=by
 have hu61:=Try.underlying61
 have hu59:=Try.underlying59
 have HR0_4:=Aside0.mk hr0_4
 have HC0_4:=Aside0.mk hc0_4
 clear hr0_4 hc0_4
 have HB:=Aside0.mk (Below.refl w.heap.size w)
 have H:((impl_StampOk.f a0_0 a0_1 a0_2).bind fun t222=>(if t222=true then (if (l0_4.length:Int)≤200 then (if a0_3=true then (some ((l0_4.length:Int) == 0)) else (some true)) else (some false)) else (some false)))=some r:=h
 clear h
 replace H:=Option.bind_eq_some_iff.mp H
 obtain ⟨t222,A20,H⟩:=H
 try dsimp only at H
 have A2:=Aside0.mk A20
 clear A20
 by_cases c3:t222=true
 ·subst c3
  rw [if_pos rfl] at H
  by_cases c4:(l0_4.length:Int)≤200
  ·rw [if_pos c4] at H
   have c4b0:decide ((l0_4.length:Int)≤200)=true:=decide_eq_true c4
   have c4b1:decide (l0_4.length≤200)=true:=decide_eq_true (by omega)
   clear c4
   by_cases c5:a0_3=true
   ·subst c5
    rw [if_pos rfl] at H
    obtain rfl:=Option.some.inj H
    go_enter Try.func66,Try.ntmps66
    go_wp2_with (first|((with_reducible refine gate_dst (N:=1) rfl ?_);(try (refine gate_guard (by rfl) ?_;dsimp only));refine box_event ?hg (N:=1) ?hd (cs:=#[.int .i64 a0_0,.int .i64 a0_1,.int .i64 a0_2,.bool true,.slice A0_4 l0_4.length c0_4]) (t:=61) ?hr ?_;(case hd=>rfl);(case hg=>rfl);(case hr=>first|(go_simp;done)|(go_simp;rfl));intro gb221 hg w6 hbox hb;have n0_:=bs hb;have n1_:=Aside0.mk (hbox);have n2_:=Aside0.mk ((by rw [hg];exact (below_size be):w.heap.size≤gb221));have n3_:=Aside0.mk ((by rw [hg];exact (below_size be):w.heap.size≤gb221));clear HB;have HB:=n0_;have BK221:=n1_;have GW221:=n2_;have GE221:=n3_;clear n0_ n1_ n2_ n3_;clear hb hbox hg;have hcz7_0:w6.cell? ⟨gb221,0,none⟩=some (.int .i64 a0_0):=(blk_cell BK221.out 0).trans rfl;have hcz7_1:w6.cell? ⟨gb221,1,none⟩=some (.int .i64 a0_1):=(blk_cell BK221.out 1).trans rfl;have hcz7_2:w6.cell? ⟨gb221,2,none⟩=some (.int .i64 a0_2):=(blk_cell BK221.out 2).trans rfl;have hcz7_3:w6.cell? ⟨gb221,3,none⟩=some (.bool true):=(blk_cell BK221.out 3).trans rfl;have hcz7_4:w6.cell? ⟨gb221,4,none⟩=some (.slice A0_4 l0_4.length c0_4):=(blk_cell BK221.out 4).trans rfl;have hfz7_0:=blk_frozen BK221.out 0;have hfz7_1:=blk_frozen BK221.out 1;have hfz7_2:=blk_frozen BK221.out 2;have hfz7_3:=blk_frozen BK221.out 3;have hfz7_4:=blk_frozen BK221.out 4)|((with_reducible refine gate_callee (f:=117) rfl ?_);refine goesL_ (some 5) rfl rfl Try.func117 (by kernel_rfl) rfl #[.agg #[.int .i64 a0_0,.int .i64 a0_1,.int .i64 a0_2]] rfl (by (try simp only [List.map_toArray,List.map_cons,List.map_nil]);first|done|rfl|(simp only [List.length_drop,List.length_take];rfl)) ?_;(with_reducible refine (impl_StampOk.calls a0_0 a0_1 a0_2 true _ A2.out).mono ?_);rintro e w8 ⟨rfl,hb⟩;refine ⟨_,rfl,?_⟩;have n0_:=Aside0.mk (blk_below (g:=gb221) (o:=.cells #[.int .i64 a0_0,.int .i64 a0_1,.int .i64 a0_2,.bool true,.slice A0_4 l0_4.length c0_4] 61 (0,0)) (bk BK221) hb);have n1_:=bs hb;clear BK221;clear HB;have BK221:=n0_;have HB:=n1_;clear n0_ n1_;(try clear hb);(try clear hb2);(try clear hk);(try clear hi);have hcz9_0:w8.cell? ⟨gb221,0,none⟩=some (.int .i64 a0_0):=(blk_cell BK221.out 0).trans rfl;have hcz9_1:w8.cell? ⟨gb221,1,none⟩=some (.int .i64 a0_1):=(blk_cell BK221.out 1).trans rfl;have hcz9_2:w8.cell? ⟨gb221,2,none⟩=some (.int .i64 a0_2):=(blk_cell BK221.out 2).trans rfl;have hcz9_3:w8.cell? ⟨gb221,3,none⟩=some (.bool true):=(blk_cell BK221.out 3).trans rfl;have hcz9_4:w8.cell? ⟨gb221,4,none⟩=some (.slice A0_4 l0_4.length c0_4):=(blk_cell BK221.out 4).trans rfl;have hfz9_0:=blk_frozen BK221.out 0;have hfz9_1:=blk_frozen BK221.out 1;have hfz9_2:=blk_frozen BK221.out 2;have hfz9_3:=blk_frozen BK221.out 3;have hfz9_4:=blk_frozen BK221.out 4))
    go_ret
    exact ⟨rz,be⟩
   ·replace c5:=Bool.eq_false_iff.mpr c5
    subst c5
    replace H:=(if_neg (show ¬ (false=true) by decide)).symm.trans H
    obtain rfl:=Option.some.inj H
    go_enter Try.func66,Try.ntmps66
    go_wp2_with (first|((with_reducible refine gate_dst (N:=1) rfl ?_);(try (refine gate_guard (by rfl) ?_;dsimp only));refine box_event ?hg (N:=1) ?hd (cs:=#[.int .i64 a0_0,.int .i64 a0_1,.int .i64 a0_2,.bool false,.slice A0_4 l0_4.length c0_4]) (t:=61) ?hr ?_;(case hd=>rfl);(case hg=>rfl);(case hr=>first|(go_simp;done)|(go_simp;rfl));intro gb221 hg w10 hbox hb;have n0_:=bs hb;have n1_:=Aside0.mk (hbox);have n2_:=Aside0.mk ((by rw [hg];exact (below_size be):w.heap.size≤gb221));have n3_:=Aside0.mk ((by rw [hg];exact (below_size be):w.heap.size≤gb221));clear HB;have HB:=n0_;have BK221:=n1_;have GW221:=n2_;have GE221:=n3_;clear n0_ n1_ n2_ n3_;clear hb hbox hg;have hcz11_0:w10.cell? ⟨gb221,0,none⟩=some (.int .i64 a0_0):=(blk_cell BK221.out 0).trans rfl;have hcz11_1:w10.cell? ⟨gb221,1,none⟩=some (.int .i64 a0_1):=(blk_cell BK221.out 1).trans rfl;have hcz11_2:w10.cell? ⟨gb221,2,none⟩=some (.int .i64 a0_2):=(blk_cell BK221.out 2).trans rfl;have hcz11_3:w10.cell? ⟨gb221,3,none⟩=some (.bool false):=(blk_cell BK221.out 3).trans rfl;have hcz11_4:w10.cell? ⟨gb221,4,none⟩=some (.slice A0_4 l0_4.length c0_4):=(blk_cell BK221.out 4).trans rfl;have hfz11_0:=blk_frozen BK221.out 0;have hfz11_1:=blk_frozen BK221.out 1;have hfz11_2:=blk_frozen BK221.out 2;have hfz11_3:=blk_frozen BK221.out 3;have hfz11_4:=blk_frozen BK221.out 4)|((with_reducible refine gate_callee (f:=117) rfl ?_);refine goesL_ (some 5) rfl rfl Try.func117 (by kernel_rfl) rfl #[.agg #[.int .i64 a0_0,.int .i64 a0_1,.int .i64 a0_2]] rfl (by (try simp only [List.map_toArray,List.map_cons,List.map_nil]);first|done|rfl|(simp only [List.length_drop,List.length_take];rfl)) ?_;(with_reducible refine (impl_StampOk.calls a0_0 a0_1 a0_2 true _ A2.out).mono ?_);rintro e w12 ⟨rfl,hb⟩;refine ⟨_,rfl,?_⟩;have n0_:=Aside0.mk (blk_below (g:=gb221) (o:=.cells #[.int .i64 a0_0,.int .i64 a0_1,.int .i64 a0_2,.bool false,.slice A0_4 l0_4.length c0_4] 61 (0,0)) (bk BK221) hb);have n1_:=bs hb;clear BK221;clear HB;have BK221:=n0_;have HB:=n1_;clear n0_ n1_;(try clear hb);(try clear hb2);(try clear hk);(try clear hi);have hcz13_0:w12.cell? ⟨gb221,0,none⟩=some (.int .i64 a0_0):=(blk_cell BK221.out 0).trans rfl;have hcz13_1:w12.cell? ⟨gb221,1,none⟩=some (.int .i64 a0_1):=(blk_cell BK221.out 1).trans rfl;have hcz13_2:w12.cell? ⟨gb221,2,none⟩=some (.int .i64 a0_2):=(blk_cell BK221.out 2).trans rfl;have hcz13_3:w12.cell? ⟨gb221,3,none⟩=some (.bool false):=(blk_cell BK221.out 3).trans rfl;have hcz13_4:w12.cell? ⟨gb221,4,none⟩=some (.slice A0_4 l0_4.length c0_4):=(blk_cell BK221.out 4).trans rfl;have hfz13_0:=blk_frozen BK221.out 0;have hfz13_1:=blk_frozen BK221.out 1;have hfz13_2:=blk_frozen BK221.out 2;have hfz13_3:=blk_frozen BK221.out 3;have hfz13_4:=blk_frozen BK221.out 4))
    go_ret
    exact ⟨rz,be⟩
  ·rw [if_neg c4] at H
   have c4b0:decide ((l0_4.length:Int)≤200)=false:=decide_eq_false c4
   have c4b1:decide (l0_4.length≤200)=false:=decide_eq_false (by omega)
   clear c4
   obtain rfl:=Option.some.inj H
   go_enter Try.func66,Try.ntmps66
   go_wp2_with (first|((with_reducible refine gate_dst (N:=1) rfl ?_);(try (refine gate_guard (by rfl) ?_;dsimp only));refine box_event ?hg (N:=1) ?hd (cs:=#[.int .i64 a0_0,.int .i64 a0_1,.int .i64 a0_2,.bool a0_3,.slice A0_4 l0_4.length c0_4]) (t:=61) ?hr ?_;(case hd=>rfl);(case hg=>rfl);(case hr=>first|(go_simp;done)|(go_simp;rfl));intro gb221 hg w14 hbox hb;have n0_:=bs hb;have n1_:=Aside0.mk (hbox);have n2_:=Aside0.mk ((by rw [hg];exact (below_size be):w.heap.size≤gb221));have n3_:=Aside0.mk ((by rw [hg];exact (below_size be):w.heap.size≤gb221));clear HB;have HB:=n0_;have BK221:=n1_;have GW221:=n2_;have GE221:=n3_;clear n0_ n1_ n2_ n3_;clear hb hbox hg;have hcz15_0:w14.cell? ⟨gb221,0,none⟩=some (.int .i64 a0_0):=(blk_cell BK221.out 0).trans rfl;have hcz15_1:w14.cell? ⟨gb221,1,none⟩=some (.int .i64 a0_1):=(blk_cell BK221.out 1).trans rfl;have hcz15_2:w14.cell? ⟨gb221,2,none⟩=some (.int .i64 a0_2):=(blk_cell BK221.out 2).trans rfl;have hcz15_3:w14.cell? ⟨gb221,3,none⟩=some (.bool a0_3):=(blk_cell BK221.out 3).trans rfl;have hcz15_4:w14.cell? ⟨gb221,4,none⟩=some (.slice A0_4 l0_4.length c0_4):=(blk_cell BK221.out 4).trans rfl;have hfz15_0:=blk_frozen BK221.out 0;have hfz15_1:=blk_frozen BK221.out 1;have hfz15_2:=blk_frozen BK221.out 2;have hfz15_3:=blk_frozen BK221.out 3;have hfz15_4:=blk_frozen BK221.out 4)|((with_reducible refine gate_callee (f:=117) rfl ?_);refine goesL_ (some 5) rfl rfl Try.func117 (by kernel_rfl) rfl #[.agg #[.int .i64 a0_0,.int .i64 a0_1,.int .i64 a0_2]] rfl (by (try simp only [List.map_toArray,List.map_cons,List.map_nil]);first|done|rfl|(simp only [List.length_drop,List.length_take];rfl)) ?_;(with_reducible refine (impl_StampOk.calls a0_0 a0_1 a0_2 true _ A2.out).mono ?_);rintro e w16 ⟨rfl,hb⟩;refine ⟨_,rfl,?_⟩;have n0_:=Aside0.mk (blk_below (g:=gb221) (o:=.cells #[.int .i64 a0_0,.int .i64 a0_1,.int .i64 a0_2,.bool a0_3,.slice A0_4 l0_4.length c0_4] 61 (0,0)) (bk BK221) hb);have n1_:=bs hb;clear BK221;clear HB;have BK221:=n0_;have HB:=n1_;clear n0_ n1_;(try clear hb);(try clear hb2);(try clear hk);(try clear hi);have hcz17_0:w16.cell? ⟨gb221,0,none⟩=some (.int .i64 a0_0):=(blk_cell BK221.out 0).trans rfl;have hcz17_1:w16.cell? ⟨gb221,1,none⟩=some (.int .i64 a0_1):=(blk_cell BK221.out 1).trans rfl;have hcz17_2:w16.cell? ⟨gb221,2,none⟩=some (.int .i64 a0_2):=(blk_cell BK221.out 2).trans rfl;have hcz17_3:w16.cell? ⟨gb221,3,none⟩=some (.bool a0_3):=(blk_cell BK221.out 3).trans rfl;have hcz17_4:w16.cell? ⟨gb221,4,none⟩=some (.slice A0_4 l0_4.length c0_4):=(blk_cell BK221.out 4).trans rfl;have hfz17_0:=blk_frozen BK221.out 0;have hfz17_1:=blk_frozen BK221.out 1;have hfz17_2:=blk_frozen BK221.out 2;have hfz17_3:=blk_frozen BK221.out 3;have hfz17_4:=blk_frozen BK221.out 4))
   go_ret
   exact ⟨rz,be⟩
 ·replace c3:=Bool.eq_false_iff.mpr c3
  subst c3
  replace H:=(if_neg (show ¬ (false=true) by decide)).symm.trans H
  obtain rfl:=Option.some.inj H
  go_enter Try.func66,Try.ntmps66
  go_wp2_with (first|((with_reducible refine gate_dst (N:=1) rfl ?_);(try (refine gate_guard (by rfl) ?_;dsimp only));refine box_event ?hg (N:=1) ?hd (cs:=#[.int .i64 a0_0,.int .i64 a0_1,.int .i64 a0_2,.bool a0_3,.slice A0_4 l0_4.length c0_4]) (t:=61) ?hr ?_;(case hd=>rfl);(case hg=>rfl);(case hr=>first|(go_simp;done)|(go_simp;rfl));intro gb221 hg w18 hbox hb;have n0_:=bs hb;have n1_:=Aside0.mk (hbox);have n2_:=Aside0.mk ((by rw [hg];exact (below_size be):w.heap.size≤gb221));have n3_:=Aside0.mk ((by rw [hg];exact (below_size be):w.heap.size≤gb221));clear HB;have HB:=n0_;have BK221:=n1_;have GW221:=n2_;have GE221:=n3_;clear n0_ n1_ n2_ n3_;clear hb hbox hg;have hcz19_0:w18.cell? ⟨gb221,0,none⟩=some (.int .i64 a0_0):=(blk_cell BK221.out 0).trans rfl;have hcz19_1:w18.cell? ⟨gb221,1,none⟩=some (.int .i64 a0_1):=(blk_cell BK221.out 1).trans rfl;have hcz19_2:w18.cell? ⟨gb221,2,none⟩=some (.int .i64 a0_2):=(blk_cell BK221.out 2).trans rfl;have hcz19_3:w18.cell? ⟨gb221,3,none⟩=some (.bool a0_3):=(blk_cell BK221.out 3).trans rfl;have hcz19_4:w18.cell? ⟨gb221,4,none⟩=some (.slice A0_4 l0_4.length c0_4):=(blk_cell BK221.out 4).trans rfl;have hfz19_0:=blk_frozen BK221.out 0;have hfz19_1:=blk_frozen BK221.out 1;have hfz19_2:=blk_frozen BK221.out 2;have hfz19_3:=blk_frozen BK221.out 3;have hfz19_4:=blk_frozen BK221.out 4)|((with_reducible refine gate_callee (f:=117) rfl ?_);refine goesL_ (some 5) rfl rfl Try.func117 (by kernel_rfl) rfl #[.agg #[.int .i64 a0_0,.int .i64 a0_1,.int .i64 a0_2]] rfl (by (try simp only [List.map_toArray,List.map_cons,List.map_nil]);first|done|rfl|(simp only [List.length_drop,List.length_take];rfl)) ?_;(with_reducible refine (impl_StampOk.calls a0_0 a0_1 a0_2 false _ A2.out).mono ?_);rintro e w20 ⟨rfl,hb⟩;refine ⟨_,rfl,?_⟩;have n0_:=Aside0.mk (blk_below (g:=gb221) (o:=.cells #[.int .i64 a0_0,.int .i64 a0_1,.int .i64 a0_2,.bool a0_3,.slice A0_4 l0_4.length c0_4] 61 (0,0)) (bk BK221) hb);have n1_:=bs hb;clear BK221;clear HB;have BK221:=n0_;have HB:=n1_;clear n0_ n1_;(try clear hb);(try clear hb2);(try clear hk);(try clear hi)))
  go_ret
  exact ⟨rz,be⟩
def impl_addNum.l0:Nat→List Int→Int→Option (List Int)
 | 0,_,_=>none
 | k+1,x0,x1=>if x1 > 127 then (if x0.length < 140737488355328 then (impl_addNum.l0 k (x0 ++ [(wrap64 ((Int.tmod x1 128)+128)) % 256]) (wrap64 (Int.tdiv x1 128))) else (none)) else (if x0.length < 140737488355328 then (some (x0 ++ [(x1) % 256])) else (none))
def impl_addNum.f (k:Nat) (l0:List Int) (a1:Int):Option (List Int):=impl_addNum.l0 k l0 (mx 0 (mn a1 1000000000))
set_option maxHeartbeats 8000000 in
set_option maxRecDepth 100000 in
theorem impl_addNum.calls (k:Nat) (P0_:Nat→Prop) (u9000_:Value) (l0:List Int) (a1:Int) (r:List Int) (w0 w:World) (hB:Below w0.heap.size w0 w) (ho0:Kd.R (Kd.int .u8) 5 w w0.heap.size P0_ u9000_ l0) (h:impl_addNum.f k l0 a1=some r) :
  Calls Try.prog 121 #[u9000_,.int .i64 a1] w fun e w'=>∃ v0_:Value,e = .returned (v0_)∧Kd.R (Kd.int .u8) 5 w' w0.heap.size (fun k_=>(P0_ k_ ∨ w.heap.size≤k_)) v0_ r∧Below w0.heap.size w0 w' ∧ Kept w w' (fun k_=>P0_ k_):=by
 have HO0:=Aside0.mk (show Kd.R (Kd.int .u8) 5 w w0.heap.size (fun k_=>(P0_ k_ ∨ w.heap.size≤k_)) u9000_ l0 from Kd.R_mono ho0 (fun k_ hk=>(.inl hk)))
 have HK:=Aside0.mk (Kept.refl w (fun k_=>P0_ k_))
 have HW0:=Aside0.mk hB.size
 have HB:=Aside0.mk hB
 clear hB
 have H:(impl_addNum.l0 k l0 (mx 0 (mn a1 1000000000)))=some r:=h
 clear h
 obtain ⟨ji3,hji3⟩ : ∃ j_:Int,(mn a1 1000000000)=j_:=⟨_,rfl⟩
 replace H:(impl_addNum.l0 k l0 (mx 0 (ji3)))=some r:=by first|(rw [hji3] at H;exact H)|(simp only [hji3] at H ⊢;exact H)
 (try (have hji3h:ji3≤1000000000:=by (rw [← hji3];unfold mn;(repeat' split) <;> omega)))
 (try (have hji3g:ji3≤64:=by omega))
 have hji3_:(if 1000000000 < a1 then 1000000000 else a1)=ji3:=hji3
 obtain ⟨ji4,hji4⟩ : ∃ j_:Int,(mx 0 (ji3))=j_:=⟨_,rfl⟩
 replace H:(impl_addNum.l0 k l0 ji4)=some r:=by first|(rw [hji4] at H;exact H)|(simp only [hji4] at H ⊢;exact H)
 have hji4_:(if 0 < (ji3) then (ji3) else 0)=ji4:=hji4
 have H':=Aside0.mk H
 clear H
 go_enter Try.func121,Try.ntmps121
 go_wp2
 go_loopg [0,1] k (fun kq v0 v1 w'=>∃ (x0_1:List Int) (x1_1:Int),v1 = .int .i64 x1_1∧Aside0 (impl_addNum.l0 kq x0_1 x1_1=some r)∧Aside0 (kq≤k)∧Aside0 (Kd.R (Kd.int .u8) 5 w' w0.heap.size (fun k_=>(P0_ k_ ∨ w.heap.size≤k_)) v0 x0_1)∧Aside0 (Kept w w' (fun k_=>P0_ k_))∧Aside0 (Below w0.heap.size w0 w'))
 case atStart=>exact ⟨(l0),(ji4),(by first|rfl|(simp;done)|(simp only [← hji4] <;> (first|rfl|simp))|(simp [*];done)),H',⟨Nat.le_refl _⟩,⟨rR HO0⟩,⟨by repeat (first|(with_reducible first|exact HK.out|apply Kept.alloc|apply Kept.drewN|apply Kept.drew)|exact HK.out)⟩,⟨be⟩⟩
 case round=>
  clear H'
  try clear c1
  try clear p2
  obtain ⟨x0_1,x1_1,rfl,HA,HK1,HO_0,HK,HB⟩:=hrel
  cases gk with
  | zero=>exact absurd HA.out (by simp [impl_addNum.l0])
  | succ k1=>
   have H:=HA.out
   clear HA
   simp only [impl_addNum.l0] at H
   by_cases c5:x1_1 > 127
   ·rw [if_pos c5] at H
    have c5b0:decide (127 < x1_1)=true:=decide_eq_true c5
    clear c5
    by_cases c6:x0_1.length < 140737488355328
    ·rw [if_pos c6] at H
     have LMc6:=Aside0.mk c6
     clear c6
     obtain ⟨y223,hy223⟩ : ∃ y_:List Int,y_=(x0_1 ++ [(wrap64 ((Int.tmod x1_1 128)+128)) % 256]):=⟨_,rfl⟩
     replace H:(impl_addNum.l0 k1 y223 (wrap64 (Int.tdiv x1_1 128)))=some r:=by first|(rw [hy223];with_reducible exact H)|(have H2_:=(Option.bind_some _ _).symm.trans H;rw [hy223];with_reducible exact H2_)|(have H2_:=(Option.bind_some _ _).symm.trans H;with_reducible exact H2_)|with_reducible exact H|(rw [hy223];exact H)|exact H
     have Ny223:=Aside0.mk hy223
     clear hy223
     have H':=Aside0.mk H
     clear H
     go_wp2_with (first|((with_reducible refine gate_builtin (b:=.append) (xs:=#[.tmp 10,.tmp 15]) rfl ?_);at_builtin;refine Kd.R_append (Kd.int .u8) (w0:=w0) w0.heap.size rfl (.tmp 10) (.tmp 15) 54 5 (.int .u8 0) 1 rfl Try.underlying54 info5 rfl (by decide) (by omega) u0 x0_1 ((wrap64 ((Int.tmod x1_1 128)+128)) % 256) [.int .u8 ((wrap64 ((Int.tmod x1_1 128)+128)) % 256)] (fun k_=>(P0_ k_ ∨ w.heap.size≤k_)) (fun _=>False) rfl rfl ?aP (fun _ hk=>hk.elim) ?aF ?aO ?aB ?aS ?aL ?_;(case aP=>exact rfl);(case aB=>exact be);(case aF=>exact (fun k_ hk=>(.inr (Nat.le_trans (by first|exact HK.out.1|exact (show Kept w _ (fun k_=>P0_ k_) from by repeat (first|(with_reducible first|exact HK.out|apply Kept.alloc|apply Kept.drewN|apply Kept.drew)|exact HK.out)).1) hk))));(case aO=>exact (rR HO_0));(case aS=>exact (below_size be));(case aL=>have:=LMc6.out;omega);intro v224 w7 ho hb hg hat;rw [← Ny223.out] at ho;have n0_:=Aside0.mk (hb);have n1_:=Aside0.mk (Kept.of_grown (S:=(fun k_=>P0_ k_)) hg (by repeat (first|(with_reducible first|exact HK.out|apply Kept.alloc|apply Kept.drewN|apply Kept.drew)|exact HK.out)) (fun k_ e_=>(HO_0.out.1 k_ e_)));have n2_:=Aside0.mk (ho);clear HB;clear HK;clear HO_0;have HB:=n0_;have HK:=n1_;have HO225:=n2_;clear n0_ n1_ n2_;clear ho hb hg hat))
     go_roundg k1
     case measure=>have:=HK1.out;omega
     case rel=>exact ⟨(y223),(wrap64 (Int.tdiv x1_1 128)),rd_,H',⟨by have:=HK1.out;omega⟩,⟨rR HO225⟩,⟨by repeat (first|(with_reducible first|exact HK.out|apply Kept.alloc|apply Kept.drewN|apply Kept.drew)|exact HK.out)⟩,⟨be⟩⟩
    ·rw [if_neg c6] at H
     exact absurd H (by simp)
   ·rw [if_neg c5] at H
    have c5b0:decide (127 < x1_1)=false:=decide_eq_false c5
    clear c5
    by_cases c8:x0_1.length < 140737488355328
    ·rw [if_pos c8] at H
     have LMc8:=Aside0.mk c8
     clear c8
     obtain ⟨y226,hy226⟩ : ∃ y_:List Int,y_=(x0_1 ++ [(x1_1) % 256]):=⟨_,rfl⟩
     replace H:(some y226)=some r:=by first|(rw [hy226];with_reducible exact H)|(have H2_:=(Option.bind_some _ _).symm.trans H;rw [hy226];with_reducible exact H2_)|(have H2_:=(Option.bind_some _ _).symm.trans H;with_reducible exact H2_)|with_reducible exact H|(rw [hy226];exact H)|exact H
     have Ny226:=Aside0.mk hy226
     clear hy226
     obtain rfl:=Option.some.inj H
     go_wp2_with (first|((with_reducible refine gate_builtin (b:=.append) (xs:=#[.tmp 19,.tmp 22]) rfl ?_);at_builtin;refine Kd.R_append (Kd.int .u8) (w0:=w0) w0.heap.size rfl (.tmp 19) (.tmp 22) 54 5 (.int .u8 0) 1 rfl Try.underlying54 info5 rfl (by decide) (by omega) u0 x0_1 ((x1_1) % 256) [.int .u8 ((x1_1) % 256)] (fun k_=>(P0_ k_ ∨ w.heap.size≤k_)) (fun _=>False) rfl rfl ?aP (fun _ hk=>hk.elim) ?aF ?aO ?aB ?aS ?aL ?_;(case aP=>exact rfl);(case aB=>exact be);(case aF=>exact (fun k_ hk=>(.inr (Nat.le_trans (by first|exact HK.out.1|exact (show Kept w _ (fun k_=>P0_ k_) from by repeat (first|(with_reducible first|exact HK.out|apply Kept.alloc|apply Kept.drewN|apply Kept.drew)|exact HK.out)).1) hk))));(case aO=>exact (rR HO_0));(case aS=>exact (below_size be));(case aL=>have:=LMc8.out;omega);intro v227 w9 ho hb hg hat;rw [← Ny226.out] at ho;have n0_:=Aside0.mk (hb);have n1_:=Aside0.mk (Kept.of_grown (S:=(fun k_=>P0_ k_)) hg (by repeat (first|(with_reducible first|exact HK.out|apply Kept.alloc|apply Kept.drewN|apply Kept.drew)|exact HK.out)) (fun k_ e_=>(HO_0.out.1 k_ e_)));have n2_:=Aside0.mk (ho);clear HB;clear HK;clear HO_0;have HB:=n0_;have HK:=n1_;have HO228:=n2_;clear n0_ n1_ n2_;clear ho hb hg hat))
     go_ret
     exact ⟨_,by first|rfl|(simp [errW_none,errW_some] <;> rfl)|(simp only [← hji3,← hji4];first|rfl|(simp [errW_none,errW_some] <;> rfl))|(simp [*,errW_none,errW_some] <;> rfl),rR HO228,be,by repeat (first|(with_reducible first|exact HK.out|apply Kept.alloc|apply Kept.drewN|apply Kept.drew)|exact HK.out)⟩
    ·rw [if_neg c8] at H
     exact absurd H (by simp)
def impl_addText.f (k:Nat) (l0:List Int) (a1:ByteArray):Option (List Int):=(impl_addNum.f k l0 (a1.size:Int)).bind fun t229=>(if t229.length+a1.size < 140737488355328 then (some (t229 ++ bytesOf a1)) else (none))
set_option maxHeartbeats 8000000 in
set_option maxRecDepth 100000 in
theorem impl_addText.calls (k:Nat) (P0_:Nat→Prop) (u9000_:Value) (l0:List Int) (a1:ByteArray) (r:List Int) (w0 w:World) (hB:Below w0.heap.size w0 w) (ho0:Kd.R (Kd.int .u8) 5 w w0.heap.size P0_ u9000_ l0) (h:impl_addText.f k l0 a1=some r) :
  Calls Try.prog 93 #[u9000_,.string a1] w fun e w'=>∃ v0_:Value,e = .returned (v0_)∧Kd.R (Kd.int .u8) 5 w' w0.heap.size (fun k_=>(P0_ k_ ∨ w.heap.size≤k_)) v0_ r∧Below w0.heap.size w0 w' ∧ Kept w w' (fun k_=>P0_ k_):=by
 have HO0:=Aside0.mk (show Kd.R (Kd.int .u8) 5 w w0.heap.size (fun k_=>(P0_ k_ ∨ w.heap.size≤k_)) u9000_ l0 from Kd.R_mono ho0 (fun k_ hk=>(.inl hk)))
 have HK:=Aside0.mk (Kept.refl w (fun k_=>P0_ k_))
 have HW0:=Aside0.mk hB.size
 have HB:=Aside0.mk hB
 clear hB
 have H:((impl_addNum.f k l0 (a1.size:Int)).bind fun t229=>(if t229.length+a1.size < 140737488355328 then (some (t229 ++ bytesOf a1)) else (none)))=some r:=h
 clear h
 replace H:=Option.bind_eq_some_iff.mp H
 obtain ⟨t229,A30,H⟩:=H
 try dsimp only at H
 have A3:=Aside0.mk A30
 clear A30
 by_cases c4:t229.length+a1.size < 140737488355328
 ·rw [if_pos c4] at H
  have LMc4:=Aside0.mk c4
  clear c4
  obtain ⟨y232,hy232⟩ : ∃ y_:List Int,y_=(t229 ++ bytesOf a1):=⟨_,rfl⟩
  replace H:(some y232)=some r:=by first|(rw [hy232];with_reducible exact H)|(have H2_:=(Option.bind_some _ _).symm.trans H;rw [hy232];with_reducible exact H2_)|(have H2_:=(Option.bind_some _ _).symm.trans H;with_reducible exact H2_)|with_reducible exact H|(rw [hy232];exact H)|exact H
  have Ny232:=Aside0.mk hy232
  clear hy232
  obtain rfl:=Option.some.inj H
  obtain ⟨Ao5,co5,eo5⟩:=Kd.R_slice HO0.out
  subst eo5
  go_enter Try.func93,Try.ntmps93
  go_wp2_with (first|((with_reducible refine gate_callee (f:=121) rfl ?_);refine goesL_ (some 8) rfl rfl Try.func121 (by kernel_rfl) rfl #[.slice Ao5 l0.length co5,.int .i64 (a1.size:Int)] rfl (by (try simp only [List.map_toArray,List.map_cons,List.map_nil]);first|done|rfl|(simp only [List.length_drop,List.length_take];rfl)) ?_;(with_reducible refine (impl_addNum.calls k (fun k_=>some k_=(.slice Ao5 l0.length co5:Value).ownBlock) (.slice Ao5 l0.length co5) l0 (a1.size:Int) t229 w0 _ ?side1 ?side2 A3.out).mono ?_);(case side1=>exact be);(case side2=>exact Kd.R_tight rfl HO0.out);rintro e w6 ⟨v230,rfl,ho0,hb,hkp⟩;refine ⟨_,rfl,?_⟩;have n0_:=Aside0.mk (Kd.R_mono (ok':=fun k_=>(P0_ k_ ∨ w.heap.size≤k_)) ho0 (fun k_ hk_=>Or.elim hk_ (fun hs_=>(HO0.out.1 k_ (hs_).symm)) (fun hn_=>(.inr (Nat.le_trans (by first|exact HK.out.1|exact (show Kept w _ (fun k_=>P0_ k_) from by repeat (first|(with_reducible first|exact HK.out|apply Kept.alloc|apply Kept.drewN|apply Kept.drew)|exact HK.out)).1) hn_)))));have n1_:=Aside0.mk (Kept.then_ (S:=(fun k_=>P0_ k_)) (by repeat (first|(with_reducible first|exact HK.out|apply Kept.alloc|apply Kept.drewN|apply Kept.drew)|exact HK.out)) hkp (fun k_ hs_=>(fun e_=>(HO0.out.1 k_ e_.symm)) hs_));have n2_:=Aside0.mk (hb);clear HK;clear HB;clear HO0;have HO231:=n0_;have HK:=n1_;have HB:=n2_;clear n0_ n1_ n2_;(try clear hb);(try clear hkp);(try clear ho0))|(at_builtin;refine Aid.append_str_at (w0:=w0) w0.heap.size rfl (.tmp 8) _ 54 9 5 rfl Try.underlying54 Try.underlying9 info5 v230 t229 a1 rfl rfl ?aO ?aB ?aS ?aL ?_;(case aB=>exact be);(case aO=>exact (Kd.own_of_R (rR HO231)));(case aS=>exact (below_size be));(case aL=>have:=LMc4.out;omega);intro v233 w7 ho0 hb hg hat;have ho:=Kd.R_of_own (h1:=fun _=>rfl) (ok:=(fun k_=>(P0_ k_ ∨ w.heap.size≤k_))) ho0 (fun k_ hk_=>Or.elim hat (fun he_=>(HO231.out.1 k_ (he_.symm.trans hk_))) (fun ⟨_,hb1_,hb2_⟩=>(fun k_ hk=>(.inr (Nat.le_trans (by first|exact HK.out.1|exact (show Kept w _ (fun k_=>P0_ k_) from by repeat (first|(with_reducible first|exact HK.out|apply Kept.alloc|apply Kept.drewN|apply Kept.drew)|exact HK.out)).1) hk))) k_ (Option.some.inj (hb1_.symm.trans hk_) ▸ hb2_)));clear ho0;rw [← Ny232.out] at ho;change Kd.R (Kd.int .u8) 5 w7 w0.heap.size (fun k_=>(P0_ k_ ∨ w.heap.size≤k_)) v233 y232 at ho;have n0_:=Aside0.mk (hb);have n1_:=Aside0.mk (Kept.of_grown (S:=(fun k_=>P0_ k_)) hg (by repeat (first|(with_reducible first|exact HK.out|apply Kept.alloc|apply Kept.drewN|apply Kept.drew)|exact HK.out)) (fun k_ e_=>(HO231.out.1 k_ e_)));have n2_:=Aside0.mk (ho);clear HB;clear HK;clear HO231;have HB:=n0_;have HK:=n1_;have HO234:=n2_;clear n0_ n1_ n2_;clear ho hb hg hat))
  go_ret
  exact ⟨_,rz,rR HO234,be,by repeat (first|(with_reducible first|exact HK.out|apply Kept.alloc|apply Kept.drewN|apply Kept.drew)|exact HK.out)⟩
 ·rw [if_neg c4] at H
  exact absurd H (by simp)
def impl_bit.f (a0:Bool):Option (Int):=if a0=true then (some 1) else (some 0)
set_option maxHeartbeats 8000000 in
set_option maxRecDepth 100000 in
theorem impl_bit.calls (a0:Bool) (r:Int) (w:World) (h:impl_bit.f a0=some r) :
  Calls Try.prog 122 #[.bool a0] w fun e w'=>e = .returned (.int .i64 r)∧Drawn0 w w':=by
 have H:(if a0=true then (some 1) else (some 0))=some r:=h
 clear h
 by_cases c2:a0=true
 ·subst c2
  rw [if_pos rfl] at H
  obtain rfl:=Option.some.inj H
  go_enter Try.func122,Try.ntmps122
  go_wp2
  go_ret
  exact ⟨by first|rfl|(simp;done)|(simp [*];done),by repeat (first|exact Drawn0.refl _|apply Drawn0.step)⟩
 ·replace c2:=Bool.eq_false_iff.mpr c2
  subst c2
  replace H:=(if_neg (show ¬ (false=true) by decide)).symm.trans H
  obtain rfl:=Option.some.inj H
  go_enter Try.func122,Try.ntmps122
  go_wp2
  go_ret
  exact ⟨by first|rfl|(simp;done)|(simp [*];done),by repeat (first|exact Drawn0.refl _|apply Drawn0.step)⟩
def impl_addStamp.f (k:Nat) (l0:List Int) (a1_0:Int) (a1_1:Int) (a1_2:Int) (a2:Bool):Option (List Int):=(impl_addNum.f k l0 a1_0).bind fun t236=>((impl_addNum.f k t236 a1_1).bind fun t239=>((impl_addNum.f k t239 a1_2).bind fun t242=>((impl_bit.f a2).bind fun t245=>((impl_addNum.f k t242 t245).bind fun t246=>(some t246)))))
def impl_addStamp.T1:Bool × List (List Nat × List Nat):=(true,[([],[]),([],[]),([1],[1]),([0,2],[0,2]),([],[]),([4],[4]),([3,5,3],[3,5]),([],[]),([7],[7]),([6,8,6],[6,8]),([],[]),([10,9],[10]),([9,11,11],[9,11]),([12,12,0,1,2,3,4,5,6,7,8,9,10,11,12],[12])])
def impl_addStamp.B1:List Nat:=[0,0,2,7,0,16,63,0,128,511,0,2047,4095,8191]
theorem impl_addStamp.tab1:rtab .any (opsOf Try.f94 1)=impl_addStamp.T1:=by kernel_rfl
theorem impl_addStamp.bits1:waitsOk impl_addStamp.T1.2 impl_addStamp.B1=true:=by kernel_rfl
set_option maxHeartbeats 8000000 in
set_option maxRecDepth 100000 in
theorem impl_addStamp.calls (k:Nat) (P0_:Nat→Prop) (u9000_:Value) (l0:List Int) (a1_0:Int) (a1_1:Int) (a1_2:Int) (a2:Bool) (r:List Int) (w0 w:World) (hB:Below w0.heap.size w0 w) (ho0:Kd.R (Kd.int .u8) 5 w w0.heap.size P0_ u9000_ l0) (h:impl_addStamp.f k l0 a1_0 a1_1 a1_2 a2=some r) :
  Calls Try.prog 94 #[u9000_,.agg #[.int .i64 a1_0,.int .i64 a1_1,.int .i64 a1_2],.bool a2] w fun e w'=>∃ v0_:Value,e = .returned (v0_)∧Kd.R (Kd.int .u8) 5 w' w0.heap.size (fun k_=>(P0_ k_ ∨ w.heap.size≤k_)) v0_ r∧Below w0.heap.size w0 w' ∧ Kept w w' (fun k_=>P0_ k_):=by
 have hu59:=Try.underlying59
 have HO0:=Aside0.mk (show Kd.R (Kd.int .u8) 5 w w0.heap.size (fun k_=>(P0_ k_ ∨ w.heap.size≤k_)) u9000_ l0 from Kd.R_mono ho0 (fun k_ hk=>(.inl hk)))
 have HK:=Aside0.mk (Kept.refl w (fun k_=>P0_ k_))
 have HW0:=Aside0.mk hB.size
 have HB:=Aside0.mk hB
 clear hB
 have H:((impl_addNum.f k l0 a1_0).bind fun t236=>((impl_addNum.f k t236 a1_1).bind fun t239=>((impl_addNum.f k t239 a1_2).bind fun t242=>((impl_bit.f a2).bind fun t245=>((impl_addNum.f k t242 t245).bind fun t246=>(some t246))))))=some r:=h
 clear h
 replace H:=Option.bind_eq_some_iff.mp H
 obtain ⟨t236,A40,H⟩:=H
 try dsimp only at H
 have A4:=Aside0.mk A40
 clear A40
 replace H:=Option.bind_eq_some_iff.mp H
 obtain ⟨t239,A50,H⟩:=H
 try dsimp only at H
 have A5:=Aside0.mk A50
 clear A50
 replace H:=Option.bind_eq_some_iff.mp H
 obtain ⟨t242,A60,H⟩:=H
 try dsimp only at H
 have A6:=Aside0.mk A60
 clear A60
 replace H:=Option.bind_eq_some_iff.mp H
 obtain ⟨t245,A70,H⟩:=H
 try dsimp only at H
 have A7:=Aside0.mk A70
 clear A70
 replace H:=Option.bind_eq_some_iff.mp H
 obtain ⟨t246,A80,H⟩:=H
 try dsimp only at H
 have A8:=Aside0.mk A80
 clear A80
 obtain rfl:=Option.some.inj H
 go_enter Try.func94,Try.ntmps94
 try go_wp2_with (first|((with_reducible refine gate_dst (N:=4) rfl ?_);refine box_event ?hg (N:=4) ?hd (cs:=#[.int .i64 a1_0,.int .i64 a1_1,.int .i64 a1_2]) (t:=59) ?hr ?_;(case hd=>rfl);(case hg=>rfl);(case hr=>first|(go_simp;done)|(go_simp;rfl));intro gb235 hg w9 hbox hb;have n0_:=Aside0.mk (Kd.R_below (rR HO0) hb);have n1_:=Aside0.mk (Kept.below (S:=(fun k_=>P0_ k_)) (by repeat (first|(with_reducible first|exact HK.out|apply Kept.alloc|apply Kept.drewN|apply Kept.drew)|exact HK.out)) hb);have n2_:=bs hb;have n3_:=Aside0.mk (hbox);have n4_:=Aside0.mk ((by rw [hg];exact (by first|exact HK.out.1|exact (show Kept w _ (fun k_=>P0_ k_) from by repeat (first|(with_reducible first|exact HK.out|apply Kept.alloc|apply Kept.drewN|apply Kept.drew)|exact HK.out)).1):w.heap.size≤gb235));have n5_:=Aside0.mk ((by rw [hg];exact (below_size be):w0.heap.size≤gb235));clear HO0;clear HK;clear HB;have HO0:=n0_;have HK:=n1_;have HB:=n2_;have BK235:=n3_;have GW235:=n4_;have GE235:=n5_;clear n0_ n1_ n2_ n3_ n4_ n5_;clear hb hbox hg))
 have n0_:=Aside0.mk (Kd.R_drew HO0.out);have n1_:=Aside0.mk (blk_drew BK235.out);have n2_:=Aside0.mk (Kept.drew HK.out);have n3_:=Aside0.mk (below_drew1 HB.out);clear HO0 BK235 HK HB;have HO0:=n0_;have BK235:=n1_;have HK:=n2_;have HB:=n3_;clear n0_ n1_ n2_ n3_
 obtain ⟨Ao11,co11,eo11⟩:=Kd.R_slice HO0.out
 (first|subst eo11|(injection eo11 with f1_ f2_ f3_;have f4_:=f1_.symm;have f5_:=f3_.symm;clear f1_ f2_ f3_;subst f4_;subst f5_))
 refine start_ (n:=14) (S:=fun w'=>w'.cell? ⟨gb235,0,none⟩=some (.int .i64 a1_0)∧w'.cell? ⟨gb235,1,none⟩=some (.int .i64 a1_1)∧w'.cell? ⟨gb235,2,none⟩=some (.int .i64 a1_2)) (ds:=[]) (fl 14 0) (by kernel_rfl) rfl rfl ⟨(blk_cell BK235.out 0).trans rfl,(blk_cell BK235.out 1).trans rfl,(blk_cell BK235.out 2).trans rfl⟩ (fun hHeld=>?_);refine with_tabW impl_addStamp.tab1 impl_addStamp.bits1 (fun HT_ HW_=>?_)
 generalize w9.drew=w10 at HO0 BK235 HK HB hHeld ⊢
 refine pt 0 7 (fl 14 1) HT_ ?_
 refine pt 1 8 (fl 14 3) HT_ ?_
 refine pt 4 11 (fl 14 19) HT_ ?_
 refine pt 7 14 (fl 14 147) HT_ ?_
 refine pt 10 17 (fl 14 1171) HT_ ?_
 refine tt 2 9 (fl 14 1175) HT_ HW_ hHeld ?_
 refine tt 5 12 (fl 14 1207) HT_ HW_ hHeld ?_
 refine tt 8 15 (fl 14 1463) HT_ HW_ hHeld ?_
 refine ot 3 (some 10) (fl 14 1471) HT_ (fun K hK=>?_)
 refine goes_ Try.func121 (by kernel_rfl) rfl #[.slice Ao11 l0.length co11,.int .i64 a1_0] (by rfl) rfl rfl (by (try simp only [List.map_toArray,List.map_cons,List.map_nil]);first|done|rfl|(simp only [List.length_drop,List.length_take];rfl)) ?_
 with_reducible refine (impl_addNum.calls k (fun k_=>some k_=(.slice Ao11 l0.length co11:Value).ownBlock) (.slice Ao11 l0.length co11) l0 a1_0 t236 w0 _ ?side1 ?side2 A4.out).mono ?_
 (case side1=>exact be)
 (case side2=>exact Kd.R_tight rfl HO0.out)
 rintro e w12 ⟨v237,rfl,ho0,hb,hkp⟩
 refine ⟨_,rfl,?_⟩
 have n0_:=Aside0.mk (blk_kept (bk BK235) hkp (fun hs_=>(fun e_=>(Kd.R_ne HO0.out BK235.out (by decide)) e_) hs_));have n1_:=Aside0.mk (Kd.R_mono (ok':=fun k_=>(P0_ k_ ∨ w.heap.size≤k_)) ho0 (fun k_ hk_=>Or.elim hk_ (fun hs_=>(HO0.out.1 k_ (hs_).symm)) (fun hn_=>(.inr (Nat.le_trans (by first|exact HK.out.1|exact (show Kept w _ (fun k_=>P0_ k_) from by repeat (first|(with_reducible first|exact HK.out|apply Kept.alloc|apply Kept.drewN|apply Kept.drew|refine Kept.setCell ?_ (.inr GW235.out) _)|exact HK.out)).1) hn_)))));have n2_:=Aside0.mk (Kept.then_ (S:=(fun k_=>P0_ k_)) (by repeat (first|(with_reducible first|exact HK.out|apply Kept.alloc|apply Kept.drewN|apply Kept.drew|refine Kept.setCell ?_ (.inr GW235.out) _)|exact HK.out)) hkp (fun k_ hs_=>(fun e_=>(HO0.out.1 k_ e_.symm)) hs_));have n3_:=Aside0.mk (hb);clear BK235 HK HB HO0;have BK235:=n0_;have HO238:=n1_;have HK:=n2_;have HB:=n3_;clear n0_ n1_ n2_ n3_;(try clear hb);(try clear hkp);(try clear ho0)
 obtain ⟨Ao13,co13,eo13⟩:=Kd.R_slice HO238.out
 (first|subst eo13|(injection eo13 with f1_ f2_ f3_;have f4_:=f1_.symm;have f5_:=f3_.symm;clear f1_ f2_ f3_;subst f4_;subst f5_))
 refine hK.out _ _ ⟨(blk_cell BK235.out 0).trans rfl,(blk_cell BK235.out 1).trans rfl,(blk_cell BK235.out 2).trans rfl⟩ (fun hHeld=>?_)
 clear hK K
 refine no 10 ?_
 refine ot 6 (some 13) (fl 14 1535) HT_ (fun K hK=>?_)
 refine goes_ Try.func121 (by kernel_rfl) rfl #[.slice Ao13 t236.length co13,.int .i64 a1_1] (by rfl) rfl rfl (by (try simp only [List.map_toArray,List.map_cons,List.map_nil]);first|done|rfl|(simp only [List.length_drop,List.length_take];rfl)) ?_
 with_reducible refine (impl_addNum.calls k (fun k_=>some k_=(.slice Ao13 t236.length co13:Value).ownBlock) (.slice Ao13 t236.length co13) t236 a1_1 t239 w0 _ ?side1 ?side2 A5.out).mono ?_
 (case side1=>exact be)
 (case side2=>exact Kd.R_tight rfl HO238.out)
 rintro e w14 ⟨v240,rfl,ho0,hb,hkp⟩
 refine ⟨_,rfl,?_⟩
 have n0_:=Aside0.mk (blk_kept (bk BK235) hkp (fun hs_=>(fun e_=>(Kd.R_ne HO238.out BK235.out (by decide)) e_) hs_));have n1_:=Aside0.mk (Kd.R_mono (ok':=fun k_=>(P0_ k_ ∨ w.heap.size≤k_)) ho0 (fun k_ hk_=>Or.elim hk_ (fun hs_=>(HO238.out.1 k_ (hs_).symm)) (fun hn_=>(.inr (Nat.le_trans (by first|exact HK.out.1|exact (show Kept w _ (fun k_=>P0_ k_) from by repeat (first|(with_reducible first|exact HK.out|apply Kept.alloc|apply Kept.drewN|apply Kept.drew|refine Kept.setCell ?_ (.inr GW235.out) _)|exact HK.out)).1) hn_)))));have n2_:=Aside0.mk (Kept.then_ (S:=(fun k_=>P0_ k_)) (by repeat (first|(with_reducible first|exact HK.out|apply Kept.alloc|apply Kept.drewN|apply Kept.drew|refine Kept.setCell ?_ (.inr GW235.out) _)|exact HK.out)) hkp (fun k_ hs_=>(fun e_=>(HO238.out.1 k_ e_.symm)) hs_));have n3_:=Aside0.mk (hb);clear BK235 HK HB HO238;have BK235:=n0_;have HO241:=n1_;have HK:=n2_;have HB:=n3_;clear n0_ n1_ n2_ n3_;(try clear hb);(try clear hkp);(try clear ho0)
 obtain ⟨Ao15,co15,eo15⟩:=Kd.R_slice HO241.out
 (first|subst eo15|(injection eo15 with f1_ f2_ f3_;have f4_:=f1_.symm;have f5_:=f3_.symm;clear f1_ f2_ f3_;subst f4_;subst f5_))
 refine hK.out _ _ ⟨(blk_cell BK235.out 0).trans rfl,(blk_cell BK235.out 1).trans rfl,(blk_cell BK235.out 2).trans rfl⟩ (fun hHeld=>?_)
 clear hK K
 refine no 13 ?_
 refine ot 9 (some 16) (fl 14 2047) HT_ (fun K hK=>?_)
 refine goes_ Try.func121 (by kernel_rfl) rfl #[.slice Ao15 t239.length co15,.int .i64 a1_2] (by rfl) rfl rfl (by (try simp only [List.map_toArray,List.map_cons,List.map_nil]);first|done|rfl|(simp only [List.length_drop,List.length_take];rfl)) ?_
 with_reducible refine (impl_addNum.calls k (fun k_=>some k_=(.slice Ao15 t239.length co15:Value).ownBlock) (.slice Ao15 t239.length co15) t239 a1_2 t242 w0 _ ?side1 ?side2 A6.out).mono ?_
 (case side1=>exact be)
 (case side2=>exact Kd.R_tight rfl HO241.out)
 rintro e w16 ⟨v243,rfl,ho0,hb,hkp⟩
 refine ⟨_,rfl,?_⟩
 have n0_:=Aside0.mk (blk_kept (bk BK235) hkp (fun hs_=>(fun e_=>(Kd.R_ne HO241.out BK235.out (by decide)) e_) hs_));have n1_:=Aside0.mk (Kd.R_mono (ok':=fun k_=>(P0_ k_ ∨ w.heap.size≤k_)) ho0 (fun k_ hk_=>Or.elim hk_ (fun hs_=>(HO241.out.1 k_ (hs_).symm)) (fun hn_=>(.inr (Nat.le_trans (by first|exact HK.out.1|exact (show Kept w _ (fun k_=>P0_ k_) from by repeat (first|(with_reducible first|exact HK.out|apply Kept.alloc|apply Kept.drewN|apply Kept.drew|refine Kept.setCell ?_ (.inr GW235.out) _)|exact HK.out)).1) hn_)))));have n2_:=Aside0.mk (Kept.then_ (S:=(fun k_=>P0_ k_)) (by repeat (first|(with_reducible first|exact HK.out|apply Kept.alloc|apply Kept.drewN|apply Kept.drew|refine Kept.setCell ?_ (.inr GW235.out) _)|exact HK.out)) hkp (fun k_ hs_=>(fun e_=>(HO241.out.1 k_ e_.symm)) hs_));have n3_:=Aside0.mk (hb);clear BK235 HK HB HO241;have BK235:=n0_;have HO244:=n1_;have HK:=n2_;have HB:=n3_;clear n0_ n1_ n2_ n3_;(try clear hb);(try clear hkp);(try clear ho0)
 refine hK.out _ _ ⟨(blk_cell BK235.out 0).trans rfl,(blk_cell BK235.out 1).trans rfl,(blk_cell BK235.out 2).trans rfl⟩ (fun hHeld=>?_)
 clear hK K
 refine no 16 ?_
 refine ot 11 (some 18) (fl 14 4095) HT_ (fun K hK=>?_)
 refine goes_ Try.func122 (by kernel_rfl) rfl #[.bool a2] (by rfl) rfl rfl (by (try simp only [List.map_toArray,List.map_cons,List.map_nil]);first|done|rfl|(simp only [List.length_drop,List.length_take];rfl)) ?_
 with_reducible refine (impl_bit.calls a2 t245 _ A7.out).mono ?_
 rintro e w' ⟨rfl,⟨nd,rfl⟩⟩
 refine ⟨_,rfl,?_⟩
 obtain ⟨Ao17,co17,eo17⟩:=Kd.R_slice HO244.out
 (first|subst eo17|(injection eo17 with f1_ f2_ f3_;have f4_:=f1_.symm;have f5_:=f3_.symm;clear f1_ f2_ f3_;subst f4_;subst f5_))
 refine hK.out _ _ ⟨(blk_cell BK235.out 0).trans rfl,(blk_cell BK235.out 1).trans rfl,(blk_cell BK235.out 2).trans rfl⟩ (fun hHeld=>?_)
 clear hK K
 refine no 18 ?_
 refine ot 12 (some 19) (fl 14 8191) HT_ (fun K hK=>?_)
 refine goes_ Try.func121 (by kernel_rfl) rfl #[.slice Ao17 t242.length co17,.int .i64 t245] (by rfl) rfl rfl (by (try simp only [List.map_toArray,List.map_cons,List.map_nil]);first|done|rfl|(simp only [List.length_drop,List.length_take];rfl)) ?_
 with_reducible refine (impl_addNum.calls k (fun k_=>some k_=(.slice Ao17 t242.length co17:Value).ownBlock) (.slice Ao17 t242.length co17) t242 t245 t246 w0 _ ?side1 ?side2 A8.out).mono ?_
 (case side1=>exact be)
 (case side2=>exact Kd.R_tight rfl HO244.out)
 rintro e w18 ⟨v247,rfl,ho0,hb,hkp⟩
 refine ⟨_,rfl,?_⟩
 have n0_:=Aside0.mk (blk_kept (bk BK235) hkp (fun hs_=>(fun e_=>(Kd.R_ne HO244.out BK235.out (by decide)) e_) hs_));have n1_:=Aside0.mk (Kd.R_mono (ok':=fun k_=>(P0_ k_ ∨ w.heap.size≤k_)) ho0 (fun k_ hk_=>Or.elim hk_ (fun hs_=>(HO244.out.1 k_ (hs_).symm)) (fun hn_=>(.inr (Nat.le_trans (by first|exact HK.out.1|exact (show Kept w _ (fun k_=>P0_ k_) from by repeat (first|(with_reducible first|exact HK.out|apply Kept.alloc|apply Kept.drewN|apply Kept.drew|refine Kept.setCell ?_ (.inr GW235.out) _)|exact HK.out)).1) hn_)))));have n2_:=Aside0.mk (Kept.then_ (S:=(fun k_=>P0_ k_)) (by repeat (first|(with_reducible first|exact HK.out|apply Kept.alloc|apply Kept.drewN|apply Kept.drew|refine Kept.setCell ?_ (.inr GW235.out) _)|exact HK.out)) hkp (fun k_ hs_=>(fun e_=>(HO244.out.1 k_ e_.symm)) hs_));have n3_:=Aside0.mk (hb);clear BK235 HK HB HO244;have BK235:=n0_;have HO248:=n1_;have HK:=n2_;have HB:=n3_;clear n0_ n1_ n2_ n3_;(try clear hb);(try clear hkp);(try clear ho0)
 refine hK.out _ _ ⟨(blk_cell BK235.out 0).trans rfl,(blk_cell BK235.out 1).trans rfl,(blk_cell BK235.out 2).trans rfl⟩ (fun hHeld=>?_)
 clear hK K
 refine no 19 ?_
 refine pt 13 6 (fl 14 16383) HT_ ?_
 refine done_ (done_of HT_.out (by kernel_rfl)) ?_
 try go_wp2
 go_ret
 exact ⟨_,rz,rR HO248,be,by repeat (first|(with_reducible first|exact HK.out|apply Kept.alloc|apply Kept.drewN|apply Kept.drew|refine Kept.setCell ?_ (.inr GW235.out) _)|exact HK.out)⟩
mutual
def impl_Crc.l0:Nat→Int→List Int→Int→Int→Option (Int)
 | 0,_,_,_,_=>none
 | k+1,x3,x7,x8,x9=>if x9 < x8 then (if 0≤x9 then (if x9 < (x7.length:Int) then (impl_Crc.l1 k (Go.bits .xor .u32 x3 ((rd x7 x9) % 4294967296)) x7 x8 x9 0) else (none)) else (none)) else (some (wrap64 (Go.bits .xor .u32 4294967295 x3)))
def impl_Crc.l1:Nat→Int→List Int→Int→Int→Int→Option (Int)
 | 0,_,_,_,_,_=>none
 | k+1,x3,x7,x8,x9,x17=>if x17 < 8 then (if (Go.bits .and .u32 x3 1)=1 then (impl_Crc.l1 k (Go.bits .xor .u32 (x3 / 2) 2197175160) x7 x8 x9 (wrap64 (x17+1))) else (impl_Crc.l1 k (x3 / 2) x7 x8 x9 (wrap64 (x17+1)))) else (impl_Crc.l0 k x3 x7 x8 (wrap64 (x9+1)))
end
def impl_Crc.f (k:Nat) (l0:List Int):Option (Int):=impl_Crc.l0 k 4294967295 l0 (l0.length:Int) 0
set_option maxHeartbeats 8000000 in
set_option maxRecDepth 100000 in
theorem impl_Crc.calls (k:Nat) (A0:Option Addr) (c0:Nat) (l0:List Int) (r:Int) (w:World) (hr0:Kd.C (Kd.int .u8) w A0 l0.length l0) (hc0:l0.length≤c0) (h:impl_Crc.f k l0=some r) :
  Calls Try.prog 95 #[.slice A0 l0.length c0] w fun e w'=>e = .returned (.int .i64 r)∧Drawn0 w w':=by
 have HR0:=Aside0.mk hr0
 have HC0:=Aside0.mk hc0
 clear hr0 hc0
 have H:(impl_Crc.l0 k 4294967295 l0 (l0.length:Int) 0)=some r:=h
 clear h
 have H':=Aside0.mk H
 clear H
 go_enter Try.func95,Try.ntmps95
 go_wp2
 go_loopg [3,9] k (fun kq v3 v9 w'=>∃ (x3_1:Int) (x9_1:Int),v3 = .int .u32 x3_1∧v9 = .int .i64 x9_1∧Aside0 (impl_Crc.l0 kq x3_1 l0 (l0.length:Int) x9_1=some r)∧Aside0 (kq≤k)∧Drawn0 w w')
 case atStart=>exact ⟨(4294967295),(0),rd_,rd_,H',⟨Nat.le_refl _⟩,by repeat (first|exact Drawn0.refl _|apply Drawn0.step)⟩
 case round=>
  clear H'
  obtain ⟨x3_1,x9_1,rfl,rfl,HA,HK1,⟨m1,rfl⟩⟩:=hrel
  cases gk with
  | zero=>exact absurd HA.out (by simp [impl_Crc.l0])
  | succ k1=>
   have H:=HA.out
   clear HA
   simp only [impl_Crc.l0] at H
   by_cases c2:x9_1 < (l0.length:Int)
   ·rw [if_pos c2] at H
    have c2b0:decide (x9_1 < (l0.length:Int))=true:=decide_eq_true c2
    clear c2
    by_cases c3:0≤x9_1
    ·rw [if_pos c3] at H
     have c3b0:decide (0≤x9_1)=true:=decide_eq_true c3
     clear c3
     by_cases c4:x9_1 < (l0.length:Int)
     ·rw [if_pos c4] at H
      have c4b0:decide (x9_1 < (l0.length:Int))=true:=decide_eq_true c4
      clear c4
      have H':=Aside0.mk H
      clear H
      have p249:0≤(x9_1:Int):=of_decide_eq_true (by first|(with_reducible assumption)|assumption)
      have q249:x9_1 < (l0.length:Int):=of_decide_eq_true (by first|(with_reducible assumption)|assumption)
      obtain ⟨ad249,e249,hx249_0⟩:=Kd.at_int HR0.out x9_1 p249 q249
      cases e249
      replace p249:=eq_true p249
      replace q249:=eq_true q249
      go_wp2
      go_loopg [3,17] k1 (fun kq v3 v17 w'=>∃ (x3_2:Int) (x17_2:Int),v3 = .int .u32 x3_2∧v17 = .int .i64 x17_2∧Aside0 (impl_Crc.l1 kq x3_2 l0 (l0.length:Int) x9_1 x17_2=some r)∧Aside0 (kq≤k1)∧Drawn0 w w')
      case atStart=>exact ⟨(Go.bits .xor .u32 x3_1 ((rd l0 x9_1) % 4294967296)),(0),rd_,rd_,H',⟨Nat.le_refl _⟩,by repeat (first|exact Drawn0.refl _|apply Drawn0.step)⟩
      case round=>
       clear H'
       try clear c2
       try clear c2b0
       try clear p2
       try clear q2
       try clear hx2
       try clear c3
       try clear c3b0
       try clear c4
       try clear c4b0
       try clear hx249_0
       try clear p249
       try clear q249
       obtain ⟨x3_2,x17_2,rfl,rfl,HA,HK2,⟨m2,rfl⟩⟩:=hrel
       cases gk with
       | zero=>exact absurd HA.out (by simp [impl_Crc.l1])
       | succ k2=>
        have H:=HA.out
        clear HA
        simp only [impl_Crc.l1] at H
        by_cases c5:x17_2 < 8
        ·rw [if_pos c5] at H
         have c5b0:decide (x17_2 < 8)=true:=decide_eq_true c5
         clear c5
         by_cases c6:(Go.bits .and .u32 x3_2 1)=1
         ·rw [if_pos c6] at H
          have c6b0:((Go.bits .and .u32 x3_2 1) == 1)=true:=beq_iff_eq.mpr c6
          have c6b1:((Go.bits .and .u32 x3_2 1) != 1)=false:=bne_eq_false_iff_eq.mpr c6
          clear c6
          have H':=Aside0.mk H
          clear H
          go_wp2
          go_roundg k2
          case measure=>have:=HK1.out;have:=HK2.out;omega
          case rel=>exact ⟨(Go.bits .xor .u32 (x3_2 / 2) 2197175160),(wrap64 (x17_2+1)),rd_,rd_,H',⟨by have:=HK1.out;have:=HK2.out;omega⟩,by repeat (first|exact Drawn0.refl _|apply Drawn0.step)⟩
         ·rw [if_neg c6] at H
          have c6b0:((Go.bits .and .u32 x3_2 1) == 1)=false:=beq_eq_false_iff_ne.mpr c6
          have c6b1:((Go.bits .and .u32 x3_2 1) != 1)=true:=bne_iff_ne.mpr c6
          have H':=Aside0.mk H
          clear H
          go_wp2
          go_roundg k2
          case measure=>have:=HK1.out;have:=HK2.out;omega
          case rel=>exact ⟨(x3_2 / 2),(wrap64 (x17_2+1)),rd_,rd_,H',⟨by have:=HK1.out;have:=HK2.out;omega⟩,by repeat (first|exact Drawn0.refl _|apply Drawn0.step)⟩
        ·rw [if_neg c5] at H
         have c5b0:decide (x17_2 < 8)=false:=decide_eq_false c5
         clear c5
         have H':=Aside0.mk H
         clear H
         go_wp2
         go_roundg k2
         case measure=>have:=HK1.out;have:=HK2.out;omega
         case rel=>exact ⟨(x3_2),(wrap64 (x9_1+1)),rd_,rd_,H',⟨by have:=HK1.out;have:=HK2.out;omega⟩,by repeat (first|exact Drawn0.refl _|apply Drawn0.step)⟩
     ·rw [if_neg c4] at H
      exact absurd H (by simp)
    ·rw [if_neg c3] at H
     exact absurd H (by simp)
   ·rw [if_neg c2] at H
    have c2b0:decide (x9_1 < (l0.length:Int))=false:=decide_eq_false c2
    clear c2
    obtain rfl:=Option.some.inj H
    go_wp2
    go_ret
    exact ⟨by first|rfl|(simp;done)|(simp [*];done),by repeat (first|exact Drawn0.refl _|apply Drawn0.step)⟩
def impl_PutFile.f (k:Nat) (a0_0:Int) (a0_1:Int) (a0_2:Int) (a0_3:Bool) (l0_4:List Int):Option (List Int):=(impl_FileOk.f a0_0 a0_1 a0_2 a0_3 l0_4).bind fun t251=>(if t251=true then ((impl_addStamp.f k ([]:List Int) a0_0 a0_1 a0_2 a0_3).bind fun t252=>((impl_addText.f k t252 (strOfNums l0_4)).bind fun t255=>((impl_Crc.f k t255).bind fun t258=>((some (([(t258 / 16777216) % 256,(t258 / 65536) % 256,(t258 / 256) % 256,(t258) % 256]:List Int):List Int)).bind fun y259=>(if t255.length+y259.length < 140737488355328 then (some (t255 ++ y259)) else (none)))))) else (some ([]:List Int)))
def impl_PutFile.T3:Bool × List (List Nat × List Nat):=(true,[([],[]),([0],[0]),([],[]),([2],[2]),([1,3],[1,3]),([],[]),([5],[5]),([6],[6]),([4,7,4],[4,7]),([8,8,0,1,2,3,4,5,6,7,8],[8])])
def impl_PutFile.B3:List Nat:=[0,1,0,4,15,0,32,96,255,511]
theorem impl_PutFile.tab3:rtab .any (opsOf Try.f37 3)=impl_PutFile.T3:=by kernel_rfl
theorem impl_PutFile.bits3:waitsOk impl_PutFile.T3.2 impl_PutFile.B3=true:=by kernel_rfl
set_option maxHeartbeats 8000000 in
set_option maxRecDepth 100000 in
theorem impl_PutFile.calls (k:Nat) (a0_0:Int) (a0_1:Int) (a0_2:Int) (a0_3:Bool) (A0_4:Option Addr) (c0_4:Nat) (l0_4:List Int) (r:List Int) (w:World) (hr0_4:Kd.C (Kd.int .u8) w A0_4 l0_4.length l0_4) (hc0_4:l0_4.length≤c0_4) (h:impl_PutFile.f k a0_0 a0_1 a0_2 a0_3 l0_4=some r) :
  Calls Try.prog 37 #[.agg #[.int .i64 a0_0,.int .i64 a0_1,.int .i64 a0_2,.bool a0_3,.slice A0_4 l0_4.length c0_4]] w fun e w'=>∃ v0_:Value,e = .returned (v0_)∧Kd.R (Kd.int .u8) 5 w' w.heap.size (fun _=>True) v0_ r∧Below w.heap.size w w':=by
 have hu61:=Try.underlying61
 have hu59:=Try.underlying59
 have HR0_4:=Aside0.mk hr0_4
 have HC0_4:=Aside0.mk hc0_4
 clear hr0_4 hc0_4
 have HB:=Aside0.mk (Below.refl w.heap.size w)
 have H:((impl_FileOk.f a0_0 a0_1 a0_2 a0_3 l0_4).bind fun t251=>(if t251=true then ((impl_addStamp.f k ([]:List Int) a0_0 a0_1 a0_2 a0_3).bind fun t252=>((impl_addText.f k t252 (strOfNums l0_4)).bind fun t255=>((impl_Crc.f k t255).bind fun t258=>((some (([(t258 / 16777216) % 256,(t258 / 65536) % 256,(t258 / 256) % 256,(t258) % 256]:List Int):List Int)).bind fun y259=>(if t255.length+y259.length < 140737488355328 then (some (t255 ++ y259)) else (none)))))) else (some ([]:List Int))))=some r:=h
 clear h
 replace H:=Option.bind_eq_some_iff.mp H
 obtain ⟨t251,A20,H⟩:=H
 try dsimp only at H
 have A2:=Aside0.mk A20
 clear A20
 by_cases c3:t251=true
 ·subst c3
  rw [if_pos rfl] at H
  replace H:=Option.bind_eq_some_iff.mp H
  obtain ⟨t252,A40,H⟩:=H
  try dsimp only at H
  have A4:=Aside0.mk A40
  clear A40
  replace H:=Option.bind_eq_some_iff.mp H
  obtain ⟨t255,A50,H⟩:=H
  try dsimp only at H
  have A5:=Aside0.mk A50
  clear A50
  replace H:=Option.bind_eq_some_iff.mp H
  obtain ⟨t258,A60,H⟩:=H
  try dsimp only at H
  have A6:=Aside0.mk A60
  clear A60
  obtain ⟨y259,hy259⟩ : ∃ y_:List Int,y_=(([(t258 / 16777216) % 256,(t258 / 65536) % 256,(t258 / 256) % 256,(t258) % 256]:List Int)):=⟨_,rfl⟩
  replace H:(if t255.length+y259.length < 140737488355328 then (some (t255 ++ y259)) else (none))=some r:=by first|(rw [hy259];with_reducible exact H)|(have H2_:=(Option.bind_some _ _).symm.trans H;rw [hy259];with_reducible exact H2_)|(have H2_:=(Option.bind_some _ _).symm.trans H;with_reducible exact H2_)|with_reducible exact H|(rw [hy259];exact H)|exact H
  have Ny259:=Aside0.mk hy259
  clear hy259
  by_cases c7:t255.length+y259.length < 140737488355328
  ·rw [if_pos c7] at H
   have LMc7:=Aside0.mk c7
   clear c7
   obtain ⟨y262,hy262⟩ : ∃ y_:List Int,y_=(t255 ++ y259):=⟨_,rfl⟩
   replace H:(some y262)=some r:=by first|(rw [hy262];with_reducible exact H)|(have H2_:=(Option.bind_some _ _).symm.trans H;rw [hy262];with_reducible exact H2_)|(have H2_:=(Option.bind_some _ _).symm.trans H;with_reducible exact H2_)|with_reducible exact H|(rw [hy262];exact H)|exact H
   have Ny262:=Aside0.mk hy262
   clear hy262
   obtain rfl:=Option.some.inj H
   go_enter Try.func37,Try.ntmps37
   try go_wp2_with (first|((with_reducible refine gate_dst (N:=1) rfl ?_);refine box_event ?hg (N:=1) ?hd (cs:=#[.int .i64 a0_0,.int .i64 a0_1,.int .i64 a0_2,.bool a0_3,.slice A0_4 l0_4.length c0_4]) (t:=61) ?hr ?_;(case hd=>rfl);(case hg=>rfl);(case hr=>first|(go_simp;done)|(go_simp;rfl));intro gb250 hg w8 hbox hb;have n0_:=bs hb;have n1_:=Aside0.mk (hbox);have n2_:=Aside0.mk ((by rw [hg];exact (below_size be):w.heap.size≤gb250));have n3_:=Aside0.mk ((by rw [hg];exact (below_size be):w.heap.size≤gb250));clear HB;have HB:=n0_;have BK250:=n1_;have GW250:=n2_;have GE250:=n3_;clear n0_ n1_ n2_ n3_;clear hb hbox hg;have hcz9_0:w8.cell? ⟨gb250,0,none⟩=some (.int .i64 a0_0):=(blk_cell BK250.out 0).trans rfl;have hcz9_1:w8.cell? ⟨gb250,1,none⟩=some (.int .i64 a0_1):=(blk_cell BK250.out 1).trans rfl;have hcz9_2:w8.cell? ⟨gb250,2,none⟩=some (.int .i64 a0_2):=(blk_cell BK250.out 2).trans rfl;have hcz9_3:w8.cell? ⟨gb250,3,none⟩=some (.bool a0_3):=(blk_cell BK250.out 3).trans rfl;have hcz9_4:w8.cell? ⟨gb250,4,none⟩=some (.slice A0_4 l0_4.length c0_4):=(blk_cell BK250.out 4).trans rfl;have hfz9_0:=blk_frozen BK250.out 0;have hfz9_1:=blk_frozen BK250.out 1;have hfz9_2:=blk_frozen BK250.out 2;have hfz9_3:=blk_frozen BK250.out 3;have hfz9_4:=blk_frozen BK250.out 4)|((with_reducible refine gate_callee (f:=66) rfl ?_);refine goesL_ (some 6) rfl rfl Try.func66 (by kernel_rfl) rfl #[.agg #[.int .i64 a0_0,.int .i64 a0_1,.int .i64 a0_2,.bool a0_3,.slice A0_4 l0_4.length c0_4]] rfl (by (try simp only [List.map_toArray,List.map_cons,List.map_nil]);first|done|rfl|(simp only [List.length_drop,List.length_take];rfl)) ?_;(with_reducible refine (impl_FileOk.calls a0_0 a0_1 a0_2 a0_3 _ _ l0_4 true _ ?side1 ?side2 A2.out).mono ?_);(case side1=>exact rC HR0_4);(case side2=>exact HC0_4.out);rintro e w10 ⟨rfl,hb⟩;refine ⟨_,rfl,?_⟩;have n0_:=Aside0.mk (blk_below (g:=gb250) (o:=.cells #[.int .i64 a0_0,.int .i64 a0_1,.int .i64 a0_2,.bool a0_3,.slice A0_4 l0_4.length c0_4] 61 (0,0)) (bk BK250) hb);have n1_:=bs hb;clear BK250;clear HB;have BK250:=n0_;have HB:=n1_;clear n0_ n1_;(try clear hb);(try clear hb2);(try clear hk);(try clear hi)))
   have n0_:=Aside0.mk (blk_drew BK250.out);have n1_:=Aside0.mk (below_drew1 HB.out);clear BK250 HB;have BK250:=n0_;have HB:=n1_;clear n0_ n1_
   refine start_ (n:=10) (S:=fun w'=>w'.cell? ⟨gb250,0,none⟩=some (.int .i64 a0_0)∧w'.cell? ⟨gb250,1,none⟩=some (.int .i64 a0_1)∧w'.cell? ⟨gb250,2,none⟩=some (.int .i64 a0_2)∧w'.cell? ⟨gb250,3,none⟩=some (.bool a0_3)∧w'.cell? ⟨gb250,4,none⟩=some (.slice A0_4 l0_4.length c0_4)∧Kd.C (Kd.int .u8) w' A0_4 l0_4.length l0_4) (ds:=[]) (fl 10 0) (by kernel_rfl) rfl rfl ⟨(blk_cell BK250.out 0).trans rfl,(blk_cell BK250.out 1).trans rfl,(blk_cell BK250.out 2).trans rfl,(blk_cell BK250.out 3).trans rfl,(blk_cell BK250.out 4).trans rfl,Kd.C_below HR0_4.out be⟩ (fun hHeld=>?_);refine with_tabW impl_PutFile.tab3 impl_PutFile.bits3 (fun HT_ HW_=>?_)
   generalize w10.drew=w11 at BK250 HB hHeld ⊢
   refine pt 0 8 (fl 10 1) HT_ ?_
   refine pt 2 10 (fl 10 5) HT_ ?_
   refine pt 5 13 (fl 10 37) HT_ ?_
   refine tt 1 9 (fl 10 39) HT_ HW_ hHeld ?_
   refine tt 3 11 (fl 10 47) HT_ HW_ hHeld ?_
   refine tt 6 14 (fl 10 111) HT_ HW_ hHeld ?_
   refine take_ (i:=7) (N:=some 15) (v:=?_) (a':=?_) (fl 10 239) rfl rfl (take_ofW HT_.out HW_.out (by kernel_rfl)) (fun _ _ _ h=>h) (Or.inl ⟨by rfl,?_⟩) hHeld ?_ ?_
   rotate_left
   ·rintro w' ⟨s0,s1,s2,s3,s4,s5⟩
    have hcv_:=Kd.C_string (P:=Try.prog) (A:=A0_4) (c:=c0_4) Try.underlying54 Try.underlying5 Try.underlying9 s5
    go_simp
    with_reducible rfl
   rotate_left
   ·simp only [Act.put,List.setIfInBounds_toArray,List.set_cons_zero,List.set_cons_succ,i64_w,i32_w]
    rfl
   refine ot 4 (some 12) (fl 10 255) HT_ (fun K hK=>?_)
   refine goes_ Try.func94 (by kernel_rfl) rfl #[.slice none 0 0,.agg #[.int .i64 a0_0,.int .i64 a0_1,.int .i64 a0_2],.bool a0_3] (by rfl) rfl rfl (by (try simp only [List.map_toArray,List.map_cons,List.map_nil]);first|done|rfl|(simp only [List.length_drop,List.length_take];rfl)) ?_
   refine (impl_addStamp.calls k (fun k_=>some k_=(.slice none 0 0:Value).ownBlock) (.slice none 0 0) ([]:List Int) a0_0 a0_1 a0_2 a0_3 t252 w _ ?side1 ?side2 A4.out).mono ?_
   (case side1=>exact be)
   (case side2=>exact Kd.R_nil _ _ _ _ _)
   rintro e w12 ⟨v253,rfl,ho0,hb,hkp⟩
   refine ⟨_,rfl,?_⟩
   have n0_:=Aside0.mk (blk_kept (bk BK250) hkp (fun hs_=>(fun e_=>by simp [Value.ownBlock] at e_) hs_));have n1_:=Aside0.mk (Kd.R_mono (ok':=fun k_=>True) ho0 (fun k_ hk_=>trivial));have n2_:=Aside0.mk (hb);clear BK250 HB;have BK250:=n0_;have HO254:=n1_;have HB:=n2_;clear n0_ n1_ n2_;(try clear hb);(try clear hkp);(try clear ho0)
   have hcv13:=Kd.C_string (P:=Try.prog) (A:=A0_4) (c:=c0_4) Try.underlying54 Try.underlying5 Try.underlying9 (Kd.C_below HR0_4.out HB.out)
   have hcw14:=fun (n_:Nat)=>Kd.C_string (P:=Try.prog) (A:=A0_4) (c:=c0_4) Try.underlying54 Try.underlying5 Try.underlying9 (Kd.C_drewN ((Kd.C_below HR0_4.out HB.out)) n_)
   obtain ⟨Ao16,co16,eo16⟩:=Kd.R_slice HO254.out
   (first|subst eo16|(injection eo16 with f1_ f2_ f3_;have f4_:=f1_.symm;have f5_:=f3_.symm;clear f1_ f2_ f3_;subst f4_;subst f5_))
   refine hK.out _ _ ⟨(blk_cell BK250.out 0).trans rfl,(blk_cell BK250.out 1).trans rfl,(blk_cell BK250.out 2).trans rfl,(blk_cell BK250.out 3).trans rfl,(blk_cell BK250.out 4).trans rfl,Kd.C_below HR0_4.out be⟩ (fun hHeld=>?_)
   clear hK K
   refine no 12 ?_
   refine ot 8 (some 16) (fl 10 511) HT_ (fun K hK=>?_)
   refine goes_ Try.func93 (by kernel_rfl) rfl #[.slice Ao16 t252.length co16,.string (strOfNums l0_4)] (by rfl) rfl rfl (by (try simp only [List.map_toArray,List.map_cons,List.map_nil]);first|done|rfl|(simp only [List.length_drop,List.length_take];rfl)) ?_
   with_reducible refine (impl_addText.calls k (fun k_=>some k_=(.slice Ao16 t252.length co16:Value).ownBlock) (.slice Ao16 t252.length co16) t252 (strOfNums l0_4) t255 w _ ?side1 ?side2 A5.out).mono ?_
   (case side1=>exact be)
   (case side2=>exact Kd.R_tight rfl HO254.out)
   rintro e w17 ⟨v256,rfl,ho0,hb,hkp⟩
   refine ⟨_,rfl,?_⟩
   have n0_:=Aside0.mk (blk_kept (bk BK250) hkp (fun hs_=>(fun e_=>(Kd.R_ne HO254.out BK250.out (by decide)) e_) hs_));have n1_:=Aside0.mk (Kd.R_mono (ok':=fun k_=>True) ho0 (fun k_ hk_=>trivial));have n2_:=Aside0.mk (hb);clear BK250 HB HO254;have BK250:=n0_;have HO257:=n1_;have HB:=n2_;clear n0_ n1_ n2_;(try clear hb);(try clear hkp);(try clear ho0)
   refine hK.out _ _ ⟨(blk_cell BK250.out 0).trans rfl,(blk_cell BK250.out 1).trans rfl,(blk_cell BK250.out 2).trans rfl,(blk_cell BK250.out 3).trans rfl,(blk_cell BK250.out 4).trans rfl,Kd.C_below HR0_4.out be⟩ (fun hHeld=>?_)
   clear hK K
   refine no 16 ?_
   refine pt 9 3 (fl 10 1023) HT_ ?_
   refine done_ (done_of HT_.out (by kernel_rfl)) ?_
   obtain ⟨Ao18,co18,eo18⟩:=Kd.R_slice HO257.out
   subst eo18
   try go_wp2_with (first|((with_reducible refine gate_callee (f:=95) rfl ?_);refine goesL_ (some 18) rfl rfl Try.func95 (by kernel_rfl) rfl #[.slice Ao18 t255.length co18] rfl (by (try simp only [List.map_toArray,List.map_cons,List.map_nil]);first|done|rfl|(simp only [List.length_drop,List.length_take];rfl)) ?_;(with_reducible refine (impl_Crc.calls k _ _ t255 t258 _ ?side1 ?side2 A6.out).mono ?_);(case side1=>exact sR HO257);(case side2=>exact (Kd.R_reads' HO257.out).2.1);rintro e w' ⟨rfl,⟨nd,rfl⟩⟩;refine ⟨_,rfl,?_⟩)|((with_reducible refine gate_dst (N:=31) rfl ?_);refine Kd.R_lit (Kd.int .u8) _ 5 ?hg (N:=31) ?hd (xs:=([(t258 / 16777216) % 256,(t258 / 65536) % 256,(t258 / 256) % 256,(t258) % 256]:List Int)) (inner:=[.int .u8 ((t258 / 16777216) % 256),.int .u8 ((t258 / 65536) % 256),.int .u8 ((t258 / 256) % 256),.int .u8 ((t258) % 256)]) (ok:=fun _=>True) (okp:=fun _=>True) ?hr ?hp (fun _ hk=>hk) trivial (Below.refl _ _) (Nat.le_refl _) (by simp) ?_;(case hd=>rfl);(case hg=>rfl);(case hr=>first|(go_simp;done)|(go_simp;rfl));(case hp=>exact (Reps.one (show Kd.M (Kd.int .u8) _ _ _ ((t258 / 16777216) % 256) [.int .u8 ((t258 / 16777216) % 256)] from rfl) (Reps.one (show Kd.M (Kd.int .u8) _ _ _ ((t258 / 65536) % 256) [.int .u8 ((t258 / 65536) % 256)] from rfl) (Reps.one (show Kd.M (Kd.int .u8) _ _ _ ((t258 / 256) % 256) [.int .u8 ((t258 / 256) % 256)] from rfl) (Reps.one (show Kd.M (Kd.int .u8) _ _ _ ((t258) % 256) [.int .u8 ((t258) % 256)] from rfl) (Reps.none _ _))))));intro v260 w19 ho20 hb hg_ hnew_;clear hg_ hnew_;(first|rw [← Ny259.out] at ho20|(simp only [Int.reduceToNat] at ho20;rw [← Ny259.out] at ho20));have n0_:=Aside0.mk (Kd.R_elder' (rR HO257) (Kd.R_base ho20) hb);have n1_:=Aside0.mk (Kd.R_lower (Kd.R_new' ho20 (Kd.R_lt (rR HO257))) (below_size be));have n2_:=Aside0.mk (blk_below (g:=gb250) (o:=.cells #[.int .i64 a0_0,.int .i64 a0_1,.int .i64 a0_2,.bool a0_3,.slice A0_4 l0_4.length c0_4] 61 (0,0)) (bk BK250) hb);have n3_:=bs hb;clear HO257;clear BK250;clear HB;have HO257:=n0_;have HO261:=n1_;have BK250:=n2_;have HB:=n3_;clear n0_ n1_ n2_ n3_;clear hb ho20;obtain ⟨Ao22,co22,eo22⟩:=Kd.R_slice HO261.out;subst eo22)|((with_reducible refine gate_builtin (b:=.append) (xs:=#[.tmp 19,.tmp 31]) rfl ?_);at_builtin;refine Kd.R_append_rows (Kd.int .u8) (w0:=w) w.heap.size rfl (.tmp 19) (.tmp 31) 54 5 (.int .u8 0) 1 rfl Try.underlying54 info5 rfl (by decide) (by omega) (.slice Ao18 t255.length co18) t255 y259 _ _ _ (fun k_=>some k_ ≠ (.slice Ao22 y259.length co22:Value).ownBlock) (fun _=>False) rfl rfl ?aO ?aR (fun _ _ h=>h) (fun _ h=>h.elim) ?aF ?aB ?aS ?aL ?_;(case aR=>exact sR HO261);(case aB=>exact be);(case aF=>exact (fun k_ hk=>Kd.fresh' (Kd.R_lt (rR HO261)) k_ hk));(case aO=>exact (by (with_reducible repeat (first|apply Kd.R_alloc|apply Kd.R_drewN|apply Kd.R_drew));exact Kd.R_mono HO257.out (fun _ hk=>hk.2)));(case aS=>exact (below_size be));(case aL=>have:=LMc7.out;omega);intro v263 w21 ho hb hg hat;rw [← Ny262.out] at ho;have n0_:=Aside0.mk (blk_grown (g:=gb250) (o:=.cells #[.int .i64 a0_0,.int .i64 a0_1,.int .i64 a0_2,.bool a0_3,.slice A0_4 l0_4.length c0_4] 61 (0,0)) (bk BK250) hg (Kd.R_ne HO257.out BK250.out (by decide)));have n1_:=Aside0.mk (Kd.R_after (ok:=(fun _=>True)) (rR HO261) hg hat);have n2_:=Aside0.mk (hb);have n3_:=Aside0.mk (ho);clear BK250;clear HO261;clear HB;clear HO257;have BK250:=n0_;have HO261:=n1_;have HB:=n2_;have HO264:=n3_;clear n0_ n1_ n2_ n3_;clear ho hb hg hat))
   go_ret
   exact ⟨_,rz,by (with_reducible repeat (first|apply Kd.R_alloc|apply Kd.R_drewN|apply Kd.R_drew));exact Kd.R_mono HO264.out (fun _ hk=>trivial),be⟩
  ·rw [if_neg c7] at H
   exact absurd H (by simp)
 ·replace c3:=Bool.eq_false_iff.mpr c3
  subst c3
  replace H:=(if_neg (show ¬ (false=true) by decide)).symm.trans H
  obtain rfl:=Option.some.inj H
  go_enter Try.func37,Try.ntmps37
  go_wp2_with (first|((with_reducible refine gate_dst (N:=1) rfl ?_);refine box_event ?hg (N:=1) ?hd (cs:=#[.int .i64 a0_0,.int .i64 a0_1,.int .i64 a0_2,.bool a0_3,.slice A0_4 l0_4.length c0_4]) (t:=61) ?hr ?_;(case hd=>rfl);(case hg=>rfl);(case hr=>first|(go_simp;done)|(go_simp;rfl));intro gb250 hg w23 hbox hb;have n0_:=bs hb;have n1_:=Aside0.mk (hbox);have n2_:=Aside0.mk ((by rw [hg];exact (below_size be):w.heap.size≤gb250));have n3_:=Aside0.mk ((by rw [hg];exact (below_size be):w.heap.size≤gb250));clear HB;have HB:=n0_;have BK250:=n1_;have GW250:=n2_;have GE250:=n3_;clear n0_ n1_ n2_ n3_;clear hb hbox hg;have hcz24_0:w23.cell? ⟨gb250,0,none⟩=some (.int .i64 a0_0):=(blk_cell BK250.out 0).trans rfl;have hcz24_1:w23.cell? ⟨gb250,1,none⟩=some (.int .i64 a0_1):=(blk_cell BK250.out 1).trans rfl;have hcz24_2:w23.cell? ⟨gb250,2,none⟩=some (.int .i64 a0_2):=(blk_cell BK250.out 2).trans rfl;have hcz24_3:w23.cell? ⟨gb250,3,none⟩=some (.bool a0_3):=(blk_cell BK250.out 3).trans rfl;have hcz24_4:w23.cell? ⟨gb250,4,none⟩=some (.slice A0_4 l0_4.length c0_4):=(blk_cell BK250.out 4).trans rfl;have hfz24_0:=blk_frozen BK250.out 0;have hfz24_1:=blk_frozen BK250.out 1;have hfz24_2:=blk_frozen BK250.out 2;have hfz24_3:=blk_frozen BK250.out 3;have hfz24_4:=blk_frozen BK250.out 4)|((with_reducible refine gate_callee (f:=66) rfl ?_);refine goesL_ (some 6) rfl rfl Try.func66 (by kernel_rfl) rfl #[.agg #[.int .i64 a0_0,.int .i64 a0_1,.int .i64 a0_2,.bool a0_3,.slice A0_4 l0_4.length c0_4]] rfl (by (try simp only [List.map_toArray,List.map_cons,List.map_nil]);first|done|rfl|(simp only [List.length_drop,List.length_take];rfl)) ?_;(with_reducible refine (impl_FileOk.calls a0_0 a0_1 a0_2 a0_3 _ _ l0_4 false _ ?side1 ?side2 A2.out).mono ?_);(case side1=>exact rC HR0_4);(case side2=>exact HC0_4.out);rintro e w25 ⟨rfl,hb⟩;refine ⟨_,rfl,?_⟩;have n0_:=Aside0.mk (blk_below (g:=gb250) (o:=.cells #[.int .i64 a0_0,.int .i64 a0_1,.int .i64 a0_2,.bool a0_3,.slice A0_4 l0_4.length c0_4] 61 (0,0)) (bk BK250) hb);have n1_:=bs hb;clear BK250;clear HB;have BK250:=n0_;have HB:=n1_;clear n0_ n1_;(try clear hb);(try clear hb2);(try clear hk);(try clear hi)))
  go_ret
  exact ⟨_,rz,by first|exact Kd.R_nil _ _ _ _ _|exact Kd.N_nil _ _ _ _ _|exact Kd.V_nil _ _ _ _ _|exact Kd.Q_nil _ _ _ _ _|exact Kd.S_nil _ _ _ _ _,be⟩
end Go.Proofs.Ytbhllgifciaepaa.PFnExactGetFile
