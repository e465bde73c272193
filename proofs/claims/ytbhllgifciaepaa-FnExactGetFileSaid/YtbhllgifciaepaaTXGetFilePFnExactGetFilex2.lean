/- Trimmed by a program of this session (trim.py). Not trusted: Lean checks it. -/
import Derived.Test.YtbhllgifciaepaaTXGetFilePFnExactGetFilex0
import Derived.Test.YtbhllgifciaepaaTXGetFilePFnExactGetFilex1
namespace Go.Proofs.Ytbhllgifciaepaa.PFnExactGetFile
open Go.RowKit Go.Proofs.YtbhllgifciaepaaW.PrintWords Go.Proofs.YtbhllgifciaepaaW.PrintLast Go.Proofs.YtbhllgifciaepaaW.PrintMore Go.Proofs.Ytbhllgifciaepaa.St
attribute [local go_sem] max2_int min2_int max_two min_two max_three min_three max_four min_four
set_option linter.unusedVariables false
set_option linter.unusedSimpArgs false
mutual
def spec_PutNum.j0:Nat→Int→List Int→Option (List Int)
 | 0,_,_=>none
 | k+1,x1,x5=>if x1 < 0 then (spec_PutNum.j1 k 0 x5) else (spec_PutNum.j1 k x1 x5)
def spec_PutNum.j1:Nat→Int→List Int→Option (List Int)
 | 0,_,_=>none
 | k+1,x1,x5=>spec_PutNum.l0 k x1 x5
def spec_PutNum.l0:Nat→Int→List Int→Option (List Int)
 | 0,_,_=>none
 | k+1,x1,x5=>if x1 > 127 then (if x5.length < 140737488355328 then (spec_PutNum.l0 k (x1 / 128) (x5 ++ [(Go.bits .or .i64 (Go.bits .and .i64 x1 127) 128) % 256])) else (none)) else (if x5.length < 140737488355328 then (some (x5 ++ [(x1) % 256])) else (none))
end
def spec_PutNum.f (k:Nat) (l0:List Int) (a1:Int):Option (List Int):=(some (([]:List Int):List Int)).bind fun y119=>(if y119.length+l0.length < 140737488355328 then ((some (y119 ++ l0:List Int)).bind fun y122=>(if a1 > 1000000000 then (spec_PutNum.j0 k 1000000000 y122) else (spec_PutNum.j0 k a1 y122))) else (none))
set_option maxHeartbeats 8000000 in
set_option maxRecDepth 100000 in
theorem spec_PutNum.calls (k:Nat) (A0:Option Addr) (c0:Nat) (l0:List Int) (a1:Int) (r:List Int) (w:World) (hr0:Kd.C (Kd.int .u8) w A0 l0.length l0) (hc0:l0.length≤c0) (h:spec_PutNum.f k l0 a1=some r) :
  Calls Try.prog 88 #[.slice A0 l0.length c0,.int .i64 a1] w fun e w'=>∃ v0_:Value,e = .returned (v0_)∧Kd.R (Kd.int .u8) 5 w' w.heap.size (fun _=>True) v0_ r∧Below w.heap.size w w':=by
 have HR0:=Aside0.mk hr0
 have HC0:=Aside0.mk hc0
 clear hr0 hc0
 have HB:=Aside0.mk (Below.refl w.heap.size w)
 have H:((some (([]:List Int):List Int)).bind fun y119=>(if y119.length+l0.length < 140737488355328 then ((some (y119 ++ l0:List Int)).bind fun y122=>(if a1 > 1000000000 then (spec_PutNum.j0 k 1000000000 y122) else (spec_PutNum.j0 k a1 y122))) else (none)))=some r:=h
 clear h
 obtain ⟨y119,hy119⟩ : ∃ y_:List Int,y_=(([]:List Int)):=⟨_,rfl⟩
 replace H:(if y119.length+l0.length < 140737488355328 then ((some (y119 ++ l0:List Int)).bind fun y122=>(if a1 > 1000000000 then (spec_PutNum.j0 k 1000000000 y122) else (spec_PutNum.j0 k a1 y122))) else (none))=some r:=by first|(rw [hy119];with_reducible exact H)|(have H2_:=(Option.bind_some _ _).symm.trans H;rw [hy119];with_reducible exact H2_)|(have H2_:=(Option.bind_some _ _).symm.trans H;with_reducible exact H2_)|with_reducible exact H|(rw [hy119];exact H)|exact H
 have Ny119:=Aside0.mk hy119
 clear hy119
 by_cases c3:y119.length+l0.length < 140737488355328
 ·rw [if_pos c3] at H
  have LMc3:=Aside0.mk c3
  clear c3
  obtain ⟨y122,hy122⟩ : ∃ y_:List Int,y_=(y119 ++ l0):=⟨_,rfl⟩
  replace H:(if a1 > 1000000000 then (spec_PutNum.j0 k 1000000000 y122) else (spec_PutNum.j0 k a1 y122))=some r:=by first|(rw [hy122];with_reducible exact H)|(have H2_:=(Option.bind_some _ _).symm.trans H;rw [hy122];with_reducible exact H2_)|(have H2_:=(Option.bind_some _ _).symm.trans H;with_reducible exact H2_)|with_reducible exact H|(rw [hy122];exact H)|exact H
  have Ny122:=Aside0.mk hy122
  clear hy122
  have HC4:=Aside0.mk H
  clear H
  go_enter Try.func88,Try.ntmps88
  go_upto_if 10 with (first|((with_reducible refine gate_dst (N:=6) rfl ?_);refine Kd.R_lit (Kd.int .u8) _ 5 ?hg (N:=6) ?hd (xs:=([]:List Int)) (inner:=[]) (ok:=fun _=>True) (okp:=fun _=>True) ?hr ?hp (fun _ hk=>hk) trivial (Below.refl _ _) (Nat.le_refl _) (by simp) ?_;(case hd=>rfl);(case hg=>rfl);(case hr=>first|(go_simp;done)|(go_simp;rfl));(case hp=>exact (Reps.none _ _));intro v120 w5 ho6 hb hg_ hnew_;clear hg_ hnew_;(first|rw [← Ny119.out] at ho6|(simp only [Int.reduceToNat] at ho6;rw [← Ny119.out] at ho6));have n0_:=Aside0.mk (Kd.R_lower ho6 (below_size be));have n1_:=bs hb;clear HB;have HO121:=n0_;have HB:=n1_;clear n0_ n1_;clear hb ho6)|((with_reducible refine gate_builtin (b:=.append) (xs:=#[.tmp 6,.tmp 7]) rfl ?_);at_builtin;refine Kd.R_append_rows (Kd.int .u8) (w0:=w) w.heap.size rfl (.tmp 6) (.tmp 7) 54 5 (.int .u8 0) 1 rfl Try.underlying54 info5 rfl (by decide) (by omega) v120 y119 l0 _ _ _ (fun _=>True) (fun _=>False) rfl rfl ?aO ?aR (fun _ _ h=>h) (fun _ h=>h.elim) ?aF ?aB ?aS ?aL ?_;(case aR=>exact rC HR0);(case aB=>exact be);(case aF=>exact (fun _ _=>trivial));(case aO=>exact (rR HO121));(case aS=>exact (below_size be));(case aL=>have:=LMc3.out;omega);intro v123 w7 ho hb hg hat;rw [← Ny122.out] at ho;have n0_:=Aside0.mk (hb);have n1_:=Aside0.mk (ho);clear HB;clear HO121;have HB:=n0_;have HO124:=n1_;clear n0_ n1_;clear ho hb hg hat))
  (try simp only [Act.put,List.setIfInBounds_toArray,List.set_cons_zero,List.set_cons_succ])
  go_cut [1] (fun v1 wc=>∃ (kq:Nat) (x1_3:Int),v1 = .int .i64 x1_3∧Aside0 (spec_PutNum.j0 kq x1_3 y122=some r)∧Aside0 (kq≤k)∧Aside0 (Kd.R (Kd.int .u8) 5 wc w.heap.size (fun _=>True) v123 y122)∧Aside0 (Below w.heap.size w wc))
  case first=>
   have H:=HC4.out
   clear HC4
   by_cases c8:a1 > 1000000000
   ·rw [if_pos c8] at H
    have c8b0:decide (1000000000 < a1)=true:=decide_eq_true c8
    clear c8
    (first|rw [c8b0]|(simp only [i64_w,i32_w];rw [c8b0])|skip)
    have H':=Aside0.mk H
    clear H
    go_wp2
    go_meet
    case rel=>exact ⟨_,(1000000000),rd_,H',⟨by first|omega|exact Nat.le_refl _⟩,⟨rR HO124⟩,⟨be⟩⟩
   ·rw [if_neg c8] at H
    have c8b0:decide (1000000000 < a1)=false:=decide_eq_false c8
    clear c8
    (first|rw [c8b0]|(simp only [i64_w,i32_w];rw [c8b0])|skip)
    have H':=Aside0.mk H
    clear H
    go_wp2
    go_meet
    case rel=>exact ⟨_,(a1),rd_,H',⟨by first|omega|exact Nat.le_refl _⟩,⟨rR HO124⟩,⟨be⟩⟩
  case rest=>
   clear HC4
   try clear p2
   try clear c3
   try clear c8
   try clear c8b0
   obtain ⟨kq,x1_3,rfl,HA,HJ3,HO_5,HB⟩:=hcut
   cases kq with
   | zero=>exact absurd HA.out (by simp [spec_PutNum.j0])
   | succ kj3=>
    have H:=HA.out
    clear HA
    simp only [spec_PutNum.j0] at H
    have HC9:=Aside0.mk H
    clear H
    go_upto_if 12 with (fail)
    go_cut [1] (fun v1 wc=>∃ (kq:Nat) (x1_8:Int),v1 = .int .i64 x1_8∧Aside0 (spec_PutNum.j1 kq x1_8 y122=some r)∧Aside0 (kq≤kj3)∧Aside0 (Kd.R (Kd.int .u8) 5 wc w.heap.size (fun _=>True) v123 y122)∧Aside0 (Below w.heap.size w wc))
    case first=>
     have H:=HC9.out
     clear HC9
     by_cases c10:x1_3 < 0
     ·rw [if_pos c10] at H
      have c10b0:decide (x1_3 < 0)=true:=decide_eq_true c10
      clear c10
      (first|rw [c10b0]|(simp only [i64_w,i32_w];rw [c10b0])|skip)
      have H':=Aside0.mk H
      clear H
      go_wp2
      go_meet
      case rel=>exact ⟨_,(0),rd_,H',⟨by have:=HJ3.out;first|omega|exact Nat.le_refl _⟩,⟨rR HO_5⟩,⟨be⟩⟩
     ·rw [if_neg c10] at H
      have c10b0:decide (x1_3 < 0)=false:=decide_eq_false c10
      clear c10
      (first|rw [c10b0]|(simp only [i64_w,i32_w];rw [c10b0])|skip)
      have H':=Aside0.mk H
      clear H
      go_wp2
      go_meet
      case rel=>exact ⟨_,(x1_3),rd_,H',⟨by have:=HJ3.out;first|omega|exact Nat.le_refl _⟩,⟨rR HO_5⟩,⟨be⟩⟩
    case rest=>
     clear HC9
     try clear c1
     try clear p2
     try clear c3
     try clear c8
     try clear c8b0
     try clear c10
     try clear c10b0
     try clear p2
     obtain ⟨kq,x1_8,rfl,HA,HJ8,HO_5,HB⟩:=hcut
     cases kq with
     | zero=>exact absurd HA.out (by simp [spec_PutNum.j1])
     | succ kj8=>
      have H:=HA.out
      clear HA
      simp only [spec_PutNum.j1] at H
      have H':=Aside0.mk H
      clear H
      go_wp2
      go_loopg [1,5] kj8 (fun kq v1 v5 w'=>∃ (x1_3:Int) (x5_3:List Int),v1 = .int .i64 x1_3∧Aside0 (spec_PutNum.l0 kq x1_3 x5_3=some r)∧Aside0 (kq≤kj8)∧Aside0 (Kd.R (Kd.int .u8) 5 w' w.heap.size (fun _=>True) v5 x5_3)∧Aside0 (Below w.heap.size w w'))
      case atStart=>exact ⟨(x1_8),(y122),rd_,H',⟨Nat.le_refl _⟩,⟨rR HO_5⟩,⟨be⟩⟩
      case round=>
       clear H'
       try clear c1
       try clear p2
       try clear c3
       try clear c8
       try clear c8b0
       try clear c10
       try clear c10b0
       try clear p2
       obtain ⟨x1_3,x5_3,rfl,HA,HK3,HO_5,HB⟩:=hrel
       cases gk with
       | zero=>exact absurd HA.out (by simp [spec_PutNum.l0])
       | succ k3=>
        have H:=HA.out
        clear HA
        simp only [spec_PutNum.l0] at H
        by_cases c11:x1_3 > 127
        ·rw [if_pos c11] at H
         have c11b0:decide (127 < x1_3)=true:=decide_eq_true c11
         clear c11
         by_cases c12:x5_3.length < 140737488355328
         ·rw [if_pos c12] at H
          have LMc12:=Aside0.mk c12
          clear c12
          obtain ⟨y125,hy125⟩ : ∃ y_:List Int,y_=(x5_3 ++ [(Go.bits .or .i64 (Go.bits .and .i64 x1_3 127) 128) % 256]):=⟨_,rfl⟩
          replace H:(spec_PutNum.l0 k3 (x1_3 / 128) y125)=some r:=by first|(rw [hy125];with_reducible exact H)|(have H2_:=(Option.bind_some _ _).symm.trans H;rw [hy125];with_reducible exact H2_)|(have H2_:=(Option.bind_some _ _).symm.trans H;with_reducible exact H2_)|with_reducible exact H|(rw [hy125];exact H)|exact H
          have Ny125:=Aside0.mk hy125
          clear hy125
          have H':=Aside0.mk H
          clear H
          go_wp2_with (first|((with_reducible refine gate_builtin (b:=.append) (xs:=#[.tmp 15,.tmp 20]) rfl ?_);at_builtin;refine Kd.R_append (Kd.int .u8) (w0:=w) w.heap.size rfl (.tmp 15) (.tmp 20) 54 5 (.int .u8 0) 1 rfl Try.underlying54 info5 rfl (by decide) (by omega) u5 x5_3 ((Go.bits .or .i64 (Go.bits .and .i64 x1_3 127) 128) % 256) [.int .u8 ((Go.bits .or .i64 (Go.bits .and .i64 x1_3 127) 128) % 256)] (fun _=>True) (fun _=>False) rfl rfl ?aP (fun _ hk=>hk.elim) ?aF ?aO ?aB ?aS ?aL ?_;(case aP=>exact rfl);(case aB=>exact be);(case aF=>exact (fun _ _=>trivial));(case aO=>exact (rR HO_5));(case aS=>exact (below_size be));(case aL=>have:=LMc12.out;omega);intro v126 w13 ho hb hg hat;rw [← Ny125.out] at ho;have n0_:=Aside0.mk (hb);have n1_:=Aside0.mk (ho);clear HB;clear HO_5;have HB:=n0_;have HO127:=n1_;clear n0_ n1_;clear ho hb hg hat))
          go_roundg k3
          case measure=>have:=HJ3.out;have:=HJ8.out;have:=HK3.out;omega
          case rel=>exact ⟨(x1_3 / 128),(y125),rd_,H',⟨by have:=HJ3.out;have:=HJ8.out;have:=HK3.out;omega⟩,⟨rR HO127⟩,⟨be⟩⟩
         ·rw [if_neg c12] at H
          exact absurd H (by simp)
        ·rw [if_neg c11] at H
         have c11b0:decide (127 < x1_3)=false:=decide_eq_false c11
         clear c11
         by_cases c14:x5_3.length < 140737488355328
         ·rw [if_pos c14] at H
          have LMc14:=Aside0.mk c14
          clear c14
          obtain ⟨y128,hy128⟩ : ∃ y_:List Int,y_=(x5_3 ++ [(x1_3) % 256]):=⟨_,rfl⟩
          replace H:(some y128)=some r:=by first|(rw [hy128];with_reducible exact H)|(have H2_:=(Option.bind_some _ _).symm.trans H;rw [hy128];with_reducible exact H2_)|(have H2_:=(Option.bind_some _ _).symm.trans H;with_reducible exact H2_)|with_reducible exact H|(rw [hy128];exact H)|exact H
          have Ny128:=Aside0.mk hy128
          clear hy128
          obtain rfl:=Option.some.inj H
          go_wp2_with (first|((with_reducible refine gate_builtin (b:=.append) (xs:=#[.tmp 24,.tmp 27]) rfl ?_);at_builtin;refine Kd.R_append (Kd.int .u8) (w0:=w) w.heap.size rfl (.tmp 24) (.tmp 27) 54 5 (.int .u8 0) 1 rfl Try.underlying54 info5 rfl (by decide) (by omega) u5 x5_3 ((x1_3) % 256) [.int .u8 ((x1_3) % 256)] (fun _=>True) (fun _=>False) rfl rfl ?aP (fun _ hk=>hk.elim) ?aF ?aO ?aB ?aS ?aL ?_;(case aP=>exact rfl);(case aB=>exact be);(case aF=>exact (fun _ _=>trivial));(case aO=>exact (rR HO_5));(case aS=>exact (below_size be));(case aL=>have:=LMc14.out;omega);intro v129 w15 ho hb hg hat;rw [← Ny128.out] at ho;have n0_:=Aside0.mk (hb);have n1_:=Aside0.mk (ho);clear HB;clear HO_5;have HB:=n0_;have HO130:=n1_;clear n0_ n1_;clear ho hb hg hat))
          go_ret
          exact ⟨_,rz,rR HO130,be⟩
         ·rw [if_neg c14] at H
          exact absurd H (by simp)
 ·rw [if_neg c3] at H
  exact absurd H (by simp)
def spec_PutText.f (k:Nat) (l0:List Int) (a1:ByteArray):Option (List Int):=(spec_PutNum.f k l0 (a1.size:Int)).bind fun t131=>(if t131.length+a1.size < 140737488355328 then (some (t131 ++ bytesOf a1)) else (none))
set_option maxHeartbeats 8000000 in
set_option maxRecDepth 100000 in
theorem spec_PutText.calls (k:Nat) (A0:Option Addr) (c0:Nat) (l0:List Int) (a1:ByteArray) (r:List Int) (w:World) (hr0:Kd.C (Kd.int .u8) w A0 l0.length l0) (hc0:l0.length≤c0) (h:spec_PutText.f k l0 a1=some r) :
  Calls Try.prog 87 #[.slice A0 l0.length c0,.string a1] w fun e w'=>∃ v0_:Value,e = .returned (v0_)∧Kd.R (Kd.int .u8) 5 w' w.heap.size (fun _=>True) v0_ r∧Below w.heap.size w w':=by
 have HR0:=Aside0.mk hr0
 have HC0:=Aside0.mk hc0
 clear hr0 hc0
 have HB:=Aside0.mk (Below.refl w.heap.size w)
 have H:((spec_PutNum.f k l0 (a1.size:Int)).bind fun t131=>(if t131.length+a1.size < 140737488355328 then (some (t131 ++ bytesOf a1)) else (none)))=some r:=h
 clear h
 replace H:=Option.bind_eq_some_iff.mp H
 obtain ⟨t131,A30,H⟩:=H
 try dsimp only at H
 have A3:=Aside0.mk A30
 clear A30
 by_cases c4:t131.length+a1.size < 140737488355328
 ·rw [if_pos c4] at H
  have LMc4:=Aside0.mk c4
  clear c4
  obtain ⟨y134,hy134⟩ : ∃ y_:List Int,y_=(t131 ++ bytesOf a1):=⟨_,rfl⟩
  replace H:(some y134)=some r:=by first|(rw [hy134];with_reducible exact H)|(have H2_:=(Option.bind_some _ _).symm.trans H;rw [hy134];with_reducible exact H2_)|(have H2_:=(Option.bind_some _ _).symm.trans H;with_reducible exact H2_)|with_reducible exact H|(rw [hy134];exact H)|exact H
  have Ny134:=Aside0.mk hy134
  clear hy134
  obtain rfl:=Option.some.inj H
  go_enter Try.func87,Try.ntmps87
  go_wp2_with (first|((with_reducible refine gate_callee (f:=88) rfl ?_);refine goesL_ (some 8) rfl rfl Try.func88 (by kernel_rfl) rfl #[.slice A0 l0.length c0,.int .i64 (a1.size:Int)] rfl (by (try simp only [List.map_toArray,List.map_cons,List.map_nil]);first|done|rfl|(simp only [List.length_drop,List.length_take];rfl)) ?_;(with_reducible refine (spec_PutNum.calls k _ _ l0 (a1.size:Int) t131 _ ?side1 ?side2 A3.out).mono ?_);(case side1=>exact sC HR0);(case side2=>exact HC0.out);rintro e w5 ⟨v132,rfl,ho0,hb⟩;refine ⟨_,rfl,?_⟩;have n0_:=Aside0.mk (Kd.R_lower ho0 (below_size be));have n1_:=bs hb;clear HB;have HO133:=n0_;have HB:=n1_;clear n0_ n1_;(try clear hb);(try clear hb2);(try clear hk);(try clear hi);(try clear ho0))|(at_builtin;refine Aid.append_str_at (w0:=w) w.heap.size rfl (.tmp 8) _ 54 9 5 rfl Try.underlying54 Try.underlying9 info5 v132 t131 a1 rfl rfl ?aO ?aB ?aS ?aL ?_;(case aB=>exact be);(case aO=>exact (Kd.own_of_R (rR HO133)));(case aS=>exact (below_size be));(case aL=>have:=LMc4.out;omega);intro v135 w6 ho0 hb hg hat;have ho:=Kd.R_of_own (h1:=fun _=>rfl) (ok:=(fun _=>True)) ho0 (fun k_ hk_=>Or.elim hat (fun he_=>trivial) (fun ⟨_,hb1_,hb2_⟩=>(fun _ _=>trivial) k_ (Option.some.inj (hb1_.symm.trans hk_) ▸ hb2_)));clear ho0;rw [← Ny134.out] at ho;change Kd.R (Kd.int .u8) 5 w6 w.heap.size (fun _=>True) v135 y134 at ho;have n0_:=Aside0.mk (hb);have n1_:=Aside0.mk (ho);clear HB;clear HO133;have HB:=n0_;have HO136:=n1_;clear n0_ n1_;clear ho hb hg hat))
  go_ret
  exact ⟨_,rz,rR HO136,be⟩
 ·rw [if_neg c4] at H
  exact absurd H (by simp)
def spec_l8Stamp.f (k:Nat) (l0:List Int) (a1_0:Int) (a1_1:Int) (a1_2:Int):Option (List Int):=(spec_PutNum.f k l0 a1_0).bind fun t138=>((spec_PutNum.f k t138 a1_1).bind fun t141=>((spec_PutNum.f k t141 a1_2).bind fun t144=>(some t144)))
def spec_l8Stamp.T1:Bool × List (List Nat × List Nat):=(true,[([],[]),([],[]),([1],[1]),([0,2],[0,2]),([],[]),([4],[4]),([3,5,3],[3,5]),([],[]),([7],[7]),([6,8,6],[6,8]),([9,9,0,1,2,3,4,5,6,7,8,9],[9])])
def spec_l8Stamp.B1:List Nat:=[0,0,2,7,0,16,63,0,128,511,1023]
theorem spec_l8Stamp.tab1:rtab .any (opsOf Try.f89 1)=spec_l8Stamp.T1:=by kernel_rfl
theorem spec_l8Stamp.bits1:waitsOk spec_l8Stamp.T1.2 spec_l8Stamp.B1=true:=by kernel_rfl
set_option maxHeartbeats 8000000 in
set_option maxRecDepth 100000 in
theorem spec_l8Stamp.calls (k:Nat) (A0:Option Addr) (c0:Nat) (l0:List Int) (a1_0:Int) (a1_1:Int) (a1_2:Int) (r:List Int) (w:World) (hr0:Kd.C (Kd.int .u8) w A0 l0.length l0) (hc0:l0.length≤c0) (h:spec_l8Stamp.f k l0 a1_0 a1_1 a1_2=some r) :
  Calls Try.prog 89 #[.slice A0 l0.length c0,.agg #[.int .i64 a1_0,.int .i64 a1_1,.int .i64 a1_2]] w fun e w'=>∃ v0_:Value,e = .returned (v0_)∧Kd.R (Kd.int .u8) 5 w' w.heap.size (fun _=>True) v0_ r∧Below w.heap.size w w':=by
 have hu59:=Try.underlying59
 have HR0:=Aside0.mk hr0
 have HC0:=Aside0.mk hc0
 clear hr0 hc0
 have HB:=Aside0.mk (Below.refl w.heap.size w)
 have H:((spec_PutNum.f k l0 a1_0).bind fun t138=>((spec_PutNum.f k t138 a1_1).bind fun t141=>((spec_PutNum.f k t141 a1_2).bind fun t144=>(some t144))))=some r:=h
 clear h
 replace H:=Option.bind_eq_some_iff.mp H
 obtain ⟨t138,A30,H⟩:=H
 try dsimp only at H
 have A3:=Aside0.mk A30
 clear A30
 replace H:=Option.bind_eq_some_iff.mp H
 obtain ⟨t141,A40,H⟩:=H
 try dsimp only at H
 have A4:=Aside0.mk A40
 clear A40
 replace H:=Option.bind_eq_some_iff.mp H
 obtain ⟨t144,A50,H⟩:=H
 try dsimp only at H
 have A5:=Aside0.mk A50
 clear A50
 obtain rfl:=Option.some.inj H
 go_enter Try.func89,Try.ntmps89
 try go_wp2_with (first|((with_reducible refine gate_dst (N:=3) rfl ?_);refine box_event ?hg (N:=3) ?hd (cs:=#[.int .i64 a1_0,.int .i64 a1_1,.int .i64 a1_2]) (t:=59) ?hr ?_;(case hd=>rfl);(case hg=>rfl);(case hr=>first|(go_simp;done)|(go_simp;rfl));intro gb137 hg w6 hbox hb;have n0_:=bs hb;have n1_:=Aside0.mk (hbox);have n2_:=Aside0.mk ((by rw [hg];exact (below_size be):w.heap.size≤gb137));have n3_:=Aside0.mk ((by rw [hg];exact (below_size be):w.heap.size≤gb137));clear HB;have HB:=n0_;have BK137:=n1_;have GW137:=n2_;have GE137:=n3_;clear n0_ n1_ n2_ n3_;clear hb hbox hg))
 have n0_:=Aside0.mk (blk_drew BK137.out);have n1_:=Aside0.mk (below_drew1 HB.out);clear BK137 HB;have BK137:=n0_;have HB:=n1_;clear n0_ n1_
 refine start_ (n:=11) (S:=fun w'=>w'.cell? ⟨gb137,0,none⟩=some (.int .i64 a1_0)∧w'.cell? ⟨gb137,1,none⟩=some (.int .i64 a1_1)∧w'.cell? ⟨gb137,2,none⟩=some (.int .i64 a1_2)) (ds:=[]) (fl 11 0) (by kernel_rfl) rfl rfl ⟨(blk_cell BK137.out 0).trans rfl,(blk_cell BK137.out 1).trans rfl,(blk_cell BK137.out 2).trans rfl⟩ (fun hHeld=>?_);refine with_tabW spec_l8Stamp.tab1 spec_l8Stamp.bits1 (fun HT_ HW_=>?_)
 generalize w6.drew=w7 at BK137 HB hHeld ⊢
 refine pt 0 5 (fl 11 1) HT_ ?_
 refine pt 1 6 (fl 11 3) HT_ ?_
 refine pt 4 9 (fl 11 19) HT_ ?_
 refine pt 7 12 (fl 11 147) HT_ ?_
 refine tt 2 7 (fl 11 151) HT_ HW_ hHeld ?_
 refine tt 5 10 (fl 11 183) HT_ HW_ hHeld ?_
 refine tt 8 13 (fl 11 439) HT_ HW_ hHeld ?_
 refine ot 3 (some 8) (fl 11 447) HT_ (fun K hK=>?_)
 refine goes_ Try.func88 (by kernel_rfl) rfl #[.slice A0 l0.length c0,.int .i64 a1_0] (by rfl) rfl rfl (by (try simp only [List.map_toArray,List.map_cons,List.map_nil]);first|done|rfl|(simp only [List.length_drop,List.length_take];rfl)) ?_
 with_reducible refine (spec_PutNum.calls k _ _ l0 a1_0 t138 _ ?side1 ?side2 A3.out).mono ?_
 (case side1=>exact rC HR0)
 (case side2=>exact HC0.out)
 rintro e w8 ⟨v139,rfl,ho0,hb⟩
 refine ⟨_,rfl,?_⟩
 have n0_:=Aside0.mk (Kd.R_lower ho0 (below_size be));have n1_:=Aside0.mk (blk_below (bk BK137) hb);have n2_:=bs hb;clear BK137 HB;have HO140:=n0_;have BK137:=n1_;have HB:=n2_;clear n0_ n1_ n2_;(try clear hb);(try clear hb2);(try clear hk);(try clear hi);(try clear ho0)
 obtain ⟨Ao9,co9,eo9⟩:=Kd.R_slice HO140.out
 (first|subst eo9|(injection eo9 with f1_ f2_ f3_;have f4_:=f1_.symm;have f5_:=f3_.symm;clear f1_ f2_ f3_;subst f4_;subst f5_))
 refine hK.out _ _ ⟨(blk_cell BK137.out 0).trans rfl,(blk_cell BK137.out 1).trans rfl,(blk_cell BK137.out 2).trans rfl⟩ (fun hHeld=>?_)
 clear hK K
 refine no 8 ?_
 refine ot 6 (some 11) (fl 11 511) HT_ (fun K hK=>?_)
 refine goes_ Try.func88 (by kernel_rfl) rfl #[.slice Ao9 t138.length co9,.int .i64 a1_1] (by rfl) rfl rfl (by (try simp only [List.map_toArray,List.map_cons,List.map_nil]);first|done|rfl|(simp only [List.length_drop,List.length_take];rfl)) ?_
 with_reducible refine (spec_PutNum.calls k _ _ t138 a1_1 t141 _ ?side1 ?side2 A4.out).mono ?_
 (case side1=>exact sR HO140)
 (case side2=>exact (Kd.R_reads' HO140.out).2.1)
 rintro e w10 ⟨v142,rfl,ho0,hb⟩
 refine ⟨_,rfl,?_⟩
 have n0_:=Aside0.mk (Kd.R_elder' (rR HO140) (Kd.R_base ho0) hb);have n1_:=Aside0.mk (Kd.R_lower (Kd.R_new' ho0 (Kd.R_lt (rR HO140))) (below_size be));have n2_:=Aside0.mk (blk_below (bk BK137) hb);have n3_:=bs hb;clear HO140 BK137 HB;have HO140:=n0_;have HO143:=n1_;have BK137:=n2_;have HB:=n3_;clear n0_ n1_ n2_ n3_;(try clear hb);(try clear hb2);(try clear hk);(try clear hi);(try clear ho0)
 obtain ⟨Ao11,co11,eo11⟩:=Kd.R_slice HO143.out
 (first|subst eo11|(injection eo11 with f1_ f2_ f3_;have f4_:=f1_.symm;have f5_:=f3_.symm;clear f1_ f2_ f3_;subst f4_;subst f5_))
 refine hK.out _ _ ⟨(blk_cell BK137.out 0).trans rfl,(blk_cell BK137.out 1).trans rfl,(blk_cell BK137.out 2).trans rfl⟩ (fun hHeld=>?_)
 clear hK K
 refine no 11 ?_
 refine ot 9 (some 14) (fl 11 1023) HT_ (fun K hK=>?_)
 refine goes_ Try.func88 (by kernel_rfl) rfl #[.slice Ao11 t141.length co11,.int .i64 a1_2] (by rfl) rfl rfl (by (try simp only [List.map_toArray,List.map_cons,List.map_nil]);first|done|rfl|(simp only [List.length_drop,List.length_take];rfl)) ?_
 with_reducible refine (spec_PutNum.calls k _ _ t141 a1_2 t144 _ ?side1 ?side2 A5.out).mono ?_
 (case side1=>exact sR HO143)
 (case side2=>exact (Kd.R_reads' HO143.out).2.1)
 rintro e w12 ⟨v145,rfl,ho0,hb⟩
 refine ⟨_,rfl,?_⟩
 have n0_:=Aside0.mk (Kd.R_elder' (rR HO140) (Kd.R_base ho0) hb);have n1_:=Aside0.mk (Kd.R_elder' (rR HO143) (Kd.R_base ho0) hb);have n2_:=Aside0.mk (Kd.R_lower (Kd.R_new' (Kd.R_new' ho0 (Kd.R_lt (rR HO140))) (Kd.R_lt (rR HO143))) (below_size be));have n3_:=Aside0.mk (blk_below (bk BK137) hb);have n4_:=bs hb;clear HO140 HO143 BK137 HB;have HO140:=n0_;have HO143:=n1_;have HO146:=n2_;have BK137:=n3_;have HB:=n4_;clear n0_ n1_ n2_ n3_ n4_;(try clear hb);(try clear hb2);(try clear hk);(try clear hi);(try clear ho0)
 refine hK.out _ _ ⟨(blk_cell BK137.out 0).trans rfl,(blk_cell BK137.out 1).trans rfl,(blk_cell BK137.out 2).trans rfl⟩ (fun hHeld=>?_)
 clear hK K
 refine no 14 ?_
 refine pt 10 4 (fl 11 2047) HT_ ?_
 refine done_ (done_of HT_.out (by kernel_rfl)) ?_
 try go_wp2
 go_ret
 exact ⟨_,rz,by (with_reducible repeat (first|apply Kd.R_alloc|apply Kd.R_drewN|apply Kd.R_drew));exact Kd.R_mono HO146.out (fun _ hk=>trivial),be⟩
def spec_l8Bool.f (a0:Bool):Option (Int):=if a0=true then (some 1) else (some 0)
set_option maxHeartbeats 8000000 in
set_option maxRecDepth 100000 in
theorem spec_l8Bool.calls (a0:Bool) (r:Int) (w:World) (h:spec_l8Bool.f a0=some r) :
  Calls Try.prog 90 #[.bool a0] w fun e w'=>e = .returned (.int .i64 r)∧Drawn0 w w':=by
 have H:(if a0=true then (some 1) else (some 0))=some r:=h
 clear h
 by_cases c2:a0=true
 ·subst c2
  rw [if_pos rfl] at H
  obtain rfl:=Option.some.inj H
  go_enter Try.func90,Try.ntmps90
  go_wp2
  go_ret
  exact ⟨by first|rfl|(simp;done)|(simp [*];done),by repeat (first|exact Drawn0.refl _|apply Drawn0.step)⟩
 ·replace c2:=Bool.eq_false_iff.mpr c2
  subst c2
  replace H:=(if_neg (show ¬ (false=true) by decide)).symm.trans H
  obtain rfl:=Option.some.inj H
  go_enter Try.func90,Try.ntmps90
  go_wp2
  go_ret
  exact ⟨by first|rfl|(simp;done)|(simp [*];done),by repeat (first|exact Drawn0.refl _|apply Drawn0.step)⟩
mutual
def spec_Crc.l0:Nat→List Int→Int→Int→Option (Int)
 | 0,_,_,_=>none
 | k+1,x0,x3,x4=>if x4 < (x0.length:Int) then (if 0≤x4 then (spec_Crc.l1 k x0 (Go.bits .xor .i64 x3 (wrap64 (rd x0 x4))) x4 0) else (none)) else (some (Go.bits .xor .i64 x3 4294967295))
def spec_Crc.l1:Nat→List Int→Int→Int→Int→Option (Int)
 | 0,_,_,_,_=>none
 | k+1,x0,x3,x4,x5=>if x5 < 8 then (if (Go.bits .and .i64 x3 1)=1 then (spec_Crc.l1 k x0 (Go.bits .xor .i64 (x3 / 2) 2197175160) x4 (wrap64 (x5+1))) else (spec_Crc.l1 k x0 (x3 / 2) x4 (wrap64 (x5+1)))) else (spec_Crc.l0 k x0 x3 (wrap64 (x4+1)))
end
def spec_Crc.f (k:Nat) (l0:List Int):Option (Int):=spec_Crc.l0 k l0 4294967295 0
set_option maxHeartbeats 8000000 in
set_option maxRecDepth 100000 in
theorem spec_Crc.calls (k:Nat) (A0:Option Addr) (c0:Nat) (l0:List Int) (r:Int) (w:World) (hr0:Kd.C (Kd.int .u8) w A0 l0.length l0) (hc0:l0.length≤c0) (h:spec_Crc.f k l0=some r) :
  Calls Try.prog 91 #[.slice A0 l0.length c0] w fun e w'=>e = .returned (.int .i64 r)∧Drawn0 w w':=by
 have HR0:=Aside0.mk hr0
 have HC0:=Aside0.mk hc0
 clear hr0 hc0
 have H:(spec_Crc.l0 k l0 4294967295 0)=some r:=h
 clear h
 have H':=Aside0.mk H
 clear H
 go_enter Try.func91,Try.ntmps91
 go_wp2
 go_loopg [3,4] k (fun kq v3 v4 w'=>∃ (x3_1:Int) (x4_1:Int),v3 = .int .i64 x3_1∧v4 = .int .i64 x4_1∧Aside0 (spec_Crc.l0 kq l0 x3_1 x4_1=some r)∧Aside0 (kq≤k)∧Drawn0 w w')
 case atStart=>exact ⟨(4294967295),(0),rd_,rd_,H',⟨Nat.le_refl _⟩,by repeat (first|exact Drawn0.refl _|apply Drawn0.step)⟩
 case round=>
  clear H'
  obtain ⟨x3_1,x4_1,rfl,rfl,HA,HK1,⟨m1,rfl⟩⟩:=hrel
  cases gk with
  | zero=>exact absurd HA.out (by simp [spec_Crc.l0])
  | succ k1=>
   have H:=HA.out
   clear HA
   simp only [spec_Crc.l0] at H
   by_cases c2:x4_1 < (l0.length:Int)
   ·rw [if_pos c2] at H
    have c2b0:decide (x4_1 < (l0.length:Int))=true:=decide_eq_true c2
    clear c2
    by_cases c3:0≤x4_1
    ·rw [if_pos c3] at H
     have c3b0:decide (0≤x4_1)=true:=decide_eq_true c3
     clear c3
     have H':=Aside0.mk H
     clear H
     have p147:0≤(x4_1:Int):=of_decide_eq_true (by first|(with_reducible assumption)|assumption)
     have q147:x4_1 < (l0.length:Int):=of_decide_eq_true (by first|(with_reducible assumption)|assumption)
     obtain ⟨ad147,e147,hx147_0⟩:=Kd.at_int HR0.out x4_1 p147 q147
     cases e147
     replace p147:=eq_true p147
     replace q147:=eq_true q147
     go_wp2
     go_loopg [3,5] k1 (fun kq v3 v5 w'=>∃ (x3_2:Int) (x5_2:Int),v3 = .int .i64 x3_2∧v5 = .int .i64 x5_2∧Aside0 (spec_Crc.l1 kq l0 x3_2 x4_1 x5_2=some r)∧Aside0 (kq≤k1)∧Drawn0 w w')
     case atStart=>exact ⟨(Go.bits .xor .i64 x3_1 (wrap64 (rd l0 x4_1))),(0),rd_,rd_,H',⟨Nat.le_refl _⟩,by repeat (first|exact Drawn0.refl _|apply Drawn0.step)⟩
     case round=>
      clear H'
      try clear p1
      try clear q1
      try clear hx1
      try clear c2
      try clear c2b0
      try clear p2
      try clear c3
      try clear c3b0
      try clear hx147_0
      try clear p147
      try clear q147
      obtain ⟨x3_2,x5_2,rfl,rfl,HA,HK2,⟨m2,rfl⟩⟩:=hrel
      cases gk with
      | zero=>exact absurd HA.out (by simp [spec_Crc.l1])
      | succ k2=>
       have H:=HA.out
       clear HA
       simp only [spec_Crc.l1] at H
       by_cases c4:x5_2 < 8
       ·rw [if_pos c4] at H
        have c4b0:decide (x5_2 < 8)=true:=decide_eq_true c4
        clear c4
        by_cases c5:(Go.bits .and .i64 x3_2 1)=1
        ·rw [if_pos c5] at H
         have c5b0:((Go.bits .and .i64 x3_2 1) == 1)=true:=beq_iff_eq.mpr c5
         have c5b1:((Go.bits .and .i64 x3_2 1) != 1)=false:=bne_eq_false_iff_eq.mpr c5
         clear c5
         have H':=Aside0.mk H
         clear H
         go_wp2
         go_roundg k2
         case measure=>have:=HK1.out;have:=HK2.out;omega
         case rel=>exact ⟨(Go.bits .xor .i64 (x3_2 / 2) 2197175160),(wrap64 (x5_2+1)),rd_,rd_,H',⟨by have:=HK1.out;have:=HK2.out;omega⟩,by repeat (first|exact Drawn0.refl _|apply Drawn0.step)⟩
        ·rw [if_neg c5] at H
         have c5b0:((Go.bits .and .i64 x3_2 1) == 1)=false:=beq_eq_false_iff_ne.mpr c5
         have c5b1:((Go.bits .and .i64 x3_2 1) != 1)=true:=bne_iff_ne.mpr c5
         have H':=Aside0.mk H
         clear H
         go_wp2
         go_roundg k2
         case measure=>have:=HK1.out;have:=HK2.out;omega
         case rel=>exact ⟨(x3_2 / 2),(wrap64 (x5_2+1)),rd_,rd_,H',⟨by have:=HK1.out;have:=HK2.out;omega⟩,by repeat (first|exact Drawn0.refl _|apply Drawn0.step)⟩
       ·rw [if_neg c4] at H
        have c4b0:decide (x5_2 < 8)=false:=decide_eq_false c4
        clear c4
        have H':=Aside0.mk H
        clear H
        go_wp2
        go_roundg k2
        case measure=>have:=HK1.out;have:=HK2.out;omega
        case rel=>exact ⟨(x3_2),(wrap64 (x4_1+1)),rd_,rd_,H',⟨by have:=HK1.out;have:=HK2.out;omega⟩,by repeat (first|exact Drawn0.refl _|apply Drawn0.step)⟩
    ·rw [if_neg c3] at H
     exact absurd H (by simp)
   ·rw [if_neg c2] at H
    have c2b0:decide (x4_1 < (l0.length:Int))=false:=decide_eq_false c2
    clear c2
    obtain rfl:=Option.some.inj H
    go_wp2
    go_ret
    exact ⟨by first|rfl|(simp;done)|(simp [*];done),by repeat (first|exact Drawn0.refl _|apply Drawn0.step)⟩
def spec_PutFile.f (k:Nat) (a0_0:Int) (a0_1:Int) (a0_2:Int) (a0_3:Bool) (l0_4:List Int):Option (List Int):=(spec_FileOk.f a0_0 a0_1 a0_2 a0_3 l0_4).bind fun t149=>(if t149=true then ((spec_l8Stamp.f k (([]:List Int)) a0_0 a0_1 a0_2).bind fun t156=>((spec_l8Bool.f a0_3).bind fun t159=>((spec_PutNum.f k t156 t159).bind fun t160=>((spec_PutText.f k t160 (strOfNums l0_4)).bind fun t163=>((spec_Crc.f k t163).bind fun t166=>((some (([(t166 / 16777216) % 256,(t166 / 65536) % 256,(t166 / 256) % 256,(t166) % 256]:List Int):List Int)).bind fun y167=>(if t163.length+y167.length < 140737488355328 then (some (t163 ++ y167)) else (none)))))))) else (some (([]:List Int))))
def spec_PutFile.T3:Bool × List (List Nat × List Nat):=(true,[([],[]),([],[]),([1],[1]),([0,2],[0,2]),([],[]),([4],[4]),([5,3],[5]),([3,6,6],[3,6]),([],[]),([8],[8]),([9],[9]),([7,10,7],[7,10]),([11,11,0,1,2,3,4,5,6,7,8,9,10,11],[11])])
def spec_PutFile.B3:List Nat:=[0,0,2,7,0,16,63,127,0,256,768,2047,4095]
theorem spec_PutFile.tab3:rtab .any (opsOf Try.f35 3)=spec_PutFile.T3:=by kernel_rfl
theorem spec_PutFile.bits3:waitsOk spec_PutFile.T3.2 spec_PutFile.B3=true:=by kernel_rfl
set_option maxHeartbeats 8000000 in
set_option maxRecDepth 100000 in
theorem spec_PutFile.calls (k:Nat) (a0_0:Int) (a0_1:Int) (a0_2:Int) (a0_3:Bool) (A0_4:Option Addr) (c0_4:Nat) (l0_4:List Int) (r:List Int) (w:World) (hr0_4:Kd.C (Kd.int .u8) w A0_4 l0_4.length l0_4) (hc0_4:l0_4.length≤c0_4) (h:spec_PutFile.f k a0_0 a0_1 a0_2 a0_3 l0_4=some r) :
  Calls Try.prog 35 #[.agg #[.int .i64 a0_0,.int .i64 a0_1,.int .i64 a0_2,.bool a0_3,.slice A0_4 l0_4.length c0_4]] w fun e w'=>∃ v0_:Value,e = .returned (v0_)∧Kd.R (Kd.int .u8) 5 w' w.heap.size (fun _=>True) v0_ r∧Below w.heap.size w w':=by
 have hu61:=Try.underlying61
 have hu59:=Try.underlying59
 have HR0_4:=Aside0.mk hr0_4
 have HC0_4:=Aside0.mk hc0_4
 clear hr0_4 hc0_4
 have HB:=Aside0.mk (Below.refl w.heap.size w)
 have H:((spec_FileOk.f a0_0 a0_1 a0_2 a0_3 l0_4).bind fun t149=>(if t149=true then ((spec_l8Stamp.f k (([]:List Int)) a0_0 a0_1 a0_2).bind fun t156=>((spec_l8Bool.f a0_3).bind fun t159=>((spec_PutNum.f k t156 t159).bind fun t160=>((spec_PutText.f k t160 (strOfNums l0_4)).bind fun t163=>((spec_Crc.f k t163).bind fun t166=>((some (([(t166 / 16777216) % 256,(t166 / 65536) % 256,(t166 / 256) % 256,(t166) % 256]:List Int):List Int)).bind fun y167=>(if t163.length+y167.length < 140737488355328 then (some (t163 ++ y167)) else (none)))))))) else (some (([]:List Int)))))=some r:=h
 clear h
 replace H:=Option.bind_eq_some_iff.mp H
 obtain ⟨t149,A20,H⟩:=H
 try dsimp only at H
 have A2:=Aside0.mk A20
 clear A20
 by_cases c3:t149=true
 ·subst c3
  rw [if_pos rfl] at H
  obtain ⟨y153,hy153⟩ : ∃ y_:List Int,y_=(([]:List Int)):=⟨_,rfl⟩
  replace H:((spec_l8Stamp.f k y153 a0_0 a0_1 a0_2).bind fun t156=>((spec_l8Bool.f a0_3).bind fun t159=>((spec_PutNum.f k t156 t159).bind fun t160=>((spec_PutText.f k t160 (strOfNums l0_4)).bind fun t163=>((spec_Crc.f k t163).bind fun t166=>((some (([(t166 / 16777216) % 256,(t166 / 65536) % 256,(t166 / 256) % 256,(t166) % 256]:List Int):List Int)).bind fun y167=>(if t163.length+y167.length < 140737488355328 then (some (t163 ++ y167)) else (none))))))))=some r:=by first|(rw [hy153];with_reducible exact H)|(have H2_:=(Option.bind_some _ _).symm.trans H;rw [hy153];with_reducible exact H2_)|(have H2_:=(Option.bind_some _ _).symm.trans H;with_reducible exact H2_)|with_reducible exact H|(rw [hy153];exact H)|exact H
  have Ny153:=Aside0.mk hy153
  clear hy153
  replace H:=Option.bind_eq_some_iff.mp H
  obtain ⟨t156,A40,H⟩:=H
  try dsimp only at H
  have A4:=Aside0.mk A40
  clear A40
  replace H:=Option.bind_eq_some_iff.mp H
  obtain ⟨t159,A50,H⟩:=H
  try dsimp only at H
  have A5:=Aside0.mk A50
  clear A50
  replace H:=Option.bind_eq_some_iff.mp H
  obtain ⟨t160,A60,H⟩:=H
  try dsimp only at H
  have A6:=Aside0.mk A60
  clear A60
  replace H:=Option.bind_eq_some_iff.mp H
  obtain ⟨t163,A70,H⟩:=H
  try dsimp only at H
  have A7:=Aside0.mk A70
  clear A70
  replace H:=Option.bind_eq_some_iff.mp H
  obtain ⟨t166,A80,H⟩:=H
  try dsimp only at H
  have A8:=Aside0.mk A80
  clear A80
  obtain ⟨y167,hy167⟩ : ∃ y_:List Int,y_=(([(t166 / 16777216) % 256,(t166 / 65536) % 256,(t166 / 256) % 256,(t166) % 256]:List Int)):=⟨_,rfl⟩
  replace H:(if t163.length+y167.length < 140737488355328 then (some (t163 ++ y167)) else (none))=some r:=by first|(rw [hy167];with_reducible exact H)|(have H2_:=(Option.bind_some _ _).symm.trans H;rw [hy167];with_reducible exact H2_)|(have H2_:=(Option.bind_some _ _).symm.trans H;with_reducible exact H2_)|with_reducible exact H|(rw [hy167];exact H)|exact H
  have Ny167:=Aside0.mk hy167
  clear hy167
  by_cases c9:t163.length+y167.length < 140737488355328
  ·rw [if_pos c9] at H
   have LMc9:=Aside0.mk c9
   clear c9
   obtain ⟨y170,hy170⟩ : ∃ y_:List Int,y_=(t163 ++ y167):=⟨_,rfl⟩
   replace H:(some y170)=some r:=by first|(rw [hy170];with_reducible exact H)|(have H2_:=(Option.bind_some _ _).symm.trans H;rw [hy170];with_reducible exact H2_)|(have H2_:=(Option.bind_some _ _).symm.trans H;with_reducible exact H2_)|with_reducible exact H|(rw [hy170];exact H)|exact H
   have Ny170:=Aside0.mk hy170
   clear hy170
   obtain rfl:=Option.some.inj H
   go_enter Try.func35,Try.ntmps35
   try go_wp2_with (first|((with_reducible refine gate_dst (N:=1) rfl ?_);refine box_event ?hg (N:=1) ?hd (cs:=#[.int .i64 a0_0,.int .i64 a0_1,.int .i64 a0_2,.bool a0_3,.slice A0_4 l0_4.length c0_4]) (t:=61) ?hr ?_;(case hd=>rfl);(case hg=>rfl);(case hr=>first|(go_simp;done)|(go_simp;rfl));intro gb148 hg w10 hbox hb;have n0_:=bs hb;have n1_:=Aside0.mk (hbox);have n2_:=Aside0.mk ((by rw [hg];exact (below_size be):w.heap.size≤gb148));have n3_:=Aside0.mk ((by rw [hg];exact (below_size be):w.heap.size≤gb148));clear HB;have HB:=n0_;have BK148:=n1_;have GW148:=n2_;have GE148:=n3_;clear n0_ n1_ n2_ n3_;clear hb hbox hg;have hcz11_0:w10.cell? ⟨gb148,0,none⟩=some (.int .i64 a0_0):=(blk_cell BK148.out 0).trans rfl;have hcz11_1:w10.cell? ⟨gb148,1,none⟩=some (.int .i64 a0_1):=(blk_cell BK148.out 1).trans rfl;have hcz11_2:w10.cell? ⟨gb148,2,none⟩=some (.int .i64 a0_2):=(blk_cell BK148.out 2).trans rfl;have hcz11_3:w10.cell? ⟨gb148,3,none⟩=some (.bool a0_3):=(blk_cell BK148.out 3).trans rfl;have hcz11_4:w10.cell? ⟨gb148,4,none⟩=some (.slice A0_4 l0_4.length c0_4):=(blk_cell BK148.out 4).trans rfl;have hfz11_0:=blk_frozen BK148.out 0;have hfz11_1:=blk_frozen BK148.out 1;have hfz11_2:=blk_frozen BK148.out 2;have hfz11_3:=blk_frozen BK148.out 3;have hfz11_4:=blk_frozen BK148.out 4)|((with_reducible refine gate_callee (f:=86) rfl ?_);refine goesL_ (some 6) rfl rfl Try.func86 (by kernel_rfl) rfl #[.agg #[.int .i64 a0_0,.int .i64 a0_1,.int .i64 a0_2,.bool a0_3,.slice A0_4 l0_4.length c0_4]] rfl (by (try simp only [List.map_toArray,List.map_cons,List.map_nil]);first|done|rfl|(simp only [List.length_drop,List.length_take];rfl)) ?_;(with_reducible refine (spec_FileOk.calls a0_0 a0_1 a0_2 a0_3 _ _ l0_4 true _ ?side1 ?side2 A2.out).mono ?_);(case side1=>exact rC HR0_4);(case side2=>exact HC0_4.out);rintro e w12 ⟨rfl,hb⟩;refine ⟨_,rfl,?_⟩;have n0_:=Aside0.mk (blk_below (g:=gb148) (o:=.cells #[.int .i64 a0_0,.int .i64 a0_1,.int .i64 a0_2,.bool a0_3,.slice A0_4 l0_4.length c0_4] 61 (0,0)) (bk BK148) hb);have n1_:=bs hb;clear BK148;clear HB;have BK148:=n0_;have HB:=n1_;clear n0_ n1_;(try clear hb);(try clear hb2);(try clear hk);(try clear hi)))
   have n0_:=Aside0.mk (blk_drew BK148.out);have n1_:=Aside0.mk (below_drew1 HB.out);clear BK148 HB;have BK148:=n0_;have HB:=n1_;clear n0_ n1_
   refine start_ (n:=13) (S:=fun w'=>w'.cell? ⟨gb148,0,none⟩=some (.int .i64 a0_0)∧w'.cell? ⟨gb148,1,none⟩=some (.int .i64 a0_1)∧w'.cell? ⟨gb148,2,none⟩=some (.int .i64 a0_2)∧w'.cell? ⟨gb148,3,none⟩=some (.bool a0_3)∧w'.cell? ⟨gb148,4,none⟩=some (.slice A0_4 l0_4.length c0_4)∧Kd.C (Kd.int .u8) w' A0_4 l0_4.length l0_4) (ds:=[]) (fl 13 0) (by kernel_rfl) rfl rfl ⟨(blk_cell BK148.out 0).trans rfl,(blk_cell BK148.out 1).trans rfl,(blk_cell BK148.out 2).trans rfl,(blk_cell BK148.out 3).trans rfl,(blk_cell BK148.out 4).trans rfl,Kd.C_below HR0_4.out be⟩ (fun hHeld=>?_);refine with_tabW spec_PutFile.tab3 spec_PutFile.bits3 (fun HT_ HW_=>?_)
   generalize w12.drew=w13 at BK148 HB hHeld ⊢
   refine pt 1 10 (fl 13 2) HT_ ?_
   refine pt 4 13 (fl 13 18) HT_ ?_
   refine pt 8 17 (fl 13 274) HT_ ?_
   refine tt 2 11 (fl 13 278) HT_ HW_ hHeld ?_
   refine tt 5 14 (fl 13 310) HT_ HW_ hHeld ?_
   refine tt 9 18 (fl 13 822) HT_ HW_ hHeld ?_
   refine take_ (i:=10) (N:=some 19) (v:=?_) (a':=?_) (fl 13 1846) rfl rfl (take_ofW HT_.out HW_.out (by kernel_rfl)) (fun _ _ _ h=>h) (Or.inl ⟨by rfl,?_⟩) hHeld ?_ ?_
   rotate_left
   ·rintro w' ⟨s0,s1,s2,s3,s4,s5⟩
    have hcv_:=Kd.C_string (P:=Try.prog) (A:=A0_4) (c:=c0_4) Try.underlying54 Try.underlying5 Try.underlying9 s5
    go_simp
    with_reducible rfl
   rotate_left
   ·simp only [Act.put,List.setIfInBounds_toArray,List.set_cons_zero,List.set_cons_succ,i64_w,i32_w]
    rfl
   refine ot 0 (some 9) (fl 13 1847) HT_ (fun K hK=>?_)
   refine Kd.R_lit_step (Kd.int .u8) _ 5 ?hg (N:=9) ?hd (xs:=([]:List Int)) (inner:=[]) (ok:=fun _=>True) (okp:=fun _=>True) ?hr ?hp (fun _ hk=>hk) trivial (Below.refl _ _) (Nat.le_refl _) (by simp) ?_;(case hd=>rfl);(case hg=>rfl);(case hr=>first|(go_simp;done)|(go_simp;rfl));(case hp=>exact (Reps.none _ _))
   intro v154 w14 ho15 hb hg_ hnew_
   clear hg_ hnew_
   (first|rw [← Ny153.out] at ho15|(simp only [Int.reduceToNat] at ho15;rw [← Ny153.out] at ho15))
   have n0_:=Aside0.mk (Kd.R_lower ho15 (below_size be));have n1_:=Aside0.mk (blk_below (bk BK148) hb);have n2_:=bs hb;clear BK148 HB;have HO155:=n0_;have BK148:=n1_;have HB:=n2_;clear n0_ n1_ n2_ hb ho15
   obtain ⟨Ao16,co16,eo16⟩:=Kd.R_slice HO155.out
   (first|subst eo16|(injection eo16 with f1_ f2_ f3_;have f4_:=f1_.symm;have f5_:=f3_.symm;clear f1_ f2_ f3_;subst f4_;subst f5_))
   refine hK.out _ _ ⟨(blk_cell BK148.out 0).trans rfl,(blk_cell BK148.out 1).trans rfl,(blk_cell BK148.out 2).trans rfl,(blk_cell BK148.out 3).trans rfl,(blk_cell BK148.out 4).trans rfl,Kd.C_below HR0_4.out be⟩ (fun hHeld=>?_)
   clear hK K
   refine no 9 ?_
   refine ot 3 (some 12) (fl 13 1855) HT_ (fun K hK=>?_)
   refine goes_ Try.func89 (by kernel_rfl) rfl #[.slice Ao16 y153.length co16,.agg #[.int .i64 a0_0,.int .i64 a0_1,.int .i64 a0_2]] (by rfl) rfl rfl (by (try simp only [List.map_toArray,List.map_cons,List.map_nil]);first|done|rfl|(simp only [List.length_drop,List.length_take];rfl)) ?_
   with_reducible refine (spec_l8Stamp.calls k _ _ y153 a0_0 a0_1 a0_2 t156 _ ?side1 ?side2 A4.out).mono ?_
   (case side1=>exact sR HO155)
   (case side2=>exact (Kd.R_reads' HO155.out).2.1)
   rintro e w17 ⟨v157,rfl,ho0,hb⟩
   refine ⟨_,rfl,?_⟩
   have n0_:=Aside0.mk (Kd.R_elder' (rR HO155) (Kd.R_base ho0) hb);have n1_:=Aside0.mk (Kd.R_lower (Kd.R_new' ho0 (Kd.R_lt (rR HO155))) (below_size be));have n2_:=Aside0.mk (blk_below (bk BK148) hb);have n3_:=bs hb;clear HO155 BK148 HB;have HO155:=n0_;have HO158:=n1_;have BK148:=n2_;have HB:=n3_;clear n0_ n1_ n2_ n3_;(try clear hb);(try clear hb2);(try clear hk);(try clear hi);(try clear ho0)
   refine hK.out _ _ ⟨(blk_cell BK148.out 0).trans rfl,(blk_cell BK148.out 1).trans rfl,(blk_cell BK148.out 2).trans rfl,(blk_cell BK148.out 3).trans rfl,(blk_cell BK148.out 4).trans rfl,Kd.C_below HR0_4.out be⟩ (fun hHeld=>?_)
   clear hK K
   refine no 12 ?_
   refine ot 6 (some 15) (fl 13 1919) HT_ (fun K hK=>?_)
   refine goes_ Try.func90 (by kernel_rfl) rfl #[.bool a0_3] (by rfl) rfl rfl (by (try simp only [List.map_toArray,List.map_cons,List.map_nil]);first|done|rfl|(simp only [List.length_drop,List.length_take];rfl)) ?_
   with_reducible refine (spec_l8Bool.calls a0_3 t159 _ A5.out).mono ?_
   rintro e w' ⟨rfl,⟨nd,rfl⟩⟩
   refine ⟨_,rfl,?_⟩
   obtain ⟨Ao18,co18,eo18⟩:=Kd.R_slice HO158.out
   (first|subst eo18|(injection eo18 with f1_ f2_ f3_;have f4_:=f1_.symm;have f5_:=f3_.symm;clear f1_ f2_ f3_;subst f4_;subst f5_))
   refine hK.out _ _ ⟨(blk_cell BK148.out 0).trans rfl,(blk_cell BK148.out 1).trans rfl,(blk_cell BK148.out 2).trans rfl,(blk_cell BK148.out 3).trans rfl,(blk_cell BK148.out 4).trans rfl,Kd.C_below HR0_4.out be⟩ (fun hHeld=>?_)
   clear hK K
   refine no 15 ?_
   refine ot 7 (some 16) (fl 13 2047) HT_ (fun K hK=>?_)
   refine goes_ Try.func88 (by kernel_rfl) rfl #[.slice Ao18 t156.length co18,.int .i64 t159] (by rfl) rfl rfl (by (try simp only [List.map_toArray,List.map_cons,List.map_nil]);first|done|rfl|(simp only [List.length_drop,List.length_take];rfl)) ?_
   with_reducible refine (spec_PutNum.calls k _ _ t156 t159 t160 _ ?side1 ?side2 A6.out).mono ?_
   (case side1=>exact sR HO158)
   (case side2=>exact (Kd.R_reads' HO158.out).2.1)
   rintro e w19 ⟨v161,rfl,ho0,hb⟩
   refine ⟨_,rfl,?_⟩
   have n0_:=Aside0.mk (Kd.R_elder' (rR HO155) (Kd.R_base ho0) hb);have n1_:=Aside0.mk (Kd.R_elder' (rR HO158) (Kd.R_base ho0) hb);have n2_:=Aside0.mk (Kd.R_lower (Kd.R_new' (Kd.R_new' ho0 (Kd.R_lt (rR HO155))) (Kd.R_lt (rR HO158))) (below_size be));have n3_:=Aside0.mk (blk_below (bk BK148) hb);have n4_:=bs hb;clear HO155 HO158 BK148 HB;have HO155:=n0_;have HO158:=n1_;have HO162:=n2_;have BK148:=n3_;have HB:=n4_;clear n0_ n1_ n2_ n3_ n4_;(try clear hb);(try clear hb2);(try clear hk);(try clear hi);(try clear ho0)
   have hcv20:=Kd.C_string (P:=Try.prog) (A:=A0_4) (c:=c0_4) Try.underlying54 Try.underlying5 Try.underlying9 (Kd.C_below HR0_4.out HB.out)
   have hcw21:=fun (n_:Nat)=>Kd.C_string (P:=Try.prog) (A:=A0_4) (c:=c0_4) Try.underlying54 Try.underlying5 Try.underlying9 (Kd.C_drewN ((Kd.C_below HR0_4.out HB.out)) n_)
   obtain ⟨Ao23,co23,eo23⟩:=Kd.R_slice HO162.out
   (first|subst eo23|(injection eo23 with f1_ f2_ f3_;have f4_:=f1_.symm;have f5_:=f3_.symm;clear f1_ f2_ f3_;subst f4_;subst f5_))
   refine hK.out _ _ ⟨(blk_cell BK148.out 0).trans rfl,(blk_cell BK148.out 1).trans rfl,(blk_cell BK148.out 2).trans rfl,(blk_cell BK148.out 3).trans rfl,(blk_cell BK148.out 4).trans rfl,Kd.C_below HR0_4.out be⟩ (fun hHeld=>?_)
   clear hK K
   refine no 16 ?_
   refine ot 11 (some 20) (fl 13 4095) HT_ (fun K hK=>?_)
   refine goes_ Try.func87 (by kernel_rfl) rfl #[.slice Ao23 t160.length co23,.string (strOfNums l0_4)] (by rfl) rfl rfl (by (try simp only [List.map_toArray,List.map_cons,List.map_nil]);first|done|rfl|(simp only [List.length_drop,List.length_take];rfl)) ?_
   with_reducible refine (spec_PutText.calls k _ _ t160 (strOfNums l0_4) t163 _ ?side1 ?side2 A7.out).mono ?_
   (case side1=>exact sR HO162)
   (case side2=>exact (Kd.R_reads' HO162.out).2.1)
   rintro e w24 ⟨v164,rfl,ho0,hb⟩
   refine ⟨_,rfl,?_⟩
   have n0_:=Aside0.mk (Kd.R_elder' (rR HO155) (Kd.R_base ho0) hb);have n1_:=Aside0.mk (Kd.R_elder' (rR HO158) (Kd.R_base ho0) hb);have n2_:=Aside0.mk (Kd.R_elder' (rR HO162) (Kd.R_base ho0) hb);have n3_:=Aside0.mk (Kd.R_lower (Kd.R_new' (Kd.R_new' (Kd.R_new' ho0 (Kd.R_lt (rR HO155))) (Kd.R_lt (rR HO158))) (Kd.R_lt (rR HO162))) (below_size be));have n4_:=Aside0.mk (blk_below (bk BK148) hb);have n5_:=bs hb;clear HO155 HO158 HO162 BK148 HB;have HO155:=n0_;have HO158:=n1_;have HO162:=n2_;have HO165:=n3_;have BK148:=n4_;have HB:=n5_;clear n0_ n1_ n2_ n3_ n4_ n5_;(try clear hb);(try clear hb2);(try clear hk);(try clear hi);(try clear ho0)
   refine hK.out _ _ ⟨(blk_cell BK148.out 0).trans rfl,(blk_cell BK148.out 1).trans rfl,(blk_cell BK148.out 2).trans rfl,(blk_cell BK148.out 3).trans rfl,(blk_cell BK148.out 4).trans rfl,Kd.C_below HR0_4.out be⟩ (fun hHeld=>?_)
   clear hK K
   refine no 20 ?_
   refine pt 12 3 (fl 13 8191) HT_ ?_
   refine done_ (done_of HT_.out (by kernel_rfl)) ?_
   obtain ⟨Ao25,co25,eo25⟩:=Kd.R_slice HO165.out
   subst eo25
   try go_wp2_with (first|((with_reducible refine gate_callee (f:=91) rfl ?_);refine goesL_ (some 22) rfl rfl Try.func91 (by kernel_rfl) rfl #[.slice Ao25 t163.length co25] rfl (by (try simp only [List.map_toArray,List.map_cons,List.map_nil]);first|done|rfl|(simp only [List.length_drop,List.length_take];rfl)) ?_;(with_reducible refine (spec_Crc.calls k _ _ t163 t166 _ ?side1 ?side2 A8.out).mono ?_);(case side1=>exact sR HO165);(case side2=>exact (Kd.R_reads' HO165.out).2.1);rintro e w' ⟨rfl,⟨nd,rfl⟩⟩;refine ⟨_,rfl,?_⟩)|((with_reducible refine gate_dst (N:=35) rfl ?_);refine Kd.R_lit (Kd.int .u8) _ 5 ?hg (N:=35) ?hd (xs:=([(t166 / 16777216) % 256,(t166 / 65536) % 256,(t166 / 256) % 256,(t166) % 256]:List Int)) (inner:=[.int .u8 ((t166 / 16777216) % 256),.int .u8 ((t166 / 65536) % 256),.int .u8 ((t166 / 256) % 256),.int .u8 ((t166) % 256)]) (ok:=fun _=>True) (okp:=fun _=>True) ?hr ?hp (fun _ hk=>hk) trivial (Below.refl _ _) (Nat.le_refl _) (by simp) ?_;(case hd=>rfl);(case hg=>rfl);(case hr=>first|(go_simp;done)|(go_simp;rfl));(case hp=>exact (Reps.one (show Kd.M (Kd.int .u8) _ _ _ ((t166 / 16777216) % 256) [.int .u8 ((t166 / 16777216) % 256)] from rfl) (Reps.one (show Kd.M (Kd.int .u8) _ _ _ ((t166 / 65536) % 256) [.int .u8 ((t166 / 65536) % 256)] from rfl) (Reps.one (show Kd.M (Kd.int .u8) _ _ _ ((t166 / 256) % 256) [.int .u8 ((t166 / 256) % 256)] from rfl) (Reps.one (show Kd.M (Kd.int .u8) _ _ _ ((t166) % 256) [.int .u8 ((t166) % 256)] from rfl) (Reps.none _ _))))));intro v168 w26 ho27 hb hg_ hnew_;clear hg_ hnew_;(first|rw [← Ny167.out] at ho27|(simp only [Int.reduceToNat] at ho27;rw [← Ny167.out] at ho27));have n0_:=Aside0.mk (Kd.R_elder' (rR HO155) (Kd.R_base ho27) hb);have n1_:=Aside0.mk (Kd.R_elder' (rR HO158) (Kd.R_base ho27) hb);have n2_:=Aside0.mk (Kd.R_elder' (rR HO162) (Kd.R_base ho27) hb);have n3_:=Aside0.mk (Kd.R_elder' (rR HO165) (Kd.R_base ho27) hb);have n4_:=Aside0.mk (Kd.R_lower (Kd.R_new' (Kd.R_new' (Kd.R_new' (Kd.R_new' ho27 (Kd.R_lt (rR HO155))) (Kd.R_lt (rR HO158))) (Kd.R_lt (rR HO162))) (Kd.R_lt (rR HO165))) (below_size be));have n5_:=Aside0.mk (blk_below (g:=gb148) (o:=.cells #[.int .i64 a0_0,.int .i64 a0_1,.int .i64 a0_2,.bool a0_3,.slice A0_4 l0_4.length c0_4] 61 (0,0)) (bk BK148) hb);have n6_:=bs hb;clear HO155;clear HO158;clear HO162;clear HO165;clear BK148;clear HB;have HO155:=n0_;have HO158:=n1_;have HO162:=n2_;have HO165:=n3_;have HO169:=n4_;have BK148:=n5_;have HB:=n6_;clear n0_ n1_ n2_ n3_ n4_ n5_ n6_;clear hb ho27;obtain ⟨Ao29,co29,eo29⟩:=Kd.R_slice HO169.out;subst eo29)|((with_reducible refine gate_builtin (b:=.append) (xs:=#[.tmp 23,.tmp 35]) rfl ?_);at_builtin;refine Kd.R_append_rows (Kd.int .u8) (w0:=w) w.heap.size rfl (.tmp 23) (.tmp 35) 54 5 (.int .u8 0) 1 rfl Try.underlying54 info5 rfl (by decide) (by omega) (.slice Ao25 t163.length co25) t163 y167 _ _ _ (fun k_=>some k_ ≠ (.slice Ao16 y153.length co16:Value).ownBlock∧some k_ ≠ (.slice Ao18 t156.length co18:Value).ownBlock∧some k_ ≠ (.slice Ao23 t160.length co23:Value).ownBlock∧some k_ ≠ (.slice Ao29 y167.length co29:Value).ownBlock) (fun _=>False) rfl rfl ?aO ?aR (fun _ _ h=>h) (fun _ h=>h.elim) ?aF ?aB ?aS ?aL ?_;(case aR=>exact sR HO169);(case aB=>exact be);(case aF=>exact (fun k_ hk=>⟨Kd.fresh' (Kd.R_lt (rR HO155)) k_ hk,Kd.fresh' (Kd.R_lt (rR HO158)) k_ hk,Kd.fresh' (Kd.R_lt (rR HO162)) k_ hk,Kd.fresh' (Kd.R_lt (rR HO169)) k_ hk⟩));(case aO=>exact (by (with_reducible repeat (first|apply Kd.R_alloc|apply Kd.R_drewN|apply Kd.R_drew));exact Kd.R_mono HO165.out (fun _ hk=>⟨hk.1.1.1.2,⟨hk.1.1.2,⟨hk.1.2,hk.2⟩⟩⟩)));(case aS=>exact (below_size be));(case aL=>have:=LMc9.out;omega);intro v171 w28 ho hb hg hat;rw [← Ny170.out] at ho;have n0_:=Aside0.mk (blk_grown (g:=gb148) (o:=.cells #[.int .i64 a0_0,.int .i64 a0_1,.int .i64 a0_2,.bool a0_3,.slice A0_4 l0_4.length c0_4] 61 (0,0)) (bk BK148) hg (Kd.R_ne HO165.out BK148.out (by decide)));have n1_:=Aside0.mk (Kd.R_after (ok:=(fun k_=>some k_ ≠ (.slice Ao18 t156.length co18:Value).ownBlock∧some k_ ≠ (.slice Ao23 t160.length co23:Value).ownBlock∧some k_ ≠ (.slice Ao29 y167.length co29:Value).ownBlock)) (by (with_reducible repeat (first|apply Kd.R_alloc|apply Kd.R_drewN|apply Kd.R_drew));exact Kd.R_mono HO155.out (fun _ hk=>⟨⟨hk.1.1.1.2,⟨hk.1.1.2,hk.2⟩⟩,hk.1.2⟩)) hg hat);have n2_:=Aside0.mk (Kd.R_after (ok:=(fun k_=>some k_ ≠ (.slice Ao16 y153.length co16:Value).ownBlock∧some k_ ≠ (.slice Ao23 t160.length co23:Value).ownBlock∧some k_ ≠ (.slice Ao29 y167.length co29:Value).ownBlock)) (by (with_reducible repeat (first|apply Kd.R_alloc|apply Kd.R_drewN|apply Kd.R_drew));exact Kd.R_mono HO158.out (fun _ hk=>⟨⟨hk.1.1.1.2,⟨hk.1.1.2,hk.2⟩⟩,hk.1.2⟩)) hg hat);have n3_:=Aside0.mk (Kd.R_after (ok:=(fun k_=>some k_ ≠ (.slice Ao16 y153.length co16:Value).ownBlock∧some k_ ≠ (.slice Ao18 t156.length co18:Value).ownBlock∧some k_ ≠ (.slice Ao29 y167.length co29:Value).ownBlock)) (by (with_reducible repeat (first|apply Kd.R_alloc|apply Kd.R_drewN|apply Kd.R_drew));exact Kd.R_mono HO162.out (fun _ hk=>⟨⟨hk.1.1.1.2,⟨hk.1.1.2,hk.2⟩⟩,hk.1.2⟩)) hg hat);have n4_:=Aside0.mk (Kd.R_after (ok:=(fun k_=>some k_ ≠ (.slice Ao16 y153.length co16:Value).ownBlock∧some k_ ≠ (.slice Ao18 t156.length co18:Value).ownBlock∧some k_ ≠ (.slice Ao23 t160.length co23:Value).ownBlock)) (by (with_reducible repeat (first|apply Kd.R_alloc|apply Kd.R_drewN|apply Kd.R_drew));exact Kd.R_mono HO169.out (fun _ hk=>⟨⟨hk.1.1.1.2,⟨hk.1.1.2,hk.1.2⟩⟩,hk.2⟩)) hg hat);have n5_:=Aside0.mk (hb);have n6_:=Aside0.mk (ho);clear BK148;clear HO155;clear HO158;clear HO162;clear HO169;clear HB;clear HO165;have BK148:=n0_;have HO155:=n1_;have HO158:=n2_;have HO162:=n3_;have HO169:=n4_;have HB:=n5_;have HO172:=n6_;clear n0_ n1_ n2_ n3_ n4_ n5_ n6_;clear ho hb hg hat))
   go_ret
   exact ⟨_,rz,by (with_reducible repeat (first|apply Kd.R_alloc|apply Kd.R_drewN|apply Kd.R_drew));exact Kd.R_mono HO172.out (fun _ hk=>trivial),be⟩
  ·rw [if_neg c9] at H
   exact absurd H (by simp)
 ·replace c3:=Bool.eq_false_iff.mpr c3
  subst c3
  replace H:=(if_neg (show ¬ (false=true) by decide)).symm.trans H
  obtain ⟨y150,hy150⟩ : ∃ y_:List Int,y_=(([]:List Int)):=⟨_,rfl⟩
  replace H:(some y150)=some r:=by first|(rw [hy150];with_reducible exact H)|(have H2_:=(Option.bind_some _ _).symm.trans H;rw [hy150];with_reducible exact H2_)|(have H2_:=(Option.bind_some _ _).symm.trans H;with_reducible exact H2_)|with_reducible exact H|(rw [hy150];exact H)|exact H
  have Ny150:=Aside0.mk hy150
  clear hy150
  obtain rfl:=Option.some.inj H
  go_enter Try.func35,Try.ntmps35
  go_wp2_with (first|((with_reducible refine gate_dst (N:=1) rfl ?_);refine box_event ?hg (N:=1) ?hd (cs:=#[.int .i64 a0_0,.int .i64 a0_1,.int .i64 a0_2,.bool a0_3,.slice A0_4 l0_4.length c0_4]) (t:=61) ?hr ?_;(case hd=>rfl);(case hg=>rfl);(case hr=>first|(go_simp;done)|(go_simp;rfl));intro gb148 hg w30 hbox hb;have n0_:=bs hb;have n1_:=Aside0.mk (hbox);have n2_:=Aside0.mk ((by rw [hg];exact (below_size be):w.heap.size≤gb148));have n3_:=Aside0.mk ((by rw [hg];exact (below_size be):w.heap.size≤gb148));clear HB;have HB:=n0_;have BK148:=n1_;have GW148:=n2_;have GE148:=n3_;clear n0_ n1_ n2_ n3_;clear hb hbox hg;have hcz31_0:w30.cell? ⟨gb148,0,none⟩=some (.int .i64 a0_0):=(blk_cell BK148.out 0).trans rfl;have hcz31_1:w30.cell? ⟨gb148,1,none⟩=some (.int .i64 a0_1):=(blk_cell BK148.out 1).trans rfl;have hcz31_2:w30.cell? ⟨gb148,2,none⟩=some (.int .i64 a0_2):=(blk_cell BK148.out 2).trans rfl;have hcz31_3:w30.cell? ⟨gb148,3,none⟩=some (.bool a0_3):=(blk_cell BK148.out 3).trans rfl;have hcz31_4:w30.cell? ⟨gb148,4,none⟩=some (.slice A0_4 l0_4.length c0_4):=(blk_cell BK148.out 4).trans rfl;have hfz31_0:=blk_frozen BK148.out 0;have hfz31_1:=blk_frozen BK148.out 1;have hfz31_2:=blk_frozen BK148.out 2;have hfz31_3:=blk_frozen BK148.out 3;have hfz31_4:=blk_frozen BK148.out 4)|((with_reducible refine gate_callee (f:=86) rfl ?_);refine goesL_ (some 6) rfl rfl Try.func86 (by kernel_rfl) rfl #[.agg #[.int .i64 a0_0,.int .i64 a0_1,.int .i64 a0_2,.bool a0_3,.slice A0_4 l0_4.length c0_4]] rfl (by (try simp only [List.map_toArray,List.map_cons,List.map_nil]);first|done|rfl|(simp only [List.length_drop,List.length_take];rfl)) ?_;(with_reducible refine (spec_FileOk.calls a0_0 a0_1 a0_2 a0_3 _ _ l0_4 false _ ?side1 ?side2 A2.out).mono ?_);(case side1=>exact rC HR0_4);(case side2=>exact HC0_4.out);rintro e w32 ⟨rfl,hb⟩;refine ⟨_,rfl,?_⟩;have n0_:=Aside0.mk (blk_below (g:=gb148) (o:=.cells #[.int .i64 a0_0,.int .i64 a0_1,.int .i64 a0_2,.bool a0_3,.slice A0_4 l0_4.length c0_4] 61 (0,0)) (bk BK148) hb);have n1_:=bs hb;clear BK148;clear HB;have BK148:=n0_;have HB:=n1_;clear n0_ n1_;(try clear hb);(try clear hb2);(try clear hk);(try clear hi))|((with_reducible refine gate_dst (N:=8) rfl ?_);refine Kd.R_lit (Kd.int .u8) _ 5 ?hg (N:=8) ?hd (xs:=([]:List Int)) (inner:=[]) (ok:=fun _=>True) (okp:=fun _=>True) ?hr ?hp (fun _ hk=>hk) trivial (Below.refl _ _) (Nat.le_refl _) (by simp) ?_;(case hd=>rfl);(case hg=>rfl);(case hr=>first|(go_simp;done)|(go_simp;rfl));(case hp=>exact (Reps.none _ _));intro v151 w33 ho34 hb hg_ hnew_;clear hg_ hnew_;(first|rw [← Ny150.out] at ho34|(simp only [Int.reduceToNat] at ho34;rw [← Ny150.out] at ho34));have n0_:=Aside0.mk (Kd.R_lower ho34 (below_size be));have n1_:=Aside0.mk (blk_below (g:=gb148) (o:=.cells #[.int .i64 a0_0,.int .i64 a0_1,.int .i64 a0_2,.bool a0_3,.slice A0_4 l0_4.length c0_4] 61 (0,0)) (bk BK148) hb);have n2_:=bs hb;clear BK148;clear HB;have HO152:=n0_;have BK148:=n1_;have HB:=n2_;clear n0_ n1_ n2_;clear hb ho34))
  go_ret
  exact ⟨_,rz,rR HO152,be⟩
end Go.Proofs.Ytbhllgifciaepaa.PFnExactGetFile
