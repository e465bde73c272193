/- Trimmed by a program of this session (trim.py). Not trusted: Lean checks it. -/
import Derived.Test.YtpbjbfimnfghkaaTLRebalancedPFnRebalancedx0
import Derived.Test.YtpbjbfimnfghkaaTLRebalancedPFnRebalancedx1
import Derived.Test.YtpbjbfimnfghkaaTLRebalancedPFnRebalancedx4
import Derived.Test.YtpbjbfimnfghkaaTLRebalancedPFnRebalancedx5
import Derived.Test.YtpbjbfimnfghkaaTLRebalancedPFnRebalancedx6
namespace Go.Proofs.Ytpbjbfimnfghkaa.PFnRebalanced
open Go.RowKit Go.Proofs.YtpbjbfimnfghkaaW.PrintWords Go.Proofs.YtpbjbfimnfghkaaW.PrintLast Go.Proofs.YtpbjbfimnfghkaaW.PrintMore Go.Proofs.Ytpbjbfimnfghkaa.St
attribute [local go_sem] max2_int min2_int max_two min_two max_three min_three max_four min_four
set_option linter.unusedVariables false
set_option linter.unusedSimpArgs false
def spec_l6Other.j0:Nat→List (S61)→Bool→List Int→Int→Int→Option ((List (S61)) × Int × Int)
 | 0,_,_,_,_,_=>none
 | k+1,x5,x45,x1000,x1001,x1002=>if x45=true then (if 0≤(wrap64 ((x5.length:Int) - 1)) then (if (wrap64 ((x5.length:Int) - 1)) < (x5.length:Int) then ((spec_l1Below.f x1000 x1001 x1002 4).bind fun bt354=>((spec_l1Int.f x1000 bt354.2.1 bt354.2.2 (([1,10]:List Int))).bind fun bt360=>(if x5.length < 5864062014805 then (some ((x5 ++ [(⟨wrap64 (((rd_T61 x5 (wrap64 ((x5.length:Int) - 1))).f0)+1),bt354.1,bt360.1⟩:S61)]),bt360.2.1,bt360.2.2)) else (none)))) else (none)) else (none)) else (some (x5,x1001,x1002))
def spec_l6Other.f (k:Nat) (s0_0:List Int) (s0_1:Int) (s0_2:Int) (l1:List (S61)):Option ((List (S61)) × Int × Int):=(some (([]:List (S61)):List (S61))).bind fun y323=>(if y323.length+l1.length < 5864062014805 then ((some (y323 ++ l1:List (S61))).bind fun y326=>((spec_l1Below.f s0_0 s0_1 s0_2 3).bind fun bt329=>(if bt329.1=0 then (if (y326.length:Int) > 1 then ((spec_l1Below.f s0_0 bt329.2.1 bt329.2.2 (y326.length:Int)).bind fun bt332=>((some (([]:List (S61)):List (S61))).bind fun y335=>(if 0≤bt332.1 then (if bt332.1≤(y326.length:Int) then ((some (y326.take (bt332.1:Int).toNat:List (S61))).bind fun y338=>(if y335.length+y338.length < 5864062014805 then ((some (y335 ++ y338:List (S61))).bind fun y342=>(if 0≤(wrap64 (bt332.1+1)) then (if (wrap64 (bt332.1+1))≤(y326.length:Int) then ((some (y326.drop ((wrap64 (bt332.1+1)):Int).toNat:List (S61))).bind fun y345=>(if y342.length+y345.length < 5864062014805 then (some ((y342 ++ y345),bt332.2.1,bt332.2.2)) else (none))) else (none)) else (none))) else (none))) else (none)) else (none)))) else (some (y326,bt329.2.1,bt329.2.2))) else (if bt329.1=1 then (if (y326.length:Int) > 0 then (if 0≤(wrap64 ((y326.length:Int) - 1)) then (if (wrap64 ((y326.length:Int) - 1)) < (y326.length:Int) then (spec_l6Other.j0 k y326 (decide (((rd_T61 y326 (wrap64 ((y326.length:Int) - 1))).f0) < 19)) s0_0 bt329.2.1 bt329.2.2) else (none)) else (none)) else (spec_l6Other.j0 k y326 false s0_0 bt329.2.1 bt329.2.2)) else (some (y326,bt329.2.1,bt329.2.2)))))) else (none))
def spec_l6Other.T6:Bool × List (List Nat × List Nat):=(true,[([],[]),([],[]),([],[]),([1,2],[1,2]),([0,3],[0,3]),([],[]),([],[]),([6],[6]),([5,7],[5,7]),([4,8,4],[4,8]),([9,9,0,1,2,3,4,5,6,7,8,9],[1,5,9])])
def spec_l6Other.B6:List Nat:=[0,0,0,6,15,0,0,64,224,511,1023]
theorem spec_l6Other.tab6:rtab .any (opsOf Try.f40 6)=spec_l6Other.T6:=by kernel_rfl
theorem spec_l6Other.bits6:waitsOk spec_l6Other.T6.2 spec_l6Other.B6=true:=by kernel_rfl
def spec_l6Other.T9:Bool × List (List Nat × List Nat):=(true,[([],[]),([],[]),([],[]),([2],[2]),([3],[3]),([1,4],[1,4]),([5],[5]),([6],[6]),([7],[7]),([],[]),([9],[9]),([],[]),([],[]),([11,12,10],[11,12]),([8,10,13],[8,10,13]),([14],[14]),([0,15,13],[0,15]),([16,16,0,1,2,3,4,5,6,7,8,9,10,11,12,13,14,15,16],[0,1,2,16])])
def spec_l6Other.B9:List Nat:=[0,0,0,4,12,30,62,126,254,0,512,0,0,7680,16382,32766,65535,131071]
theorem spec_l6Other.tab9:rtab .any (opsOf Try.f40 9)=spec_l6Other.T9:=by kernel_rfl
theorem spec_l6Other.bits9:waitsOk spec_l6Other.T9.2 spec_l6Other.B9=true:=by kernel_rfl
set_option maxHeartbeats 8000000 in
set_option maxRecDepth 100000 in
theorem spec_l6Other.calls (k:Nat) (g:Nat) (s0_0:List Int) (s0_1:Int) (s0_2:Int) (A1:Option Addr) (c1:Nat) (l1:List (S61)) (r1:List (S61)) (r2:Int) (r3:Int) (w0 w:World) (hI:IsS93 w0 w g s0_0 s0_1 s0_2) (hB:Below w0.heap.size w0 w) (hr1 : ∀ W_,KeepBut w W_ g none→Kd.C k61 W_ A1 l1.length l1) (hc1:l1.length≤c1) (h:spec_l6Other.f k s0_0 s0_1 s0_2 l1=some (r1,r2,r3)) :
  Calls Try.prog 40 #[.pointer (some ⟨g,0,none⟩),.slice A1 l1.length c1] w fun e w'=>∃ v0_:Value,e = .returned (v0_)∧Kd.R k61 61 w' w.heap.size (fun _=>True) v0_ r1∧IsS93 w0 w' g s0_0 r2 r3∧Below w0.heap.size w0 w' ∧ KeepBut w w' g none:=by
 have hu61:=Try.underlying61
 have HR1:=aM hr1
 have HC1:=aM hc1
 clear hr1 hc1
 have HI0:=aM hI
 have HK:=aM (KeepBut.refl w g none)
 have HL:=aM hB.size
 clear hI
 have HW0:=aM hB.size
 have HB:=aM hB
 clear hB
 have H:((some (([]:List (S61)):List (S61))).bind fun y323=>(if y323.length+l1.length < 5864062014805 then ((some (y323 ++ l1:List (S61))).bind fun y326=>((spec_l1Below.f s0_0 s0_1 s0_2 3).bind fun bt329=>(if bt329.1=0 then (if (y326.length:Int) > 1 then ((spec_l1Below.f s0_0 bt329.2.1 bt329.2.2 (y326.length:Int)).bind fun bt332=>((some (([]:List (S61)):List (S61))).bind fun y335=>(if 0≤bt332.1 then (if bt332.1≤(y326.length:Int) then ((some (y326.take (bt332.1:Int).toNat:List (S61))).bind fun y338=>(if y335.length+y338.length < 5864062014805 then ((some (y335 ++ y338:List (S61))).bind fun y342=>(if 0≤(wrap64 (bt332.1+1)) then (if (wrap64 (bt332.1+1))≤(y326.length:Int) then ((some (y326.drop ((wrap64 (bt332.1+1)):Int).toNat:List (S61))).bind fun y345=>(if y342.length+y345.length < 5864062014805 then (some ((y342 ++ y345),bt332.2.1,bt332.2.2)) else (none))) else (none)) else (none))) else (none))) else (none)) else (none)))) else (some (y326,bt329.2.1,bt329.2.2))) else (if bt329.1=1 then (if (y326.length:Int) > 0 then (if 0≤(wrap64 ((y326.length:Int) - 1)) then (if (wrap64 ((y326.length:Int) - 1)) < (y326.length:Int) then (spec_l6Other.j0 k y326 (decide (((rd_T61 y326 (wrap64 ((y326.length:Int) - 1))).f0) < 19)) s0_0 bt329.2.1 bt329.2.2) else (none)) else (none)) else (spec_l6Other.j0 k y326 false s0_0 bt329.2.1 bt329.2.2)) else (some (y326,bt329.2.1,bt329.2.2)))))) else (none)))=some (r1,r2,r3):=h
 clear h
 obtain ⟨y323,hy323⟩ : ∃ y_:List (S61),y_=(([]:List (S61))):=⟨_,rfl⟩
 replace H:(if y323.length+l1.length < 5864062014805 then ((some (y323 ++ l1:List (S61))).bind fun y326=>((spec_l1Below.f s0_0 s0_1 s0_2 3).bind fun bt329=>(if bt329.1=0 then (if (y326.length:Int) > 1 then ((spec_l1Below.f s0_0 bt329.2.1 bt329.2.2 (y326.length:Int)).bind fun bt332=>((some (([]:List (S61)):List (S61))).bind fun y335=>(if 0≤bt332.1 then (if bt332.1≤(y326.length:Int) then ((some (y326.take (bt332.1:Int).toNat:List (S61))).bind fun y338=>(if y335.length+y338.length < 5864062014805 then ((some (y335 ++ y338:List (S61))).bind fun y342=>(if 0≤(wrap64 (bt332.1+1)) then (if (wrap64 (bt332.1+1))≤(y326.length:Int) then ((some (y326.drop ((wrap64 (bt332.1+1)):Int).toNat:List (S61))).bind fun y345=>(if y342.length+y345.length < 5864062014805 then (some ((y342 ++ y345),bt332.2.1,bt332.2.2)) else (none))) else (none)) else (none))) else (none))) else (none)) else (none)))) else (some (y326,bt329.2.1,bt329.2.2))) else (if bt329.1=1 then (if (y326.length:Int) > 0 then (if 0≤(wrap64 ((y326.length:Int) - 1)) then (if (wrap64 ((y326.length:Int) - 1)) < (y326.length:Int) then (spec_l6Other.j0 k y326 (decide (((rd_T61 y326 (wrap64 ((y326.length:Int) - 1))).f0) < 19)) s0_0 bt329.2.1 bt329.2.2) else (none)) else (none)) else (spec_l6Other.j0 k y326 false s0_0 bt329.2.1 bt329.2.2)) else (some (y326,bt329.2.1,bt329.2.2)))))) else (none))=some (r1,r2,r3):=by (have H2_:=(Option.bind_some _ _).symm.trans H;rw [hy323];with_reducible exact H2_)
 have Ny323:=aM hy323
 clear hy323
 obtain ⟨c3,H⟩:=ifs H
 have LMc3:=aM c3
 clear c3
 obtain ⟨y326,hy326⟩ : ∃ y_:List (S61),y_=(y323 ++ l1):=⟨_,rfl⟩
 replace H:((spec_l1Below.f s0_0 s0_1 s0_2 3).bind fun bt329=>(if bt329.1=0 then (if (y326.length:Int) > 1 then ((spec_l1Below.f s0_0 bt329.2.1 bt329.2.2 (y326.length:Int)).bind fun bt332=>((some (([]:List (S61)):List (S61))).bind fun y335=>(if 0≤bt332.1 then (if bt332.1≤(y326.length:Int) then ((some (y326.take (bt332.1:Int).toNat:List (S61))).bind fun y338=>(if y335.length+y338.length < 5864062014805 then ((some (y335 ++ y338:List (S61))).bind fun y342=>(if 0≤(wrap64 (bt332.1+1)) then (if (wrap64 (bt332.1+1))≤(y326.length:Int) then ((some (y326.drop ((wrap64 (bt332.1+1)):Int).toNat:List (S61))).bind fun y345=>(if y342.length+y345.length < 5864062014805 then (some ((y342 ++ y345),bt332.2.1,bt332.2.2)) else (none))) else (none)) else (none))) else (none))) else (none)) else (none)))) else (some (y326,bt329.2.1,bt329.2.2))) else (if bt329.1=1 then (if (y326.length:Int) > 0 then (if 0≤(wrap64 ((y326.length:Int) - 1)) then (if (wrap64 ((y326.length:Int) - 1)) < (y326.length:Int) then (spec_l6Other.j0 k y326 (decide (((rd_T61 y326 (wrap64 ((y326.length:Int) - 1))).f0) < 19)) s0_0 bt329.2.1 bt329.2.2) else (none)) else (none)) else (spec_l6Other.j0 k y326 false s0_0 bt329.2.1 bt329.2.2)) else (some (y326,bt329.2.1,bt329.2.2)))))=some (r1,r2,r3):=by (have H2_:=(Option.bind_some _ _).symm.trans H;rw [hy326];with_reducible exact H2_)
 have Ny326:=aM hy326
 clear hy326
 replace H:=Option.bind_eq_some_iff.mp H
 obtain ⟨⟨t329,t330,t331⟩,A40,H⟩:=H
 try dsimp only at H
 have A4:=aM A40
 clear A40
 by_cases c5:t329=0
 ·rw [if_pos c5] at H
  have c5b0:(t329 == 0)=true:=beq_iff_eq.mpr c5
  have c5b1:(t329 != 0)=false:=bne_eq_false_iff_eq.mpr c5
  clear c5
  by_cases c6:(y326.length:Int) > 1
  ·rw [if_pos c6] at H
   have c6b0:decide (1 < (y326.length:Int))=true:=decide_eq_true c6
   have c6b1:decide (1 < y326.length)=true:=decide_eq_true (by omega)
   clear c6
   replace H:=Option.bind_eq_some_iff.mp H
   obtain ⟨⟨t332,t333,t334⟩,A70,H⟩:=H
   try dsimp only at H
   have A7:=aM A70
   clear A70
   obtain ⟨y335,hy335⟩ : ∃ y_:List (S61),y_=(([]:List (S61))):=⟨_,rfl⟩
   replace H:(if 0≤t332 then (if t332≤(y326.length:Int) then ((some (y326.take (t332:Int).toNat:List (S61))).bind fun y338=>(if y335.length+y338.length < 5864062014805 then ((some (y335 ++ y338:List (S61))).bind fun y342=>(if 0≤(wrap64 (t332+1)) then (if (wrap64 (t332+1))≤(y326.length:Int) then ((some (y326.drop ((wrap64 (t332+1)):Int).toNat:List (S61))).bind fun y345=>(if y342.length+y345.length < 5864062014805 then (some ((y342 ++ y345),t333,t334)) else (none))) else (none)) else (none))) else (none))) else (none)) else (none))=some (r1,r2,r3):=by (have H2_:=(Option.bind_some _ _).symm.trans H;rw [hy335];with_reducible exact H2_)
   have Ny335:=aM hy335
   clear hy335
   obtain ⟨c8,H⟩:=ifs H
   have c8b0:=eq_true c8
   have c8b1:decide (0≤t332)=true:=decide_eq_true c8
   clear c8
   obtain ⟨c9,H⟩:=ifs H
   have c9b0:=eq_true c9
   have c9b1:decide (t332≤(y326.length:Int))=true:=decide_eq_true c9
   clear c9
   obtain ⟨y338,hy338⟩ : ∃ y_:List (S61),y_=(y326.take (t332:Int).toNat):=⟨_,rfl⟩
   replace H:(if y335.length+y338.length < 5864062014805 then ((some (y335 ++ y338:List (S61))).bind fun y342=>(if 0≤(wrap64 (t332+1)) then (if (wrap64 (t332+1))≤(y326.length:Int) then ((some (y326.drop ((wrap64 (t332+1)):Int).toNat:List (S61))).bind fun y345=>(if y342.length+y345.length < 5864062014805 then (some ((y342 ++ y345),t333,t334)) else (none))) else (none)) else (none))) else (none))=some (r1,r2,r3):=by (have H2_:=(Option.bind_some _ _).symm.trans H;rw [hy338];with_reducible exact H2_)
   have Ny338:=aM hy338
   clear hy338
   obtain ⟨c10,H⟩:=ifs H
   have LMc10:=aM c10
   clear c10
   obtain ⟨y342,hy342⟩ : ∃ y_:List (S61),y_=(y335 ++ y338):=⟨_,rfl⟩
   replace H:(if 0≤(wrap64 (t332+1)) then (if (wrap64 (t332+1))≤(y326.length:Int) then ((some (y326.drop ((wrap64 (t332+1)):Int).toNat:List (S61))).bind fun y345=>(if y342.length+y345.length < 5864062014805 then (some ((y342 ++ y345),t333,t334)) else (none))) else (none)) else (none))=some (r1,r2,r3):=by (have H2_:=(Option.bind_some _ _).symm.trans H;rw [hy342];with_reducible exact H2_)
   have Ny342:=aM hy342
   clear hy342
   obtain ⟨ji11,hji11⟩ : ∃ j_:Int,(wrap64 (t332+1))=j_:=⟨_,rfl⟩
   replace H:(if 0≤(ji11) then (if (ji11)≤(y326.length:Int) then ((some (y326.drop ((ji11):Int).toNat:List (S61))).bind fun y345=>(if y342.length+y345.length < 5864062014805 then (some ((y342 ++ y345),t333,t334)) else (none))) else (none)) else (none))=some (r1,r2,r3):=by (rw [hji11] at H;exact H)
   skip
   skip
   have hji11w:(IntKind.i64.wrap (t332+1))=ji11:=(i64_w _).trans hji11
   obtain ⟨c12,H⟩:=ifs H
   have c12b0:=eq_true c12
   have c12b1:decide (0≤(ji11))=true:=decide_eq_true c12
   clear c12
   obtain ⟨c13,H⟩:=ifs H
   have c13b0:=eq_true c13
   have c13b1:decide ((ji11)≤(y326.length:Int))=true:=decide_eq_true c13
   clear c13
   obtain ⟨y345,hy345⟩ : ∃ y_:List (S61),y_=(y326.drop ((ji11):Int).toNat):=⟨_,rfl⟩
   replace H:(if y342.length+y345.length < 5864062014805 then (some ((y342 ++ y345),t333,t334)) else (none))=some (r1,r2,r3):=by (have H2_:=(Option.bind_some _ _).symm.trans H;rw [hy345];with_reducible exact H2_)
   have Ny345:=aM hy345
   clear hy345
   obtain ⟨c14,H⟩:=ifs H
   have LMc14:=aM c14
   clear c14
   obtain ⟨y349,hy349⟩ : ∃ y_:List (S61),y_=(y342 ++ y345):=⟨_,rfl⟩
   replace H:(some (y349,t333,t334))=some (r1,r2,r3):=by (rw [hy349];with_reducible exact H)
   have Ny349:=aM hy349
   clear hy349
   simp only [Option.some.injEq,Prod.mk.injEq] at H
   obtain ⟨rfl,rfl,rfl⟩:=H
   go_enter Try.func40,Try.ntmps40
   try go_wp2_with (first|((with_reducible refine gate_dst (N:=7) rfl ?_);(try (refine gate_guard (by rfl) ?_;dsimp only));refine Kd.R_lit k61 _ 61 ?hg (N:=7) ?hd (xs:=([]:List (S61))) (inner:=[]) (ok:=fun _=>True) (okp:=fun _=>True) ?hr ?hp (fun _ hk=>hk) trivial (Below.refl _ _) (Nat.le_refl _) (by simp) ?_;(case hd=>rfl);(case hg=>rfl);(case hr=>(go_simp;done));(case hp=>exact (Reps.none _ _));intro v324 w15 ho16 hb hg_ hnew_;clear hg_ hnew_;(rw [← Ny323.out] at ho16);have HO325:=aM (Kd.R_lower ho16 (keep_size (w:=w) (g:=g) (row:=none) HK.out));replace HK:=aM (KeepBut.trans HK.out (KeepBut.of_below hb g none) (.inl rfl));replace HB:=aM (below_step HB.out hb);replace HI0:=aM (IsS93.below HI0.out hb);clear hb ho16)|((with_reducible refine gate_builtin (b:=.append) (xs:=#[.tmp 7,.tmp 8]) rfl ?_);(try (refine gate_guard (by rfl) ?_;dsimp only));at_builtin;refine Kd.R_append_rows k61 w.heap.size rfl (.tmp 7) (.tmp 8) 27 61 (.agg #[(.int .i64 0),(.int .i64 0),(.int .i64 0)]) 24 rfl Try.underlying27 info61 rfl (by decide) (by omega) v324 y323 l1 _ _ _ (fun _=>True) (fun _=>False) rfl rfl ?aO ?aR (fun _ _ h=>h) (fun _ h=>h.elim) ?aF (Below.refl _ _) ?aS ?aL ?_;(case aR=>exact Kd.C_foot_now HR1.out HK.out);(case aF=>exact (fun _ _=>trivial));(case aO=>exact (rR HO325));(case aS=>exact (keep_size (w:=w) (g:=g) (row:=none) HK.out));(case aL=>have:=LMc3.out;omega);intro v327 w17 ho hb hg hat;rw [← Ny326.out] at ho;replace HB:=aM (below_weaken HB.out HL.out hb);replace HI0:=aM (IsS93.grown HI0.out hg (IsS93.own_ne HI0.out HO325.out (by decide)));replace HK:=aM (KeepBut.trans HK.out (KeepBut.of_grown hg g) (Kd.R_base2 HO325.out));have HO328:=aM (ho);clear HO325;clear ho hb hg hat)|((with_reducible refine gate_callee (f:=74) rfl ?_);refine goesL_ (some 11) rfl rfl Try.func74 (by kernel_rfl) rfl #[.pointer (some ⟨g,0,none⟩),.int .i64 3] rfl (by (try simp only [List.map_toArray,List.map_cons,List.map_nil]);rfl) ?_;(with_reducible refine (spec_l1Below.calls g s0_0 s0_1 s0_2 3 t329 t330 t331 w0 _ ?side1 ?side2 A4.out).mono ?_);(case side1=>repeat ((with_reducible exact HI0.out)));(case side2=>repeat ((with_reducible exact HB.out)));rintro e w18 ⟨rfl,hi,hb,hk⟩;refine ⟨_,rfl,?_⟩;replace HO328:=aM (Kd.R_mono (Kd.R_keep (IsS93.apart (show IsS93 w0 _ g s0_0 s0_1 s0_2 from by exact HI0.out) (rR HO328) (by decide)) hk (fun _ h=>h.2)) (fun _ h=>h.1));replace HK:=aM (KeepBut.trans HK.out hk (.inl rfl));replace HB:=aM (hb);replace HI0:=aM (hi);(try clear hb);(try clear hk);(try clear hi);obtain ⟨Ao19,co19,eo19⟩:=Kd.R_slice HO328.out;subst eo19)|((with_reducible refine gate_callee (f:=74) rfl ?_);refine goesL_ (some 20) rfl rfl Try.func74 (by kernel_rfl) rfl #[.pointer (some ⟨g,0,none⟩),.int .i64 (y326.length:Int)] rfl (by (try simp only [List.map_toArray,List.map_cons,List.map_nil]);rfl) ?_;(with_reducible refine (spec_l1Below.calls g s0_0 t330 t331 (y326.length:Int) t332 t333 t334 w0 _ ?side1 ?side2 A7.out).mono ?_);(case side1=>repeat ((with_reducible exact HI0.out)));(case side2=>repeat ((with_reducible exact HB.out)));rintro e w20 ⟨rfl,hi,hb,hk⟩;refine ⟨_,rfl,?_⟩;replace HO328:=aM (Kd.R_mono (Kd.R_keep (IsS93.apart (show IsS93 w0 _ g s0_0 t330 t331 from by exact HI0.out) (rR HO328) (by decide)) hk (fun _ h=>h.2)) (fun _ h=>h.1));replace HK:=aM (KeepBut.trans HK.out hk (.inl rfl));replace HB:=aM (hb);replace HI0:=aM (hi);(try clear hb);(try clear hk);(try clear hi)))
   replace HO328:=aM (Kd.R_drew HO328.out);replace HI0:=aM (IsS93.drew HI0.out);replace HK:=aM (keep_drew HK.out);replace HB:=aM (below_drew1 HB.out)
   have q22:(t332:Int)≤((y326.length:Int):Int):=od
   obtain ⟨i022,hi022,_,hsz22,_⟩:=info_parts info61
   have hroom22:y326.length≤co19:=(Kd.R_reads' HO328.out).2.1
   have hC22:Kd.C k61 _ Ao19 y326.length y326:=(Kd.R_reads' HO328.out).2.2
   have hcut22:=cut_to (P:=Try.prog) 27 61 .i64 Try.underlying27 hi022 Ao19 y326.length co19 t332 od q22 hroom22
   have hr22:=Kd.C_take (m:=(t332:Int).toNat) hC22 (by omega)
   have hy22:y338.length=(t332:Int).toNat:=(by rw [Ny338.out,List.length_take];omega)
   rw [← Ny338.out] at hr22
   rw [← hy22] at hcut22
   have HR341:=aM hr22
   have HC341:=aM (show y338.length≤co19 from by omega)
   clear hr22 hC22 hroom22 hi022 hsz22
   have KY22:=aM hy22
   clear hy22
   have KL22:=aM (show (t332:Int).toNat≤y326.length from by omega)
   replace q22:=eq_true q22
   have q23:((ji11):Int)≤((y326.length:Int):Int):=od
   obtain ⟨i023,hi023,_,hsz23,_⟩:=info_parts info61
   have hroom23:y326.length≤co19:=(Kd.R_reads' HO328.out).2.1
   have hC23:Kd.C k61 _ Ao19 y326.length y326:=(Kd.R_reads' HO328.out).2.2
   have q023:(0:Int)≤((ji11):Int):=od
   have hcut23:=cut_from (P:=Try.prog) 27 61 .i64 Try.underlying27 hi023 3 hsz23 Ao19 y326.length co19 (ji11) q023 q23
   have hr23:=Kd.C_drop (m:=((ji11):Int).toNat) (c:=co19) hC23 (by omega) hroom23
   obtain ⟨A23,hA23⟩ : ∃ A1,A1=(if co19=((ji11):Int).toNat then Ao19 else (Ao19:Option Addr).map (·.add (((ji11):Int).toNat * 3))):=⟨_,rfl⟩
   obtain ⟨c23,hc23⟩ : ∃ c1,c1=co19 - ((ji11):Int).toNat:=⟨_,rfl⟩
   have hy23:y345.length=y326.length - ((ji11):Int).toNat:=(by rw [Ny345.out,List.length_drop] <;> omega)
   rw [show (y326).drop ((ji11):Int).toNat=y345 from Ny345.out.symm] at hr23
   replace hr23:Kd.C k61 _ A23 y345.length y345:=(by rw [hA23];exact hr23)
   rw [← hy23,← hA23,← hc23] at hcut23
   have HR348:=aM hr23
   have HC348:=aM (show y345.length≤c23 from by rw [hy23,hc23];exact Nat.sub_le_sub_right hroom23 _)
   clear hr23 hC23 hroom23 hi023 hsz23 hc23
   have KY23:=aM hy23
   have KA23:=aM hA23
   clear hy23 hA23
   have KL23:=aM (show ((ji11):Int).toNat≤y326.length from by omega)
   replace q23:=eq_true q23
   refine start_ (n:=11) (S:=fun w'=>True) (ds:=[]) (fl 11 0) (by kernel_rfl) rfl rfl trivial (fun hHeld=>?_);refine with_tabW spec_l6Other.tab6 spec_l6Other.bits6 (fun HT_ HW_=>?_)
   generalize w20.drew=w21 at HO328 HI0 HK HB HR341 HR348 hHeld ⊢
   refine pt 1 22 (fl 11 2) HT_ ?_
   refine pt 2 23 (fl 11 6) HT_ ?_
   refine pt 3 24 (fl 11 14) HT_ ?_
   refine pt 5 26 (fl 11 46) HT_ ?_
   refine pt 6 27 (fl 11 110) HT_ ?_
   refine pt 7 28 (fl 11 238) HT_ ?_
   refine pt 8 29 (fl 11 494) HT_ ?_
   refine ot 0 (some 21) (fl 11 495) HT_ (fun K hK=>?_)
   refine Kd.R_lit_step k61 _ 61 ?hg (N:=21) ?hd (xs:=([]:List (S61))) (inner:=[]) (ok:=fun _=>True) (okp:=fun _=>True) ?hr ?hp (fun _ hk=>hk) trivial (Below.refl _ _) (Nat.le_refl _) (by simp) ?_;(case hd=>rfl);(case hg=>rfl);(case hr=>(go_simp;done));(case hp=>exact (Reps.none _ _))
   intro v336 w24 ho25 hb hg_ hnew_
   clear hg_ hnew_
   (rw [← Ny335.out] at ho25)
   have HO337:=aM (Kd.R_lower (Kd.R_new' ho25 (Kd.R_lt (rR HO328))) (keep_size (w:=w) (g:=g) (row:=none) HK.out));replace HO328:=aM (Kd.R_elder' (rR HO328) (Kd.R_base ho25) hb);replace HR341:=cB HR341 hb;replace HK:=aM (KeepBut.trans HK.out (KeepBut.of_below hb g none) (.inl rfl));replace HB:=aM (below_step HB.out hb);replace HI0:=aM (IsS93.below HI0.out hb);clear HR348;clear hb ho25
   refine hK.out _ _ trivial (fun hHeld=>?_)
   clear hK K
   refine no 21 ?_
   refine ot 4 (some 25) (fl 11 511) HT_ (fun K hK=>?_)
   refine Kd.R_append_rows_step k61 w.heap.size (by rfl) (.tmp 21) (.tmp 24) 27 61 (.agg #[(.int .i64 0),(.int .i64 0),(.int .i64 0)]) 24 rfl Try.underlying27 info61 rfl (by decide) (by omega) v336 y335 y338 _ _ _ (fun k_=>some k_ ≠ (.slice Ao19 y326.length co19:Value).ownBlock) (fun _=>False) rfl rfl ?aO ?aR (fun _ _ h=>h) (fun _ h=>h.elim) ?aF (Below.refl _ _) ?aS ?aL ?_
   (case aR=>repeat (exact HR341.out))
   (case aF=>exact (fun k_ hk=>Kd.fresh' (Kd.R_lt (rR HO328)) k_ hk))
   (case aO=>exact (by exact Kd.R_mono HO337.out (fun _ hk=>hk.2)))
   (case aS=>exact (keep_size (w:=w) (g:=g) (row:=none) HK.out))
   (case aL=>have:=LMc10.out;omega)
   intro v343 w26 ho hb hg hat
   rw [← Ny342.out] at ho
   replace HB:=aM (below_weaken HB.out HL.out hb);replace HI0:=aM (IsS93.grown HI0.out hg (IsS93.own_ne HI0.out HO337.out (by decide)));replace HK:=aM (KeepBut.trans HK.out (KeepBut.of_grown hg g) (Kd.R_base2 HO337.out));replace HR348:=aM ((show Kd.C k61 w26 A23 y345.length y345 from by rw [Ny345.out,KA23.out];exact Kd.C_drop (m:=((ji11):Int).toNat) (c:=co19) ((Kd.R_reads' (Kd.R_after (ok:=(fun _=>True)) (rR HO328) hg hat)).2.2) KL23.out ((Kd.R_reads' (Kd.R_after (ok:=(fun _=>True)) (rR HO328) hg hat)).2.1)));replace HO328:=aM (Kd.R_after (ok:=(fun _=>True)) (rR HO328) hg hat);have HO344:=aM (ho);clear HR341 HO337;clear ho hb hg hat
   refine hK.out _ _ trivial (fun hHeld=>?_)
   clear hK K
   refine no 25 ?_
   refine ot 9 (some 30) (fl 11 1023) HT_ (fun K hK=>?_)
   refine Kd.R_append_rows_step k61 w.heap.size (by rfl) (.tmp 25) (.tmp 29) 27 61 (.agg #[(.int .i64 0),(.int .i64 0),(.int .i64 0)]) 24 rfl Try.underlying27 info61 rfl (by decide) (by omega) v343 y342 y345 _ _ _ (fun k_=>some k_ ≠ (.slice Ao19 y326.length co19:Value).ownBlock) (fun _=>False) rfl rfl ?aO ?aR (fun _ _ h=>h) (fun _ h=>h.elim) ?aF (Below.refl _ _) ?aS ?aL ?_
   (case aR=>repeat (exact HR348.out))
   (case aF=>exact (fun k_ hk=>Kd.fresh' (Kd.R_lt (rR HO328)) k_ hk))
   (case aO=>exact (rR HO344))
   (case aS=>exact (keep_size (w:=w) (g:=g) (row:=none) HK.out))
   (case aL=>have:=LMc14.out;omega)
   intro v350 w27 ho hb hg hat
   rw [← Ny349.out] at ho
   replace HB:=aM (below_weaken HB.out HL.out hb);replace HI0:=aM (IsS93.grown HI0.out hg (IsS93.own_ne HI0.out HO344.out (by decide)));replace HK:=aM (KeepBut.trans HK.out (KeepBut.of_grown hg g) (Kd.R_base2 HO344.out));have HO351:=aM (ho);clear HO328 HR348 HO344;clear ho hb hg hat
   refine hK.out _ _ trivial (fun hHeld=>?_)
   clear hK K
   refine no 30 ?_
   refine pt 10 5 (fl 11 2047) HT_ ?_
   refine done_ (done_of HT_.out (by kernel_rfl)) ?_
   try go_wp2
   go_ret
   exact ⟨_,by rfl,by exact Kd.R_mono HO351.out (fun _ hk=>trivial),by repeat ((with_reducible exact HI0.out)),by repeat ((with_reducible exact HB.out)),by repeat ((with_reducible exact HK.out))⟩
  ·rw [if_neg c6] at H
   have c6b0:decide (1 < (y326.length:Int))=false:=decide_eq_false c6
   have c6b1:decide (1 < y326.length)=false:=decide_eq_false (by omega)
   clear c6
   simp only [Option.some.injEq,Prod.mk.injEq] at H
   obtain ⟨rfl,rfl,rfl⟩:=H
   go_enter Try.func40,Try.ntmps40
   go_wp2_with (first|((with_reducible refine gate_dst (N:=7) rfl ?_);(try (refine gate_guard (by rfl) ?_;dsimp only));refine Kd.R_lit k61 _ 61 ?hg (N:=7) ?hd (xs:=([]:List (S61))) (inner:=[]) (ok:=fun _=>True) (okp:=fun _=>True) ?hr ?hp (fun _ hk=>hk) trivial (Below.refl _ _) (Nat.le_refl _) (by simp) ?_;(case hd=>rfl);(case hg=>rfl);(case hr=>(go_simp;done));(case hp=>exact (Reps.none _ _));intro v324 w28 ho29 hb hg_ hnew_;clear hg_ hnew_;(rw [← Ny323.out] at ho29);have HO325:=aM (Kd.R_lower ho29 (keep_size (w:=w) (g:=g) (row:=none) HK.out));replace HK:=aM (KeepBut.trans HK.out (KeepBut.of_below hb g none) (.inl rfl));replace HB:=aM (below_step HB.out hb);replace HI0:=aM (IsS93.below HI0.out hb);clear hb ho29)|((with_reducible refine gate_builtin (b:=.append) (xs:=#[.tmp 7,.tmp 8]) rfl ?_);(try (refine gate_guard (by rfl) ?_;dsimp only));at_builtin;refine Kd.R_append_rows k61 w.heap.size rfl (.tmp 7) (.tmp 8) 27 61 (.agg #[(.int .i64 0),(.int .i64 0),(.int .i64 0)]) 24 rfl Try.underlying27 info61 rfl (by decide) (by omega) v324 y323 l1 _ _ _ (fun _=>True) (fun _=>False) rfl rfl ?aO ?aR (fun _ _ h=>h) (fun _ h=>h.elim) ?aF (Below.refl _ _) ?aS ?aL ?_;(case aR=>exact Kd.C_foot_now HR1.out HK.out);(case aF=>exact (fun _ _=>trivial));(case aO=>exact (rR HO325));(case aS=>exact (keep_size (w:=w) (g:=g) (row:=none) HK.out));(case aL=>have:=LMc3.out;omega);intro v327 w30 ho hb hg hat;rw [← Ny326.out] at ho;replace HB:=aM (below_weaken HB.out HL.out hb);replace HI0:=aM (IsS93.grown HI0.out hg (IsS93.own_ne HI0.out HO325.out (by decide)));replace HK:=aM (KeepBut.trans HK.out (KeepBut.of_grown hg g) (Kd.R_base2 HO325.out));have HO328:=aM (ho);clear HO325;clear ho hb hg hat)|((with_reducible refine gate_callee (f:=74) rfl ?_);refine goesL_ (some 11) rfl rfl Try.func74 (by kernel_rfl) rfl #[.pointer (some ⟨g,0,none⟩),.int .i64 3] rfl (by (try simp only [List.map_toArray,List.map_cons,List.map_nil]);rfl) ?_;(with_reducible refine (spec_l1Below.calls g s0_0 s0_1 s0_2 3 t329 t330 t331 w0 _ ?side1 ?side2 A4.out).mono ?_);(case side1=>repeat ((with_reducible exact HI0.out)));(case side2=>repeat ((with_reducible exact HB.out)));rintro e w31 ⟨rfl,hi,hb,hk⟩;refine ⟨_,rfl,?_⟩;replace HO328:=aM (Kd.R_mono (Kd.R_keep (IsS93.apart (show IsS93 w0 _ g s0_0 s0_1 s0_2 from by exact HI0.out) (rR HO328) (by decide)) hk (fun _ h=>h.2)) (fun _ h=>h.1));replace HK:=aM (KeepBut.trans HK.out hk (.inl rfl));replace HB:=aM (hb);replace HI0:=aM (hi);(try clear hb);(try clear hk);(try clear hi);obtain ⟨Ao32,co32,eo32⟩:=Kd.R_slice HO328.out;subst eo32))
   go_ret
   exact ⟨_,by rfl,rR HO328,by repeat ((with_reducible exact HI0.out)),by repeat ((with_reducible exact HB.out)),by repeat ((with_reducible exact HK.out))⟩
 ·rw [if_neg c5] at H
  have c5b0:(t329 == 0)=false:=beq_eq_false_iff_ne.mpr c5
  have c5b1:(t329 != 0)=true:=bne_iff_ne.mpr c5
  by_cases c33:t329=1
  ·rw [if_pos c33] at H
   have c33b0:(t329 == 1)=true:=beq_iff_eq.mpr c33
   have c33b1:(t329 != 1)=false:=bne_eq_false_iff_eq.mpr c33
   clear c33
   have HC34:=aM H
   clear H
   go_enter Try.func40,Try.ntmps40
   go_upto_region 8 with (first|((with_reducible refine gate_dst (N:=7) rfl ?_);(try (refine gate_guard (by rfl) ?_;dsimp only));refine Kd.R_lit k61 _ 61 ?hg (N:=7) ?hd (xs:=([]:List (S61))) (inner:=[]) (ok:=fun _=>True) (okp:=fun _=>True) ?hr ?hp (fun _ hk=>hk) trivial (Below.refl _ _) (Nat.le_refl _) (by simp) ?_;(case hd=>rfl);(case hg=>rfl);(case hr=>(go_simp;done));(case hp=>exact (Reps.none _ _));intro v324 w35 ho36 hb hg_ hnew_;clear hg_ hnew_;(rw [← Ny323.out] at ho36);have HO325:=aM (Kd.R_lower ho36 (keep_size (w:=w) (g:=g) (row:=none) HK.out));replace HK:=aM (KeepBut.trans HK.out (KeepBut.of_below hb g none) (.inl rfl));replace HB:=aM (below_step HB.out hb);replace HI0:=aM (IsS93.below HI0.out hb);clear hb ho36)|((with_reducible refine gate_builtin (b:=.append) (xs:=#[.tmp 7,.tmp 8]) rfl ?_);(try (refine gate_guard (by rfl) ?_;dsimp only));at_builtin;refine Kd.R_append_rows k61 w.heap.size rfl (.tmp 7) (.tmp 8) 27 61 (.agg #[(.int .i64 0),(.int .i64 0),(.int .i64 0)]) 24 rfl Try.underlying27 info61 rfl (by decide) (by omega) v324 y323 l1 _ _ _ (fun _=>True) (fun _=>False) rfl rfl ?aO ?aR (fun _ _ h=>h) (fun _ h=>h.elim) ?aF (Below.refl _ _) ?aS ?aL ?_;(case aR=>exact Kd.C_foot_now HR1.out HK.out);(case aF=>exact (fun _ _=>trivial));(case aO=>exact (rR HO325));(case aS=>exact (keep_size (w:=w) (g:=g) (row:=none) HK.out));(case aL=>have:=LMc3.out;omega);intro v327 w37 ho hb hg hat;rw [← Ny326.out] at ho;replace HB:=aM (below_weaken HB.out HL.out hb);replace HI0:=aM (IsS93.grown HI0.out hg (IsS93.own_ne HI0.out HO325.out (by decide)));replace HK:=aM (KeepBut.trans HK.out (KeepBut.of_grown hg g) (Kd.R_base2 HO325.out));have HO328:=aM (ho);clear HO325;clear ho hb hg hat)|((with_reducible refine gate_callee (f:=74) rfl ?_);refine goesL_ (some 11) rfl rfl Try.func74 (by kernel_rfl) rfl #[.pointer (some ⟨g,0,none⟩),.int .i64 3] rfl (by (try simp only [List.map_toArray,List.map_cons,List.map_nil]);rfl) ?_;(with_reducible refine (spec_l1Below.calls g s0_0 s0_1 s0_2 3 t329 t330 t331 w0 _ ?side1 ?side2 A4.out).mono ?_);(case side1=>repeat ((with_reducible exact HI0.out)));(case side2=>repeat ((with_reducible exact HB.out)));rintro e w38 ⟨rfl,hi,hb,hk⟩;refine ⟨_,rfl,?_⟩;replace HO328:=aM (Kd.R_mono (Kd.R_keep (IsS93.apart (show IsS93 w0 _ g s0_0 s0_1 s0_2 from by exact HI0.out) (rR HO328) (by decide)) hk (fun _ h=>h.2)) (fun _ h=>h.1));replace HK:=aM (KeepBut.trans HK.out hk (.inl rfl));replace HB:=aM (hb);replace HI0:=aM (hi);(try clear hb);(try clear hk);(try clear hi)))
   skip
   go_cut [45] (fun v45 wc=>∃ (kq:Nat) (x45_33:Bool),v45 = .bool x45_33∧Aside0 (spec_l6Other.j0 kq y326 x45_33 s0_0 t330 t331=some (r1,r2,r3))∧Aside0 (kq≤k)∧Aside0 (Kd.R k61 61 wc w.heap.size (fun _=>True) v327 y326)∧Aside0 (IsS93 w0 wc g s0_0 t330 t331)∧Aside0 (KeepBut w wc g none)∧Aside0 (Below w0.heap.size w0 wc))
   case first=>
    have H:=HC34.out
    clear HC34
    by_cases c39:(y326.length:Int) > 0
    ·rw [if_pos c39] at H
     have c39b0:decide (0 < (y326.length:Int))=true:=decide_eq_true c39
     have c39b1:decide (0 < y326.length)=true:=decide_eq_true (by omega)
     clear c39
     (skip)
     obtain ⟨ji40,hji40⟩ : ∃ j_:Int,(wrap64 ((y326.length:Int) - 1))=j_:=⟨_,rfl⟩
     replace H:(if 0≤(ji40) then (if (ji40) < (y326.length:Int) then (spec_l6Other.j0 k y326 (decide (((rd_T61 y326 (ji40)).f0) < 19)) s0_0 t330 t331) else (none)) else (none))=some (r1,r2,r3):=by (rw [hji40] at H;exact H)
     have hji40w:(IntKind.i64.wrap ((y326.length:Int) - 1))=ji40:=(i64_w _).trans hji40
     obtain ⟨c41,H⟩:=ifs H
     have c41b0:decide (0≤(ji40))=true:=decide_eq_true c41
     clear c41
     obtain ⟨c42,H⟩:=ifs H
     have c42b0:decide ((ji40) < (y326.length:Int))=true:=decide_eq_true c42
     clear c42
     have H':=Aside0.mk H
     clear H
     obtain ⟨Ao43,co43,eo43⟩:=Kd.R_slice HO328.out
     subst eo43
     have p352:0≤((ji40):Int):=od
     have q352:(ji40) < (y326.length:Int):=od
     obtain ⟨ad352,e352,hx352_0,hx352_1,hx352_2⟩:=at_T61 (Kd.R_reads' HO328.out).2.2 (ji40) p352 q352
     cases e352
     replace p352:=eq_true p352
     replace q352:=eq_true q352
     go_wp2
     go_meet
     case rel=>exact ⟨_,(decide (((rd_T61 y326 (ji40)).f0) < 19)),(by rfl),H',⟨by omega⟩,⟨rR HO328⟩,⟨by repeat ((with_reducible exact HI0.out))⟩,⟨by repeat ((with_reducible exact HK.out))⟩,⟨by repeat ((with_reducible exact HB.out))⟩⟩
    ·rw [if_neg c39] at H
     have c39b0:decide (0 < (y326.length:Int))=false:=decide_eq_false c39
     have c39b1:decide (0 < y326.length)=false:=decide_eq_false (by omega)
     clear c39
     (skip)
     have H':=Aside0.mk H
     clear H
     obtain ⟨Ao44,co44,eo44⟩:=Kd.R_slice HO328.out
     subst eo44
     go_wp2
     go_meet
     case rel=>exact ⟨_,(false),rd_,H',⟨by omega⟩,⟨rR HO328⟩,⟨by repeat ((with_reducible exact HI0.out))⟩,⟨by repeat ((with_reducible exact HK.out))⟩,⟨by repeat ((with_reducible exact HB.out))⟩⟩
   case rest=>
    clear HC34
    try clear c5
    try clear c5b0
    try clear c5b1
    try clear c33b0
    try clear c33b1
    obtain ⟨kq,x45_33,rfl,HA,HJ33,HO_5,HI0,HK,HB⟩:=hcut
    cases kq with
    | zero=>exact absurd HA.out (by simp [spec_l6Other.j0])
    | succ kj33=>
     have H:=HA.out
     clear HA
     simp only [spec_l6Other.j0] at H
     by_cases c45:x45_33=true
     ·subst c45
      rw [if_pos rfl] at H
      obtain ⟨ji46,hji46⟩ : ∃ j_:Int,(wrap64 ((y326.length:Int) - 1))=j_:=⟨_,rfl⟩
      replace H:(if 0≤(ji46) then (if (ji46) < (y326.length:Int) then ((spec_l1Below.f s0_0 t330 t331 4).bind fun bt354=>((spec_l1Int.f s0_0 bt354.2.1 bt354.2.2 (([1,10]:List Int))).bind fun bt360=>(if y326.length < 5864062014805 then (some ((y326 ++ [(⟨wrap64 (((rd_T61 y326 (ji46)).f0)+1),bt354.1,bt360.1⟩:S61)]),bt360.2.1,bt360.2.2)) else (none)))) else (none)) else (none))=some (r1,r2,r3):=by (rw [hji46] at H;exact H)
      have hji46w:(IntKind.i64.wrap ((y326.length:Int) - 1))=ji46:=(i64_w _).trans hji46
      obtain ⟨c47,H⟩:=ifs H
      have c47b0:decide (0≤(ji46))=true:=decide_eq_true c47
      clear c47
      obtain ⟨c48,H⟩:=ifs H
      have c48b0:decide ((ji46) < (y326.length:Int))=true:=decide_eq_true c48
      clear c48
      replace H:=Option.bind_eq_some_iff.mp H
      obtain ⟨⟨t354,t355,t356⟩,A490,H⟩:=H
      try dsimp only at H
      have A49:=aM A490
      clear A490
      obtain ⟨y357,hy357⟩ : ∃ y_:List Int,y_=(([1,10]:List Int)):=⟨_,rfl⟩
      replace H:((spec_l1Int.f s0_0 t355 t356 y357).bind fun bt360=>(if y326.length < 5864062014805 then (some ((y326 ++ [(⟨wrap64 (((rd_T61 y326 (ji46)).f0)+1),t354,bt360.1⟩:S61)]),bt360.2.1,bt360.2.2)) else (none)))=some (r1,r2,r3):=by (rw [hy357];with_reducible exact H)
      have Ny357:=aM hy357
      clear hy357
      replace H:=Option.bind_eq_some_iff.mp H
      obtain ⟨⟨t360,t361,t362⟩,A500,H⟩:=H
      try dsimp only at H
      have A50:=aM A500
      clear A500
      obtain ⟨c51,H⟩:=ifs H
      have LMc51:=aM c51
      clear c51
      obtain ⟨y363,hy363⟩ : ∃ y_:List (S61),y_=(y326 ++ [(⟨wrap64 (((rd_T61 y326 (ji46)).f0)+1),t354,t360⟩:S61)]):=⟨_,rfl⟩
      replace H:(some (y363,t361,t362))=some (r1,r2,r3):=by (rw [hy363];with_reducible exact H)
      have Ny363:=aM hy363
      clear hy363
      simp only [Option.some.injEq,Prod.mk.injEq] at H
      obtain ⟨rfl,rfl,rfl⟩:=H
      obtain ⟨Ao52,co52,eo52⟩:=Kd.R_slice HO_5.out
      subst eo52
      try go_wp2
      replace HO_5:=aM (Kd.R_drew HO_5.out);replace HI0:=aM (IsS93.drew HI0.out);replace HK:=aM (keep_drew HK.out);replace HB:=aM (below_drew1 HB.out)
      have p353:0≤((ji46):Int):=od
      have q353:(ji46) < (y326.length:Int):=od
      obtain ⟨ad353,e353,hx353_0,hx353_1,hx353_2⟩:=at_T61 (Kd.R_reads' HO_5.out).2.2 (ji46) p353 q353
      cases e353
      replace p353:=eq_true p353
      replace q353:=eq_true q353
      refine start_ (n:=18) (S:=fun w'=>w'.cell? (ad353.add (((ji46)).toNat * 3))=some (.int .i64 ((rd_T61 y326 (ji46)).f0))∧w'.cell? ⟨(ad353.add (((ji46)).toNat * 3)).block,(ad353.add (((ji46)).toNat * 3)).off+1,none⟩=some (.int .i64 ((rd_T61 y326 (ji46)).f1))∧w'.cell? ⟨(ad353.add (((ji46)).toNat * 3)).block,(ad353.add (((ji46)).toNat * 3)).off+2,none⟩=some (.int .i64 ((rd_T61 y326 (ji46)).f2))) (ds:=[15,16]) (fl 18 0) (by kernel_rfl) rfl rfl ⟨hx353_0,hx353_1,hx353_2⟩ (fun hHeld=>?_);refine with_tabW spec_l6Other.tab9 spec_l6Other.bits9 (fun HT_ HW_=>?_)
      generalize wc.drew=w53 at HO_5 HI0 HK HB hx353_0 hx353_1 hx353_2 hHeld ⊢
      refine pt 0 46 (fl 18 1) HT_ ?_
      refine pt 1 47 (fl 18 3) HT_ ?_
      refine pt 2 48 (fl 18 7) HT_ ?_
      refine pt 3 49 (fl 18 15) HT_ ?_
      refine pt 4 50 (fl 18 31) HT_ ?_
      refine pt 5 51 (fl 18 63) HT_ ?_
      refine pt 6 52 (fl 18 127) HT_ ?_
      refine pt 9 55 (fl 18 639) HT_ ?_
      refine pt 11 57 (fl 18 2687) HT_ ?_
      refine tt 7 53 (fl 18 2815) HT_ HW_ hHeld ?_
      refine pt 8 54 (fl 18 3071) HT_ ?_
      refine join_ (σ:=Value) 5 (fl 18 8191) (fun s_=>[(56,.int .i64 t354),(58,s_)]) (fun s_ w'=>(w'.cell? (ad353.add (((ji46)).toNat * 3))=some (.int .i64 ((rd_T61 y326 (ji46)).f0))∧w'.cell? ⟨(ad353.add (((ji46)).toNat * 3)).block,(ad353.add (((ji46)).toNat * 3)).off+1,none⟩=some (.int .i64 ((rd_T61 y326 (ji46)).f1))∧w'.cell? ⟨(ad353.add (((ji46)).toNat * 3)).block,(ad353.add (((ji46)).toNat * 3)).off+2,none⟩=some (.int .i64 ((rd_T61 y326 (ji46)).f2)))∧(Kd.R (Kd.int .i64) 3 w' w.heap.size (fun _=>True) s_ y357)∧(Kd.R k61 61 w' w.heap.size (fun _=>True) (.slice (some ad353) y326.length co52) y326)∧(IsS93 w0 w' g s0_0 t355 t356)∧(KeepBut w w' g none)∧(Below w0.heap.size w0 w')) ?_ ?_
      rotate_left
      ·intro hCont
       refine two_ (i:=10) (j:=12) (Ni:=some 56) (Nj:=some 58) (fl 18 4095) (fl 18 7167) rfl rfl rfl rfl (two_of HT_.out (by kernel_rfl)) (by decide) (by decide) (fun K hK=>?_) (fun K hK=>?_)
       ·skip
        refine goes_ Try.func74 (by kernel_rfl) rfl #[.pointer (some ⟨g,0,none⟩),.int .i64 4] (by rfl) rfl rfl (by (try simp only [List.map_toArray,List.map_cons,List.map_nil]);rfl) ?_
        with_reducible refine (spec_l1Below.calls g s0_0 t330 t331 4 t354 t355 t356 w0 _ ?side1 ?side2 A49.out).mono ?_
        (case side1=>repeat ((with_reducible exact HI0.out)))
        (case side2=>repeat ((with_reducible exact HB.out)))
        rintro e w54 ⟨rfl,hi,hb,hk⟩
        have HS0_:=keep_cell hk (hHeld.1) (by (rw [add_block];exact Kd.own_blk (IsS93.own_ne HI0.out HO_5.out (by decide))))
        have HS1_:=keep_cell hk (hHeld.2.1) (by (rw [add_block];exact Kd.own_blk (IsS93.own_ne HI0.out HO_5.out (by decide))))
        have HS2_:=keep_cell hk (hHeld.2.2) (by (rw [add_block];exact Kd.own_blk (IsS93.own_ne HI0.out HO_5.out (by decide))))
        refine ⟨_,rfl,?_⟩
        replace HO_5:=aM (Kd.R_mono (Kd.R_keep (IsS93.apart (show IsS93 w0 _ g s0_0 t330 t331 from by exact HI0.out) (rR HO_5) (by decide)) hk (fun _ h=>h.2)) (fun _ h=>h.1));replace HK:=aM (KeepBut.trans HK.out hk (.inl rfl));replace HB:=aM (hb);replace HI0:=aM (hi);(try clear hb);(try clear hk);(try clear hi)
        refine hK.out _ _ ⟨HS0_,HS1_,HS2_⟩ (fun hHeld=>?_)
        clear hK K
        refine no 56 ?_
        refine ot 12 (some 58) (fl 18 8191) HT_ (fun K hK=>?_)
        refine Kd.R_lit_step (Kd.int .i64) _ 3 ?hg (N:=58) ?hd (xs:=([1,10]:List Int)) (inner:=[.int .i64 1,.int .i64 10]) (ok:=fun _=>True) (okp:=fun _=>True) ?hr ?hp (fun _ hk=>hk) trivial (Below.refl _ _) (Nat.le_refl _) (by simp) ?_;(case hd=>rfl);(case hg=>rfl);(case hr=>(go_simp;done));(case hp=>exact (Reps.one (show Kd.M (Kd.int .i64) _ _ _ 1 [.int .i64 1] from rfl) (Reps.one (show Kd.M (Kd.int .i64) _ _ _ 10 [.int .i64 10] from rfl) (Reps.none _ _))))
        intro v358 w55 ho56 hb hg_ hnew_
        have HS0_:=(hb.cell (World.block_lt_of_cell? _ _ (hHeld.1))).trans (hHeld.1)
        have HS1_:=(hb.cell (World.block_lt_of_cell? _ _ (hHeld.2.1))).trans (hHeld.2.1)
        have HS2_:=(hb.cell (World.block_lt_of_cell? _ _ (hHeld.2.2))).trans (hHeld.2.2)
        clear hg_ hnew_
        (rw [← Ny357.out] at ho56)
        replace HO_5:=rB HO_5 hb;have HO359:=aM (Kd.R_lower ho56 (keep_size (w:=w) (g:=g) (row:=none) HK.out));replace HK:=aM (KeepBut.trans HK.out (KeepBut.of_below hb g none) (.inl rfl));replace HB:=aM (below_step HB.out hb);replace HI0:=aM (IsS93.below HI0.out hb);clear hb ho56
        refine hK.out _ _ ⟨HS0_,HS1_,HS2_⟩ (fun hHeld=>?_)
        clear hK K
        refine no 58 ?_
        exact norm_ (by simp only [putAll,Act.put,List.setIfInBounds_toArray,List.set_cons_zero,List.set_cons_succ]) (hCont (v358) _ ⟨hHeld,(rR HO359),(rR HO_5),HI0.out,HK.out,HB.out⟩)
       ·skip
        refine Kd.R_lit_step (Kd.int .i64) _ 3 ?hg (N:=58) ?hd (xs:=([1,10]:List Int)) (inner:=[.int .i64 1,.int .i64 10]) (ok:=fun _=>True) (okp:=fun _=>True) ?hr ?hp (fun _ hk=>hk) trivial (Below.refl _ _) (Nat.le_refl _) (by simp) ?_;(case hd=>rfl);(case hg=>rfl);(case hr=>(go_simp;done));(case hp=>exact (Reps.one (show Kd.M (Kd.int .i64) _ _ _ 1 [.int .i64 1] from rfl) (Reps.one (show Kd.M (Kd.int .i64) _ _ _ 10 [.int .i64 10] from rfl) (Reps.none _ _))))
        intro v358 w54 ho55 hb hg_ hnew_
        have HS0_:=(hb.cell (World.block_lt_of_cell? _ _ (hHeld.1))).trans (hHeld.1)
        have HS1_:=(hb.cell (World.block_lt_of_cell? _ _ (hHeld.2.1))).trans (hHeld.2.1)
        have HS2_:=(hb.cell (World.block_lt_of_cell? _ _ (hHeld.2.2))).trans (hHeld.2.2)
        clear hg_ hnew_
        (rw [← Ny357.out] at ho55)
        replace HO_5:=rB HO_5 hb;have HO359:=aM (Kd.R_lower ho55 (keep_size (w:=w) (g:=g) (row:=none) HK.out));replace HK:=aM (KeepBut.trans HK.out (KeepBut.of_below hb g none) (.inl rfl));replace HB:=aM (below_step HB.out hb);replace HI0:=aM (IsS93.below HI0.out hb);clear hb ho55
        refine hK.out _ _ ⟨HS0_,HS1_,HS2_⟩ (fun hHeld=>?_)
        clear hK K
        refine no 58 ?_
        refine ot 10 (some 56) (fl 18 8191) HT_ (fun K hK=>?_)
        refine goes_ Try.func74 (by kernel_rfl) rfl #[.pointer (some ⟨g,0,none⟩),.int .i64 4] (by rfl) rfl rfl (by (try simp only [List.map_toArray,List.map_cons,List.map_nil]);rfl) ?_
        with_reducible refine (spec_l1Below.calls g s0_0 t330 t331 4 t354 t355 t356 w0 _ ?side1 ?side2 A49.out).mono ?_
        (case side1=>repeat ((with_reducible exact HI0.out)))
        (case side2=>repeat ((with_reducible exact HB.out)))
        rintro e w56 ⟨rfl,hi,hb,hk⟩
        have HS0_:=keep_cell hk (hHeld.1) (by (rw [add_block];exact Kd.own_blk (IsS93.own_ne HI0.out HO_5.out (by decide))))
        have HS1_:=keep_cell hk (hHeld.2.1) (by (rw [add_block];exact Kd.own_blk (IsS93.own_ne HI0.out HO_5.out (by decide))))
        have HS2_:=keep_cell hk (hHeld.2.2) (by (rw [add_block];exact Kd.own_blk (IsS93.own_ne HI0.out HO_5.out (by decide))))
        refine ⟨_,rfl,?_⟩
        replace HO_5:=aM (Kd.R_mono (Kd.R_keep (IsS93.apart (show IsS93 w0 _ g s0_0 t330 t331 from by exact HI0.out) (rR HO_5) (by decide)) hk (fun _ h=>h.2)) (fun _ h=>h.1));replace HO359:=aM (Kd.R_mono (Kd.R_keep (IsS93.apart (show IsS93 w0 _ g s0_0 t330 t331 from by exact HI0.out) (rR HO359) (by decide)) hk (fun _ h=>h.2)) (fun _ h=>h.1));replace HK:=aM (KeepBut.trans HK.out hk (.inl rfl));replace HB:=aM (hb);replace HI0:=aM (hi);(try clear hb);(try clear hk);(try clear hi)
        refine hK.out _ _ ⟨HS0_,HS1_,HS2_⟩ (fun hHeld=>?_)
        clear hK K
        refine no 56 ?_
        exact norm_ (by simp only [putAll,Act.put,List.setIfInBounds_toArray,List.set_cons_zero,List.set_cons_succ]) (hCont (v358) _ ⟨hHeld,(rR HO359),(rR HO_5),HI0.out,HK.out,HB.out⟩)
      rintro v358 w57 ⟨hS_,h0_,h1_,h2_,h3_,h4_⟩
      have n0_:Aside0 (Kd.R (Kd.int .i64) 3 w57 w.heap.size (fun _=>True) v358 y357):=⟨h0_⟩
      have n1_:Aside0 (Kd.R k61 61 w57 w.heap.size (fun _=>True) (.slice (some ad353) y326.length co52) y326):=⟨h1_⟩
      have n2_:Aside0 (IsS93 w0 w57 g s0_0 t355 t356):=⟨h2_⟩
      have n3_:Aside0 (KeepBut w w57 g none):=⟨h3_⟩
      have n4_:Aside0 (Below w0.heap.size w0 w57):=⟨h4_⟩
      clear HO_5 HI0 HK HB h0_ h1_ h2_ h3_ h4_;have HO359:=n0_;have HO_5:=n1_;have HI0:=n2_;have HK:=n3_;have HB:=n4_;clear n0_ n1_ n2_ n3_ n4_
      have hHeld:w57.cell? (ad353.add (((ji46)).toNat * 3))=some (.int .i64 ((rd_T61 y326 (ji46)).f0))∧w57.cell? ⟨(ad353.add (((ji46)).toNat * 3)).block,(ad353.add (((ji46)).toNat * 3)).off+1,none⟩=some (.int .i64 ((rd_T61 y326 (ji46)).f1))∧w57.cell? ⟨(ad353.add (((ji46)).toNat * 3)).block,(ad353.add (((ji46)).toNat * 3)).off+2,none⟩=some (.int .i64 ((rd_T61 y326 (ji46)).f2)):=hS_
      obtain ⟨Ao58,co58,eo58⟩:=Kd.R_slice HO359.out
      (subst eo58)
      refine norm_ (a':=?_) ?_ ?_
      rotate_left
      ·simp only [putAll,Act.put,List.setIfInBounds_toArray,List.set_cons_zero,List.set_cons_succ]
       rfl
      refine ot 13 (some 59) (fl 18 16383) HT_ (fun K hK=>?_)
      refine goes_ Try.func71 (by kernel_rfl) rfl #[.pointer (some ⟨g,0,none⟩),.slice Ao58 y357.length co58] (by rfl) rfl rfl (by (try simp only [List.map_toArray,List.map_cons,List.map_nil]);rfl) ?_
      with_reducible refine (spec_l1Int.calls g s0_0 t355 t356 _ _ y357 t360 t361 t362 w0 _ ?side1 ?side2 ?side3 ?side4 ?side5 A50.out).mono ?_
      (case side1=>repeat ((with_reducible exact HI0.out)))
      (case side2=>repeat ((with_reducible exact HB.out)))
      (case side3=>exact sR HO359)
      (case side4=>exact (Kd.R_reads' HO359.out).2.1)
      (case side5=>exact far_slice (IsS93.own_ne HI0.out HO359.out (by decide)))
      rintro e w59 ⟨rfl,hi,hb,hk⟩
      have HS0_:=keep_cell hk (hHeld.1) (by (rw [add_block];exact Kd.own_blk (IsS93.own_ne HI0.out HO_5.out (by decide))))
      have HS1_:=keep_cell hk (hHeld.2.1) (by (rw [add_block];exact Kd.own_blk (IsS93.own_ne HI0.out HO_5.out (by decide))))
      have HS2_:=keep_cell hk (hHeld.2.2) (by (rw [add_block];exact Kd.own_blk (IsS93.own_ne HI0.out HO_5.out (by decide))))
      refine ⟨_,rfl,?_⟩
      replace HO_5:=aM (Kd.R_mono (Kd.R_keep (IsS93.apart (show IsS93 w0 _ g s0_0 t355 t356 from by exact HI0.out) (rR HO_5) (by decide)) hk (fun _ h=>h.2)) (fun _ h=>h.1));replace HK:=aM (KeepBut.trans HK.out hk (.inl rfl));replace HB:=aM (hb);replace HI0:=aM (hi);clear HO359;(try clear hb);(try clear hk);(try clear hi)
      refine hK.out _ _ ⟨HS0_,HS1_,HS2_⟩ (fun hHeld=>?_)
      clear hK K
      refine no 59 ?_
      refine pt 14 60 (fl 18 32767) HT_ ?_
      refine last_ (i:=15) (N:=some 61) (fl 18 65535) rfl rfl (one_of HT_.out (by kernel_rfl)) (by decide) (fun K hK=>?_)
      refine value_ (w1:=?_) (v:=?_) (by rfl) rfl ?_ ?_
      rotate_left 2
      ·go_simp
       constructor
       ·rfl
       ·rfl
      refine hK.out _ _ ?_
      clear hK K
      refine no 61 ?_
      refine last_ (i:=16) (N:=some 62) (fl 18 131071) rfl rfl (one_of HT_.out (by kernel_rfl)) (by decide) (fun K hK=>?_)
      refine Kd.R_append_step k61 w.heap.size (by rfl) (.tmp 46) (.tmp 61) 27 61 (.agg #[(.int .i64 0),(.int .i64 0),(.int .i64 0)]) 24 rfl Try.underlying27 info61 rfl (by decide) (by omega) (.slice (some ad353) y326.length co52) y326 (⟨wrap64 (((rd_T61 y326 (ji46)).f0)+1),t354,t360⟩:S61) [.int .i64 (wrap64 (((rd_T61 y326 (ji46)).f0)+1)),.int .i64 t354,.int .i64 t360] (fun _=>True) (fun _=>False) rfl rfl ?aP (fun _ hk=>hk.elim) ?aF ?aO (Below.refl _ _) ?aS ?aL ?_
      (case aP=>exact k61_mkM _ _ _ (⟨wrap64 (((rd_T61 y326 (ji46)).f0)+1),t354,t360⟩:S61))
      (case aF=>exact (fun _ _=>trivial))
      (case aO=>exact (rR HO_5))
      (case aS=>exact (keep_size (w:=w) (g:=g) (row:=none) HK.out))
      (case aL=>have:=LMc51.out;omega)
      intro v364 w60 ho hb hg hat
      rw [← Ny363.out] at ho
      replace HB:=aM (below_weaken HB.out HL.out hb);replace HI0:=aM (IsS93.grown HI0.out hg (IsS93.own_ne HI0.out HO_5.out (by decide)));replace HK:=aM (KeepBut.trans HK.out (KeepBut.of_grown hg g) (Kd.R_base2 HO_5.out));have HO365:=aM (ho);clear HO_5;clear ho hb hg hat
      refine hK.out _ _ ?_
      clear hK K
      refine no 62 ?_
      refine pt 17 5 (fl 18 262143) HT_ ?_
      refine done_ (done_of HT_.out (by kernel_rfl)) ?_
      try go_wp2
      go_ret
      exact ⟨_,by rfl,rR HO365,by repeat ((with_reducible exact HI0.out)),by repeat ((with_reducible exact HB.out)),by repeat ((with_reducible exact HK.out))⟩
     ·replace c45:=Bool.eq_false_iff.mpr c45
      subst c45
      replace H:=(if_neg (show ¬ (false=true) by decide)).symm.trans H
      simp only [Option.some.injEq,Prod.mk.injEq] at H
      obtain ⟨rfl,rfl,rfl⟩:=H
      go_wp2
      go_ret
      exact ⟨_,by rfl,rR HO_5,by repeat ((with_reducible exact HI0.out)),by repeat ((with_reducible exact HB.out)),by repeat ((with_reducible exact HK.out))⟩
  ·rw [if_neg c33] at H
   have c33b0:(t329 == 1)=false:=beq_eq_false_iff_ne.mpr c33
   have c33b1:(t329 != 1)=true:=bne_iff_ne.mpr c33
   simp only [Option.some.injEq,Prod.mk.injEq] at H
   obtain ⟨rfl,rfl,rfl⟩:=H
   go_enter Try.func40,Try.ntmps40
   go_wp2_with (first|((with_reducible refine gate_dst (N:=7) rfl ?_);(try (refine gate_guard (by rfl) ?_;dsimp only));refine Kd.R_lit k61 _ 61 ?hg (N:=7) ?hd (xs:=([]:List (S61))) (inner:=[]) (ok:=fun _=>True) (okp:=fun _=>True) ?hr ?hp (fun _ hk=>hk) trivial (Below.refl _ _) (Nat.le_refl _) (by simp) ?_;(case hd=>rfl);(case hg=>rfl);(case hr=>(go_simp;done));(case hp=>exact (Reps.none _ _));intro v324 w61 ho62 hb hg_ hnew_;clear hg_ hnew_;(rw [← Ny323.out] at ho62);have HO325:=aM (Kd.R_lower ho62 (keep_size (w:=w) (g:=g) (row:=none) HK.out));replace HK:=aM (KeepBut.trans HK.out (KeepBut.of_below hb g none) (.inl rfl));replace HB:=aM (below_step HB.out hb);replace HI0:=aM (IsS93.below HI0.out hb);clear hb ho62)|((with_reducible refine gate_builtin (b:=.append) (xs:=#[.tmp 7,.tmp 8]) rfl ?_);(try (refine gate_guard (by rfl) ?_;dsimp only));at_builtin;refine Kd.R_append_rows k61 w.heap.size rfl (.tmp 7) (.tmp 8) 27 61 (.agg #[(.int .i64 0),(.int .i64 0),(.int .i64 0)]) 24 rfl Try.underlying27 info61 rfl (by decide) (by omega) v324 y323 l1 _ _ _ (fun _=>True) (fun _=>False) rfl rfl ?aO ?aR (fun _ _ h=>h) (fun _ h=>h.elim) ?aF (Below.refl _ _) ?aS ?aL ?_;(case aR=>exact Kd.C_foot_now HR1.out HK.out);(case aF=>exact (fun _ _=>trivial));(case aO=>exact (rR HO325));(case aS=>exact (keep_size (w:=w) (g:=g) (row:=none) HK.out));(case aL=>have:=LMc3.out;omega);intro v327 w63 ho hb hg hat;rw [← Ny326.out] at ho;replace HB:=aM (below_weaken HB.out HL.out hb);replace HI0:=aM (IsS93.grown HI0.out hg (IsS93.own_ne HI0.out HO325.out (by decide)));replace HK:=aM (KeepBut.trans HK.out (KeepBut.of_grown hg g) (Kd.R_base2 HO325.out));have HO328:=aM (ho);clear HO325;clear ho hb hg hat)|((with_reducible refine gate_callee (f:=74) rfl ?_);refine goesL_ (some 11) rfl rfl Try.func74 (by kernel_rfl) rfl #[.pointer (some ⟨g,0,none⟩),.int .i64 3] rfl (by (try simp only [List.map_toArray,List.map_cons,List.map_nil]);rfl) ?_;(with_reducible refine (spec_l1Below.calls g s0_0 s0_1 s0_2 3 t329 t330 t331 w0 _ ?side1 ?side2 A4.out).mono ?_);(case side1=>repeat ((with_reducible exact HI0.out)));(case side2=>repeat ((with_reducible exact HB.out)));rintro e w64 ⟨rfl,hi,hb,hk⟩;refine ⟨_,rfl,?_⟩;replace HO328:=aM (Kd.R_mono (Kd.R_keep (IsS93.apart (show IsS93 w0 _ g s0_0 s0_1 s0_2 from by exact HI0.out) (rR HO328) (by decide)) hk (fun _ h=>h.2)) (fun _ h=>h.1));replace HK:=aM (KeepBut.trans HK.out hk (.inl rfl));replace HB:=aM (hb);replace HI0:=aM (hi);(try clear hb);(try clear hk);(try clear hi)))
   go_ret
   exact ⟨_,by rfl,rR HO328,by repeat ((with_reducible exact HI0.out)),by repeat ((with_reducible exact HB.out)),by repeat ((with_reducible exact HK.out))⟩
def spec_DrawRebalance.f (k:Nat) (l0:List Int):Option (Int × (List (S35)) × (List (S61))):=(spec_l1New.f k l0).bind fun bt367=>((spec_l5Draw.f k bt367.1 bt367.2.1 bt367.2.2).bind fun bt371=>((spec_l1Once.f bt367.1 bt371.2.2.2.1 bt371.2.2.2.2 6).bind fun bt381=>(if bt381.1=true then ((spec_l5Any.f k bt367.1 bt381.2.1 bt381.2.2).bind fun bt384=>((spec_l6Other.f k bt367.1 bt384.2.2.2.1 bt384.2.2.2.2 bt384.1).bind fun bt393=>(some (bt384.2.1,bt384.2.2.1,bt393.1)))) else ((spec_l6Other.f k bt367.1 bt381.2.1 bt381.2.2 bt371.1).bind fun bt398=>(some (bt371.2.1,bt371.2.2.1,bt398.1))))))
set_option maxHeartbeats 8000000 in
set_option maxRecDepth 100000 in
theorem spec_DrawRebalance.calls (k:Nat) (A0:Option Addr) (c0:Nat) (l0:List Int) (r1:Int) (r2:List (S35)) (r3:List (S61)) (w:World) (hr0:Kd.C (Kd.int .u8) w A0 l0.length l0) (hc0:l0.length≤c0) (h:spec_DrawRebalance.f k l0=some (r1,r2,r3)) :
  Calls Try.prog 9 #[.slice A0 l0.length c0] w fun e w'=>∃ v1_ v2_:Value,e = .returned (.tuple #[.agg #[.int .i64 r1,v1_],v2_])∧Kd.S k35 35 w' w.heap.size (fun _=>True) v1_ r2∧Kd.R k61 61 w' w.heap.size (fun _=>True) v2_ r3∧Below w.heap.size w w':=by
 have hu26:=Try.underlying26
 have HR0:=aM hr0
 have HC0:=aM hc0
 clear hr0 hc0
 have HB:=aM (Below.refl w.heap.size w)
 have H:((spec_l1New.f k l0).bind fun bt367=>((spec_l5Draw.f k bt367.1 bt367.2.1 bt367.2.2).bind fun bt371=>((spec_l1Once.f bt367.1 bt371.2.2.2.1 bt371.2.2.2.2 6).bind fun bt381=>(if bt381.1=true then ((spec_l5Any.f k bt367.1 bt381.2.1 bt381.2.2).bind fun bt384=>((spec_l6Other.f k bt367.1 bt384.2.2.2.1 bt384.2.2.2.2 bt384.1).bind fun bt393=>(some (bt384.2.1,bt384.2.2.1,bt393.1)))) else ((spec_l6Other.f k bt367.1 bt381.2.1 bt381.2.2 bt371.1).bind fun bt398=>(some (bt371.2.1,bt371.2.2.1,bt398.1)))))))=some (r1,r2,r3):=h
 clear h
 replace H:=Option.bind_eq_some_iff.mp H
 obtain ⟨⟨t367,t368,t369⟩,A20,H⟩:=H
 try dsimp only at H
 have A2:=aM A20
 clear A20
 replace H:=Option.bind_eq_some_iff.mp H
 obtain ⟨⟨t371,t374,t375,t378,t379⟩,A30,H⟩:=H
 try dsimp only at H
 have A3:=aM A30
 clear A30
 replace H:=Option.bind_eq_some_iff.mp H
 obtain ⟨⟨t381,t382,t383⟩,A40,H⟩:=H
 try dsimp only at H
 have A4:=aM A40
 clear A40
 by_cases c5:t381=true
 ·subst c5
  rw [if_pos rfl] at H
  replace H:=Option.bind_eq_some_iff.mp H
  obtain ⟨⟨t384,t387,t388,t391,t392⟩,A60,H⟩:=H
  try dsimp only at H
  have A6:=aM A60
  clear A60
  replace H:=Option.bind_eq_some_iff.mp H
  obtain ⟨⟨t393,t396,t397⟩,A70,H⟩:=H
  try dsimp only at H
  have A7:=aM A70
  clear A70
  simp only [Option.some.injEq,Prod.mk.injEq] at H
  obtain ⟨rfl,rfl,rfl⟩:=H
  go_enter Try.func9,Try.ntmps9
  try go_wp2_with (first|((with_reducible refine gate_dst (N:=2) rfl ?_);refine box_event ?hg (N:=2) ?hd (cs:=#[.int .i64 0,.slice none 0 0]) (t:=26) ?hr ?_;(case hd=>rfl);(case hg=>rfl);(case hr=>(go_simp;done));intro gb366 hg w8 hbox hb;have BK366:=aM (hbox);have GW366:=gS w hg;have GE366:=gS w hg;replace HB:=bs hb;clear hb hbox hg)|((with_reducible refine gate_callee (f:=36) rfl ?_);refine goesL_ (some 8) rfl rfl Try.func36 (by kernel_rfl) rfl #[.slice A0 l0.length c0] rfl (by (try simp only [List.map_toArray,List.map_cons,List.map_nil]);rfl) ?_;(with_reducible refine (spec_l1New.calls k _ _ l0 t367 t368 t369 w _ ?side1 ?side2 ?side3 A2.out).mono ?_);(case side1=>exact be);(case side2=>exact HR0.out);(case side3=>exact HC0.out);rintro e w9 ⟨g370,rfl,hi,hb,hb2⟩;refine ⟨_,rfl,?_⟩;replace HB:=aM (hb);have HI370:=aM (hi);have NB370_366:=aM (IsS93.ne_blk hi (blk_below (bk BK366) hb2) (by decide));have NB366_370:=aM (Ne.symm (IsS93.ne_blk hi (blk_below (bk BK366) hb2) (by decide)));replace BK366:=aM (blk_below (bk BK366) hb2);(try clear hb);(try clear hb2);(try clear hi))|((with_reducible refine gate_callee (f:=37) rfl ?_);refine goesL_ (some 11) rfl rfl Try.func37 (by kernel_rfl) rfl #[.pointer (some ⟨g370,0,none⟩)] rfl (by (try simp only [List.map_toArray,List.map_cons,List.map_nil]);rfl) ?_;(with_reducible refine (spec_l5Draw.calls k g370 t367 t368 t369 t371 t374 t375 t378 t379 w _ ?side1 ?side2 A3.out).mono ?_);(case side1=>repeat ((with_reducible exact HI370.out)));(case side2=>repeat ((with_reducible exact HB.out)));rintro e w10 ⟨v372,v376,rfl,ho0,ho1,hi,hb,hk⟩;refine ⟨_,rfl,?_⟩;replace BK366:=aM (KeepBut.blk hk (g':=gb366) (o:=.cells #[.int .i64 0,.slice none 0 0] 26 (0,0)) (bk BK366) NB366_370.out (by simp));have HO373:=aM (Kd.R_lower ho0 (below_size HB.out));have HO377:=aM (Kd.S_lower ho1 (below_size HB.out));replace HB:=aM (hb);replace HI370:=aM (hi);(try clear hb);(try clear hk);(try clear hi);(try clear ho0);(try clear ho1))|((with_reducible refine gate_dst (N:=6) rfl ?_);refine box_event ?hg (N:=6) ?hd (cs:=#[.int .i64 0,.slice none 0 0]) (t:=26) ?hr ?_;(case hd=>rfl);(case hg=>rfl);(case hr=>(go_simp;done));intro gb380 hg w11 hbox hb;replace HO373:=rB HO373 hb;replace HO377:=sB HO377 hb;have BK380:=aM (hbox);have GW380:=aM ((by rw [hg];exact (below_size HB.out):w.heap.size≤gb380));have GE380:=aM ((by rw [hg];exact (below_size HB.out):w.heap.size≤gb380));replace HB:=aM (below_step HB.out hb);have NB366_380:=nL hg BK366;have NB380_366:=nG hg BK366;replace BK366:=bB BK366 hb;have NB370_380:=aM ((by rw [hg];exact Nat.ne_of_lt (IsS93.lt (show IsS93 w _ g370 t367 t378 t379 from by exact HI370.out)):g370 ≠ gb380));have NB380_370:=aM ((by rw [hg];exact Nat.ne_of_gt (IsS93.lt (show IsS93 w _ g370 t367 t378 t379 from by exact HI370.out)):gb380 ≠ g370));replace HI370:=aM (IsS93.below HI370.out hb);clear hb hbox hg;have hnb12:=NB380_366.out;have hnc12:=NB366_380.out;have hnb13:=NB380_370.out;have hnc13:=NB370_380.out;obtain ⟨hcz14_0,hcz14_1,hfz14_0,hfz14_1⟩:=b2 BK380;obtain ⟨Ao15,co15,eo15⟩:=Kd.S_slice HO377.out;subst eo15)|((with_reducible refine gate_callee (f:=38) rfl ?_);refine goesL_ (some 15) rfl rfl Try.func38 (by kernel_rfl) rfl #[.pointer (some ⟨g370,0,none⟩),.int .i64 6] rfl (by (try simp only [List.map_toArray,List.map_cons,List.map_nil]);rfl) ?_;(with_reducible refine (spec_l1Once.calls g370 t367 t378 t379 6 true t382 t383 w _ ?side1 ?side2 A4.out).mono ?_);(case side1=>repeat ((with_reducible first|exact HI370.out|refine IsS93.far ?_ NB370_380.out _)));(case side2=>repeat ((with_reducible first|exact HB.out|refine below_set ?_ GE380.out)));rintro e w16 ⟨rfl,hi,hb,hk⟩;refine ⟨_,rfl,?_⟩;replace BK366:=aM (KeepBut.blk hk (g':=gb366) (o:=.cells #[.int .i64 0,.slice none 0 0] 26 (0,0)) (by refine blk_far ?_ NB366_380.out _;refine blk_far ?_ NB366_380.out _;exact BK366.out) NB366_370.out (by simp));replace HO373:=aM (Kd.R_mono (Kd.R_keep (IsS93.apart (show IsS93 w _ g370 t367 t378 t379 from by repeat ((with_reducible first|exact HI370.out|refine IsS93.far ?_ NB370_380.out _))) (by exact (Kd.R_mono (Kd.R_far (p:=⟨gb380,1,none⟩) (Kd.R_far (p:=⟨gb380,0,none⟩) (Kd.R_types HO373.out BK380.out (by decide)) (fun _ hk=>hk.2) (.int .i64 t374)) (fun _ hk=>hk.2) (.slice Ao15 t375.length co15)) (fun _ h_=>h_.1))) (by decide)) hk (fun _ h=>h.2)) (fun _ h=>h.1));replace HO377:=aM (Kd.S_mono (Kd.S_keep (IsS93.apartS (show IsS93 w _ g370 t367 t378 t379 from by repeat ((with_reducible first|exact HI370.out|refine IsS93.far ?_ NB370_380.out _))) (by exact (Kd.S_mono (Kd.S_far (p:=⟨gb380,1,none⟩) (Kd.S_far (p:=⟨gb380,0,none⟩) (Kd.S_types HO377.out BK380.out (by decide)) (fun _ hk=>hk.2) (.int .i64 t374)) (fun _ hk=>hk.2) (.slice Ao15 t375.length co15)) (fun _ h_=>h_.1))) (by decide)) hk (fun _ h=>h.2)) (fun _ h=>h.1));replace BK380:=aM (KeepBut.blk hk (g':=gb380) (o:=.cells #[.int .i64 t374,.slice Ao15 t375.length co15] 26 (0,0)) (by refine blk_put (cs:=#[.int .i64 t374,.slice none 0 0]) ?_ 1 _ rfl;refine blk_put (cs:=#[.int .i64 0,.slice none 0 0]) ?_ 0 _ rfl;exact BK380.out) NB380_370.out (by simp));replace HB:=aM (hb);replace HI370:=aM (hi);(try clear hb);(try clear hk);(try clear hi))|((with_reducible refine gate_callee (f:=39) rfl ?_);refine goesL_ (some 18) rfl rfl Try.func39 (by kernel_rfl) rfl #[.pointer (some ⟨g370,0,none⟩)] rfl (by (try simp only [List.map_toArray,List.map_cons,List.map_nil]);rfl) ?_;(with_reducible refine (spec_l5Any.calls k g370 t367 t382 t383 t384 t387 t388 t391 t392 w _ ?side1 ?side2 A6.out).mono ?_);(case side1=>repeat ((with_reducible exact HI370.out)));(case side2=>repeat ((with_reducible exact HB.out)));rintro e w17 ⟨v385,v389,rfl,ho0,ho1,hi,hb,hk⟩;refine ⟨_,rfl,?_⟩;replace BK366:=aM (KeepBut.blk hk (g':=gb366) (o:=.cells #[.int .i64 0,.slice none 0 0] 26 (0,0)) (bk BK366) NB366_370.out (by simp));replace BK380:=aM (KeepBut.blk hk (g':=gb380) (o:=.cells #[.int .i64 t374,.slice Ao15 t375.length co15] 26 (0,0)) (bk BK380) NB380_370.out (by simp));have HO386:=aM (Kd.R_lower (Kd.R_new' ho0 (Kd.R_lt (rR HO373))) (below_size HB.out));replace HO373:=aM (Kd.R_mono (Kd.R_told (Kd.R_oldK (IsS93.apart (show IsS93 w _ g370 t367 t382 t383 from by exact HI370.out) (rR HO373) (by decide)) hk) (Kd.R_base ho0)) (fun _ h_=>h_.1));have HO390:=aM (Kd.S_lower (Kd.S_new' ho1 (Kd.S_lt (rS HO377))) (below_size HB.out));replace HO377:=aM (Kd.S_mono (Kd.S_told (Kd.S_oldK (IsS93.apartS (show IsS93 w _ g370 t367 t382 t383 from by exact HI370.out) (rS HO377) (by decide)) hk) (Kd.S_base ho1)) (fun _ h_=>h_.1));replace HB:=aM (hb);replace HI370:=aM (hi);(try clear hb);(try clear hk);(try clear hi);(try clear ho0);(try clear ho1);obtain ⟨hcz18_0,hcz18_1,hfz18_0,hfz18_1⟩:=b2 BK380;obtain ⟨Ao19,co19,eo19⟩:=Kd.S_slice HO390.out;subst eo19))
  obtain ⟨w20,hW_⟩ : ∃ W_:World,W_=((w17.setCell ⟨gb380,0,none⟩ (.int .i64 t387)).setCell ⟨gb380,1,none⟩ (.slice Ao19 t388.length co19)):=⟨_,rfl⟩
  have n0_:Aside0 (Kd.R k61 61 w20 w.heap.size (fun k_=>some k_ ≠ (v385:Value).ownBlock) v372 t371):=⟨by rw [hW_];exact Kd.R_mono (Kd.R_far (p:=⟨gb380,1,none⟩) (Kd.R_far (p:=⟨gb380,0,none⟩) (Kd.R_types HO373.out BK380.out (by decide)) (fun _ hk=>hk.2) (.int .i64 t387)) (fun _ hk=>hk.2) (.slice Ao19 t388.length co19)) (fun _ hk=>hk.1.2)⟩
  have n1_:Aside0 (Kd.S k35 35 w20 w.heap.size (fun k_=>some k_ ≠ (.slice Ao19 t388.length co19:Value).ownBlock) (.slice Ao15 t375.length co15) t375):=⟨by rw [hW_];exact Kd.S_mono (Kd.S_far (p:=⟨gb380,1,none⟩) (Kd.S_far (p:=⟨gb380,0,none⟩) (Kd.S_types HO377.out BK380.out (by decide)) (fun _ hk=>hk.2) (.int .i64 t387)) (fun _ hk=>hk.2) (.slice Ao19 t388.length co19)) (fun _ hk=>hk.1.2)⟩
  have n2_:Aside0 (Kd.R k61 61 w20 w.heap.size (fun k_=>some k_ ≠ (v372:Value).ownBlock) v385 t384):=⟨by rw [hW_];exact Kd.R_mono (Kd.R_far (p:=⟨gb380,1,none⟩) (Kd.R_far (p:=⟨gb380,0,none⟩) (Kd.R_types HO386.out BK380.out (by decide)) (fun _ hk=>hk.2) (.int .i64 t387)) (fun _ hk=>hk.2) (.slice Ao19 t388.length co19)) (fun _ hk=>hk.1.2)⟩
  have n3_:Aside0 (Kd.S k35 35 w20 w.heap.size (fun k_=>some k_ ≠ (.slice Ao15 t375.length co15:Value).ownBlock) (.slice Ao19 t388.length co19) t388):=⟨by rw [hW_];exact Kd.S_mono (Kd.S_far (p:=⟨gb380,1,none⟩) (Kd.S_far (p:=⟨gb380,0,none⟩) (Kd.S_types HO390.out BK380.out (by decide)) (fun _ hk=>hk.2) (.int .i64 t387)) (fun _ hk=>hk.2) (.slice Ao19 t388.length co19)) (fun _ hk=>hk.1.2)⟩
  have n4_:Aside0 (w20.heap[gb366]?=some (.cells #[.int .i64 0,.slice none 0 0] 26 (0,0))):=⟨by rw [hW_];refine blk_far ?_ NB366_380.out _;refine blk_far ?_ NB366_380.out _;exact BK366.out⟩
  have n5_:Aside0 (w20.heap[gb380]?=some (.cells #[.int .i64 t387,.slice Ao19 t388.length co19] 26 (0,0))):=⟨by rw [hW_];refine blk_put (cs:=#[.int .i64 t387,.slice Ao15 t375.length co15]) ?_ 1 _ rfl;refine blk_put (cs:=#[.int .i64 t374,.slice Ao15 t375.length co15]) ?_ 0 _ rfl;exact BK380.out⟩
  have n6_:Aside0 (IsS93 w w20 g370 t367 t391 t392):=⟨by rw [hW_];repeat ((with_reducible first|exact HI370.out|refine IsS93.far ?_ NB370_380.out _))⟩
  have n7_:Aside0 (Below w.heap.size w w20):=⟨by rw [hW_];repeat ((with_reducible first|exact HB.out|refine below_set ?_ GE380.out))⟩
  (try clear HO373)
  (try clear HO377)
  (try clear HO386)
  (try clear HO390)
  (try clear BK366)
  (try clear BK380)
  (try clear HI370)
  (try clear HB)
  rw [← hW_];clear hW_
  have HO373:=n0_;have HO377:=n1_;have HO386:=n2_;have HO390:=n3_;have BK366:=n4_;have BK380:=n5_;have HI370:=n6_;have HB:=n7_;clear n0_ n1_ n2_ n3_ n4_ n5_ n6_ n7_;replace HO373:=aM (Kd.R_drew HO373.out);replace HO377:=aM (Kd.S_drew HO377.out);replace HO386:=aM (Kd.R_drew HO386.out);replace HO390:=aM (Kd.S_drew HO390.out);replace BK366:=aM (blk_drew BK366.out);replace BK380:=aM (blk_drew BK380.out);replace HI370:=aM (IsS93.drew HI370.out);replace HB:=aM (below_drew1 HB.out)
  obtain ⟨Ao22,co22,eo22⟩:=Kd.R_slice HO386.out
  (subst eo22)
  refine start_ (n:=6) (S:=fun w'=>w'.cell? ⟨gb380,0,none⟩=some (.int .i64 t387)∧w'.cell? ⟨gb380,1,none⟩=some (.slice Ao19 t388.length co19)) (ds:=[]) (fl 6 0) (by kernel_rfl) rfl rfl ⟨bq BK380 0,bq BK380 1⟩ (fun hHeld=>?_)
  generalize w20.drew=w21 at HO373 HO377 HO386 HO390 BK366 BK380 HI370 HB hHeld ⊢
  refine pu 1 22 (fl 6 2) ?_
  refine pu 2 23 (fl 6 6) ?_
  refine ta 0 21 (fl 6 7) hHeld ?_
  refine on 3 (some 24) (fl 6 15) (fun K hK=>?_)
  refine goes_ Try.func40 (by kernel_rfl) rfl #[.pointer (some ⟨g370,0,none⟩),.slice Ao22 t384.length co22] (by rfl) rfl rfl (by (try simp only [List.map_toArray,List.map_cons,List.map_nil]);rfl) ?_
  with_reducible refine (spec_l6Other.calls k g370 t367 t391 t392 _ _ t384 t393 t396 t397 w _ ?side1 ?side2 ?side3 ?side4 A7.out).mono ?_
  (case side1=>repeat ((with_reducible exact HI370.out)))
  (case side2=>repeat ((with_reducible exact HB.out)))
  (case side3=>exact Kd.C_foot_own (IsS93.apart (show IsS93 w _ g370 t367 t391 t392 from by exact HI370.out) (rR HO386) (by decide)) (fun _ h_=>h_.2))
  (case side4=>exact (Kd.R_reads' HO386.out).2.1)
  rintro e w23 ⟨v394,rfl,ho0,hi,hb,hk⟩
  refine ⟨_,rfl,?_⟩
  replace BK366:=aM (KeepBut.blk hk (g':=gb366) (o:=.cells #[.int .i64 0,.slice none 0 0] 26 (0,0)) (bk BK366) NB366_370.out (by simp));replace BK380:=aM (KeepBut.blk hk (g':=gb380) (o:=.cells #[.int .i64 t387,.slice Ao19 t388.length co19] 26 (0,0)) (bk BK380) NB380_370.out (by simp));replace HO390:=aM (Kd.S_mono (Kd.S_keep (IsS93.apartS (show IsS93 w _ g370 t367 t391 t392 from by exact HI370.out) (rS HO390) (by decide)) hk (fun _ h=>h.2)) (fun _ h=>h.1));have HO395:=aM (Kd.R_lower (Kd.R_new' (Kd.R_new' ho0 (Kd.R_lt (rR HO373))) (Kd.R_lt (rR HO386))) (below_size HB.out));replace HB:=aM (hb);replace HI370:=aM (hi);clear HO373 HO377 HO386;(try clear hb);(try clear hk);(try clear hi);(try clear ho0)
  refine hK.out _ _ ⟨bq BK380 0,bq BK380 1⟩ (fun hHeld=>?_)
  clear hK K
  refine no 24 ?_
  refine on 4 none (fl 6 31) (fun K hK=>?_)
  have hs24:w23.cell? ⟨gb366,0,none⟩=some (.int .i64 0):=(blk_cell BK366.out 0).trans rfl
  have hfs24:=blk_frozen BK366.out 0
  have hns24_1:=NB380_366.out
  have hms24_1:=NB366_380.out
  have hs25:w23.cell? ⟨gb366,1,none⟩=some (.slice none 0 0):=(blk_cell BK366.out 1).trans rfl
  have hfs25:=blk_frozen BK366.out 1
  have hns25_1:=NB380_366.out
  have hms25_1:=NB366_380.out
  refine skip_ (w1:=?_) (by rfl) rfl ?_ ?_
  rotate_left
  ·go_simp
   rfl
  refine hK.out _ _ ⟨((cell_far (p:=⟨gb366,_,none⟩) NB380_366.out _).trans (((cell_far (p:=⟨gb366,_,none⟩) NB380_366.out _).trans (hHeld.1)))),((cell_far (p:=⟨gb366,_,none⟩) NB380_366.out _).trans (((cell_far (p:=⟨gb366,_,none⟩) NB380_366.out _).trans (hHeld.2))))⟩ (fun hHeld=>?_)
  clear hK K
  refine pu 5 3 (fl 6 63) ?_
  refine done_ (by kernel_rfl) ?_
  try go_wp2
  refine bodyPost_ret (results_ct rfl _ _ gb366 26 #[.int .i64 t387,.slice Ao19 t388.length co19] (0,0) _ rfl (by refine blk_put (cs:=#[.int .i64 t387,.slice none 0 0]) ?_ 1 _ rfl;refine blk_put (cs:=#[.int .i64 0,.slice none 0 0]) ?_ 0 _ rfl;exact BK366.out) Try.underlying26 rfl (by kernel_rfl)) rfl ?_
  exact ⟨_,_,rz,by exact Kd.S_mono (Kd.S_far (p:=⟨gb366,1,none⟩) (Kd.S_far (p:=⟨gb366,0,none⟩) (Kd.S_types HO390.out BK366.out (by decide)) (fun _ hk=>hk.2) (.int .i64 t387)) (fun _ hk=>hk.2) (.slice Ao19 t388.length co19)) (fun _ hk=>trivial),by exact Kd.R_mono (Kd.R_far (p:=⟨gb366,1,none⟩) (Kd.R_far (p:=⟨gb366,0,none⟩) (Kd.R_types HO395.out BK366.out (by decide)) (fun _ hk=>hk.2) (.int .i64 t387)) (fun _ hk=>hk.2) (.slice Ao19 t388.length co19)) (fun _ hk=>trivial),by repeat ((with_reducible first|exact HB.out|refine below_set ?_ GE366.out))⟩
 ·replace c5:=Bool.eq_false_iff.mpr c5
  subst c5
  replace H:=(if_neg (show ¬ (false=true) by decide)).symm.trans H
  replace H:=Option.bind_eq_some_iff.mp H
  obtain ⟨⟨t398,t401,t402⟩,A260,H⟩:=H
  try dsimp only at H
  have A26:=aM A260
  clear A260
  simp only [Option.some.injEq,Prod.mk.injEq] at H
  obtain ⟨rfl,rfl,rfl⟩:=H
  go_enter Try.func9,Try.ntmps9
  try go_wp2_with (first|((with_reducible refine gate_dst (N:=2) rfl ?_);refine box_event ?hg (N:=2) ?hd (cs:=#[.int .i64 0,.slice none 0 0]) (t:=26) ?hr ?_;(case hd=>rfl);(case hg=>rfl);(case hr=>(go_simp;done));intro gb366 hg w27 hbox hb;have BK366:=aM (hbox);have GW366:=gS w hg;have GE366:=gS w hg;replace HB:=bs hb;clear hb hbox hg)|((with_reducible refine gate_callee (f:=36) rfl ?_);refine goesL_ (some 8) rfl rfl Try.func36 (by kernel_rfl) rfl #[.slice A0 l0.length c0] rfl (by (try simp only [List.map_toArray,List.map_cons,List.map_nil]);rfl) ?_;(with_reducible refine (spec_l1New.calls k _ _ l0 t367 t368 t369 w _ ?side1 ?side2 ?side3 A2.out).mono ?_);(case side1=>exact be);(case side2=>exact HR0.out);(case side3=>exact HC0.out);rintro e w28 ⟨g370,rfl,hi,hb,hb2⟩;refine ⟨_,rfl,?_⟩;replace HB:=aM (hb);have HI370:=aM (hi);have NB370_366:=aM (IsS93.ne_blk hi (blk_below (bk BK366) hb2) (by decide));have NB366_370:=aM (Ne.symm (IsS93.ne_blk hi (blk_below (bk BK366) hb2) (by decide)));replace BK366:=aM (blk_below (bk BK366) hb2);(try clear hb);(try clear hb2);(try clear hi))|((with_reducible refine gate_callee (f:=37) rfl ?_);refine goesL_ (some 11) rfl rfl Try.func37 (by kernel_rfl) rfl #[.pointer (some ⟨g370,0,none⟩)] rfl (by (try simp only [List.map_toArray,List.map_cons,List.map_nil]);rfl) ?_;(with_reducible refine (spec_l5Draw.calls k g370 t367 t368 t369 t371 t374 t375 t378 t379 w _ ?side1 ?side2 A3.out).mono ?_);(case side1=>repeat ((with_reducible exact HI370.out)));(case side2=>repeat ((with_reducible exact HB.out)));rintro e w29 ⟨v372,v376,rfl,ho0,ho1,hi,hb,hk⟩;refine ⟨_,rfl,?_⟩;replace BK366:=aM (KeepBut.blk hk (g':=gb366) (o:=.cells #[.int .i64 0,.slice none 0 0] 26 (0,0)) (bk BK366) NB366_370.out (by simp));have HO373:=aM (Kd.R_lower ho0 (below_size HB.out));have HO377:=aM (Kd.S_lower ho1 (below_size HB.out));replace HB:=aM (hb);replace HI370:=aM (hi);(try clear hb);(try clear hk);(try clear hi);(try clear ho0);(try clear ho1))|((with_reducible refine gate_dst (N:=6) rfl ?_);refine box_event ?hg (N:=6) ?hd (cs:=#[.int .i64 0,.slice none 0 0]) (t:=26) ?hr ?_;(case hd=>rfl);(case hg=>rfl);(case hr=>(go_simp;done));intro gb380 hg w30 hbox hb;replace HO373:=rB HO373 hb;replace HO377:=sB HO377 hb;have BK380:=aM (hbox);have GW380:=aM ((by rw [hg];exact (below_size HB.out):w.heap.size≤gb380));have GE380:=aM ((by rw [hg];exact (below_size HB.out):w.heap.size≤gb380));replace HB:=aM (below_step HB.out hb);have NB366_380:=nL hg BK366;have NB380_366:=nG hg BK366;replace BK366:=bB BK366 hb;have NB370_380:=aM ((by rw [hg];exact Nat.ne_of_lt (IsS93.lt (show IsS93 w _ g370 t367 t378 t379 from by exact HI370.out)):g370 ≠ gb380));have NB380_370:=aM ((by rw [hg];exact Nat.ne_of_gt (IsS93.lt (show IsS93 w _ g370 t367 t378 t379 from by exact HI370.out)):gb380 ≠ g370));replace HI370:=aM (IsS93.below HI370.out hb);clear hb hbox hg;have hnb31:=NB380_366.out;have hnc31:=NB366_380.out;have hnb32:=NB380_370.out;have hnc32:=NB370_380.out;obtain ⟨hcz33_0,hcz33_1,hfz33_0,hfz33_1⟩:=b2 BK380;obtain ⟨Ao34,co34,eo34⟩:=Kd.S_slice HO377.out;subst eo34)|((with_reducible refine gate_callee (f:=38) rfl ?_);refine goesL_ (some 15) rfl rfl Try.func38 (by kernel_rfl) rfl #[.pointer (some ⟨g370,0,none⟩),.int .i64 6] rfl (by (try simp only [List.map_toArray,List.map_cons,List.map_nil]);rfl) ?_;(with_reducible refine (spec_l1Once.calls g370 t367 t378 t379 6 false t382 t383 w _ ?side1 ?side2 A4.out).mono ?_);(case side1=>repeat ((with_reducible first|exact HI370.out|refine IsS93.far ?_ NB370_380.out _)));(case side2=>repeat ((with_reducible first|exact HB.out|refine below_set ?_ GE380.out)));rintro e w35 ⟨rfl,hi,hb,hk⟩;refine ⟨_,rfl,?_⟩;replace BK366:=aM (KeepBut.blk hk (g':=gb366) (o:=.cells #[.int .i64 0,.slice none 0 0] 26 (0,0)) (by refine blk_far ?_ NB366_380.out _;refine blk_far ?_ NB366_380.out _;exact BK366.out) NB366_370.out (by simp));replace HO373:=aM (Kd.R_mono (Kd.R_keep (IsS93.apart (show IsS93 w _ g370 t367 t378 t379 from by repeat ((with_reducible first|exact HI370.out|refine IsS93.far ?_ NB370_380.out _))) (by exact (Kd.R_mono (Kd.R_far (p:=⟨gb380,1,none⟩) (Kd.R_far (p:=⟨gb380,0,none⟩) (Kd.R_types HO373.out BK380.out (by decide)) (fun _ hk=>hk.2) (.int .i64 t374)) (fun _ hk=>hk.2) (.slice Ao34 t375.length co34)) (fun _ h_=>h_.1))) (by decide)) hk (fun _ h=>h.2)) (fun _ h=>h.1));replace HO377:=aM (Kd.S_mono (Kd.S_keep (IsS93.apartS (show IsS93 w _ g370 t367 t378 t379 from by repeat ((with_reducible first|exact HI370.out|refine IsS93.far ?_ NB370_380.out _))) (by exact (Kd.S_mono (Kd.S_far (p:=⟨gb380,1,none⟩) (Kd.S_far (p:=⟨gb380,0,none⟩) (Kd.S_types HO377.out BK380.out (by decide)) (fun _ hk=>hk.2) (.int .i64 t374)) (fun _ hk=>hk.2) (.slice Ao34 t375.length co34)) (fun _ h_=>h_.1))) (by decide)) hk (fun _ h=>h.2)) (fun _ h=>h.1));replace BK380:=aM (KeepBut.blk hk (g':=gb380) (o:=.cells #[.int .i64 t374,.slice Ao34 t375.length co34] 26 (0,0)) (by refine blk_put (cs:=#[.int .i64 t374,.slice none 0 0]) ?_ 1 _ rfl;refine blk_put (cs:=#[.int .i64 0,.slice none 0 0]) ?_ 0 _ rfl;exact BK380.out) NB380_370.out (by simp));replace HB:=aM (hb);replace HI370:=aM (hi);(try clear hb);(try clear hk);(try clear hi)))
  replace HO373:=aM (Kd.R_drew HO373.out);replace HO377:=aM (Kd.S_drew HO377.out);replace BK366:=aM (blk_drew BK366.out);replace BK380:=aM (blk_drew BK380.out);replace HI370:=aM (IsS93.drew HI370.out);replace HB:=aM (below_drew1 HB.out)
  obtain ⟨Ao37,co37,eo37⟩:=Kd.R_slice HO373.out
  (subst eo37)
  refine start_ (n:=6) (S:=fun w'=>w'.cell? ⟨gb380,0,none⟩=some (.int .i64 t374)∧w'.cell? ⟨gb380,1,none⟩=some (.slice Ao34 t375.length co34)) (ds:=[]) (fl 6 0) (by kernel_rfl) rfl rfl ⟨bq BK380 0,bq BK380 1⟩ (fun hHeld=>?_)
  generalize w35.drew=w36 at HO373 HO377 BK366 BK380 HI370 HB hHeld ⊢
  refine pu 1 22 (fl 6 2) ?_
  refine pu 2 23 (fl 6 6) ?_
  refine ta 0 21 (fl 6 7) hHeld ?_
  refine on 3 (some 24) (fl 6 15) (fun K hK=>?_)
  refine goes_ Try.func40 (by kernel_rfl) rfl #[.pointer (some ⟨g370,0,none⟩),.slice Ao37 t371.length co37] (by rfl) rfl rfl (by (try simp only [List.map_toArray,List.map_cons,List.map_nil]);rfl) ?_
  with_reducible refine (spec_l6Other.calls k g370 t367 t382 t383 _ _ t371 t398 t401 t402 w _ ?side1 ?side2 ?side3 ?side4 A26.out).mono ?_
  (case side1=>repeat ((with_reducible exact HI370.out)))
  (case side2=>repeat ((with_reducible exact HB.out)))
  (case side3=>exact Kd.C_foot_own (IsS93.apart (show IsS93 w _ g370 t367 t382 t383 from by exact HI370.out) (rR HO373) (by decide)) (fun _ h_=>h_.2))
  (case side4=>exact (Kd.R_reads' HO373.out).2.1)
  rintro e w38 ⟨v399,rfl,ho0,hi,hb,hk⟩
  refine ⟨_,rfl,?_⟩
  replace BK366:=aM (KeepBut.blk hk (g':=gb366) (o:=.cells #[.int .i64 0,.slice none 0 0] 26 (0,0)) (bk BK366) NB366_370.out (by simp));replace HO377:=aM (Kd.S_mono (Kd.S_keep (IsS93.apartS (show IsS93 w _ g370 t367 t382 t383 from by exact HI370.out) (rS HO377) (by decide)) hk (fun _ h=>h.2)) (fun _ h=>h.1));replace BK380:=aM (KeepBut.blk hk (g':=gb380) (o:=.cells #[.int .i64 t374,.slice Ao34 t375.length co34] 26 (0,0)) (bk BK380) NB380_370.out (by simp));have HO400:=aM (Kd.R_lower (Kd.R_new' ho0 (Kd.R_lt (rR HO373))) (below_size HB.out));replace HB:=aM (hb);replace HI370:=aM (hi);clear HO373;(try clear hb);(try clear hk);(try clear hi);(try clear ho0)
  refine hK.out _ _ ⟨bq BK380 0,bq BK380 1⟩ (fun hHeld=>?_)
  clear hK K
  refine no 24 ?_
  refine on 4 none (fl 6 31) (fun K hK=>?_)
  have hs39:w38.cell? ⟨gb366,0,none⟩=some (.int .i64 0):=(blk_cell BK366.out 0).trans rfl
  have hfs39:=blk_frozen BK366.out 0
  have hns39_1:=NB380_366.out
  have hms39_1:=NB366_380.out
  have hs40:w38.cell? ⟨gb366,1,none⟩=some (.slice none 0 0):=(blk_cell BK366.out 1).trans rfl
  have hfs40:=blk_frozen BK366.out 1
  have hns40_1:=NB380_366.out
  have hms40_1:=NB366_380.out
  refine skip_ (w1:=?_) (by rfl) rfl ?_ ?_
  rotate_left
  ·go_simp
   rfl
  refine hK.out _ _ ⟨((cell_far (p:=⟨gb366,_,none⟩) NB380_366.out _).trans (((cell_far (p:=⟨gb366,_,none⟩) NB380_366.out _).trans (hHeld.1)))),((cell_far (p:=⟨gb366,_,none⟩) NB380_366.out _).trans (((cell_far (p:=⟨gb366,_,none⟩) NB380_366.out _).trans (hHeld.2))))⟩ (fun hHeld=>?_)
  clear hK K
  refine pu 5 3 (fl 6 63) ?_
  refine done_ (by kernel_rfl) ?_
  try go_wp2
  refine bodyPost_ret (results_ct rfl _ _ gb366 26 #[.int .i64 t374,.slice Ao34 t375.length co34] (0,0) _ rfl (by refine blk_put (cs:=#[.int .i64 t374,.slice none 0 0]) ?_ 1 _ rfl;refine blk_put (cs:=#[.int .i64 0,.slice none 0 0]) ?_ 0 _ rfl;exact BK366.out) Try.underlying26 rfl (by kernel_rfl)) rfl ?_
  exact ⟨_,_,rz,by exact Kd.S_mono (Kd.S_far (p:=⟨gb366,1,none⟩) (Kd.S_far (p:=⟨gb366,0,none⟩) (Kd.S_types HO377.out BK366.out (by decide)) (fun _ hk=>hk.2) (.int .i64 t374)) (fun _ hk=>hk.2) (.slice Ao34 t375.length co34)) (fun _ hk=>trivial),by exact Kd.R_mono (Kd.R_far (p:=⟨gb366,1,none⟩) (Kd.R_far (p:=⟨gb366,0,none⟩) (Kd.R_types HO400.out BK366.out (by decide)) (fun _ hk=>hk.2) (.int .i64 t374)) (fun _ hk=>hk.2) (.slice Ao34 t375.length co34)) (fun _ hk=>trivial),by repeat ((with_reducible first|exact HB.out|refine below_set ?_ GE366.out))⟩
def impl_copyInts.f (l0:List Int):Option (List Int):=if ([]:List Int).length+l0.length < 17592186044416 then (some (([]:List Int) ++ l0)) else (none)
set_option maxHeartbeats 8000000 in
set_option maxRecDepth 100000 in
theorem impl_copyInts.calls (A0:Option Addr) (c0:Nat) (l0:List Int) (r:List Int) (w:World) (hr0:Kd.C (Kd.int .i64) w A0 l0.length l0) (hc0:l0.length≤c0) (h:impl_copyInts.f l0=some r) :
  Calls Try.prog 44 #[.slice A0 l0.length c0] w fun e w'=>∃ v0_:Value,e = .returned (v0_)∧Kd.R (Kd.int .i64) 3 w' w.heap.size (fun _=>True) v0_ r∧Below w.heap.size w w':=by
 have HR0:=aM hr0
 have HC0:=aM hc0
 clear hr0 hc0
 have HB:=aM (Below.refl w.heap.size w)
 have H:(if ([]:List Int).length+l0.length < 17592186044416 then (some (([]:List Int) ++ l0)) else (none))=some r:=h
 clear h
 obtain ⟨c2,H⟩:=ifs H
 have LMc2:=aM c2
 clear c2
 obtain ⟨y403,hy403⟩ : ∃ y_:List Int,y_=(([]:List Int) ++ l0):=⟨_,rfl⟩
 replace H:(some y403)=some r:=by (rw [hy403];with_reducible exact H)
 have Ny403:=aM hy403
 clear hy403
 obtain rfl:=Option.some.inj H
 go_enter Try.func44,Try.ntmps44
 go_wp2_with ((with_reducible refine gate_builtin (b:=.append) (xs:=#[.const (.slice none 0 0),.tmp 3]) rfl ?_);at_builtin;refine Kd.R_append_rows (Kd.int .i64) (w0:=w) w.heap.size rfl (.const (.slice none 0 0)) (.tmp 3) 33 3 (.int .i64 0) 8 rfl Try.underlying33 info3 rfl (by decide) (by omega) (.slice none 0 0) ([]:List Int) l0 _ _ _ (fun _=>True) (fun _=>False) rfl rfl ?aO ?aR (fun _ _ h=>h) (fun _ h=>h.elim) ?aF ?aB ?aS ?aL ?_;(case aR=>exact sC HR0);(case aB=>exact be);(case aF=>exact (fun _ _=>trivial));(case aO=>exact ((Kd.R_nil _ _ _ _ (fun _=>True))));(case aS=>exact (below_size be));(case aL=>have:=LMc2.out;omega);intro v404 w3 ho hb hg hat;rw [← Ny403.out] at ho;replace HB:=aM (hb);have HO405:=aM (ho);clear ho hb hg hat)
 go_ret
 exact ⟨_,rz,rR HO405,be⟩
end Go.Proofs.Ytpbjbfimnfghkaa.PFnRebalanced
