/- Trimmed by a program of this session (trim.py). Not trusted: Lean checks it. -/
import Derived.Test.YtnoglmdicdpabaaDoorProg
import Derived.Below
import Derived.Deep.Draws
import Derived.Deep.AppendLies
import Derived.Maps.AppendAt
import Derived.OwnWalk
import Derived.Laws.BytesArg
import Derived.Laws.MakeOwn
import Derived.Laws.OwnMore
import Derived.Deep.OwnRows
import Derived.Tactics
import Derived.Lib.ConvBytes
import Derived.Laws.Slices
import Derived.WalkKit
import Derived.KernelRfl
import Derived.RowKit3
import Derived.Deep.LoopGhost
import Derived.Deep.QuietTactic
import Derived.BigQuiet
import Derived.WideLaws
import Derived.Deep.DeepCutAuto
import Derived.Deep.CutBlock
import Derived.Deep.RegionHeld3
import Derived.Laws.Rows
import Derived.Lib.AppendStr
import Derived.ArgAppend
import Derived.Laws.IdiomCopy
import Derived.OrdersHeld
import Derived.Laws.BitsLemmas
import Derived.RowKit
import Derived.Test.YtnoglmdicdpabaaDoorTXStampTextWWords
import Derived.Test.YtnoglmdicdpabaaDoorTXStampTextWApart
import Derived.Test.YtnoglmdicdpabaaDoorTXStampTextSteps
import Derived.Test.YtnoglmdicdpabaaDoorTXStampTextWLast
import Derived.Test.YtnoglmdicdpabaaDoorTXStampTextWTab
import Derived.Test.YtnoglmdicdpabaaDoorTXStampTextWFoot
import Derived.Test.YtnoglmdicdpabaaDoorTXStampTextWKept
import Derived.Test.YtnoglmdicdpabaaDoorTXStampTextWShare
import Derived.Test.YtnoglmdicdpabaaDoorTXStampTextWN
import Derived.Laws.StructEq
import Derived.Test.YtnoglmdicdpabaaDoorTXStampTextWRepsOne
import Derived.Test.YtnoglmdicdpabaaDoorTXStampTextWInv
import Derived.Test.YtnoglmdicdpabaaDoorTXStampTextWMore
import Derived.Test.YtnoglmdicdpabaaDoorTXStampTextLaid
import Derived.Test.YtnoglmdicdpabaaDoorTXStampTextShelf
namespace Go.Proofs.YtnoglmdicdpabaaDoor.PFnExactStampText
open Go.RowKit Go.Proofs.YtnoglmdicdpabaaDoorW.PrintWords Go.Proofs.YtnoglmdicdpabaaDoorW.PrintLast Go.Proofs.YtnoglmdicdpabaaDoorW.PrintMore Go.Proofs.YtnoglmdicdpabaaDoor.St
attribute [local go_sem] max2_int min2_int max_two min_two max_three min_three max_four min_four
set_option linter.unusedVariables false
set_option linter.unusedSimpArgs false
def spec_l1In.f (a0:Int) (a1:Int) (a2:Int):Option (Bool):=if a0 ≥ a1 then (some (decide (a0≤a2))) else (some false)
set_option maxHeartbeats 8000000 in
set_option maxRecDepth 100000 in
theorem spec_l1In.calls (a0:Int) (a1:Int) (a2:Int) (r:Bool) (w:World) (h:spec_l1In.f a0 a1 a2=some r) :
  Calls Tryd.prog 52 #[.int .i64 a0,.int .i64 a1,.int .i64 a2] w fun e w'=>e = .returned (.bool r)∧Drawn0 w w':=by
 have H:(if a0 ≥ a1 then (some (decide (a0≤a2))) else (some false))=some r:=h
 clear h
 by_cases c4:a0 ≥ a1
 ·rw [if_pos c4] at H
  have c4b0:decide (a1≤a0)=true:=decide_eq_true c4
  clear c4
  obtain rfl:=Option.some.inj H
  go_enter Tryd.func52,Tryd.ntmps52
  go_wp2
  go_ret
  exact ⟨by first|rfl|(simp;done)|(simp [*];done),by repeat (first|exact Drawn0.refl _|apply Drawn0.step)⟩
 ·rw [if_neg c4] at H
  have c4b0:decide (a1≤a0)=false:=decide_eq_false c4
  clear c4
  obtain rfl:=Option.some.inj H
  go_enter Tryd.func52,Tryd.ntmps52
  go_wp2
  go_ret
  exact ⟨by first|rfl|(simp;done)|(simp [*];done),by repeat (first|exact Drawn0.refl _|apply Drawn0.step)⟩
def spec_StampOk.f (a0_0:Int) (a0_1:Int) (a0_2:Int):Option (Bool):=(spec_l1In.f a0_0 0 1000000000).bind fun t102=>(if t102=true then ((spec_l1In.f a0_1 0 1000000).bind fun t103=>(if t103=true then ((spec_l1In.f a0_2 0 20).bind fun t104=>(some t104)) else (some false))) else (some false))
set_option maxHeartbeats 8000000 in
set_option maxRecDepth 100000 in
theorem spec_StampOk.calls (a0_0:Int) (a0_1:Int) (a0_2:Int) (r:Bool) (w:World) (h:spec_StampOk.f a0_0 a0_1 a0_2=some r) :
  Calls Tryd.prog 26 #[.agg #[.int .i64 a0_0,.int .i64 a0_1,.int .i64 a0_2]] w fun e w'=>e = .returned (.bool r)∧Below w.heap.size w w':=by
 have hu25:=Tryd.underlying25
 have HB:=Aside0.mk (Below.refl w.heap.size w)
 have H:((spec_l1In.f a0_0 0 1000000000).bind fun t102=>(if t102=true then ((spec_l1In.f a0_1 0 1000000).bind fun t103=>(if t103=true then ((spec_l1In.f a0_2 0 20).bind fun t104=>(some t104)) else (some false))) else (some false)))=some r:=h
 clear h
 replace H:=Option.bind_eq_some_iff.mp H
 obtain ⟨t102,A20,H⟩:=H
 try dsimp only at H
 have A2:=Aside0.mk A20
 clear A20
 by_cases c3:t102=true
 ·subst c3
  rw [if_pos rfl] at H
  replace H:=Option.bind_eq_some_iff.mp H
  obtain ⟨t103,A40,H⟩:=H
  try dsimp only at H
  have A4:=Aside0.mk A40
  clear A40
  by_cases c5:t103=true
  ·subst c5
   rw [if_pos rfl] at H
   replace H:=Option.bind_eq_some_iff.mp H
   obtain ⟨t104,A60,H⟩:=H
   try dsimp only at H
   have A6:=Aside0.mk A60
   clear A60
   obtain rfl:=Option.some.inj H
   go_enter Tryd.func26,Tryd.ntmps26
   go_wp2_with (first|((with_reducible refine gate_dst (N:=1) rfl ?_);refine box_event ?hg (N:=1) ?hd (cs:=#[.int .i64 a0_0,.int .i64 a0_1,.int .i64 a0_2]) (t:=25) ?hr ?_;(case hd=>rfl);(case hg=>rfl);(case hr=>first|(go_simp;done)|(go_simp;rfl));intro gb101 hg w7 hbox hb;have n0_:=bs hb;have n1_:=Aside0.mk (hbox);have n2_:=Aside0.mk ((by rw [hg];exact (below_size be):w.heap.size≤gb101));have n3_:=Aside0.mk ((by rw [hg];exact (below_size be):w.heap.size≤gb101));clear HB;have HB:=n0_;have BK101:=n1_;have GW101:=n2_;have GE101:=n3_;clear n0_ n1_ n2_ n3_;clear hb hbox hg;have hcz8_0:w7.cell? ⟨gb101,0,none⟩=some (.int .i64 a0_0):=(blk_cell BK101.out 0).trans rfl;have hcz8_1:w7.cell? ⟨gb101,1,none⟩=some (.int .i64 a0_1):=(blk_cell BK101.out 1).trans rfl;have hcz8_2:w7.cell? ⟨gb101,2,none⟩=some (.int .i64 a0_2):=(blk_cell BK101.out 2).trans rfl;have hfz8_0:=blk_frozen BK101.out 0;have hfz8_1:=blk_frozen BK101.out 1;have hfz8_2:=blk_frozen BK101.out 2)|((with_reducible refine gate_callee (f:=52) rfl ?_);refine goesL_ (some 5) rfl rfl Tryd.func52 (by kernel_rfl) rfl #[.int .i64 a0_0,.int .i64 0,.int .i64 1000000000] rfl (by (try simp only [List.map_toArray,List.map_cons,List.map_nil]);first|done|rfl|(simp only [List.length_drop,List.length_take];rfl)) ?_;(with_reducible refine (spec_l1In.calls a0_0 0 1000000000 true _ A2.out).mono ?_);rintro e w' ⟨rfl,⟨nd,rfl⟩⟩;refine ⟨_,rfl,?_⟩)|(go_at_call 52;(with_reducible refine (spec_l1In.calls a0_1 0 1000000 true _ A4.out).mono ?_);rintro e w' ⟨rfl,⟨nd,rfl⟩⟩)|(go_at_call 52;(with_reducible refine (spec_l1In.calls a0_2 0 20 t104 _ A6.out).mono ?_);rintro e w' ⟨rfl,⟨nd,rfl⟩⟩))
   go_ret
   exact ⟨rz,be⟩
  ·replace c5:=Bool.eq_false_iff.mpr c5
   subst c5
   have H1:(some false)=some r:=by rw [if_neg (show ¬ (false=true) by decide)] at H;exact H
   clear H
   have H:=H1
   clear H1
   obtain rfl:=Option.some.inj H
   go_enter Tryd.func26,Tryd.ntmps26
   go_wp2_with (first|((with_reducible refine gate_dst (N:=1) rfl ?_);refine box_event ?hg (N:=1) ?hd (cs:=#[.int .i64 a0_0,.int .i64 a0_1,.int .i64 a0_2]) (t:=25) ?hr ?_;(case hd=>rfl);(case hg=>rfl);(case hr=>first|(go_simp;done)|(go_simp;rfl));intro gb101 hg w9 hbox hb;have n0_:=bs hb;have n1_:=Aside0.mk (hbox);have n2_:=Aside0.mk ((by rw [hg];exact (below_size be):w.heap.size≤gb101));have n3_:=Aside0.mk ((by rw [hg];exact (below_size be):w.heap.size≤gb101));clear HB;have HB:=n0_;have BK101:=n1_;have GW101:=n2_;have GE101:=n3_;clear n0_ n1_ n2_ n3_;clear hb hbox hg;have hcz10_0:w9.cell? ⟨gb101,0,none⟩=some (.int .i64 a0_0):=(blk_cell BK101.out 0).trans rfl;have hcz10_1:w9.cell? ⟨gb101,1,none⟩=some (.int .i64 a0_1):=(blk_cell BK101.out 1).trans rfl;have hcz10_2:w9.cell? ⟨gb101,2,none⟩=some (.int .i64 a0_2):=(blk_cell BK101.out 2).trans rfl;have hfz10_0:=blk_frozen BK101.out 0;have hfz10_1:=blk_frozen BK101.out 1;have hfz10_2:=blk_frozen BK101.out 2)|((with_reducible refine gate_callee (f:=52) rfl ?_);refine goesL_ (some 5) rfl rfl Tryd.func52 (by kernel_rfl) rfl #[.int .i64 a0_0,.int .i64 0,.int .i64 1000000000] rfl (by (try simp only [List.map_toArray,List.map_cons,List.map_nil]);first|done|rfl|(simp only [List.length_drop,List.length_take];rfl)) ?_;(with_reducible refine (spec_l1In.calls a0_0 0 1000000000 true _ A2.out).mono ?_);rintro e w' ⟨rfl,⟨nd,rfl⟩⟩;refine ⟨_,rfl,?_⟩)|(go_at_call 52;(with_reducible refine (spec_l1In.calls a0_1 0 1000000 false _ A4.out).mono ?_);rintro e w' ⟨rfl,⟨nd,rfl⟩⟩))
   go_ret
   exact ⟨rz,be⟩
 ·replace c3:=Bool.eq_false_iff.mpr c3
  subst c3
  have H1:(some false)=some r:=by rw [if_neg (show ¬ (false=true) by decide)] at H;exact H
  clear H
  have H:=H1
  clear H1
  obtain rfl:=Option.some.inj H
  go_enter Tryd.func26,Tryd.ntmps26
  go_wp2_with (first|((with_reducible refine gate_dst (N:=1) rfl ?_);refine box_event ?hg (N:=1) ?hd (cs:=#[.int .i64 a0_0,.int .i64 a0_1,.int .i64 a0_2]) (t:=25) ?hr ?_;(case hd=>rfl);(case hg=>rfl);(case hr=>first|(go_simp;done)|(go_simp;rfl));intro gb101 hg w11 hbox hb;have n0_:=bs hb;have n1_:=Aside0.mk (hbox);have n2_:=Aside0.mk ((by rw [hg];exact (below_size be):w.heap.size≤gb101));have n3_:=Aside0.mk ((by rw [hg];exact (below_size be):w.heap.size≤gb101));clear HB;have HB:=n0_;have BK101:=n1_;have GW101:=n2_;have GE101:=n3_;clear n0_ n1_ n2_ n3_;clear hb hbox hg;have hcz12_0:w11.cell? ⟨gb101,0,none⟩=some (.int .i64 a0_0):=(blk_cell BK101.out 0).trans rfl;have hcz12_1:w11.cell? ⟨gb101,1,none⟩=some (.int .i64 a0_1):=(blk_cell BK101.out 1).trans rfl;have hcz12_2:w11.cell? ⟨gb101,2,none⟩=some (.int .i64 a0_2):=(blk_cell BK101.out 2).trans rfl;have hfz12_0:=blk_frozen BK101.out 0;have hfz12_1:=blk_frozen BK101.out 1;have hfz12_2:=blk_frozen BK101.out 2)|((with_reducible refine gate_callee (f:=52) rfl ?_);refine goesL_ (some 5) rfl rfl Tryd.func52 (by kernel_rfl) rfl #[.int .i64 a0_0,.int .i64 0,.int .i64 1000000000] rfl (by (try simp only [List.map_toArray,List.map_cons,List.map_nil]);first|done|rfl|(simp only [List.length_drop,List.length_take];rfl)) ?_;(with_reducible refine (spec_l1In.calls a0_0 0 1000000000 false _ A2.out).mono ?_);rintro e w' ⟨rfl,⟨nd,rfl⟩⟩;refine ⟨_,rfl,?_⟩))
  go_ret
  exact ⟨rz,be⟩
def spec_l2Text.f:Nat→Int→Option (ByteArray)
 | 0,_=>none
 | k+1,a0=>if a0 < 10 then (some (strOfNums (([(wrap64 (48+a0)) % 256]:List Int)))) else ((spec_l2Text.f k (wrap64 (Int.tdiv a0 10))).bind fun t108=>((some (([(wrap64 (48+(Int.tmod a0 10))) % 256]:List Int):List Int)).bind fun y109=>(if t108.size+(strOfNums y109).size≤9223372036854775807 then (some (t108 ++ (strOfNums y109))) else (none))))
def spec_l2Text.T3:Bool × List (List Nat × List Nat):=(true,[([],[]),([0],[0]),([1],[1]),([],[]),([3],[3]),([4],[4]),([5],[5]),([6],[6]),([7],[7]),([2,8],[2,8]),([9,2,0,1,2,3,4,5,6,7,8,9],[9])])
def spec_l2Text.B3:List Nat:=[0,1,3,0,8,24,56,120,248,511,1023]
theorem spec_l2Text.tab3:rtab .any (opsOf Tryd.f41 3)=spec_l2Text.T3:=by kernel_rfl
theorem spec_l2Text.bits3:waitsOk spec_l2Text.T3.2 spec_l2Text.B3=true:=by kernel_rfl
set_option maxHeartbeats 8000000 in
set_option maxRecDepth 100000 in
theorem spec_l2Text.calls (k:Nat) : ∀ (a0:Int) (r:ByteArray) (w:World) (h:spec_l2Text.f k a0=some r),
  Calls Tryd.prog 41 #[.int .i64 a0] w fun e w'=>e = .returned (.string r)∧Below w.heap.size w w':=by
 induction k using Nat.strongRecOn with
 | _ k ih=>
 intro a0 r w h
 cases k with
 | zero=>exact absurd h (by simp [spec_l2Text.f])
 | succ k=>
 simp only [spec_l2Text.f] at h
 have HB:=Aside0.mk (Below.refl w.heap.size w)
 have H:(if a0 < 10 then (some (strOfNums (([(wrap64 (48+a0)) % 256]:List Int)))) else ((spec_l2Text.f k (wrap64 (Int.tdiv a0 10))).bind fun t108=>((some (([(wrap64 (48+(Int.tmod a0 10))) % 256]:List Int):List Int)).bind fun y109=>(if t108.size+(strOfNums y109).size≤9223372036854775807 then (some (t108 ++ (strOfNums y109))) else (none)))))=some r:=h
 clear h
 by_cases c2:a0 < 10
 ·rw [if_pos c2] at H
  have c2b0:decide (a0 < 10)=true:=decide_eq_true c2
  clear c2
  obtain ⟨y105,hy105⟩ : ∃ y_:List Int,y_=(([(wrap64 (48+a0)) % 256]:List Int)):=⟨_,rfl⟩
  replace H:(some (strOfNums y105))=some r:=by first|(rw [hy105];with_reducible exact H)|(have H2_:=(Option.bind_some _ _).symm.trans H;rw [hy105];with_reducible exact H2_)|(have H2_:=(Option.bind_some _ _).symm.trans H;with_reducible exact H2_)|with_reducible exact H|(rw [hy105];exact H)|exact H
  have Ny105:=Aside0.mk hy105
  clear hy105
  obtain rfl:=Option.some.inj H
  go_enter Tryd.func41,Tryd.ntmps41
  go_wp2_with (first|((with_reducible refine gate_dst (N:=8) rfl ?_);refine Kd.R_lit (Kd.int .u8) _ 5 ?hg (N:=8) ?hd (xs:=([(wrap64 (48+a0)) % 256]:List Int)) (inner:=[.int .u8 ((wrap64 (48+a0)) % 256)]) (ok:=fun _=>True) (okp:=fun _=>True) ?hr ?hp (fun _ hk=>hk) trivial (Below.refl _ _) (Nat.le_refl _) (by simp) ?_;(case hd=>rfl);(case hg=>rfl);(case hr=>first|(go_simp;done)|(go_simp;rfl));(case hp=>exact (Reps.one (show Kd.M (Kd.int .u8) _ _ _ ((wrap64 (48+a0)) % 256) [.int .u8 ((wrap64 (48+a0)) % 256)] from rfl) (Reps.none _ _)));intro v106 w3 ho4 hb hg_ hnew_;clear hg_ hnew_;(first|rw [← Ny105.out] at ho4|(simp only [Int.reduceToNat] at ho4;rw [← Ny105.out] at ho4));have n0_:=Aside0.mk (Kd.R_lower ho4 (below_size be));have n1_:=bs hb;clear HB;have HO107:=n0_;have HB:=n1_;clear n0_ n1_;clear hb ho4;have hcv5:=own_string (P:=Tryd.prog) Tryd.underlying39 Tryd.underlying5 Tryd.underlying9 (Kd.own_of_R HO107.out)))
  go_ret
  exact ⟨rz,be⟩
 ·rw [if_neg c2] at H
  have c2b0:decide (a0 < 10)=false:=decide_eq_false c2
  clear c2
  replace H:=Option.bind_eq_some_iff.mp H
  obtain ⟨t108,A60,H⟩:=H
  try dsimp only at H
  have A6:=Aside0.mk A60
  clear A60
  obtain ⟨y109,hy109⟩ : ∃ y_:List Int,y_=(([(wrap64 (48+(Int.tmod a0 10))) % 256]:List Int)):=⟨_,rfl⟩
  replace H:(if t108.size+(strOfNums y109).size≤9223372036854775807 then (some (t108 ++ (strOfNums y109))) else (none))=some r:=by first|(rw [hy109];with_reducible exact H)|(have H2_:=(Option.bind_some _ _).symm.trans H;rw [hy109];with_reducible exact H2_)|(have H2_:=(Option.bind_some _ _).symm.trans H;with_reducible exact H2_)|with_reducible exact H|(rw [hy109];exact H)|exact H
  have Ny109:=Aside0.mk hy109
  clear hy109
  by_cases c7:t108.size+(strOfNums y109).size≤9223372036854775807
  ·rw [if_pos c7] at H
   have c7b0:=eq_true c7
   have c7b1:decide (t108.size+(strOfNums y109).size≤9223372036854775807)=true:=decide_eq_true c7
   try have c7b2:(9223372036854775807 < t108.size+(strOfNums y109).size)=False:=eq_false (Nat.not_lt.2 c7)
   obtain rfl:=Option.some.inj H
   go_enter Tryd.func41,Tryd.ntmps41
   try go_wp2
   have n0_:=Aside0.mk (below_drew1 HB.out)
   clear HB
   have HB:=n0_
   clear n0_
   refine start_ (n:=11) (S:=fun w'=>True) (ds:=[]) (fl 11 0) (by kernel_rfl) rfl rfl trivial (fun hHeld=>?_);refine with_tabW spec_l2Text.tab3 spec_l2Text.bits3 (fun HT_ HW_=>?_)
   generalize w.drew=w8 at HB hHeld ⊢
   refine pt 0 10 (fl 11 1) HT_ ?_
   refine pt 1 11 (fl 11 3) HT_ ?_
   refine pt 3 13 (fl 11 11) HT_ ?_
   refine pt 4 14 (fl 11 27) HT_ ?_
   refine pt 5 15 (fl 11 59) HT_ ?_
   refine pt 6 16 (fl 11 123) HT_ ?_
   refine join_ (σ:=Value) 2 (fl 11 511) (fun s_=>[(12,.string t108),(17,s_),(18,.string (strOfNums y109))]) (fun s_ w'=>(Kd.R (Kd.int .u8) 5 w' w.heap.size (fun _=>True) s_ y109)∧(Below w.heap.size w w')) ?_ ?_
   rotate_left
   ·intro hCont
    refine two_ (i:=2) (j:=7) (Ni:=some 12) (Nj:=some 17) (fl 11 127) (fl 11 251) rfl rfl rfl rfl (two_of HT_.out (by kernel_rfl)) (by decide) (by decide) (fun K hK=>?_) (fun K hK=>?_)
    ·skip
     refine goes_ Tryd.func41 (by kernel_rfl) rfl #[.int .i64 (wrap64 (Int.tdiv a0 10))] (by rfl) rfl rfl (by (try simp only [List.map_toArray,List.map_cons,List.map_nil]);first|done|rfl|(simp only [List.length_drop,List.length_take];rfl)) ?_
     with_reducible refine (ih k (by omega) (wrap64 (Int.tdiv a0 10)) t108 _ A6.out).mono ?_
     rintro e w9 ⟨rfl,hb⟩
     refine ⟨_,rfl,?_⟩
     have n0_:=bs hb
     clear HB
     have HB:=n0_
     clear n0_
     (try clear hb)
     (try clear hb2)
     (try clear hk)
     (try clear hi)
     refine hK.out _ _ trivial (fun hHeld=>?_)
     clear hK K
     refine no 12 ?_
     refine ot 7 (some 17) (fl 11 255) HT_ (fun K hK=>?_)
     refine Kd.R_lit_step (Kd.int .u8) _ 5 ?hg (N:=17) ?hd (xs:=([(wrap64 (48+(Int.tmod a0 10))) % 256]:List Int)) (inner:=[.int .u8 ((wrap64 (48+(Int.tmod a0 10))) % 256)]) (ok:=fun _=>True) (okp:=fun _=>True) ?hr ?hp (fun _ hk=>hk) trivial (Below.refl _ _) (Nat.le_refl _) (by simp) ?_;(case hd=>rfl);(case hg=>rfl);(case hr=>first|(go_simp;done)|(go_simp;rfl));(case hp=>exact (Reps.one (show Kd.M (Kd.int .u8) _ _ _ ((wrap64 (48+(Int.tmod a0 10))) % 256) [.int .u8 ((wrap64 (48+(Int.tmod a0 10))) % 256)] from rfl) (Reps.none _ _)))
     intro v110 w10 ho11 hb hg_ hnew_
     clear hg_ hnew_
     (first|rw [← Ny109.out] at ho11|(simp only [Int.reduceToNat] at ho11;rw [← Ny109.out] at ho11))
     have n0_:=Aside0.mk (Kd.R_lower ho11 (below_size be))
     have n1_:=bs hb
     clear HB
     have HO111:=n0_
     have HB:=n1_
     clear n0_ n1_
     clear hb ho11
     refine hK.out _ _ trivial (fun hHeld=>?_)
     clear hK K
     refine no 17 ?_
     refine ot 8 (some 18) (fl 11 511) HT_ (fun K hK=>?_)
     have hcv12:=own_string (P:=Tryd.prog) Tryd.underlying39 Tryd.underlying5 Tryd.underlying9 (Kd.own_of_R HO111.out)
     refine value_ (w1:=?_) (v:=?_) (by rfl) rfl ?_ ?_
     rotate_left 2
     ·go_simp
      constructor
      ·rfl
      ·rfl
     clear hcv12
     refine hK.out _ _ trivial (fun hHeld=>?_)
     clear hK K
     refine no 18 ?_
     exact norm_ (by simp only [putAll,Act.put,List.setIfInBounds_toArray,List.set_cons_zero,List.set_cons_succ]) (hCont (v110) _ ⟨(rR HO111),be⟩)
    ·skip
     refine Kd.R_lit_step (Kd.int .u8) _ 5 ?hg (N:=17) ?hd (xs:=([(wrap64 (48+(Int.tmod a0 10))) % 256]:List Int)) (inner:=[.int .u8 ((wrap64 (48+(Int.tmod a0 10))) % 256)]) (ok:=fun _=>True) (okp:=fun _=>True) ?hr ?hp (fun _ hk=>hk) trivial (Below.refl _ _) (Nat.le_refl _) (by simp) ?_;(case hd=>rfl);(case hg=>rfl);(case hr=>first|(go_simp;done)|(go_simp;rfl));(case hp=>exact (Reps.one (show Kd.M (Kd.int .u8) _ _ _ ((wrap64 (48+(Int.tmod a0 10))) % 256) [.int .u8 ((wrap64 (48+(Int.tmod a0 10))) % 256)] from rfl) (Reps.none _ _)))
     intro v110 w9 ho10 hb hg_ hnew_
     clear hg_ hnew_
     (first|rw [← Ny109.out] at ho10|(simp only [Int.reduceToNat] at ho10;rw [← Ny109.out] at ho10))
     have n0_:=Aside0.mk (Kd.R_lower ho10 (below_size be))
     have n1_:=bs hb
     clear HB
     have HO111:=n0_
     have HB:=n1_
     clear n0_ n1_
     clear hb ho10
     refine hK.out _ _ trivial (fun hHeld=>?_)
     clear hK K
     refine no 17 ?_
     refine two_ (i:=2) (j:=8) (Ni:=some 12) (Nj:=some 18) (fl 11 255) (fl 11 507) rfl rfl rfl rfl (two_of HT_.out (by kernel_rfl)) (by decide) (by decide) (fun K hK=>?_) (fun K hK=>?_)
     ·skip
      refine goes_ Tryd.func41 (by kernel_rfl) rfl #[.int .i64 (wrap64 (Int.tdiv a0 10))] (by rfl) rfl rfl (by (try simp only [List.map_toArray,List.map_cons,List.map_nil]);first|done|rfl|(simp only [List.length_drop,List.length_take];rfl)) ?_
      with_reducible refine (ih k (by omega) (wrap64 (Int.tdiv a0 10)) t108 _ A6.out).mono ?_
      rintro e w11 ⟨rfl,hb⟩
      refine ⟨_,rfl,?_⟩
      have n0_:=Aside0.mk (Kd.R_below ((rR HO111)) hb)
      have n1_:=bs hb
      clear HO111
      clear HB
      have HO111:=n0_
      have HB:=n1_
      clear n0_ n1_
      (try clear hb)
      (try clear hb2)
      (try clear hk)
      (try clear hi)
      refine hK.out _ _ trivial (fun hHeld=>?_)
      clear hK K
      refine no 12 ?_
      refine ot 8 (some 18) (fl 11 511) HT_ (fun K hK=>?_)
      have hcv12:=own_string (P:=Tryd.prog) Tryd.underlying39 Tryd.underlying5 Tryd.underlying9 (Kd.own_of_R HO111.out)
      refine value_ (w1:=?_) (v:=?_) (by rfl) rfl ?_ ?_
      rotate_left 2
      ·go_simp
       constructor
       ·rfl
       ·rfl
      clear hcv12
      refine hK.out _ _ trivial (fun hHeld=>?_)
      clear hK K
      refine no 18 ?_
      exact norm_ (by simp only [putAll,Act.put,List.setIfInBounds_toArray,List.set_cons_zero,List.set_cons_succ]) (hCont (v110) _ ⟨(rR HO111),be⟩)
     ·skip
      have hcv11:=own_string (P:=Tryd.prog) Tryd.underlying39 Tryd.underlying5 Tryd.underlying9 (Kd.own_of_R HO111.out)
      refine value_ (w1:=?_) (v:=?_) (by rfl) rfl ?_ ?_
      rotate_left 2
      ·go_simp
       constructor
       ·rfl
       ·rfl
      clear hcv11
      refine hK.out _ _ trivial (fun hHeld=>?_)
      clear hK K
      refine no 18 ?_
      refine ot 2 (some 12) (fl 11 511) HT_ (fun K hK=>?_)
      refine goes_ Tryd.func41 (by kernel_rfl) rfl #[.int .i64 (wrap64 (Int.tdiv a0 10))] (by rfl) rfl rfl (by (try simp only [List.map_toArray,List.map_cons,List.map_nil]);first|done|rfl|(simp only [List.length_drop,List.length_take];rfl)) ?_
      with_reducible refine (ih k (by omega) (wrap64 (Int.tdiv a0 10)) t108 _ A6.out).mono ?_
      rintro e w12 ⟨rfl,hb⟩
      refine ⟨_,rfl,?_⟩
      have n0_:=Aside0.mk (Kd.R_below ((rR HO111)) hb)
      have n1_:=bs hb
      clear HO111
      clear HB
      have HO111:=n0_
      have HB:=n1_
      clear n0_ n1_
      (try clear hb)
      (try clear hb2)
      (try clear hk)
      (try clear hi)
      refine hK.out _ _ trivial (fun hHeld=>?_)
      clear hK K
      refine no 12 ?_
      exact norm_ (by simp only [putAll,Act.put,List.setIfInBounds_toArray,List.set_cons_zero,List.set_cons_succ]) (hCont (v110) _ ⟨(rR HO111),be⟩)
   rintro v110 w13 ⟨h0_,h1_⟩
   have n0_:Aside0 (Kd.R (Kd.int .u8) 5 w13 w.heap.size (fun _=>True) v110 y109):=⟨h0_⟩
   have n1_:Aside0 (Below w.heap.size w w13):=⟨h1_⟩
   clear HB
   clear h0_ h1_
   have HO111:=n0_
   have HB:=n1_
   clear n0_ n1_
   have hHeld:=trivial
   refine norm_ (a':=?_) ?_ ?_
   rotate_left
   ·simp only [putAll,Act.put,List.setIfInBounds_toArray,List.set_cons_zero,List.set_cons_succ]
    rfl
   refine pt 9 19 (fl 11 1023) HT_ ?_
   refine pt 10 2 (fl 11 2047) HT_ ?_
   refine done_ (done_of HT_.out (by kernel_rfl)) ?_
   try go_wp2
   go_ret
   exact ⟨rz,be⟩
  ·rw [if_neg c7] at H
   exact absurd H (by simp)
def spec_StampText.f (k:Nat) (a0_0:Int) (a0_1:Int) (a0_2:Int):Option (ByteArray):=(spec_StampOk.f a0_0 a0_1 a0_2).bind fun t113=>(if t113=true then ((spec_l2Text.f k a0_0).bind fun t114=>(if t114.size+1≤9223372036854775807 then ((spec_l2Text.f k a0_1).bind fun t115=>(if (t114 ++ (⟨#[46]⟩:ByteArray)).size+t115.size≤9223372036854775807 then (if ((t114 ++ (⟨#[46]⟩:ByteArray)) ++ t115).size+1≤9223372036854775807 then ((spec_l2Text.f k a0_2).bind fun t116=>(if (((t114 ++ (⟨#[46]⟩:ByteArray)) ++ t115) ++ (⟨#[46]⟩:ByteArray)).size+t116.size≤9223372036854775807 then (some ((((t114 ++ (⟨#[46]⟩:ByteArray)) ++ t115) ++ (⟨#[46]⟩:ByteArray)) ++ t116)) else (none))) else (none)) else (none))) else (none))) else (some (⟨#[]⟩:ByteArray)))
def spec_StampText.T3:Bool × List (List Nat × List Nat):=(true,[([],[]),([0],[0]),([1],[1]),([2],[2]),([],[]),([4],[4]),([5,2],[5]),([3,6],[3,6]),([7],[7]),([],[]),([9],[9]),([10,6],[10]),([8,11],[8,11]),([12,11,0,1,2,3,4,5,6,7,8,9,10,11,12],[12])])
def spec_StampText.B3:List Nat:=[0,1,3,7,0,16,55,127,255,0,512,1655,4095,8191]
theorem spec_StampText.tab3:rtab .any (opsOf Tryd.f11 3)=spec_StampText.T3:=by kernel_rfl
theorem spec_StampText.bits3:waitsOk spec_StampText.T3.2 spec_StampText.B3=true:=by kernel_rfl
set_option maxHeartbeats 8000000 in
set_option maxRecDepth 100000 in
theorem spec_StampText.calls (k:Nat) (a0_0:Int) (a0_1:Int) (a0_2:Int) (r:ByteArray) (w:World) (h:spec_StampText.f k a0_0 a0_1 a0_2=some r) :
  Calls Tryd.prog 11 #[.agg #[.int .i64 a0_0,.int .i64 a0_1,.int .i64 a0_2]] w fun e w'=>e = .returned (.string r)∧Below w.heap.size w w':=by
 have hu25:=Tryd.underlying25
 have HB:=Aside0.mk (Below.refl w.heap.size w)
 have H:((spec_StampOk.f a0_0 a0_1 a0_2).bind fun t113=>(if t113=true then ((spec_l2Text.f k a0_0).bind fun t114=>(if t114.size+1≤9223372036854775807 then ((spec_l2Text.f k a0_1).bind fun t115=>(if (t114 ++ (⟨#[46]⟩:ByteArray)).size+t115.size≤9223372036854775807 then (if ((t114 ++ (⟨#[46]⟩:ByteArray)) ++ t115).size+1≤9223372036854775807 then ((spec_l2Text.f k a0_2).bind fun t116=>(if (((t114 ++ (⟨#[46]⟩:ByteArray)) ++ t115) ++ (⟨#[46]⟩:ByteArray)).size+t116.size≤9223372036854775807 then (some ((((t114 ++ (⟨#[46]⟩:ByteArray)) ++ t115) ++ (⟨#[46]⟩:ByteArray)) ++ t116)) else (none))) else (none)) else (none))) else (none))) else (some (⟨#[]⟩:ByteArray))))=some r:=h
 clear h
 replace H:=Option.bind_eq_some_iff.mp H
 obtain ⟨t113,A20,H⟩:=H
 try dsimp only at H
 have A2:=Aside0.mk A20
 clear A20
 by_cases c3:t113=true
 ·subst c3
  rw [if_pos rfl] at H
  replace H:=Option.bind_eq_some_iff.mp H
  obtain ⟨t114,A40,H⟩:=H
  try dsimp only at H
  have A4:=Aside0.mk A40
  clear A40
  by_cases c5:t114.size+1≤9223372036854775807
  ·rw [if_pos c5] at H
   have c5b0:=eq_true c5
   have c5b1:decide (t114.size+1≤9223372036854775807)=true:=decide_eq_true c5
   try have c5b2:(9223372036854775807 < t114.size+1)=False:=eq_false (Nat.not_lt.2 c5)
   replace H:=Option.bind_eq_some_iff.mp H
   obtain ⟨t115,A60,H⟩:=H
   try dsimp only at H
   have A6:=Aside0.mk A60
   clear A60
   by_cases c7:(t114 ++ (⟨#[46]⟩:ByteArray)).size+t115.size≤9223372036854775807
   ·rw [if_pos c7] at H
    have c7b0:=eq_true c7
    have c7b1:decide ((t114 ++ (⟨#[46]⟩:ByteArray)).size+t115.size≤9223372036854775807)=true:=decide_eq_true c7
    try have c7b2:(9223372036854775807 < (t114 ++ (⟨#[46]⟩:ByteArray)).size+t115.size)=False:=eq_false (Nat.not_lt.2 c7)
    try (have c7b3:=Nat.not_lt.2 c7;simp only [ByteArray.size_append,one_size] at c7b3;replace c7b3:=eq_false c7b3)
    by_cases c8:((t114 ++ (⟨#[46]⟩:ByteArray)) ++ t115).size+1≤9223372036854775807
    ·rw [if_pos c8] at H
     have c8b0:=eq_true c8
     have c8b1:decide (((t114 ++ (⟨#[46]⟩:ByteArray)) ++ t115).size+1≤9223372036854775807)=true:=decide_eq_true c8
     try have c8b2:(9223372036854775807 < ((t114 ++ (⟨#[46]⟩:ByteArray)) ++ t115).size+1)=False:=eq_false (Nat.not_lt.2 c8)
     try (have c8b3:=Nat.not_lt.2 c8;simp only [ByteArray.size_append,one_size] at c8b3;replace c8b3:=eq_false c8b3)
     replace H:=Option.bind_eq_some_iff.mp H
     obtain ⟨t116,A90,H⟩:=H
     try dsimp only at H
     have A9:=Aside0.mk A90
     clear A90
     by_cases c10:(((t114 ++ (⟨#[46]⟩:ByteArray)) ++ t115) ++ (⟨#[46]⟩:ByteArray)).size+t116.size≤9223372036854775807
     ·rw [if_pos c10] at H
      have c10b0:=eq_true c10
      have c10b1:decide ((((t114 ++ (⟨#[46]⟩:ByteArray)) ++ t115) ++ (⟨#[46]⟩:ByteArray)).size+t116.size≤9223372036854775807)=true:=decide_eq_true c10
      try have c10b2:(9223372036854775807 < (((t114 ++ (⟨#[46]⟩:ByteArray)) ++ t115) ++ (⟨#[46]⟩:ByteArray)).size+t116.size)=False:=eq_false (Nat.not_lt.2 c10)
      try (have c10b3:=Nat.not_lt.2 c10;simp only [ByteArray.size_append,one_size] at c10b3;replace c10b3:=eq_false c10b3)
      obtain rfl:=Option.some.inj H
      go_enter Tryd.func11,Tryd.ntmps11
      try go_wp2_with (first|((with_reducible refine gate_dst (N:=1) rfl ?_);refine box_event ?hg (N:=1) ?hd (cs:=#[.int .i64 a0_0,.int .i64 a0_1,.int .i64 a0_2]) (t:=25) ?hr ?_;(case hd=>rfl);(case hg=>rfl);(case hr=>first|(go_simp;done)|(go_simp;rfl));intro gb112 hg w11 hbox hb;have n0_:=bs hb;have n1_:=Aside0.mk (hbox);have n2_:=Aside0.mk ((by rw [hg];exact (below_size be):w.heap.size≤gb112));have n3_:=Aside0.mk ((by rw [hg];exact (below_size be):w.heap.size≤gb112));clear HB;have HB:=n0_;have BK112:=n1_;have GW112:=n2_;have GE112:=n3_;clear n0_ n1_ n2_ n3_;clear hb hbox hg;have hcz12_0:w11.cell? ⟨gb112,0,none⟩=some (.int .i64 a0_0):=(blk_cell BK112.out 0).trans rfl;have hcz12_1:w11.cell? ⟨gb112,1,none⟩=some (.int .i64 a0_1):=(blk_cell BK112.out 1).trans rfl;have hcz12_2:w11.cell? ⟨gb112,2,none⟩=some (.int .i64 a0_2):=(blk_cell BK112.out 2).trans rfl;have hfz12_0:=blk_frozen BK112.out 0;have hfz12_1:=blk_frozen BK112.out 1;have hfz12_2:=blk_frozen BK112.out 2)|((with_reducible refine gate_callee (f:=26) rfl ?_);refine goesL_ (some 4) rfl rfl Tryd.func26 (by kernel_rfl) rfl #[.agg #[.int .i64 a0_0,.int .i64 a0_1,.int .i64 a0_2]] rfl (by (try simp only [List.map_toArray,List.map_cons,List.map_nil]);first|done|rfl|(simp only [List.length_drop,List.length_take];rfl)) ?_;(with_reducible refine (spec_StampOk.calls a0_0 a0_1 a0_2 true _ A2.out).mono ?_);rintro e w13 ⟨rfl,hb⟩;refine ⟨_,rfl,?_⟩;have n0_:=Aside0.mk (blk_below (g:=gb112) (o:=.cells #[.int .i64 a0_0,.int .i64 a0_1,.int .i64 a0_2] 25 (0,0)) (bk BK112) hb);have n1_:=bs hb;clear BK112;clear HB;have BK112:=n0_;have HB:=n1_;clear n0_ n1_;(try clear hb);(try clear hb2);(try clear hk);(try clear hi)))
      have n0_:=Aside0.mk (blk_drew BK112.out)
      have n1_:=Aside0.mk (below_drew1 HB.out)
      clear BK112
      clear HB
      have BK112:=n0_
      have HB:=n1_
      clear n0_ n1_
      refine start_ (n:=14) (S:=fun w'=>w'.cell? ⟨gb112,0,none⟩=some (.int .i64 a0_0)∧w'.cell? ⟨gb112,1,none⟩=some (.int .i64 a0_1)∧w'.cell? ⟨gb112,2,none⟩=some (.int .i64 a0_2)) (ds:=[]) (fl 14 0) (by kernel_rfl) rfl rfl ⟨(blk_cell BK112.out 0).trans rfl,(blk_cell BK112.out 1).trans rfl,(blk_cell BK112.out 2).trans rfl⟩ (fun hHeld=>?_);refine with_tabW spec_StampText.tab3 spec_StampText.bits3 (fun HT_ HW_=>?_)
      generalize w13.drew=w14 at BK112 HB hHeld ⊢
      refine pt 0 6 (fl 14 1) HT_ ?_
      refine pt 4 10 (fl 14 17) HT_ ?_
      refine pt 9 15 (fl 14 529) HT_ ?_
      refine tt 1 7 (fl 14 531) HT_ HW_ hHeld ?_
      refine tt 5 11 (fl 14 563) HT_ HW_ hHeld ?_
      refine tt 10 16 (fl 14 1587) HT_ HW_ hHeld ?_
      refine ot 2 (some 8) (fl 14 1591) HT_ (fun K hK=>?_)
      refine goes_ Tryd.func41 (by kernel_rfl) rfl #[.int .i64 a0_0] (by rfl) rfl rfl (by (try simp only [List.map_toArray,List.map_cons,List.map_nil]);first|done|rfl|(simp only [List.length_drop,List.length_take];rfl)) ?_
      with_reducible refine (spec_l2Text.calls k a0_0 t114 _ A4.out).mono ?_
      rintro e w15 ⟨rfl,hb⟩
      refine ⟨_,rfl,?_⟩
      have n0_:=Aside0.mk (blk_below (g:=gb112) (o:=.cells #[.int .i64 a0_0,.int .i64 a0_1,.int .i64 a0_2] 25 (0,0)) (bk BK112) hb)
      have n1_:=bs hb
      clear BK112
      clear HB
      have BK112:=n0_
      have HB:=n1_
      clear n0_ n1_
      (try clear hb)
      (try clear hb2)
      (try clear hk)
      (try clear hi)
      refine hK.out _ _ ⟨(blk_cell BK112.out 0).trans rfl,(blk_cell BK112.out 1).trans rfl,(blk_cell BK112.out 2).trans rfl⟩ (fun hHeld=>?_)
      clear hK K
      refine no 8 ?_
      refine pt 3 9 (fl 14 1599) HT_ ?_
      refine ot 6 (some 12) (fl 14 1663) HT_ (fun K hK=>?_)
      refine goes_ Tryd.func41 (by kernel_rfl) rfl #[.int .i64 a0_1] (by rfl) rfl rfl (by (try simp only [List.map_toArray,List.map_cons,List.map_nil]);first|done|rfl|(simp only [List.length_drop,List.length_take];rfl)) ?_
      with_reducible refine (spec_l2Text.calls k a0_1 t115 _ A6.out).mono ?_
      rintro e w16 ⟨rfl,hb⟩
      refine ⟨_,rfl,?_⟩
      have n0_:=Aside0.mk (blk_below (g:=gb112) (o:=.cells #[.int .i64 a0_0,.int .i64 a0_1,.int .i64 a0_2] 25 (0,0)) (bk BK112) hb)
      have n1_:=bs hb
      clear BK112
      clear HB
      have BK112:=n0_
      have HB:=n1_
      clear n0_ n1_
      (try clear hb)
      (try clear hb2)
      (try clear hk)
      (try clear hi)
      refine hK.out _ _ ⟨(blk_cell BK112.out 0).trans rfl,(blk_cell BK112.out 1).trans rfl,(blk_cell BK112.out 2).trans rfl⟩ (fun hHeld=>?_)
      clear hK K
      refine no 12 ?_
      refine pt 7 13 (fl 14 1791) HT_ ?_
      refine pt 8 14 (fl 14 2047) HT_ ?_
      refine ot 11 (some 17) (fl 14 4095) HT_ (fun K hK=>?_)
      refine goes_ Tryd.func41 (by kernel_rfl) rfl #[.int .i64 a0_2] (by rfl) rfl rfl (by (try simp only [List.map_toArray,List.map_cons,List.map_nil]);first|done|rfl|(simp only [List.length_drop,List.length_take];rfl)) ?_
      with_reducible refine (spec_l2Text.calls k a0_2 t116 _ A9.out).mono ?_
      rintro e w17 ⟨rfl,hb⟩
      refine ⟨_,rfl,?_⟩
      have n0_:=Aside0.mk (blk_below (g:=gb112) (o:=.cells #[.int .i64 a0_0,.int .i64 a0_1,.int .i64 a0_2] 25 (0,0)) (bk BK112) hb)
      have n1_:=bs hb
      clear BK112
      clear HB
      have BK112:=n0_
      have HB:=n1_
      clear n0_ n1_
      (try clear hb)
      (try clear hb2)
      (try clear hk)
      (try clear hi)
      refine hK.out _ _ ⟨(blk_cell BK112.out 0).trans rfl,(blk_cell BK112.out 1).trans rfl,(blk_cell BK112.out 2).trans rfl⟩ (fun hHeld=>?_)
      clear hK K
      refine no 17 ?_
      refine pt 12 18 (fl 14 8191) HT_ ?_
      refine pt 13 2 (fl 14 16383) HT_ ?_
      refine done_ (done_of HT_.out (by kernel_rfl)) ?_
      try go_wp2
      go_ret
      exact ⟨rz,be⟩
     ·rw [if_neg c10] at H
      exact absurd H (by simp)
    ·rw [if_neg c8] at H
     exact absurd H (by simp)
   ·rw [if_neg c7] at H
    exact absurd H (by simp)
  ·rw [if_neg c5] at H
   exact absurd H (by simp)
 ·replace c3:=Bool.eq_false_iff.mpr c3
  subst c3
  have H1:(some (⟨#[]⟩:ByteArray))=some r:=by rw [if_neg (show ¬ (false=true) by decide)] at H;exact H
  clear H
  have H:=H1
  clear H1
  obtain rfl:=Option.some.inj H
  go_enter Tryd.func11,Tryd.ntmps11
  go_wp2_with (first|((with_reducible refine gate_dst (N:=1) rfl ?_);refine box_event ?hg (N:=1) ?hd (cs:=#[.int .i64 a0_0,.int .i64 a0_1,.int .i64 a0_2]) (t:=25) ?hr ?_;(case hd=>rfl);(case hg=>rfl);(case hr=>first|(go_simp;done)|(go_simp;rfl));intro gb112 hg w18 hbox hb;have n0_:=bs hb;have n1_:=Aside0.mk (hbox);have n2_:=Aside0.mk ((by rw [hg];exact (below_size be):w.heap.size≤gb112));have n3_:=Aside0.mk ((by rw [hg];exact (below_size be):w.heap.size≤gb112));clear HB;have HB:=n0_;have BK112:=n1_;have GW112:=n2_;have GE112:=n3_;clear n0_ n1_ n2_ n3_;clear hb hbox hg;have hcz19_0:w18.cell? ⟨gb112,0,none⟩=some (.int .i64 a0_0):=(blk_cell BK112.out 0).trans rfl;have hcz19_1:w18.cell? ⟨gb112,1,none⟩=some (.int .i64 a0_1):=(blk_cell BK112.out 1).trans rfl;have hcz19_2:w18.cell? ⟨gb112,2,none⟩=some (.int .i64 a0_2):=(blk_cell BK112.out 2).trans rfl;have hfz19_0:=blk_frozen BK112.out 0;have hfz19_1:=blk_frozen BK112.out 1;have hfz19_2:=blk_frozen BK112.out 2)|((with_reducible refine gate_callee (f:=26) rfl ?_);refine goesL_ (some 4) rfl rfl Tryd.func26 (by kernel_rfl) rfl #[.agg #[.int .i64 a0_0,.int .i64 a0_1,.int .i64 a0_2]] rfl (by (try simp only [List.map_toArray,List.map_cons,List.map_nil]);first|done|rfl|(simp only [List.length_drop,List.length_take];rfl)) ?_;(with_reducible refine (spec_StampOk.calls a0_0 a0_1 a0_2 false _ A2.out).mono ?_);rintro e w20 ⟨rfl,hb⟩;refine ⟨_,rfl,?_⟩;have n0_:=Aside0.mk (blk_below (g:=gb112) (o:=.cells #[.int .i64 a0_0,.int .i64 a0_1,.int .i64 a0_2] 25 (0,0)) (bk BK112) hb);have n1_:=bs hb;clear BK112;clear HB;have BK112:=n0_;have HB:=n1_;clear n0_ n1_;(try clear hb);(try clear hb2);(try clear hk);(try clear hi)))
  go_ret
  exact ⟨rz,be⟩
def laws_toStamp.f (a0_0:Int) (a0_1:Int) (a0_2:Int):Option (Int × Int × Int):=some (a0_0,a0_1,a0_2)
set_option maxHeartbeats 8000000 in
set_option maxRecDepth 100000 in
theorem laws_toStamp.calls (a0_0:Int) (a0_1:Int) (a0_2:Int) (r1:Int) (r2:Int) (r3:Int) (w:World) (h:laws_toStamp.f a0_0 a0_1 a0_2=some (r1,r2,r3)) :
  Calls Tryd.prog 12 #[.agg #[.int .i64 a0_0,.int .i64 a0_1,.int .i64 a0_2]] w fun e w'=>e = .returned (.agg #[.int .i64 r1,.int .i64 r2,.int .i64 r3])∧Below w.heap.size w w':=by
 have hu23:=Tryd.underlying23
 have hu25:=Tryd.underlying25
 have HB:=Aside0.mk (Below.refl w.heap.size w)
 have H:(some (a0_0,a0_1,a0_2))=some (r1,r2,r3):=h
 clear h
 simp only [Option.some.injEq,Prod.mk.injEq] at H
 obtain ⟨rfl,rfl,rfl⟩:=H
 go_enter Tryd.func12,Tryd.ntmps12
 go_wp2_with (first|((with_reducible refine gate_dst (N:=1) rfl ?_);refine box_event ?hg (N:=1) ?hd (cs:=#[.int .i64 a0_0,.int .i64 a0_1,.int .i64 a0_2]) (t:=23) ?hr ?_;(case hd=>rfl);(case hg=>rfl);(case hr=>first|(go_simp;done)|(go_simp;rfl));intro gb117 hg w2 hbox hb;have n0_:=bs hb;have n1_:=Aside0.mk (hbox);have n2_:=Aside0.mk ((by rw [hg];exact (below_size be):w.heap.size≤gb117));have n3_:=Aside0.mk ((by rw [hg];exact (below_size be):w.heap.size≤gb117));clear HB;have HB:=n0_;have BK117:=n1_;have GW117:=n2_;have GE117:=n3_;clear n0_ n1_ n2_ n3_;clear hb hbox hg)|((with_reducible refine gate_dst (N:=2) rfl ?_);refine box_event ?hg (N:=2) ?hd (cs:=#[.int .i64 0,.int .i64 0,.int .i64 0]) (t:=25) ?hr ?_;(case hd=>rfl);(case hg=>rfl);(case hr=>first|(go_simp;done)|(go_simp;rfl));intro gb118 hg w3 hbox hb;have n0_:=Aside0.mk (blk_below (g:=gb117) (o:=.cells #[.int .i64 a0_0,.int .i64 a0_1,.int .i64 a0_2] 23 (0,0)) (bk BK117) hb);have n1_:=bs hb;have n2_:=Aside0.mk (hbox);have n3_:=Aside0.mk ((by rw [hg];exact (below_size be):w.heap.size≤gb118));have n4_:=Aside0.mk ((by rw [hg];exact (below_size be):w.heap.size≤gb118));have n5_:=Aside0.mk ((by rw [hg];exact Nat.ne_of_lt (blk_lt (g:=gb117) (o:=.cells #[.int .i64 a0_0,.int .i64 a0_1,.int .i64 a0_2] 23 (0,0)) (bk BK117)):gb117 ≠ gb118));have n6_:=Aside0.mk ((by rw [hg];exact Nat.ne_of_gt (blk_lt (g:=gb117) (o:=.cells #[.int .i64 a0_0,.int .i64 a0_1,.int .i64 a0_2] 23 (0,0)) (bk BK117)):gb118 ≠ gb117));clear BK117;clear HB;have BK117:=n0_;have HB:=n1_;have BK118:=n2_;have GW118:=n3_;have GE118:=n4_;have NB117_118:=n5_;have NB118_117:=n6_;clear n0_ n1_ n2_ n3_ n4_ n5_ n6_;clear hb hbox hg)|((with_reducible refine gate_dst (N:=3) rfl ?_);refine box_event ?hg (N:=3) ?hd (cs:=#[.int .i64 0,.int .i64 0,.int .i64 0]) (t:=25) ?hr ?_;(case hd=>rfl);(case hg=>rfl);(case hr=>first|(go_simp;done)|(go_simp;rfl));intro gb119 hg w4 hbox hb;have n0_:=Aside0.mk (blk_below (g:=gb117) (o:=.cells #[.int .i64 a0_0,.int .i64 a0_1,.int .i64 a0_2] 23 (0,0)) (bk BK117) hb);have n1_:=Aside0.mk (blk_below (g:=gb118) (o:=.cells #[.int .i64 0,.int .i64 0,.int .i64 0] 25 (0,0)) (bk BK118) hb);have n2_:=bs hb;have n3_:=Aside0.mk (hbox);have n4_:=Aside0.mk ((by rw [hg];exact (below_size be):w.heap.size≤gb119));have n5_:=Aside0.mk ((by rw [hg];exact (below_size be):w.heap.size≤gb119));have n6_:=Aside0.mk ((by rw [hg];exact Nat.ne_of_lt (blk_lt (g:=gb117) (o:=.cells #[.int .i64 a0_0,.int .i64 a0_1,.int .i64 a0_2] 23 (0,0)) (bk BK117)):gb117 ≠ gb119));have n7_:=Aside0.mk ((by rw [hg];exact Nat.ne_of_gt (blk_lt (g:=gb117) (o:=.cells #[.int .i64 a0_0,.int .i64 a0_1,.int .i64 a0_2] 23 (0,0)) (bk BK117)):gb119 ≠ gb117));have n8_:=Aside0.mk ((by rw [hg];exact Nat.ne_of_lt (blk_lt (g:=gb118) (o:=.cells #[.int .i64 0,.int .i64 0,.int .i64 0] 25 (0,0)) (bk BK118)):gb118 ≠ gb119));have n9_:=Aside0.mk ((by rw [hg];exact Nat.ne_of_gt (blk_lt (g:=gb118) (o:=.cells #[.int .i64 0,.int .i64 0,.int .i64 0] 25 (0,0)) (bk BK118)):gb119 ≠ gb118));clear BK117;clear BK118;clear HB;have BK117:=n0_;have BK118:=n1_;have HB:=n2_;have BK119:=n3_;have GW119:=n4_;have GE119:=n5_;have NB117_119:=n6_;have NB119_117:=n7_;have NB118_119:=n8_;have NB119_118:=n9_;clear n0_ n1_ n2_ n3_ n4_ n5_ n6_ n7_ n8_ n9_;clear hb hbox hg;have hnb5:=NB117_118.out;have hnc5:=NB118_117.out;have hnb6:=NB117_119.out;have hnc6:=NB119_117.out;have hcz7_0:w4.cell? ⟨gb117,0,none⟩=some (.int .i64 a0_0):=(blk_cell BK117.out 0).trans rfl;have hcz7_1:w4.cell? ⟨gb117,1,none⟩=some (.int .i64 a0_1):=(blk_cell BK117.out 1).trans rfl;have hcz7_2:w4.cell? ⟨gb117,2,none⟩=some (.int .i64 a0_2):=(blk_cell BK117.out 2).trans rfl;have hfz7_0:=blk_frozen BK117.out 0;have hfz7_1:=blk_frozen BK117.out 1;have hfz7_2:=blk_frozen BK117.out 2;have hnb8:=NB119_118.out;have hnc8:=NB118_119.out;have hcz9_0:w4.cell? ⟨gb119,0,none⟩=some (.int .i64 0):=(blk_cell BK119.out 0).trans rfl;have hcz9_1:w4.cell? ⟨gb119,1,none⟩=some (.int .i64 0):=(blk_cell BK119.out 1).trans rfl;have hcz9_2:w4.cell? ⟨gb119,2,none⟩=some (.int .i64 0):=(blk_cell BK119.out 2).trans rfl;have hfz9_0:=blk_frozen BK119.out 0;have hfz9_1:=blk_frozen BK119.out 1;have hfz9_2:=blk_frozen BK119.out 2;have hcz10_0:w4.cell? ⟨gb118,0,none⟩=some (.int .i64 0):=(blk_cell BK118.out 0).trans rfl;have hcz10_1:w4.cell? ⟨gb118,1,none⟩=some (.int .i64 0):=(blk_cell BK118.out 1).trans rfl;have hcz10_2:w4.cell? ⟨gb118,2,none⟩=some (.int .i64 0):=(blk_cell BK118.out 2).trans rfl;have hfz10_0:=blk_frozen BK118.out 0;have hfz10_1:=blk_frozen BK118.out 1;have hfz10_2:=blk_frozen BK118.out 2))
 refine bodyPost_ret (results_cell_row rfl _ _ gb118 25 #[.int .i64 a0_0,.int .i64 a0_1,.int .i64 a0_2] (0,0) _ rfl (by (with_reducible repeat (first|refine blk_drewN ?_ _|refine blk_drew ?_|refine blk_alloc ?_ _));refine blk_put (cs:=#[.int .i64 a0_0,.int .i64 a0_1,.int .i64 0]) ?_ 2 _ rfl;(with_reducible repeat (first|refine blk_drewN ?_ _|refine blk_drew ?_|refine blk_alloc ?_ _));refine blk_put (cs:=#[.int .i64 a0_0,.int .i64 0,.int .i64 0]) ?_ 1 _ rfl;(with_reducible repeat (first|refine blk_drewN ?_ _|refine blk_drew ?_|refine blk_alloc ?_ _));refine blk_put (cs:=#[.int .i64 0,.int .i64 0,.int .i64 0]) ?_ 0 _ rfl;(with_reducible repeat (first|refine blk_drewN ?_ _|refine blk_drew ?_|refine blk_alloc ?_ _));refine blk_far ?_ NB118_119.out _;(with_reducible repeat (first|refine blk_drewN ?_ _|refine blk_drew ?_|refine blk_alloc ?_ _));refine blk_far ?_ NB118_119.out _;(with_reducible repeat (first|refine blk_drewN ?_ _|refine blk_drew ?_|refine blk_alloc ?_ _));refine blk_far ?_ NB118_119.out _;(with_reducible repeat (first|refine blk_drewN ?_ _|refine blk_drew ?_|refine blk_alloc ?_ _));exact BK118.out) Tryd.underlying25 rfl (by kernel_rfl)) rfl ?_
 exact ⟨rz,be⟩
def impl_in.f (a0:Int) (a1:Int) (a2:Int):Option (Bool):=if a0 ≥ a1 then (some (decide (a0≤a2))) else (some false)
set_option maxHeartbeats 8000000 in
set_option maxRecDepth 100000 in
theorem impl_in.calls (a0:Int) (a1:Int) (a2:Int) (r:Bool) (w:World) (h:impl_in.f a0 a1 a2=some r) :
  Calls Tryd.prog 53 #[.int .i64 a0,.int .i64 a1,.int .i64 a2] w fun e w'=>e = .returned (.bool r)∧Drawn0 w w':=by
 have H:(if a0 ≥ a1 then (some (decide (a0≤a2))) else (some false))=some r:=h
 clear h
 by_cases c4:a0 ≥ a1
 ·rw [if_pos c4] at H
  have c4b0:decide (a1≤a0)=true:=decide_eq_true c4
  clear c4
  obtain rfl:=Option.some.inj H
  go_enter Tryd.func53,Tryd.ntmps53
  go_wp2
  go_ret
  exact ⟨by first|rfl|(simp;done)|(simp [*];done),by repeat (first|exact Drawn0.refl _|apply Drawn0.step)⟩
 ·rw [if_neg c4] at H
  have c4b0:decide (a1≤a0)=false:=decide_eq_false c4
  clear c4
  obtain rfl:=Option.some.inj H
  go_enter Tryd.func53,Tryd.ntmps53
  go_wp2
  go_ret
  exact ⟨by first|rfl|(simp;done)|(simp [*];done),by repeat (first|exact Drawn0.refl _|apply Drawn0.step)⟩
def impl_StampOk.f (a0_0:Int) (a0_1:Int) (a0_2:Int):Option (Bool):=(impl_in.f a0_0 0 1000000000).bind fun t121=>(if t121=true then ((impl_in.f a0_1 0 1000000).bind fun t122=>(if t122=true then ((impl_in.f a0_2 0 20).bind fun t123=>(some t123)) else (some false))) else (some false))
set_option maxHeartbeats 8000000 in
set_option maxRecDepth 100000 in
theorem impl_StampOk.calls (a0_0:Int) (a0_1:Int) (a0_2:Int) (r:Bool) (w:World) (h:impl_StampOk.f a0_0 a0_1 a0_2=some r) :
  Calls Tryd.prog 27 #[.agg #[.int .i64 a0_0,.int .i64 a0_1,.int .i64 a0_2]] w fun e w'=>e = .returned (.bool r)∧Below w.heap.size w w':=by
 have hu25:=Tryd.underlying25
 have HB:=Aside0.mk (Below.refl w.heap.size w)
 have H:((impl_in.f a0_0 0 1000000000).bind fun t121=>(if t121=true then ((impl_in.f a0_1 0 1000000).bind fun t122=>(if t122=true then ((impl_in.f a0_2 0 20).bind fun t123=>(some t123)) else (some false))) else (some false)))=some r:=h
 clear h
 replace H:=Option.bind_eq_some_iff.mp H
 obtain ⟨t121,A20,H⟩:=H
 try dsimp only at H
 have A2:=Aside0.mk A20
 clear A20
 by_cases c3:t121=true
 ·subst c3
  rw [if_pos rfl] at H
  replace H:=Option.bind_eq_some_iff.mp H
  obtain ⟨t122,A40,H⟩:=H
  try dsimp only at H
  have A4:=Aside0.mk A40
  clear A40
  by_cases c5:t122=true
  ·subst c5
   rw [if_pos rfl] at H
   replace H:=Option.bind_eq_some_iff.mp H
   obtain ⟨t123,A60,H⟩:=H
   try dsimp only at H
   have A6:=Aside0.mk A60
   clear A60
   obtain rfl:=Option.some.inj H
   go_enter Tryd.func27,Tryd.ntmps27
   go_wp2_with (first|((with_reducible refine gate_dst (N:=1) rfl ?_);refine box_event ?hg (N:=1) ?hd (cs:=#[.int .i64 a0_0,.int .i64 a0_1,.int .i64 a0_2]) (t:=25) ?hr ?_;(case hd=>rfl);(case hg=>rfl);(case hr=>first|(go_simp;done)|(go_simp;rfl));intro gb120 hg w7 hbox hb;have n0_:=bs hb;have n1_:=Aside0.mk (hbox);have n2_:=Aside0.mk ((by rw [hg];exact (below_size be):w.heap.size≤gb120));have n3_:=Aside0.mk ((by rw [hg];exact (below_size be):w.heap.size≤gb120));clear HB;have HB:=n0_;have BK120:=n1_;have GW120:=n2_;have GE120:=n3_;clear n0_ n1_ n2_ n3_;clear hb hbox hg;have hcz8_0:w7.cell? ⟨gb120,0,none⟩=some (.int .i64 a0_0):=(blk_cell BK120.out 0).trans rfl;have hcz8_1:w7.cell? ⟨gb120,1,none⟩=some (.int .i64 a0_1):=(blk_cell BK120.out 1).trans rfl;have hcz8_2:w7.cell? ⟨gb120,2,none⟩=some (.int .i64 a0_2):=(blk_cell BK120.out 2).trans rfl;have hfz8_0:=blk_frozen BK120.out 0;have hfz8_1:=blk_frozen BK120.out 1;have hfz8_2:=blk_frozen BK120.out 2)|((with_reducible refine gate_callee (f:=53) rfl ?_);refine goesL_ (some 5) rfl rfl Tryd.func53 (by kernel_rfl) rfl #[.int .i64 a0_0,.int .i64 0,.int .i64 1000000000] rfl (by (try simp only [List.map_toArray,List.map_cons,List.map_nil]);first|done|rfl|(simp only [List.length_drop,List.length_take];rfl)) ?_;(with_reducible refine (impl_in.calls a0_0 0 1000000000 true _ A2.out).mono ?_);rintro e w' ⟨rfl,⟨nd,rfl⟩⟩;refine ⟨_,rfl,?_⟩)|(go_at_call 53;(with_reducible refine (impl_in.calls a0_1 0 1000000 true _ A4.out).mono ?_);rintro e w' ⟨rfl,⟨nd,rfl⟩⟩)|(go_at_call 53;(with_reducible refine (impl_in.calls a0_2 0 20 t123 _ A6.out).mono ?_);rintro e w' ⟨rfl,⟨nd,rfl⟩⟩))
   go_ret
   exact ⟨rz,be⟩
  ·replace c5:=Bool.eq_false_iff.mpr c5
   subst c5
   have H1:(some false)=some r:=by rw [if_neg (show ¬ (false=true) by decide)] at H;exact H
   clear H
   have H:=H1
   clear H1
   obtain rfl:=Option.some.inj H
   go_enter Tryd.func27,Tryd.ntmps27
   go_wp2_with (first|((with_reducible refine gate_dst (N:=1) rfl ?_);refine box_event ?hg (N:=1) ?hd (cs:=#[.int .i64 a0_0,.int .i64 a0_1,.int .i64 a0_2]) (t:=25) ?hr ?_;(case hd=>rfl);(case hg=>rfl);(case hr=>first|(go_simp;done)|(go_simp;rfl));intro gb120 hg w9 hbox hb;have n0_:=bs hb;have n1_:=Aside0.mk (hbox);have n2_:=Aside0.mk ((by rw [hg];exact (below_size be):w.heap.size≤gb120));have n3_:=Aside0.mk ((by rw [hg];exact (below_size be):w.heap.size≤gb120));clear HB;have HB:=n0_;have BK120:=n1_;have GW120:=n2_;have GE120:=n3_;clear n0_ n1_ n2_ n3_;clear hb hbox hg;have hcz10_0:w9.cell? ⟨gb120,0,none⟩=some (.int .i64 a0_0):=(blk_cell BK120.out 0).trans rfl;have hcz10_1:w9.cell? ⟨gb120,1,none⟩=some (.int .i64 a0_1):=(blk_cell BK120.out 1).trans rfl;have hcz10_2:w9.cell? ⟨gb120,2,none⟩=some (.int .i64 a0_2):=(blk_cell BK120.out 2).trans rfl;have hfz10_0:=blk_frozen BK120.out 0;have hfz10_1:=blk_frozen BK120.out 1;have hfz10_2:=blk_frozen BK120.out 2)|((with_reducible refine gate_callee (f:=53) rfl ?_);refine goesL_ (some 5) rfl rfl Tryd.func53 (by kernel_rfl) rfl #[.int .i64 a0_0,.int .i64 0,.int .i64 1000000000] rfl (by (try simp only [List.map_toArray,List.map_cons,List.map_nil]);first|done|rfl|(simp only [List.length_drop,List.length_take];rfl)) ?_;(with_reducible refine (impl_in.calls a0_0 0 1000000000 true _ A2.out).mono ?_);rintro e w' ⟨rfl,⟨nd,rfl⟩⟩;refine ⟨_,rfl,?_⟩)|(go_at_call 53;(with_reducible refine (impl_in.calls a0_1 0 1000000 false _ A4.out).mono ?_);rintro e w' ⟨rfl,⟨nd,rfl⟩⟩))
   go_ret
   exact ⟨rz,be⟩
 ·replace c3:=Bool.eq_false_iff.mpr c3
  subst c3
  have H1:(some false)=some r:=by rw [if_neg (show ¬ (false=true) by decide)] at H;exact H
  clear H
  have H:=H1
  clear H1
  obtain rfl:=Option.some.inj H
  go_enter Tryd.func27,Tryd.ntmps27
  go_wp2_with (first|((with_reducible refine gate_dst (N:=1) rfl ?_);refine box_event ?hg (N:=1) ?hd (cs:=#[.int .i64 a0_0,.int .i64 a0_1,.int .i64 a0_2]) (t:=25) ?hr ?_;(case hd=>rfl);(case hg=>rfl);(case hr=>first|(go_simp;done)|(go_simp;rfl));intro gb120 hg w11 hbox hb;have n0_:=bs hb;have n1_:=Aside0.mk (hbox);have n2_:=Aside0.mk ((by rw [hg];exact (below_size be):w.heap.size≤gb120));have n3_:=Aside0.mk ((by rw [hg];exact (below_size be):w.heap.size≤gb120));clear HB;have HB:=n0_;have BK120:=n1_;have GW120:=n2_;have GE120:=n3_;clear n0_ n1_ n2_ n3_;clear hb hbox hg;have hcz12_0:w11.cell? ⟨gb120,0,none⟩=some (.int .i64 a0_0):=(blk_cell BK120.out 0).trans rfl;have hcz12_1:w11.cell? ⟨gb120,1,none⟩=some (.int .i64 a0_1):=(blk_cell BK120.out 1).trans rfl;have hcz12_2:w11.cell? ⟨gb120,2,none⟩=some (.int .i64 a0_2):=(blk_cell BK120.out 2).trans rfl;have hfz12_0:=blk_frozen BK120.out 0;have hfz12_1:=blk_frozen BK120.out 1;have hfz12_2:=blk_frozen BK120.out 2)|((with_reducible refine gate_callee (f:=53) rfl ?_);refine goesL_ (some 5) rfl rfl Tryd.func53 (by kernel_rfl) rfl #[.int .i64 a0_0,.int .i64 0,.int .i64 1000000000] rfl (by (try simp only [List.map_toArray,List.map_cons,List.map_nil]);first|done|rfl|(simp only [List.length_drop,List.length_take];rfl)) ?_;(with_reducible refine (impl_in.calls a0_0 0 1000000000 false _ A2.out).mono ?_);rintro e w' ⟨rfl,⟨nd,rfl⟩⟩;refine ⟨_,rfl,?_⟩))
  go_ret
  exact ⟨rz,be⟩
def strconv_Itoa.f (a0:Int):Option ByteArray:=if -9223372036854775808≤a0∧a0≤9223372036854775807 then some ⟨(Lib.itoa a0).toArray⟩ else none
theorem strconv_Itoa.calls (a0:Int) (r:ByteArray) (w:World) (hL:Aside0 (Go.Proofs.YtnoglmdicdpabaaDoor.St.Laid w)) (h:strconv_Itoa.f a0=some r) :
  Calls Tryd.prog 42 #[.int .i64 a0] w fun e w'=>e = .returned (.string r)∧Below w.heap.size w w':=by
 unfold strconv_Itoa.f at h
 by_cases hl : -9223372036854775808≤a0∧a0≤9223372036854775807
 ·rw [if_pos hl] at h
  obtain rfl:=Option.some.inj h
  refine (Tryd.strconv_Itoa a0 hl.1 hl.2 w hL.out).mono fun e w' he=>?_
  obtain ⟨rfl,k,os,rfl⟩:=he
  exact ⟨rfl,Lib.below_grow w.heap.size w (Nat.le_refl _) k os⟩
 ·rw [if_neg hl] at h
  cases h
def impl_StampText.f (a0_0:Int) (a0_1:Int) (a0_2:Int):Option (ByteArray):=(impl_StampOk.f a0_0 a0_1 a0_2).bind fun t125=>(if t125=true then ((strconv_Itoa.f a0_0).bind fun t126=>(if t126.size+1≤9223372036854775807 then ((strconv_Itoa.f a0_1).bind fun t127=>(if (t126 ++ (⟨#[46]⟩:ByteArray)).size+t127.size≤9223372036854775807 then (if ((t126 ++ (⟨#[46]⟩:ByteArray)) ++ t127).size+1≤9223372036854775807 then ((strconv_Itoa.f a0_2).bind fun t128=>(if (((t126 ++ (⟨#[46]⟩:ByteArray)) ++ t127) ++ (⟨#[46]⟩:ByteArray)).size+t128.size≤9223372036854775807 then (some ((((t126 ++ (⟨#[46]⟩:ByteArray)) ++ t127) ++ (⟨#[46]⟩:ByteArray)) ++ t128)) else (none))) else (none)) else (none))) else (none))) else (some (⟨#[]⟩:ByteArray)))
def impl_StampText.T3:Bool × List (List Nat × List Nat):=(true,[([],[]),([0],[0]),([1],[1]),([2],[2]),([],[]),([4],[4]),([5,2],[5]),([3,6],[3,6]),([7],[7]),([],[]),([9],[9]),([10,6],[10]),([8,11],[8,11]),([12,11,0,1,2,3,4,5,6,7,8,9,10,11,12],[12])])
def impl_StampText.B3:List Nat:=[0,1,3,7,0,16,55,127,255,0,512,1655,4095,8191]
theorem impl_StampText.tab3:rtab .any (opsOf Tryd.f13 3)=impl_StampText.T3:=by kernel_rfl
theorem impl_StampText.bits3:waitsOk impl_StampText.T3.2 impl_StampText.B3=true:=by kernel_rfl
set_option maxHeartbeats 8000000 in
set_option maxRecDepth 100000 in
theorem impl_StampText.calls (a0_0:Int) (a0_1:Int) (a0_2:Int) (r:ByteArray) (w:World) (hL:Aside0 (Laid w)) (h:impl_StampText.f a0_0 a0_1 a0_2=some r) :
  Calls Tryd.prog 13 #[.agg #[.int .i64 a0_0,.int .i64 a0_1,.int .i64 a0_2]] w fun e w'=>e = .returned (.string r)∧Below w.heap.size w w':=by
 have hu25:=Tryd.underlying25
 have HB:=Aside0.mk (Below.refl w.heap.size w)
 have H:((impl_StampOk.f a0_0 a0_1 a0_2).bind fun t125=>(if t125=true then ((strconv_Itoa.f a0_0).bind fun t126=>(if t126.size+1≤9223372036854775807 then ((strconv_Itoa.f a0_1).bind fun t127=>(if (t126 ++ (⟨#[46]⟩:ByteArray)).size+t127.size≤9223372036854775807 then (if ((t126 ++ (⟨#[46]⟩:ByteArray)) ++ t127).size+1≤9223372036854775807 then ((strconv_Itoa.f a0_2).bind fun t128=>(if (((t126 ++ (⟨#[46]⟩:ByteArray)) ++ t127) ++ (⟨#[46]⟩:ByteArray)).size+t128.size≤9223372036854775807 then (some ((((t126 ++ (⟨#[46]⟩:ByteArray)) ++ t127) ++ (⟨#[46]⟩:ByteArray)) ++ t128)) else (none))) else (none)) else (none))) else (none))) else (some (⟨#[]⟩:ByteArray))))=some r:=h
 clear h
 replace H:=Option.bind_eq_some_iff.mp H
 obtain ⟨t125,A20,H⟩:=H
 try dsimp only at H
 have A2:=Aside0.mk A20
 clear A20
 by_cases c3:t125=true
 ·subst c3
  rw [if_pos rfl] at H
  replace H:=Option.bind_eq_some_iff.mp H
  obtain ⟨t126,A40,H⟩:=H
  try dsimp only at H
  have A4:=Aside0.mk A40
  clear A40
  by_cases c5:t126.size+1≤9223372036854775807
  ·rw [if_pos c5] at H
   have c5b0:=eq_true c5
   have c5b1:decide (t126.size+1≤9223372036854775807)=true:=decide_eq_true c5
   try have c5b2:(9223372036854775807 < t126.size+1)=False:=eq_false (Nat.not_lt.2 c5)
   replace H:=Option.bind_eq_some_iff.mp H
   obtain ⟨t127,A60,H⟩:=H
   try dsimp only at H
   have A6:=Aside0.mk A60
   clear A60
   by_cases c7:(t126 ++ (⟨#[46]⟩:ByteArray)).size+t127.size≤9223372036854775807
   ·rw [if_pos c7] at H
    have c7b0:=eq_true c7
    have c7b1:decide ((t126 ++ (⟨#[46]⟩:ByteArray)).size+t127.size≤9223372036854775807)=true:=decide_eq_true c7
    try have c7b2:(9223372036854775807 < (t126 ++ (⟨#[46]⟩:ByteArray)).size+t127.size)=False:=eq_false (Nat.not_lt.2 c7)
    try (have c7b3:=Nat.not_lt.2 c7;simp only [ByteArray.size_append,one_size] at c7b3;replace c7b3:=eq_false c7b3)
    by_cases c8:((t126 ++ (⟨#[46]⟩:ByteArray)) ++ t127).size+1≤9223372036854775807
    ·rw [if_pos c8] at H
     have c8b0:=eq_true c8
     have c8b1:decide (((t126 ++ (⟨#[46]⟩:ByteArray)) ++ t127).size+1≤9223372036854775807)=true:=decide_eq_true c8
     try have c8b2:(9223372036854775807 < ((t126 ++ (⟨#[46]⟩:ByteArray)) ++ t127).size+1)=False:=eq_false (Nat.not_lt.2 c8)
     try (have c8b3:=Nat.not_lt.2 c8;simp only [ByteArray.size_append,one_size] at c8b3;replace c8b3:=eq_false c8b3)
     replace H:=Option.bind_eq_some_iff.mp H
     obtain ⟨t128,A90,H⟩:=H
     try dsimp only at H
     have A9:=Aside0.mk A90
     clear A90
     by_cases c10:(((t126 ++ (⟨#[46]⟩:ByteArray)) ++ t127) ++ (⟨#[46]⟩:ByteArray)).size+t128.size≤9223372036854775807
     ·rw [if_pos c10] at H
      have c10b0:=eq_true c10
      have c10b1:decide ((((t126 ++ (⟨#[46]⟩:ByteArray)) ++ t127) ++ (⟨#[46]⟩:ByteArray)).size+t128.size≤9223372036854775807)=true:=decide_eq_true c10
      try have c10b2:(9223372036854775807 < (((t126 ++ (⟨#[46]⟩:ByteArray)) ++ t127) ++ (⟨#[46]⟩:ByteArray)).size+t128.size)=False:=eq_false (Nat.not_lt.2 c10)
      try (have c10b3:=Nat.not_lt.2 c10;simp only [ByteArray.size_append,one_size] at c10b3;replace c10b3:=eq_false c10b3)
      obtain rfl:=Option.some.inj H
      go_enter Tryd.func13,Tryd.ntmps13
      try go_wp2_with (first|((with_reducible refine gate_dst (N:=1) rfl ?_);refine box_event ?hg (N:=1) ?hd (cs:=#[.int .i64 a0_0,.int .i64 a0_1,.int .i64 a0_2]) (t:=25) ?hr ?_;(case hd=>rfl);(case hg=>rfl);(case hr=>first|(go_simp;done)|(go_simp;rfl));intro gb124 hg w11 hbox hb;have n0_:=bs hb;have n1_:=Aside0.mk (hbox);have n2_:=Aside0.mk ((by rw [hg];exact (below_size be):w.heap.size≤gb124));have n3_:=Aside0.mk ((by rw [hg];exact (below_size be):w.heap.size≤gb124));clear HB;have HB:=n0_;have BK124:=n1_;have GW124:=n2_;have GE124:=n3_;clear n0_ n1_ n2_ n3_;clear hb hbox hg;have hcz12_0:w11.cell? ⟨gb124,0,none⟩=some (.int .i64 a0_0):=(blk_cell BK124.out 0).trans rfl;have hcz12_1:w11.cell? ⟨gb124,1,none⟩=some (.int .i64 a0_1):=(blk_cell BK124.out 1).trans rfl;have hcz12_2:w11.cell? ⟨gb124,2,none⟩=some (.int .i64 a0_2):=(blk_cell BK124.out 2).trans rfl;have hfz12_0:=blk_frozen BK124.out 0;have hfz12_1:=blk_frozen BK124.out 1;have hfz12_2:=blk_frozen BK124.out 2)|((with_reducible refine gate_callee (f:=27) rfl ?_);refine goesL_ (some 4) rfl rfl Tryd.func27 (by kernel_rfl) rfl #[.agg #[.int .i64 a0_0,.int .i64 a0_1,.int .i64 a0_2]] rfl (by (try simp only [List.map_toArray,List.map_cons,List.map_nil]);first|done|rfl|(simp only [List.length_drop,List.length_take];rfl)) ?_;(with_reducible refine (impl_StampOk.calls a0_0 a0_1 a0_2 true _ A2.out).mono ?_);rintro e w13 ⟨rfl,hb⟩;refine ⟨_,rfl,?_⟩;have n0_:=Aside0.mk (blk_below (g:=gb124) (o:=.cells #[.int .i64 a0_0,.int .i64 a0_1,.int .i64 a0_2] 25 (0,0)) (bk BK124) hb);have n1_:=bs hb;clear BK124;clear HB;have BK124:=n0_;have HB:=n1_;clear n0_ n1_;(try clear hb);(try clear hb2);(try clear hk);(try clear hi)))
      have n0_:=Aside0.mk (blk_drew BK124.out)
      have n1_:=Aside0.mk (below_drew1 HB.out)
      clear BK124
      clear HB
      have BK124:=n0_
      have HB:=n1_
      clear n0_ n1_
      refine start_ (n:=14) (S:=fun w'=>w'.cell? ⟨gb124,0,none⟩=some (.int .i64 a0_0)∧w'.cell? ⟨gb124,1,none⟩=some (.int .i64 a0_1)∧w'.cell? ⟨gb124,2,none⟩=some (.int .i64 a0_2)) (ds:=[]) (fl 14 0) (by kernel_rfl) rfl rfl ⟨(blk_cell BK124.out 0).trans rfl,(blk_cell BK124.out 1).trans rfl,(blk_cell BK124.out 2).trans rfl⟩ (fun hHeld=>?_);refine with_tabW impl_StampText.tab3 impl_StampText.bits3 (fun HT_ HW_=>?_)
      generalize w13.drew=w14 at BK124 HB hHeld ⊢
      refine pt 0 6 (fl 14 1) HT_ ?_
      refine pt 4 10 (fl 14 17) HT_ ?_
      refine pt 9 15 (fl 14 529) HT_ ?_
      refine tt 1 7 (fl 14 531) HT_ HW_ hHeld ?_
      refine tt 5 11 (fl 14 563) HT_ HW_ hHeld ?_
      refine tt 10 16 (fl 14 1587) HT_ HW_ hHeld ?_
      refine ot 2 (some 8) (fl 14 1591) HT_ (fun K hK=>?_)
      refine goes_ Tryd.func42 (by kernel_rfl) rfl #[.int .i64 a0_0] (by rfl) rfl rfl (by (try simp only [List.map_toArray,List.map_cons,List.map_nil]);first|done|rfl|(simp only [List.length_drop,List.length_take];rfl)) ?_
      with_reducible refine (strconv_Itoa.calls a0_0 t126 _ ?side1 A4.out).mono ?_
      (case side1=>exact lb hL)
      rintro e w15 ⟨rfl,hb⟩
      refine ⟨_,rfl,?_⟩
      have n0_:=Aside0.mk (blk_below (g:=gb124) (o:=.cells #[.int .i64 a0_0,.int .i64 a0_1,.int .i64 a0_2] 25 (0,0)) (bk BK124) hb)
      have n1_:=bs hb
      clear BK124
      clear HB
      have BK124:=n0_
      have HB:=n1_
      clear n0_ n1_
      (try clear hb)
      (try clear hb2)
      (try clear hk)
      (try clear hi)
      refine hK.out _ _ ⟨(blk_cell BK124.out 0).trans rfl,(blk_cell BK124.out 1).trans rfl,(blk_cell BK124.out 2).trans rfl⟩ (fun hHeld=>?_)
      clear hK K
      refine no 8 ?_
      refine pt 3 9 (fl 14 1599) HT_ ?_
      refine ot 6 (some 12) (fl 14 1663) HT_ (fun K hK=>?_)
      refine goes_ Tryd.func42 (by kernel_rfl) rfl #[.int .i64 a0_1] (by rfl) rfl rfl (by (try simp only [List.map_toArray,List.map_cons,List.map_nil]);first|done|rfl|(simp only [List.length_drop,List.length_take];rfl)) ?_
      with_reducible refine (strconv_Itoa.calls a0_1 t127 _ ?side1 A6.out).mono ?_
      (case side1=>exact lb hL)
      rintro e w16 ⟨rfl,hb⟩
      refine ⟨_,rfl,?_⟩
      have n0_:=Aside0.mk (blk_below (g:=gb124) (o:=.cells #[.int .i64 a0_0,.int .i64 a0_1,.int .i64 a0_2] 25 (0,0)) (bk BK124) hb)
      have n1_:=bs hb
      clear BK124
      clear HB
      have BK124:=n0_
      have HB:=n1_
      clear n0_ n1_
      (try clear hb)
      (try clear hb2)
      (try clear hk)
      (try clear hi)
      refine hK.out _ _ ⟨(blk_cell BK124.out 0).trans rfl,(blk_cell BK124.out 1).trans rfl,(blk_cell BK124.out 2).trans rfl⟩ (fun hHeld=>?_)
      clear hK K
      refine no 12 ?_
      refine pt 7 13 (fl 14 1791) HT_ ?_
      refine pt 8 14 (fl 14 2047) HT_ ?_
      refine ot 11 (some 17) (fl 14 4095) HT_ (fun K hK=>?_)
      refine goes_ Tryd.func42 (by kernel_rfl) rfl #[.int .i64 a0_2] (by rfl) rfl rfl (by (try simp only [List.map_toArray,List.map_cons,List.map_nil]);first|done|rfl|(simp only [List.length_drop,List.length_take];rfl)) ?_
      with_reducible refine (strconv_Itoa.calls a0_2 t128 _ ?side1 A9.out).mono ?_
      (case side1=>exact lb hL)
      rintro e w17 ⟨rfl,hb⟩
      refine ⟨_,rfl,?_⟩
      have n0_:=Aside0.mk (blk_below (g:=gb124) (o:=.cells #[.int .i64 a0_0,.int .i64 a0_1,.int .i64 a0_2] 25 (0,0)) (bk BK124) hb)
      have n1_:=bs hb
      clear BK124
      clear HB
      have BK124:=n0_
      have HB:=n1_
      clear n0_ n1_
      (try clear hb)
      (try clear hb2)
      (try clear hk)
      (try clear hi)
      refine hK.out _ _ ⟨(blk_cell BK124.out 0).trans rfl,(blk_cell BK124.out 1).trans rfl,(blk_cell BK124.out 2).trans rfl⟩ (fun hHeld=>?_)
      clear hK K
      refine no 17 ?_
      refine pt 12 18 (fl 14 8191) HT_ ?_
      refine pt 13 2 (fl 14 16383) HT_ ?_
      refine done_ (done_of HT_.out (by kernel_rfl)) ?_
      try go_wp2
      go_ret
      exact ⟨rz,be⟩
     ·rw [if_neg c10] at H
      exact absurd H (by simp)
    ·rw [if_neg c8] at H
     exact absurd H (by simp)
   ·rw [if_neg c7] at H
    exact absurd H (by simp)
  ·rw [if_neg c5] at H
   exact absurd H (by simp)
 ·replace c3:=Bool.eq_false_iff.mpr c3
  subst c3
  have H1:(some (⟨#[]⟩:ByteArray))=some r:=by rw [if_neg (show ¬ (false=true) by decide)] at H;exact H
  clear H
  have H:=H1
  clear H1
  obtain rfl:=Option.some.inj H
  go_enter Tryd.func13,Tryd.ntmps13
  go_wp2_with (first|((with_reducible refine gate_dst (N:=1) rfl ?_);refine box_event ?hg (N:=1) ?hd (cs:=#[.int .i64 a0_0,.int .i64 a0_1,.int .i64 a0_2]) (t:=25) ?hr ?_;(case hd=>rfl);(case hg=>rfl);(case hr=>first|(go_simp;done)|(go_simp;rfl));intro gb124 hg w18 hbox hb;have n0_:=bs hb;have n1_:=Aside0.mk (hbox);have n2_:=Aside0.mk ((by rw [hg];exact (below_size be):w.heap.size≤gb124));have n3_:=Aside0.mk ((by rw [hg];exact (below_size be):w.heap.size≤gb124));clear HB;have HB:=n0_;have BK124:=n1_;have GW124:=n2_;have GE124:=n3_;clear n0_ n1_ n2_ n3_;clear hb hbox hg;have hcz19_0:w18.cell? ⟨gb124,0,none⟩=some (.int .i64 a0_0):=(blk_cell BK124.out 0).trans rfl;have hcz19_1:w18.cell? ⟨gb124,1,none⟩=some (.int .i64 a0_1):=(blk_cell BK124.out 1).trans rfl;have hcz19_2:w18.cell? ⟨gb124,2,none⟩=some (.int .i64 a0_2):=(blk_cell BK124.out 2).trans rfl;have hfz19_0:=blk_frozen BK124.out 0;have hfz19_1:=blk_frozen BK124.out 1;have hfz19_2:=blk_frozen BK124.out 2)|((with_reducible refine gate_callee (f:=27) rfl ?_);refine goesL_ (some 4) rfl rfl Tryd.func27 (by kernel_rfl) rfl #[.agg #[.int .i64 a0_0,.int .i64 a0_1,.int .i64 a0_2]] rfl (by (try simp only [List.map_toArray,List.map_cons,List.map_nil]);first|done|rfl|(simp only [List.length_drop,List.length_take];rfl)) ?_;(with_reducible refine (impl_StampOk.calls a0_0 a0_1 a0_2 false _ A2.out).mono ?_);rintro e w20 ⟨rfl,hb⟩;refine ⟨_,rfl,?_⟩;have n0_:=Aside0.mk (blk_below (g:=gb124) (o:=.cells #[.int .i64 a0_0,.int .i64 a0_1,.int .i64 a0_2] 25 (0,0)) (bk BK124) hb);have n1_:=bs hb;clear BK124;clear HB;have BK124:=n0_;have HB:=n1_;clear n0_ n1_;(try clear hb);(try clear hb2);(try clear hk);(try clear hi)))
  go_ret
  exact ⟨rz,be⟩
def laws_FnExactStampText.f (k:Nat) (a0_0:Int) (a0_1:Int) (a0_2:Int):Option (Bool):=(laws_toStamp.f a0_0 a0_1 a0_2).bind fun bt130=>((spec_StampText.f k bt130.1 bt130.2.1 bt130.2.2).bind fun t133=>((laws_toStamp.f a0_0 a0_1 a0_2).bind fun bt134=>((impl_StampText.f bt134.1 bt134.2.1 bt134.2.2).bind fun t137=>(if t137.toList=t133.toList then (some true) else (some false)))))
set_option maxHeartbeats 8000000 in
set_option maxRecDepth 100000 in
theorem laws_FnExactStampText.calls (k:Nat) (a0_0:Int) (a0_1:Int) (a0_2:Int) (r:Bool) (w:World) (hL:Aside0 (Laid w)) (h:laws_FnExactStampText.f k a0_0 a0_1 a0_2=some r) (hr_:Aside0 (r=true)) :
  Calls Tryd.prog 3 #[.agg #[.int .i64 a0_0,.int .i64 a0_1,.int .i64 a0_2]] w fun e w'=>e = .returned (.bool r)∧Below w.heap.size w w':=by
 have hu23:=Tryd.underlying23
 have HB:=Aside0.mk (Below.refl w.heap.size w)
 have H:((laws_toStamp.f a0_0 a0_1 a0_2).bind fun bt130=>((spec_StampText.f k bt130.1 bt130.2.1 bt130.2.2).bind fun t133=>((laws_toStamp.f a0_0 a0_1 a0_2).bind fun bt134=>((impl_StampText.f bt134.1 bt134.2.1 bt134.2.2).bind fun t137=>(if t137.toList=t133.toList then (some true) else (some false))))))=some r:=h
 clear h
 replace H:=Option.bind_eq_some_iff.mp H
 obtain ⟨⟨t130,t131,t132⟩,A20,H⟩:=H
 try dsimp only at H
 have A2:=Aside0.mk A20
 clear A20
 replace H:=Option.bind_eq_some_iff.mp H
 obtain ⟨t133,A30,H⟩:=H
 try dsimp only at H
 have A3:=Aside0.mk A30
 clear A30
 replace H:=Option.bind_eq_some_iff.mp H
 obtain ⟨⟨t134,t135,t136⟩,A40,H⟩:=H
 try dsimp only at H
 have A4:=Aside0.mk A40
 clear A40
 replace H:=Option.bind_eq_some_iff.mp H
 obtain ⟨t137,A50,H⟩:=H
 try dsimp only at H
 have A5:=Aside0.mk A50
 clear A50
 by_cases c6:t137.toList=t133.toList
 ·rw [if_pos c6] at H
  have c6b0:(t137.toList == t133.toList)=true:=beq_iff_eq.mpr c6
  have c6b1:(t137.toList != t133.toList)=false:=bne_eq_false_iff_eq.mpr c6
  clear c6
  obtain rfl:=Option.some.inj H
  go_enter Tryd.func3,Tryd.ntmps3
  go_wp2_with (first|((with_reducible refine gate_dst (N:=1) rfl ?_);refine box_event ?hg (N:=1) ?hd (cs:=#[.int .i64 a0_0,.int .i64 a0_1,.int .i64 a0_2]) (t:=23) ?hr ?_;(case hd=>rfl);(case hg=>rfl);(case hr=>first|(go_simp;done)|(go_simp;rfl));intro gb129 hg w7 hbox hb;have n0_:=bs hb;have n1_:=Aside0.mk (hbox);have n2_:=Aside0.mk ((by rw [hg];exact (below_size be):w.heap.size≤gb129));have n3_:=Aside0.mk ((by rw [hg];exact (below_size be):w.heap.size≤gb129));clear HB;have HB:=n0_;have BK129:=n1_;have GW129:=n2_;have GE129:=n3_;clear n0_ n1_ n2_ n3_;clear hb hbox hg;have hcz8_0:w7.cell? ⟨gb129,0,none⟩=some (.int .i64 a0_0):=(blk_cell BK129.out 0).trans rfl;have hcz8_1:w7.cell? ⟨gb129,1,none⟩=some (.int .i64 a0_1):=(blk_cell BK129.out 1).trans rfl;have hcz8_2:w7.cell? ⟨gb129,2,none⟩=some (.int .i64 a0_2):=(blk_cell BK129.out 2).trans rfl;have hfz8_0:=blk_frozen BK129.out 0;have hfz8_1:=blk_frozen BK129.out 1;have hfz8_2:=blk_frozen BK129.out 2)|((with_reducible refine gate_callee (f:=12) rfl ?_);refine goesL_ (some 6) rfl rfl Tryd.func12 (by kernel_rfl) rfl #[.agg #[.int .i64 a0_0,.int .i64 a0_1,.int .i64 a0_2]] rfl (by (try simp only [List.map_toArray,List.map_cons,List.map_nil]);first|done|rfl|(simp only [List.length_drop,List.length_take];rfl)) ?_;(with_reducible refine (laws_toStamp.calls a0_0 a0_1 a0_2 t130 t131 t132 _ A2.out).mono ?_);rintro e w9 ⟨rfl,hb⟩;refine ⟨_,rfl,?_⟩;have n0_:=Aside0.mk (blk_below (g:=gb129) (o:=.cells #[.int .i64 a0_0,.int .i64 a0_1,.int .i64 a0_2] 23 (0,0)) (bk BK129) hb);have n1_:=bs hb;clear BK129;clear HB;have BK129:=n0_;have HB:=n1_;clear n0_ n1_;(try clear hb);(try clear hb2);(try clear hk);(try clear hi))|((with_reducible refine gate_callee (f:=11) rfl ?_);refine goesL_ (some 7) rfl rfl Tryd.func11 (by kernel_rfl) rfl #[.agg #[.int .i64 t130,.int .i64 t131,.int .i64 t132]] rfl (by (try simp only [List.map_toArray,List.map_cons,List.map_nil]);first|done|rfl|(simp only [List.length_drop,List.length_take];rfl)) ?_;(with_reducible refine (spec_StampText.calls k t130 t131 t132 t133 _ A3.out).mono ?_);rintro e w10 ⟨rfl,hb⟩;refine ⟨_,rfl,?_⟩;have n0_:=Aside0.mk (blk_below (g:=gb129) (o:=.cells #[.int .i64 a0_0,.int .i64 a0_1,.int .i64 a0_2] 23 (0,0)) (bk BK129) hb);have n1_:=bs hb;clear BK129;clear HB;have BK129:=n0_;have HB:=n1_;clear n0_ n1_;(try clear hb);(try clear hb2);(try clear hk);(try clear hi);have hcz11_0:w10.cell? ⟨gb129,0,none⟩=some (.int .i64 a0_0):=(blk_cell BK129.out 0).trans rfl;have hcz11_1:w10.cell? ⟨gb129,1,none⟩=some (.int .i64 a0_1):=(blk_cell BK129.out 1).trans rfl;have hcz11_2:w10.cell? ⟨gb129,2,none⟩=some (.int .i64 a0_2):=(blk_cell BK129.out 2).trans rfl;have hfz11_0:=blk_frozen BK129.out 0;have hfz11_1:=blk_frozen BK129.out 1;have hfz11_2:=blk_frozen BK129.out 2)|((with_reducible refine gate_callee (f:=12) rfl ?_);refine goesL_ (some 9) rfl rfl Tryd.func12 (by kernel_rfl) rfl #[.agg #[.int .i64 a0_0,.int .i64 a0_1,.int .i64 a0_2]] rfl (by (try simp only [List.map_toArray,List.map_cons,List.map_nil]);first|done|rfl|(simp only [List.length_drop,List.length_take];rfl)) ?_;(with_reducible refine (laws_toStamp.calls a0_0 a0_1 a0_2 t134 t135 t136 _ A4.out).mono ?_);rintro e w12 ⟨rfl,hb⟩;refine ⟨_,rfl,?_⟩;have n0_:=Aside0.mk (blk_below (g:=gb129) (o:=.cells #[.int .i64 a0_0,.int .i64 a0_1,.int .i64 a0_2] 23 (0,0)) (bk BK129) hb);have n1_:=bs hb;clear BK129;clear HB;have BK129:=n0_;have HB:=n1_;clear n0_ n1_;(try clear hb);(try clear hb2);(try clear hk);(try clear hi))|((with_reducible refine gate_callee (f:=13) rfl ?_);refine goesL_ (some 10) rfl rfl Tryd.func13 (by kernel_rfl) rfl #[.agg #[.int .i64 t134,.int .i64 t135,.int .i64 t136]] rfl (by (try simp only [List.map_toArray,List.map_cons,List.map_nil]);first|done|rfl|(simp only [List.length_drop,List.length_take];rfl)) ?_;(with_reducible refine (impl_StampText.calls t134 t135 t136 t137 _ ?side1 A5.out).mono ?_);(case side1=>exact lb hL);rintro e w13 ⟨rfl,hb⟩;refine ⟨_,rfl,?_⟩;have n0_:=Aside0.mk (blk_below (g:=gb129) (o:=.cells #[.int .i64 a0_0,.int .i64 a0_1,.int .i64 a0_2] 23 (0,0)) (bk BK129) hb);have n1_:=bs hb;clear BK129;clear HB;have BK129:=n0_;have HB:=n1_;clear n0_ n1_;(try clear hb);(try clear hb2);(try clear hk);(try clear hi)))
  go_ret
  exact ⟨rz,be⟩
 ·rw [if_neg c6] at H
  have c6b0:(t137.toList == t133.toList)=false:=beq_eq_false_iff_ne.mpr c6
  have c6b1:(t137.toList != t133.toList)=true:=bne_iff_ne.mpr c6
  exact absurd ((Option.some.inj H).trans hr_.out) (by decide)
end Go.Proofs.YtnoglmdicdpabaaDoor.PFnExactStampText
