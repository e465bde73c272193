/- Trimmed by a program of this session (trim.py). Not trusted: Lean checks it. -/
import Derived.Test.YtpbjbfimnfghkaaTLRebalancedPFnRebalancedx0
import Derived.Test.YtpbjbfimnfghkaaTLRebalancedPFnRebalancedx1
import Derived.Test.YtpbjbfimnfghkaaTLRebalancedPFnRebalancedx7
import Derived.Test.YtpbjbfimnfghkaaTLRebalancedPFnRebalancedx13
import Derived.Test.YtpbjbfimnfghkaaTLRebalancedPFnRebalancedx16
import Derived.Test.YtpbjbfimnfghkaaTLRebalancedPFnRebalancedx17
import Derived.Test.YtpbjbfimnfghkaaTLRebalancedPFnRebalancedx18
import Derived.Test.YtpbjbfimnfghkaaTLRebalancedPFnRebalancedx19
namespace Go.Proofs.Ytpbjbfimnfghkaa.PFnRebalanced
open Go.RowKit Go.Proofs.YtpbjbfimnfghkaaW.PrintWords Go.Proofs.YtpbjbfimnfghkaaW.PrintLast Go.Proofs.YtpbjbfimnfghkaaW.PrintMore Go.Proofs.Ytpbjbfimnfghkaa.St
attribute [local go_sem] max2_int min2_int max_two min_two max_three min_three max_four min_four
set_option linter.unusedVariables false
set_option linter.unusedSimpArgs false
mutual
def laws_FnRebalanced.j0:Nat→List (S61)→Int→Int→Bool→Int→List (S35)→Int→List (S35)→Option (Bool)
 | 0,_,_,_,_,_,_,_,_=>none
 | k+1,x4,x6,x8,x38,x653000,x653001,x659000,x659001=>if x38=true then (if x6=x8 then (some ((x659001.length:Int) == (x653001.length:Int))) else (some false)) else (laws_FnRebalanced.l0 k x4 x6 0 x653000 x653001 x659000 x659001)
def laws_FnRebalanced.l0:Nat→List (S61)→Int→Int→Int→List (S35)→Int→List (S35)→Option (Bool)
 | 0,_,_,_,_,_,_,_=>none
 | k+1,x4,x6,x9,x653000,x653001,x659000,x659001=>if x9 < (x653001.length:Int) then (if 0≤x9 then (if x9≤(wrap64 (x9+1)) then (if (wrap64 (x9+1))≤(x653001.length:Int) then (if (wrap64 (x9+1))≤(x659001.length:Int) then ((impl_Moved.f k x653000 ((x653001.take ((wrap64 (x9+1)):Int).toNat).drop (x9:Int).toNat) x653000 ((x659001.take ((wrap64 (x9+1)):Int).toNat).drop (x9:Int).toNat)).bind fun t678=>(if t678 > 1 then (laws_FnRebalanced.j2 k x4 x6 x9 true x653000 x653001 x659000 x659001) else (if x9 < (x659001.length:Int) then (laws_FnRebalanced.j2 k x4 x6 x9 ((((rd_T35 x659001 x9).f0).length:Int) != x653000) x653000 x653001 x659000 x659001) else (none)))) else (none)) else (none)) else (none)) else (none)) else ((impl_Moved.f k x653000 x653001 x659000 x659001).bind fun t665=>(if t665=x6 then ((spec_RingOk.f k x653000 x653001 x4).bind fun t666=>(if t666=true then ((impl_RingOk.f k x659000 x659001 x4).bind fun t667=>(some t667)) else (some true))) else (some false)))
def laws_FnRebalanced.j2:Nat→List (S61)→Int→Int→Bool→Int→List (S35)→Int→List (S35)→Option (Bool)
 | 0,_,_,_,_,_,_,_,_=>none
 | k+1,x4,x6,x9,x91,x653000,x653001,x659000,x659001=>if x91=true then (some false) else (laws_FnRebalanced.l1 k x4 x6 x9 0 x653000 x653001 x659000 x659001)
def laws_FnRebalanced.l1:Nat→List (S61)→Int→Int→Int→Int→List (S35)→Int→List (S35)→Option (Bool)
 | 0,_,_,_,_,_,_,_,_=>none
 | k+1,x4,x6,x9,x12,x653000,x653001,x659000,x659001=>if x12 < x653000 then (if 0≤x9 then (if x9 < (x659001.length:Int) then (if 0≤x12 then (if x12≤(((rd_T35 x659001 x9).f0).length:Int) then (if x12 < (((rd_T35 x659001 x9).f0).length:Int) then ((laws_has.f k (((rd_T35 x659001 x9).f0).take (x12:Int).toNat) (rd ((rd_T35 x659001 x9).f0) x12)).bind fun t687=>(if t687=true then (some false) else (laws_FnRebalanced.l1 k x4 x6 x9 (wrap64 (x12+1)) x653000 x653001 x659000 x659001))) else (none)) else (none)) else (none)) else (none)) else (none)) else (laws_FnRebalanced.l0 k x4 x6 (wrap64 (x9+1)) x653000 x653001 x659000 x659001)
end
def laws_FnRebalanced.f (k:Nat) (l0:List Int):Option (Bool):=(laws_big.f l0).bind fun t644=>(if t644=true then (some true) else ((spec_DrawRebalance.f k l0).bind fun bt645=>((impl_Rebalance.f k bt645.1 bt645.2.1 bt645.2.2).bind fun bt653=>((spec_Rebalance.f k bt645.1 bt645.2.1 bt645.2.2).bind fun bt659=>(if bt653.2.2=bt659.2.2 then (laws_FnRebalanced.j0 k bt645.2.2 bt653.2.2 bt659.2.2 (decide (bt653.2.2 < 0)) bt645.1 bt645.2.1 bt653.1 bt653.2.1) else (laws_FnRebalanced.j0 k bt645.2.2 bt653.2.2 bt659.2.2 true bt645.1 bt645.2.1 bt653.1 bt653.2.1))))))
def laws_FnRebalanced.T11:Bool × List (List Nat × List Nat):=(true,[([],[]),([0],[0]),([],[]),([2],[2]),([],[]),([],[]),([5],[5]),([3,4,6],[3,4,6]),([1,7],[1,7]),([],[]),([9,8,0,1,2,3,4,5,6,7,8,9],[8,9])])
def laws_FnRebalanced.B11:List Nat:=[0,1,0,4,0,0,32,124,255,0,1023]
theorem laws_FnRebalanced.tab11:rtab .any (opsOf Try.f3 11)=laws_FnRebalanced.T11:=by kernel_rfl
theorem laws_FnRebalanced.bits11:waitsOk laws_FnRebalanced.T11.2 laws_FnRebalanced.B11=true:=by kernel_rfl
def laws_FnRebalanced.T12:Bool × List (List Nat × List Nat):=(true,[([],[]),([0],[0]),([],[]),([2],[2]),([],[]),([],[]),([5],[5]),([3,4,6],[3,4,6]),([1,7],[1,7]),([],[]),([9,8,0,1,2,3,4,5,6,7,8,9],[8,9])])
def laws_FnRebalanced.B12:List Nat:=[0,1,0,4,0,0,32,124,255,0,1023]
theorem laws_FnRebalanced.tab12:rtab .any (opsOf Try.f3 12)=laws_FnRebalanced.T12:=by kernel_rfl
theorem laws_FnRebalanced.bits12:waitsOk laws_FnRebalanced.T12.2 laws_FnRebalanced.B12=true:=by kernel_rfl
def laws_FnRebalanced.T13:Bool × List (List Nat × List Nat):=(true,[([],[]),([],[]),([0,1],[0,1]),([2],[2]),([3,2],[3]),([4],[4]),([5,4],[4,5]),([4],[4]),([6,7,4],[4,6,7]),([8,4],[4,8]),([9,4],[4,9]),([10,4],[4,10]),([4],[4]),([12,4],[4,12]),([11,13,4],[4,11,13]),([4,14],[4,14])])
def laws_FnRebalanced.B13:List Nat:=[0,0,3,7,15,31,63,31,255,511,1023,2047,31,4127,16383,32767]
theorem laws_FnRebalanced.tab13:rtab .any (opsOf Try.f3 13)=laws_FnRebalanced.T13:=by kernel_rfl
theorem laws_FnRebalanced.bits13:waitsOk laws_FnRebalanced.T13.2 laws_FnRebalanced.B13=true:=by kernel_rfl
def laws_FnRebalanced.T18:Bool × List (List Nat × List Nat):=(true,[([],[]),([0],[0]),([],[]),([1,2],[1,2]),([3],[3]),([4],[4]),([],[]),([5,6],[5,6]),([],[]),([8],[8]),([],[]),([9,10],[9,10]),([11],[11]),([12],[12]),([],[]),([13,14],[13,14]),([15],[15]),([7,16],[7,16])])
def laws_FnRebalanced.B18:List Nat:=[0,1,0,7,15,31,0,127,0,256,0,1792,3840,7936,0,32512,65280,131071]
theorem laws_FnRebalanced.tab18:rtab .any (opsOf Try.f3 18)=laws_FnRebalanced.T18:=by kernel_rfl
theorem laws_FnRebalanced.bits18:waitsOk laws_FnRebalanced.T18.2 laws_FnRebalanced.B18=true:=by kernel_rfl
set_option maxHeartbeats 8000000 in
set_option maxRecDepth 100000 in
theorem laws_FnRebalanced.calls (k:Nat) (A0:Option Addr) (c0:Nat) (l0:List Int) (r:Bool) (w:World) (hr0:Kd.C (Kd.int .u8) w A0 l0.length l0) (hc0:l0.length≤c0) (h:laws_FnRebalanced.f k l0=some r) (hr_:Aside0 (r=true)) :
  Calls Try.prog 3 #[.slice A0 l0.length c0] w fun e w'=>e = .returned (.bool r)∧Below w.heap.size w w':=by
 have hu26:=Try.underlying26
 have HR0:=aM hr0
 have HC0:=aM hc0
 clear hr0 hc0
 have HB:=aM (Below.refl w.heap.size w)
 have H:((laws_big.f l0).bind fun t644=>(if t644=true then (some true) else ((spec_DrawRebalance.f k l0).bind fun bt645=>((impl_Rebalance.f k bt645.1 bt645.2.1 bt645.2.2).bind fun bt653=>((spec_Rebalance.f k bt645.1 bt645.2.1 bt645.2.2).bind fun bt659=>(if bt653.2.2=bt659.2.2 then (laws_FnRebalanced.j0 k bt645.2.2 bt653.2.2 bt659.2.2 (decide (bt653.2.2 < 0)) bt645.1 bt645.2.1 bt653.1 bt653.2.1) else (laws_FnRebalanced.j0 k bt645.2.2 bt653.2.2 bt659.2.2 true bt645.1 bt645.2.1 bt653.1 bt653.2.1)))))))=some r:=h
 clear h
 replace H:=Option.bind_eq_some_iff.mp H
 obtain ⟨t644,A20,H⟩:=H
 try dsimp only at H
 have A2:=aM A20
 clear A20
 by_cases c3:t644=true
 ·subst c3
  rw [if_pos rfl] at H
  obtain rfl:=Option.some.inj H
  go_enter Try.func3,Try.ntmps3
  go_wp2_with ((with_reducible refine gate_callee (f:=8) rfl ?_);refine goesL_ (some 14) rfl rfl Try.func8 (by kernel_rfl) rfl #[.slice A0 l0.length c0] rfl (by (try simp only [List.map_toArray,List.map_cons,List.map_nil]);rfl) ?_;(with_reducible refine (laws_big.calls _ _ l0 true _ ?side1 ?side2 A2.out).mono ?_);(case side1=>exact sC HR0);(case side2=>exact HC0.out);rintro e w' ⟨rfl,⟨nd,rfl⟩⟩;refine ⟨_,rfl,?_⟩)
  go_ret
  exact ⟨rz,be⟩
 ·replace c3:=Bool.eq_false_iff.mpr c3
  subst c3
  replace H:=(if_neg (show ¬ (false=true) by decide)).symm.trans H
  replace H:=Option.bind_eq_some_iff.mp H
  obtain ⟨⟨t645,t646,t649⟩,A40,H⟩:=H
  try dsimp only at H
  have A4:=aM A40
  clear A40
  replace H:=Option.bind_eq_some_iff.mp H
  obtain ⟨⟨t653,t654,t657⟩,A50,H⟩:=H
  try dsimp only at H
  have A5:=aM A50
  clear A50
  replace H:=Option.bind_eq_some_iff.mp H
  obtain ⟨⟨t659,t660,t663⟩,A60,H⟩:=H
  try dsimp only at H
  have A6:=aM A60
  clear A60
  have HC7:=aM H
  clear H
  go_enter Try.func3,Try.ntmps3
  go_upto_region 6 with (first|((with_reducible refine gate_callee (f:=8) rfl ?_);refine goesL_ (some 14) rfl rfl Try.func8 (by kernel_rfl) rfl #[.slice A0 l0.length c0] rfl (by (try simp only [List.map_toArray,List.map_cons,List.map_nil]);rfl) ?_;(with_reducible refine (laws_big.calls _ _ l0 false _ ?side1 ?side2 A2.out).mono ?_);(case side1=>exact sC HR0);(case side2=>exact HC0.out);rintro e w' ⟨rfl,⟨nd,rfl⟩⟩;refine ⟨_,rfl,?_⟩)|((with_reducible refine gate_callee (f:=9) rfl ?_);refine goesL_ (some 17) rfl rfl Try.func9 (by kernel_rfl) rfl #[.slice A0 l0.length c0] rfl (by (try simp only [List.map_toArray,List.map_cons,List.map_nil]);rfl) ?_;(with_reducible refine (spec_DrawRebalance.calls k _ _ l0 t645 t646 t649 _ ?side1 ?side2 A4.out).mono ?_);(case side1=>exact sC HR0);(case side2=>exact HC0.out);rintro e w8 ⟨v647,v650,rfl,ho0,ho1,hb⟩;refine ⟨_,rfl,?_⟩;have HO648:=aM (Kd.S_lower ho0 (below_size be));have HO651:=aM (Kd.R_lower ho1 (below_size be));replace HB:=bs hb;(try clear hb);(try clear ho0);(try clear ho1))|((with_reducible refine gate_dst (N:=3) rfl ?_);(try (refine gate_guard (by rfl) ?_;dsimp only));refine box_event ?hg (N:=3) ?hd (cs:=#[.int .i64 0,.slice none 0 0]) (t:=26) ?hr ?_;(case hd=>rfl);(case hg=>rfl);(case hr=>(go_simp;done));intro gb652 hg w9 hbox hb;replace HO648:=sB HO648 hb;replace HO651:=rB HO651 hb;have BK652:=aM (hbox);have GW652:=gS w hg;replace HB:=bs hb;clear hb hbox hg;obtain ⟨hcz10_0,hcz10_1,hfz10_0,hfz10_1⟩:=b2 BK652;obtain ⟨Ao11,co11,eo11⟩:=Kd.S_slice HO648.out;subst eo11;obtain ⟨Ao12,co12,eo12⟩:=Kd.R_slice HO651.out;subst eo12)|((with_reducible refine gate_callee (f:=10) rfl ?_);refine goesL_ (some 23) rfl rfl Try.func10 (by kernel_rfl) rfl #[.agg #[.int .i64 t645,.slice Ao11 t646.length co11],.slice Ao12 t649.length co12] rfl (by (try simp only [List.map_toArray,List.map_cons,List.map_nil]);rfl) ?_;(with_reducible refine (impl_Rebalance.calls k t645 _ _ t646 _ _ t649 t653 t654 t657 _ ?side1 ?side2 ?side3 ?side4 A5.out).mono ?_);(case side1=>refine (Kd.S_reads' (e:=35) (base:=w.heap.size) (ok:=fun k_=>True) (n:=t646.length) (c:=co11) ?_).2.2;exact (by exact (Kd.S_mono (Kd.S_far (p:=⟨gb652,1,none⟩) (Kd.S_far (p:=⟨gb652,0,none⟩) (Kd.S_types HO648.out BK652.out (by decide)) (fun _ hk=>hk.2) (.int .i64 t645)) (fun _ hk=>hk.2) (.slice Ao11 t646.length co11)) (fun _ h_=>h_.1))));(case side2=>exact (Kd.S_reads' HO648.out).2.1);(case side3=>refine (Kd.R_reads' (e:=61) (base:=w.heap.size) (ok:=fun k_=>True) (n:=t649.length) (c:=co12) ?_).2.2;exact (by exact (Kd.R_mono (Kd.R_far (p:=⟨gb652,1,none⟩) (Kd.R_far (p:=⟨gb652,0,none⟩) (Kd.R_types HO651.out BK652.out (by decide)) (fun _ hk=>hk.2) (.int .i64 t645)) (fun _ hk=>hk.2) (.slice Ao11 t646.length co11)) (fun _ h_=>h_.1))));(case side4=>exact (Kd.R_reads' HO651.out).2.1);rintro e w13 ⟨v655,rfl,ho0,hb⟩;refine ⟨_,rfl,?_⟩;replace HO651:=aM (Kd.R_below ((by exact (Kd.R_mono (Kd.R_far (p:=⟨gb652,1,none⟩) (Kd.R_far (p:=⟨gb652,0,none⟩) (Kd.R_types HO651.out BK652.out (by decide)) (fun _ hk=>hk.2) (.int .i64 t645)) (fun _ hk=>hk.2) (.slice Ao11 t646.length co11)) (fun _ h_=>h_.1)))) hb);have HO656:=aM (Kd.S_lower (Kd.S_new' ho0 (Kd.S_lt (by exact (Kd.S_mono (Kd.S_far (p:=⟨gb652,1,none⟩) (Kd.S_far (p:=⟨gb652,0,none⟩) (Kd.S_types HO648.out BK652.out (by decide)) (fun _ hk=>hk.2) (.int .i64 t645)) (fun _ hk=>hk.2) (.slice Ao11 t646.length co11)) (fun _ h_=>h_.1))))) (below_size be));replace HO648:=aM (Kd.S_elder' (by exact (Kd.S_mono (Kd.S_far (p:=⟨gb652,1,none⟩) (Kd.S_far (p:=⟨gb652,0,none⟩) (Kd.S_types HO648.out BK652.out (by decide)) (fun _ hk=>hk.2) (.int .i64 t645)) (fun _ hk=>hk.2) (.slice Ao11 t646.length co11)) (fun _ h_=>h_.1))) (Kd.S_base ho0) hb);replace BK652:=aM (blk_below (g:=gb652) (o:=.cells #[.int .i64 t645,.slice Ao11 t646.length co11] 26 (0,0)) (by refine blk_put (cs:=#[.int .i64 t645,.slice none 0 0]) ?_ 1 _ rfl;refine blk_put (cs:=#[.int .i64 0,.slice none 0 0]) ?_ 0 _ rfl;exact BK652.out) hb);replace HB:=bs hb;(try clear hb);(try clear ho0))|((with_reducible refine gate_dst (N:=5) rfl ?_);(try (refine gate_guard (by rfl) ?_;dsimp only));refine box_event ?hg (N:=5) ?hd (cs:=#[.int .i64 0,.slice none 0 0]) (t:=26) ?hr ?_;(case hd=>rfl);(case hg=>rfl);(case hr=>(go_simp;done));intro gb658 hg w14 hbox hb;replace HO648:=sB HO648 hb;replace HO651:=rB HO651 hb;replace HO656:=sB HO656 hb;have BK658:=aM (hbox);have GW658:=gS w hg;replace HB:=bs hb;have NB652_658:=nL hg BK652;have NB658_652:=nG hg BK652;replace BK652:=bB BK652 hb;clear hb hbox hg;have hnb15:=NB658_652.out;have hnc15:=NB652_658.out;obtain ⟨hcz16_0,hcz16_1,hfz16_0,hfz16_1⟩:=b2 BK658;obtain ⟨Ao17,co17,eo17⟩:=Kd.S_slice HO656.out;subst eo17;obtain ⟨hcz18_0,hcz18_1,hfz18_0,hfz18_1⟩:=b2 BK652)|((with_reducible refine gate_callee (f:=11) rfl ?_);refine goesL_ (some 29) rfl rfl Try.func11 (by kernel_rfl) rfl #[.agg #[.int .i64 t645,.slice Ao11 t646.length co11],.slice Ao12 t649.length co12] rfl (by (try simp only [List.map_toArray,List.map_cons,List.map_nil]);rfl) ?_;(with_reducible refine (spec_Rebalance.calls k t645 _ _ t646 _ _ t649 t659 t660 t663 _ ?side1 ?side2 ?side3 ?side4 A6.out).mono ?_);(case side1=>refine (Kd.S_reads' (e:=35) (base:=w.heap.size) (ok:=fun k_=>(True∧some k_ ≠ (.slice Ao17 t654.length co17:Value).ownBlock)) (n:=t646.length) (c:=co11) ?_).2.2;exact (by exact (Kd.S_mono (Kd.S_far (p:=⟨gb658,1,none⟩) (Kd.S_far (p:=⟨gb658,0,none⟩) (Kd.S_types HO648.out BK658.out (by decide)) (fun _ hk=>hk.2) (.int .i64 t653)) (fun _ hk=>hk.2) (.slice Ao17 t654.length co17)) (fun _ h_=>h_.1))));(case side2=>exact (Kd.S_reads' HO648.out).2.1);(case side3=>refine (Kd.R_reads' (e:=61) (base:=w.heap.size) (ok:=fun k_=>True) (n:=t649.length) (c:=co12) ?_).2.2;exact (by exact (Kd.R_mono (Kd.R_far (p:=⟨gb658,1,none⟩) (Kd.R_far (p:=⟨gb658,0,none⟩) (Kd.R_types HO651.out BK658.out (by decide)) (fun _ hk=>hk.2) (.int .i64 t653)) (fun _ hk=>hk.2) (.slice Ao17 t654.length co17)) (fun _ h_=>h_.1))));(case side4=>exact (Kd.R_reads' HO651.out).2.1);rintro e w19 ⟨v661,rfl,ho0,hb⟩;refine ⟨_,rfl,?_⟩;replace HO651:=aM (Kd.R_below ((by exact (Kd.R_mono (Kd.R_far (p:=⟨gb658,1,none⟩) (Kd.R_far (p:=⟨gb658,0,none⟩) (Kd.R_types HO651.out BK658.out (by decide)) (fun _ hk=>hk.2) (.int .i64 t653)) (fun _ hk=>hk.2) (.slice Ao17 t654.length co17)) (fun _ h_=>h_.1)))) hb);have HO662:=aM (Kd.S_lower (Kd.S_new' (Kd.S_new' ho0 (Kd.S_lt (by exact (Kd.S_mono (Kd.S_far (p:=⟨gb658,1,none⟩) (Kd.S_far (p:=⟨gb658,0,none⟩) (Kd.S_types HO648.out BK658.out (by decide)) (fun _ hk=>hk.2) (.int .i64 t653)) (fun _ hk=>hk.2) (.slice Ao17 t654.length co17)) (fun _ h_=>h_.1))))) (Kd.S_lt (by exact (Kd.S_mono (Kd.S_far (p:=⟨gb658,1,none⟩) (Kd.S_far (p:=⟨gb658,0,none⟩) (Kd.S_types HO656.out BK658.out (by decide)) (fun _ hk=>hk.2) (.int .i64 t653)) (fun _ hk=>hk.2) (.slice Ao17 t654.length co17)) (fun _ h_=>h_.1))))) (below_size be));replace HO648:=aM (Kd.S_elder' (by exact (Kd.S_mono (Kd.S_far (p:=⟨gb658,1,none⟩) (Kd.S_far (p:=⟨gb658,0,none⟩) (Kd.S_types HO648.out BK658.out (by decide)) (fun _ hk=>hk.2) (.int .i64 t653)) (fun _ hk=>hk.2) (.slice Ao17 t654.length co17)) (fun _ h_=>h_.1))) (Kd.S_base ho0) hb);replace HO656:=aM (Kd.S_elder' (by exact (Kd.S_mono (Kd.S_far (p:=⟨gb658,1,none⟩) (Kd.S_far (p:=⟨gb658,0,none⟩) (Kd.S_types HO656.out BK658.out (by decide)) (fun _ hk=>hk.2) (.int .i64 t653)) (fun _ hk=>hk.2) (.slice Ao17 t654.length co17)) (fun _ h_=>h_.1))) (Kd.S_base ho0) hb);replace BK652:=aM (blk_below (g:=gb652) (o:=.cells #[.int .i64 t645,.slice Ao11 t646.length co11] 26 (0,0)) (by refine blk_far ?_ NB652_658.out _;refine blk_far ?_ NB652_658.out _;exact BK652.out) hb);replace BK658:=aM (blk_below (g:=gb658) (o:=.cells #[.int .i64 t653,.slice Ao17 t654.length co17] 26 (0,0)) (by refine blk_put (cs:=#[.int .i64 t653,.slice none 0 0]) ?_ 1 _ rfl;refine blk_put (cs:=#[.int .i64 0,.slice none 0 0]) ?_ 0 _ rfl;exact BK658.out) hb);replace HB:=bs hb;(try clear hb);(try clear ho0))|((with_reducible refine gate_dst (N:=7) rfl ?_);(try (refine gate_guard (by rfl) ?_;dsimp only));refine box_event ?hg (N:=7) ?hd (cs:=#[.int .i64 0,.slice none 0 0]) (t:=26) ?hr ?_;(case hd=>rfl);(case hg=>rfl);(case hr=>(go_simp;done));intro gb664 hg w20 hbox hb;replace HO648:=sB HO648 hb;replace HO651:=rB HO651 hb;replace HO656:=sB HO656 hb;replace HO662:=sB HO662 hb;have BK664:=aM (hbox);have GW664:=gS w hg;replace HB:=bs hb;have NB652_664:=nL hg BK652;have NB664_652:=nG hg BK652;replace BK652:=bB BK652 hb;have NB658_664:=nL hg BK658;have NB664_658:=nG hg BK658;replace BK658:=bB BK658 hb;clear hb hbox hg;have hnb21:=NB664_652.out;have hnc21:=NB652_664.out;have hnb22:=NB664_658.out;have hnc22:=NB658_664.out;obtain ⟨hcz23_0,hcz23_1,hfz23_0,hfz23_1⟩:=b2 BK664;obtain ⟨Ao24,co24,eo24⟩:=Kd.S_slice HO662.out;subst eo24))
  skip
  go_cut [38] (fun v38 wc=>∃ (kq:Nat) (x38_6:Bool),v38 = .bool x38_6∧Aside0 (laws_FnRebalanced.j0 kq t649 t657 t663 x38_6 t645 t646 t653 t654=some r)∧Aside0 (kq≤k)∧Aside0 (Kd.R k61 61 wc w.heap.size (fun _=>True) (.slice Ao12 t649.length co12) t649)∧Aside0 (Kd.S k35 35 wc w.heap.size (fun k_=>some k_ ≠ ((.slice Ao17 t654.length co17):Value).ownBlock∧some k_ ≠ ((.slice Ao24 t660.length co24):Value).ownBlock) (.slice Ao11 t646.length co11) t646)∧Aside0 (Kd.S k35 35 wc w.heap.size (fun k_=>some k_ ≠ ((.slice Ao11 t646.length co11):Value).ownBlock∧some k_ ≠ ((.slice Ao24 t660.length co24):Value).ownBlock) (.slice Ao17 t654.length co17) t654)∧Aside0 (Kd.S k35 35 wc w.heap.size (fun k_=>some k_ ≠ ((.slice Ao11 t646.length co11):Value).ownBlock∧some k_ ≠ ((.slice Ao17 t654.length co17):Value).ownBlock) (.slice Ao24 t660.length co24) t660)∧Aside0 (wc.heap[gb652]?=some (.cells #[.int .i64 t645,(.slice Ao11 t646.length co11)] 26 (0,0)))∧Aside0 (wc.heap[gb658]?=some (.cells #[.int .i64 t653,(.slice Ao17 t654.length co17)] 26 (0,0)))∧Aside0 (wc.heap[gb664]?=some (.cells #[.int .i64 t659,(.slice Ao24 t660.length co24)] 26 (0,0)))∧Aside0 (Below w.heap.size w wc))
  case first=>
   have H:=HC7.out
   clear HC7
   by_cases c25:t657=t663
   ·rw [if_pos c25] at H
    have c25b0:(t657 == t663)=true:=beq_iff_eq.mpr c25
    have c25b1:(t657 != t663)=false:=bne_eq_false_iff_eq.mpr c25
    clear c25
    (skip)
    have H':=Aside0.mk H
    clear H
    go_wp2
    go_meet
    case rel=>exact ⟨_,(decide (t657 < 0)),rd_,H',⟨by omega⟩,⟨by exact Kd.R_mono (Kd.R_far (p:=⟨gb664,1,none⟩) (Kd.R_far (p:=⟨gb664,0,none⟩) (Kd.R_types HO651.out BK664.out (by decide)) (fun _ hk=>hk.2) (.int .i64 t659)) (fun _ hk=>hk.2) (.slice Ao24 t660.length co24)) (fun _ hk=>trivial)⟩,⟨by exact Kd.S_mono (Kd.S_far (p:=⟨gb664,1,none⟩) (Kd.S_far (p:=⟨gb664,0,none⟩) (Kd.S_types HO648.out BK664.out (by decide)) (fun _ hk=>hk.2) (.int .i64 t659)) (fun _ hk=>hk.2) (.slice Ao24 t660.length co24)) (fun _ hk=>⟨hk.1.1.2,hk.1.2⟩)⟩,⟨by exact Kd.S_mono (Kd.S_far (p:=⟨gb664,1,none⟩) (Kd.S_far (p:=⟨gb664,0,none⟩) (Kd.S_types HO656.out BK664.out (by decide)) (fun _ hk=>hk.2) (.int .i64 t659)) (fun _ hk=>hk.2) (.slice Ao24 t660.length co24)) (fun _ hk=>⟨hk.1.1.2,hk.1.2⟩)⟩,⟨by exact Kd.S_mono (Kd.S_far (p:=⟨gb664,1,none⟩) (Kd.S_far (p:=⟨gb664,0,none⟩) (Kd.S_types HO662.out BK664.out (by decide)) (fun _ hk=>hk.2) (.int .i64 t659)) (fun _ hk=>hk.2) (.slice Ao24 t660.length co24)) (fun _ hk=>⟨hk.1.1.2,hk.1.2⟩)⟩,⟨by refine blk_far ?_ NB652_664.out _;refine blk_far ?_ NB652_664.out _;exact BK652.out⟩,⟨by refine blk_far ?_ NB658_664.out _;refine blk_far ?_ NB658_664.out _;exact BK658.out⟩,⟨by refine blk_put (cs:=#[.int .i64 t659,.slice none 0 0]) ?_ 1 _ rfl;refine blk_put (cs:=#[.int .i64 0,.slice none 0 0]) ?_ 0 _ rfl;exact BK664.out⟩,⟨be⟩⟩
   ·rw [if_neg c25] at H
    have c25b0:(t657 == t663)=false:=beq_eq_false_iff_ne.mpr c25
    have c25b1:(t657 != t663)=true:=bne_iff_ne.mpr c25
    (skip)
    have H':=Aside0.mk H
    clear H
    go_wp2
    go_meet
    case rel=>exact ⟨_,(true),rd_,H',⟨by omega⟩,⟨by exact Kd.R_mono (Kd.R_far (p:=⟨gb664,1,none⟩) (Kd.R_far (p:=⟨gb664,0,none⟩) (Kd.R_types HO651.out BK664.out (by decide)) (fun _ hk=>hk.2) (.int .i64 t659)) (fun _ hk=>hk.2) (.slice Ao24 t660.length co24)) (fun _ hk=>trivial)⟩,⟨by exact Kd.S_mono (Kd.S_far (p:=⟨gb664,1,none⟩) (Kd.S_far (p:=⟨gb664,0,none⟩) (Kd.S_types HO648.out BK664.out (by decide)) (fun _ hk=>hk.2) (.int .i64 t659)) (fun _ hk=>hk.2) (.slice Ao24 t660.length co24)) (fun _ hk=>⟨hk.1.1.2,hk.1.2⟩)⟩,⟨by exact Kd.S_mono (Kd.S_far (p:=⟨gb664,1,none⟩) (Kd.S_far (p:=⟨gb664,0,none⟩) (Kd.S_types HO656.out BK664.out (by decide)) (fun _ hk=>hk.2) (.int .i64 t659)) (fun _ hk=>hk.2) (.slice Ao24 t660.length co24)) (fun _ hk=>⟨hk.1.1.2,hk.1.2⟩)⟩,⟨by exact Kd.S_mono (Kd.S_far (p:=⟨gb664,1,none⟩) (Kd.S_far (p:=⟨gb664,0,none⟩) (Kd.S_types HO662.out BK664.out (by decide)) (fun _ hk=>hk.2) (.int .i64 t659)) (fun _ hk=>hk.2) (.slice Ao24 t660.length co24)) (fun _ hk=>⟨hk.1.1.2,hk.1.2⟩)⟩,⟨by refine blk_far ?_ NB652_664.out _;refine blk_far ?_ NB652_664.out _;exact BK652.out⟩,⟨by refine blk_far ?_ NB658_664.out _;refine blk_far ?_ NB658_664.out _;exact BK658.out⟩,⟨by refine blk_put (cs:=#[.int .i64 t659,.slice none 0 0]) ?_ 1 _ rfl;refine blk_put (cs:=#[.int .i64 0,.slice none 0 0]) ?_ 0 _ rfl;exact BK664.out⟩,⟨be⟩⟩
  case rest=>
   clear HC7
   try clear hcz10_0
   try clear hcz10_1
   try clear hcz16_0
   try clear hcz16_1
   try clear hcz18_0
   try clear hcz18_1
   try clear hcz23_0
   try clear hcz23_1
   try clear hfz10_0
   try clear hfz10_1
   try clear hfz16_0
   try clear hfz16_1
   try clear hfz18_0
   try clear hfz18_1
   try clear hfz23_0
   try clear hfz23_1
   obtain ⟨kq,x38_6,rfl,HA,HJ6,HO_4,HO_653001,HO_659001,HO_665001,BK652,BK658,BK664,HB⟩:=hcut
   cases kq with
   | zero=>exact absurd HA.out (by simp [laws_FnRebalanced.j0])
   | succ kj6=>
    have H:=HA.out
    clear HA
    simp only [laws_FnRebalanced.j0] at H
    by_cases c26:x38_6=true
    ·subst c26
     rw [if_pos rfl] at H
     by_cases c27:t657=t663
     ·rw [if_pos c27] at H
      have c27b0:(t657 == t663)=true:=beq_iff_eq.mpr c27
      have c27b1:(t657 != t663)=false:=bne_eq_false_iff_eq.mpr c27
      clear c27
      obtain rfl:=Option.some.inj H
      have hnb28:=NB658_652.out
      have hnc28:=NB652_658.out
      have hnb29:=NB658_664.out
      have hnc29:=NB664_658.out
      obtain ⟨hcz30_0,hcz30_1,hfz30_0,hfz30_1⟩:=b2 BK658
      have hnb31:=NB652_664.out
      have hnc31:=NB664_652.out
      obtain ⟨hcz32_0,hcz32_1,hfz32_0,hfz32_1⟩:=b2 BK652
      go_wp2
      go_ret
      exact ⟨rz,be⟩
     ·rw [if_neg c27] at H
      have c27b0:(t657 == t663)=false:=beq_eq_false_iff_ne.mpr c27
      have c27b1:(t657 != t663)=true:=bne_iff_ne.mpr c27
      exact absurd ((Option.some.inj H).trans hr_.out) (by decide)
    ·replace c26:=Bool.eq_false_iff.mpr c26
     subst c26
     replace H:=(if_neg (show ¬ (false=true) by decide)).symm.trans H
     have H':=Aside0.mk H
     clear H
     go_wp2
     go_loopg [9] kj6 (fun kq v9 w'=>∃ (x9_2:Int),v9 = .int .i64 x9_2∧Aside0 (laws_FnRebalanced.l0 kq t649 t657 x9_2 t645 t646 t653 t654=some r)∧Aside0 (kq≤kj6)∧Aside0 (Kd.R k61 61 w' w.heap.size (fun _=>True) (.slice Ao12 t649.length co12) t649)∧Aside0 (Kd.S k35 35 w' w.heap.size (fun k_=>some k_ ≠ ((.slice Ao17 t654.length co17):Value).ownBlock∧some k_ ≠ ((.slice Ao24 t660.length co24):Value).ownBlock) (.slice Ao11 t646.length co11) t646)∧Aside0 (Kd.S k35 35 w' w.heap.size (fun k_=>some k_ ≠ ((.slice Ao11 t646.length co11):Value).ownBlock∧some k_ ≠ ((.slice Ao24 t660.length co24):Value).ownBlock) (.slice Ao17 t654.length co17) t654)∧Aside0 (Kd.S k35 35 w' w.heap.size (fun k_=>some k_ ≠ ((.slice Ao11 t646.length co11):Value).ownBlock∧some k_ ≠ ((.slice Ao17 t654.length co17):Value).ownBlock) (.slice Ao24 t660.length co24) t660)∧Aside0 (w'.heap[gb652]?=some (.cells #[.int .i64 t645,(.slice Ao11 t646.length co11)] 26 (0,0)))∧Aside0 (w'.heap[gb658]?=some (.cells #[.int .i64 t653,(.slice Ao17 t654.length co17)] 26 (0,0)))∧Aside0 (w'.heap[gb664]?=some (.cells #[.int .i64 t659,(.slice Ao24 t660.length co24)] 26 (0,0)))∧Aside0 (Below w.heap.size w w'))
     case atStart=>exact ⟨(0),rd_,H',⟨Nat.le_refl _⟩,⟨rR HO_4⟩,⟨rS HO_653001⟩,⟨rS HO_659001⟩,⟨rS HO_665001⟩,⟨bk BK652⟩,⟨bk BK658⟩,⟨bk BK664⟩,⟨be⟩⟩
     case round=>
      clear H'
      obtain ⟨x9_2,rfl,HA,HK2,HO_4,HO_653001,HO_659001,HO_665001,BK652,BK658,BK664,HB⟩:=hrel
      cases gk with
      | zero=>exact absurd HA.out (by simp [laws_FnRebalanced.l0])
      | succ k2=>
       have H:=HA.out
       clear HA
       simp only [laws_FnRebalanced.l0] at H
       by_cases c33:x9_2 < (t646.length:Int)
       ·rw [if_pos c33] at H
        have c33b0:decide (x9_2 < (t646.length:Int))=true:=decide_eq_true c33
        clear c33
        obtain ⟨c34,H⟩:=ifs H
        have c34b0:=eq_true c34
        have c34b1:decide (0≤x9_2)=true:=decide_eq_true c34
        clear c34
        obtain ⟨c35,H⟩:=ifs H
        have c35b0:=eq_true c35
        have c35b1:decide (x9_2≤(wrap64 (x9_2+1)))=true:=decide_eq_true c35
        obtain ⟨c36,H⟩:=ifs H
        have c36b0:=eq_true c36
        have c36b1:decide ((wrap64 (x9_2+1))≤(t646.length:Int))=true:=decide_eq_true c36
        obtain ⟨y668,hy668⟩ : ∃ y_:List (S35),y_=((t646.take ((wrap64 (x9_2+1)):Int).toNat).drop (x9_2:Int).toNat):=⟨_,rfl⟩
        replace H:(if (wrap64 (x9_2+1))≤(t654.length:Int) then ((impl_Moved.f k2 t645 y668 t645 ((t654.take ((wrap64 (x9_2+1)):Int).toNat).drop (x9_2:Int).toNat)).bind fun t678=>(if t678 > 1 then (laws_FnRebalanced.j2 k2 t649 t657 x9_2 true t645 t646 t653 t654) else (if x9_2 < (t654.length:Int) then (laws_FnRebalanced.j2 k2 t649 t657 x9_2 ((((rd_T35 t654 x9_2).f0).length:Int) != t645) t645 t646 t653 t654) else (none)))) else (none))=some r:=by (rw [hy668];with_reducible exact H)
        have Ny668:=aM hy668
        clear hy668
        have c37b0:=eq_true (od:0≤x9_2)
        have c38b0:=eq_true (od:x9_2≤(wrap64 (x9_2+1)))
        obtain ⟨c39,H⟩:=ifs H
        have c39b0:=eq_true c39
        have c39b1:decide ((wrap64 (x9_2+1))≤(t654.length:Int))=true:=decide_eq_true c39
        obtain ⟨y673,hy673⟩ : ∃ y_:List (S35),y_=((t654.take ((wrap64 (x9_2+1)):Int).toNat).drop (x9_2:Int).toNat):=⟨_,rfl⟩
        replace H:((impl_Moved.f k2 t645 y668 t645 y673).bind fun t678=>(if t678 > 1 then (laws_FnRebalanced.j2 k2 t649 t657 x9_2 true t645 t646 t653 t654) else (if x9_2 < (t654.length:Int) then (laws_FnRebalanced.j2 k2 t649 t657 x9_2 ((((rd_T35 t654 x9_2).f0).length:Int) != t645) t645 t646 t653 t654) else (none))))=some r:=by (rw [hy673];with_reducible exact H)
        have Ny673:=aM hy673
        clear hy673
        have HC40:=aM H
        clear H
        have hnb41:=NB652_658.out
        have hnc41:=NB658_652.out
        have hnb42:=NB652_664.out
        have hnc42:=NB664_652.out
        obtain ⟨hcz43_0,hcz43_1,hfz43_0,hfz43_1⟩:=b2 BK652
        try go_wp2
        replace HO_4:=aM (Kd.R_drew HO_4.out);replace HO_653001:=aM (Kd.S_drew HO_653001.out);replace HO_659001:=aM (Kd.S_drew HO_659001.out);replace HO_665001:=aM (Kd.S_drew HO_665001.out);replace BK652:=aM (blk_drew BK652.out);replace BK658:=aM (blk_drew BK658.out);replace BK664:=aM (blk_drew BK664.out);replace HB:=aM (below_drew1 HB.out)
        have q45:((wrap64 (x9_2+1)):Int)≤((t646.length:Int):Int):=od
        obtain ⟨i045,hi045,_,hsz45,_⟩:=info_parts info35
        have hroom45:t646.length≤co11:=(Kd.S_reads' HO_653001.out).2.1
        have hC45:Kd.C k35 _ Ao11 t646.length t646:=(Kd.S_reads' HO_653001.out).2.2
        have ql45:(x9_2:Int)≤((wrap64 (x9_2+1)):Int):=od
        have q045:(0:Int)≤(x9_2:Int):=od
        have hcut45:=cut_mid (P:=Try.prog) 24 35 .i64 .i64 Try.underlying24 hi045 1 hsz45 Ao11 t646.length co11 x9_2 (wrap64 (x9_2+1)) q045 ql45 q45 hroom45
        have hr45:=Kd.C_mid (lo:=(x9_2:Int).toNat) (hi:=((wrap64 (x9_2+1)):Int).toNat) (c:=co11) hC45 (by omega) (by omega) hroom45
        obtain ⟨A45,hA45⟩ : ∃ A1,A1=(if co11=(x9_2:Int).toNat then Ao11 else (Ao11:Option Addr).map (·.add ((x9_2:Int).toNat * 1))):=⟨_,rfl⟩
        obtain ⟨c45,hc45⟩ : ∃ c1,c1=co11 - (x9_2:Int).toNat:=⟨_,rfl⟩
        have hy45:y668.length=((wrap64 (x9_2+1)):Int).toNat - (x9_2:Int).toNat:=(by rw [Ny668.out,List.length_drop,List.length_take] <;> omega)
        rw [show ((t646).take ((wrap64 (x9_2+1)):Int).toNat).drop (x9_2:Int).toNat=y668 from Ny668.out.symm] at hr45
        replace hr45:Kd.C k35 _ A45 y668.length y668:=(by rw [hA45];exact hr45)
        rw [← hy45,← hA45,← hc45] at hcut45
        have HR671:=aM hr45
        have HC671:=aM (show y668.length≤c45 from by rw [hy45,hc45];exact Nat.sub_le_sub_right (Nat.le_trans (by omega) hroom45) _)
        clear hr45 hC45 hroom45 hi045 hsz45 hc45
        have KY45:=aM hy45
        have KA45:=aM hA45
        clear hy45 hA45
        have KL45:=aM (show ((wrap64 (x9_2+1)):Int).toNat≤t646.length from by omega)
        have KM45:=aM (show (x9_2:Int).toNat≤((wrap64 (x9_2+1)):Int).toNat from by omega)
        replace q45:=eq_true q45
        refine start_ (n:=11) (S:=fun w'=>w'.cell? ⟨gb652,0,none⟩=some (.int .i64 t645)∧w'.cell? ⟨gb652,1,none⟩=some (.slice Ao11 t646.length co11)) (ds:=[]) (fl 11 0) (by kernel_rfl) rfl rfl ⟨bq BK652 0,bq BK652 1⟩ (fun hHeld=>?_);refine with_tabW laws_FnRebalanced.tab11 laws_FnRebalanced.bits11 (fun HT_ HW_=>?_)
        generalize wr.drew=w44 at HO_4 HO_653001 HO_659001 HO_665001 BK652 BK658 BK664 HB HR671 hHeld ⊢
        refine pt 0 58 (fl 11 1) HT_ ?_
        refine pt 2 60 (fl 11 5) HT_ ?_
        refine pt 4 62 (fl 11 21) HT_ ?_
        refine pt 5 63 (fl 11 53) HT_ ?_
        refine pt 6 64 (fl 11 117) HT_ ?_
        refine tt 1 59 (fl 11 119) HT_ HW_ hHeld ?_
        refine tt 3 61 (fl 11 127) HT_ HW_ hHeld ?_
        refine pt 7 65 (fl 11 255) HT_ ?_
        refine pt 8 66 (fl 11 511) HT_ ?_
        refine ot 9 (some 10) (fl 11 1023) HT_ (fun K hK=>?_)
        refine box_step ?hg (N:=10) ?hd (cs:=#[.int .i64 0,.slice none 0 0]) (t:=26) ?hr ?_;(case hd=>rfl);(case hg=>rfl);(case hr=>(go_simp;done))
        intro gb672 hg w46 hbox hb
        replace HO_4:=rB HO_4 hb;replace HO_653001:=sB HO_653001 hb;replace HO_659001:=sB HO_659001 hb;replace HO_665001:=sB HO_665001 hb;replace HR671:=cB HR671 hb;have BK672:=aM (hbox);have GW672:=gS w hg;replace HB:=bs hb;have NB652_672:=nL hg BK652;have NB672_652:=nG hg BK652;replace BK652:=bB BK652 hb;have NB658_672:=nL hg BK658;have NB672_658:=nG hg BK658;replace BK658:=bB BK658 hb;have NB664_672:=nL hg BK664;have NB672_664:=nG hg BK664;replace BK664:=bB BK664 hb;clear hb hbox hg
        refine hK.out _ _ ⟨bq BK652 0,bq BK652 1⟩ (fun hHeld=>?_)
        clear hK K
        refine no 10 ?_
        refine ot 10 none (fl 11 2047) HT_ (fun K hK=>?_)
        have hs47:w46.cell? ⟨gb672,0,none⟩=some (.int .i64 0):=(blk_cell BK672.out 0).trans rfl
        have hfs47:=blk_frozen BK672.out 0
        have hns47_0:=NB652_672.out
        have hns47_1:=NB658_672.out
        have hns47_2:=NB664_672.out
        have hms47_0:=NB672_652.out
        have hms47_1:=NB672_658.out
        have hms47_2:=NB672_664.out
        have hs48:w46.cell? ⟨gb672,1,none⟩=some (.slice none 0 0):=(blk_cell BK672.out 1).trans rfl
        have hfs48:=blk_frozen BK672.out 1
        have hns48_0:=NB652_672.out
        have hns48_1:=NB658_672.out
        have hns48_2:=NB664_672.out
        have hms48_0:=NB672_652.out
        have hms48_1:=NB672_658.out
        have hms48_2:=NB672_664.out
        refine skip_ (w1:=?_) (by rfl) rfl ?_ ?_
        rotate_left
        ·go_simp
         rfl
        refine hK.out _ _ ⟨((cell_far (p:=⟨gb672,_,none⟩) NB652_672.out _).trans (((cell_far (p:=⟨gb672,_,none⟩) NB652_672.out _).trans (hHeld.1)))),((cell_far (p:=⟨gb672,_,none⟩) NB652_672.out _).trans (((cell_far (p:=⟨gb672,_,none⟩) NB652_672.out _).trans (hHeld.2))))⟩ (fun hHeld=>?_)
        clear hK K
        refine done_ (done_of HT_.out (by kernel_rfl)) ?_
        try go_wp2
        obtain ⟨w49,hW_⟩ : ∃ W_:World,W_=((w46.setCell ⟨gb672,0,none⟩ (.int .i64 t645)).setCell ⟨gb672,1,none⟩ (.slice A45 y668.length c45)):=⟨_,rfl⟩
        have n0_:Aside0 (Kd.C k35 w49 A45 y668.length y668):=⟨by rw [Ny668.out,KA45.out,hW_];exact Kd.C_mid (lo:=(x9_2:Int).toNat) (hi:=((wrap64 (x9_2+1)):Int).toNat) (c:=co11) ((Kd.S_reads' (by exact (Kd.S_mono (Kd.S_far (p:=⟨gb672,1,none⟩) (Kd.S_far (p:=⟨gb672,0,none⟩) (Kd.S_types HO_653001.out BK672.out (by decide)) (fun _ hk=>hk.2) (.int .i64 t645)) (fun _ hk=>hk.2) (.slice A45 y668.length c45)) (fun _ h_=>h_.1)))).2.2) KM45.out KL45.out ((Kd.S_reads' (HO_653001.out)).2.1)⟩
        have n1_:Aside0 (Kd.R k61 61 w49 w.heap.size (fun _=>True) (.slice Ao12 t649.length co12) t649):=⟨by rw [hW_];exact Kd.R_mono (Kd.R_far (p:=⟨gb672,1,none⟩) (Kd.R_far (p:=⟨gb672,0,none⟩) (Kd.R_types HO_4.out BK672.out (by decide)) (fun _ hk=>hk.2) (.int .i64 t645)) (fun _ hk=>hk.2) (.slice A45 y668.length c45)) (fun _ hk=>trivial)⟩
        have n2_:Aside0 (Kd.S k35 35 w49 w.heap.size (fun k_=>some k_ ≠ (.slice Ao17 t654.length co17:Value).ownBlock∧some k_ ≠ (.slice Ao24 t660.length co24:Value).ownBlock) (.slice Ao11 t646.length co11) t646):=⟨by rw [hW_];exact Kd.S_mono (Kd.S_far (p:=⟨gb672,1,none⟩) (Kd.S_far (p:=⟨gb672,0,none⟩) (Kd.S_types HO_653001.out BK672.out (by decide)) (fun _ hk=>hk.2) (.int .i64 t645)) (fun _ hk=>hk.2) (.slice A45 y668.length c45)) (fun _ hk=>⟨hk.1.1,hk.1.2⟩)⟩
        have n3_:Aside0 (Kd.S k35 35 w49 w.heap.size (fun k_=>some k_ ≠ (.slice Ao11 t646.length co11:Value).ownBlock∧some k_ ≠ (.slice Ao24 t660.length co24:Value).ownBlock) (.slice Ao17 t654.length co17) t654):=⟨by rw [hW_];exact Kd.S_mono (Kd.S_far (p:=⟨gb672,1,none⟩) (Kd.S_far (p:=⟨gb672,0,none⟩) (Kd.S_types HO_659001.out BK672.out (by decide)) (fun _ hk=>hk.2) (.int .i64 t645)) (fun _ hk=>hk.2) (.slice A45 y668.length c45)) (fun _ hk=>⟨hk.1.1,hk.1.2⟩)⟩
        have n4_:Aside0 (Kd.S k35 35 w49 w.heap.size (fun k_=>some k_ ≠ (.slice Ao11 t646.length co11:Value).ownBlock∧some k_ ≠ (.slice Ao17 t654.length co17:Value).ownBlock) (.slice Ao24 t660.length co24) t660):=⟨by rw [hW_];exact Kd.S_mono (Kd.S_far (p:=⟨gb672,1,none⟩) (Kd.S_far (p:=⟨gb672,0,none⟩) (Kd.S_types HO_665001.out BK672.out (by decide)) (fun _ hk=>hk.2) (.int .i64 t645)) (fun _ hk=>hk.2) (.slice A45 y668.length c45)) (fun _ hk=>⟨hk.1.1,hk.1.2⟩)⟩
        have n5_:Aside0 (w49.heap[gb652]?=some (.cells #[.int .i64 t645,.slice Ao11 t646.length co11] 26 (0,0))):=⟨by rw [hW_];refine blk_far ?_ NB652_672.out _;refine blk_far ?_ NB652_672.out _;exact BK652.out⟩
        have n6_:Aside0 (w49.heap[gb658]?=some (.cells #[.int .i64 t653,.slice Ao17 t654.length co17] 26 (0,0))):=⟨by rw [hW_];refine blk_far ?_ NB658_672.out _;refine blk_far ?_ NB658_672.out _;exact BK658.out⟩
        have n7_:Aside0 (w49.heap[gb664]?=some (.cells #[.int .i64 t659,.slice Ao24 t660.length co24] 26 (0,0))):=⟨by rw [hW_];refine blk_far ?_ NB664_672.out _;refine blk_far ?_ NB664_672.out _;exact BK664.out⟩
        have n8_:Aside0 (w49.heap[gb672]?=some (.cells #[.int .i64 t645,.slice A45 y668.length c45] 26 (0,0))):=⟨by rw [hW_];refine blk_put (cs:=#[.int .i64 t645,.slice none 0 0]) ?_ 1 _ rfl;refine blk_put (cs:=#[.int .i64 0,.slice none 0 0]) ?_ 0 _ rfl;exact BK672.out⟩
        have n9_:Aside0 (Below w.heap.size w w49):=⟨by rw [hW_];exact be⟩
        (try clear HR671)
        (try clear HO_4)
        (try clear HO_653001)
        (try clear HO_659001)
        (try clear HO_665001)
        (try clear BK652)
        (try clear BK658)
        (try clear BK664)
        (try clear BK672)
        (try clear HB)
        rw [← hW_];clear hW_
        have HR671:=n0_;have HO_4:=n1_;have HO_653001:=n2_;have HO_659001:=n3_;have HO_665001:=n4_;have BK652:=n5_;have BK658:=n6_;have BK664:=n7_;have BK672:=n8_;have HB:=n9_;clear n0_ n1_ n2_ n3_ n4_ n5_ n6_ n7_ n8_ n9_;replace HO_4:=aM (Kd.R_drew HO_4.out);replace HO_653001:=aM (Kd.S_drew HO_653001.out);replace HO_659001:=aM (Kd.S_drew HO_659001.out);replace HO_665001:=aM (Kd.S_drew HO_665001.out);replace BK652:=aM (blk_drew BK652.out);replace BK658:=aM (blk_drew BK658.out);replace BK664:=aM (blk_drew BK664.out);replace BK672:=aM (blk_drew BK672.out);replace HR671:=aM (Kd.C_drew HR671.out);replace HB:=aM (below_drew1 HB.out)
        have q51:((wrap64 (x9_2+1)):Int)≤((t654.length:Int):Int):=od
        obtain ⟨i051,hi051,_,hsz51,_⟩:=info_parts info35
        have hroom51:t654.length≤co17:=(Kd.S_reads' HO_659001.out).2.1
        have hC51:Kd.C k35 _ Ao17 t654.length t654:=(Kd.S_reads' HO_659001.out).2.2
        have ql51:(x9_2:Int)≤((wrap64 (x9_2+1)):Int):=od
        have q051:(0:Int)≤(x9_2:Int):=od
        have hcut51:=cut_mid (P:=Try.prog) 24 35 .i64 .i64 Try.underlying24 hi051 1 hsz51 Ao17 t654.length co17 x9_2 (wrap64 (x9_2+1)) q051 ql51 q51 hroom51
        have hr51:=Kd.C_mid (lo:=(x9_2:Int).toNat) (hi:=((wrap64 (x9_2+1)):Int).toNat) (c:=co17) hC51 (by omega) (by omega) hroom51
        obtain ⟨A51,hA51⟩ : ∃ A1,A1=(if co17=(x9_2:Int).toNat then Ao17 else (Ao17:Option Addr).map (·.add ((x9_2:Int).toNat * 1))):=⟨_,rfl⟩
        obtain ⟨c51,hc51⟩ : ∃ c1,c1=co17 - (x9_2:Int).toNat:=⟨_,rfl⟩
        have hy51:y673.length=((wrap64 (x9_2+1)):Int).toNat - (x9_2:Int).toNat:=(by rw [Ny673.out,List.length_drop,List.length_take] <;> omega)
        rw [show ((t654).take ((wrap64 (x9_2+1)):Int).toNat).drop (x9_2:Int).toNat=y673 from Ny673.out.symm] at hr51
        replace hr51:Kd.C k35 _ A51 y673.length y673:=(by rw [hA51];exact hr51)
        rw [← hy51,← hA51,← hc51] at hcut51
        have HR676:=aM hr51
        have HC676:=aM (show y673.length≤c51 from by rw [hy51,hc51];exact Nat.sub_le_sub_right (Nat.le_trans (by omega) hroom51) _)
        clear hr51 hC51 hroom51 hi051 hsz51 hc51
        have KY51:=aM hy51
        have KA51:=aM hA51
        clear hy51 hA51
        have KL51:=aM (show ((wrap64 (x9_2+1)):Int).toNat≤t654.length from by omega)
        have KM51:=aM (show (x9_2:Int).toNat≤((wrap64 (x9_2+1)):Int).toNat from by omega)
        replace q51:=eq_true q51
        refine start_ (n:=11) (S:=fun w'=>w'.cell? ⟨gb652,0,none⟩=some (.int .i64 t645)∧w'.cell? ⟨gb652,1,none⟩=some (.slice Ao11 t646.length co11)∧w'.cell? ⟨gb658,0,none⟩=some (.int .i64 t653)∧w'.cell? ⟨gb658,1,none⟩=some (.slice Ao17 t654.length co17)) (ds:=[]) (fl 11 0) (by kernel_rfl) rfl rfl ⟨bq BK652 0,bq BK652 1,bq BK658 0,bq BK658 1⟩ (fun hHeld=>?_);refine with_tabW laws_FnRebalanced.tab12 laws_FnRebalanced.bits12 (fun HT_ HW_=>?_)
        generalize w49.drew=w50 at HO_4 HO_653001 HO_659001 HO_665001 BK652 BK658 BK664 BK672 HR671 HB HR676 hHeld ⊢
        refine pt 0 67 (fl 11 1) HT_ ?_
        refine pt 2 69 (fl 11 5) HT_ ?_
        refine pt 4 71 (fl 11 21) HT_ ?_
        refine pt 5 72 (fl 11 53) HT_ ?_
        refine pt 6 73 (fl 11 117) HT_ ?_
        refine tt 1 68 (fl 11 119) HT_ HW_ hHeld ?_
        refine tt 3 70 (fl 11 127) HT_ HW_ hHeld ?_
        refine pt 7 74 (fl 11 255) HT_ ?_
        refine pt 8 75 (fl 11 511) HT_ ?_
        refine ot 9 (some 11) (fl 11 1023) HT_ (fun K hK=>?_)
        refine box_step ?hg (N:=11) ?hd (cs:=#[.int .i64 0,.slice none 0 0]) (t:=26) ?hr ?_;(case hd=>rfl);(case hg=>rfl);(case hr=>(go_simp;done))
        intro gb677 hg w52 hbox hb
        replace HO_4:=rB HO_4 hb;replace HO_653001:=sB HO_653001 hb;replace HO_659001:=sB HO_659001 hb;replace HO_665001:=sB HO_665001 hb;replace HR671:=cB HR671 hb;replace HR676:=cB HR676 hb;have BK677:=aM (hbox);have GW677:=gS w hg;replace HB:=bs hb;have NB652_677:=nL hg BK652;have NB677_652:=nG hg BK652;replace BK652:=bB BK652 hb;have NB658_677:=nL hg BK658;have NB677_658:=nG hg BK658;replace BK658:=bB BK658 hb;have NB664_677:=nL hg BK664;have NB677_664:=nG hg BK664;replace BK664:=bB BK664 hb;have NB672_677:=nL hg BK672;have NB677_672:=nG hg BK672;replace BK672:=bB BK672 hb;clear hb hbox hg
        refine hK.out _ _ ⟨bq BK652 0,bq BK652 1,bq BK658 0,bq BK658 1⟩ (fun hHeld=>?_)
        clear hK K
        refine no 11 ?_
        refine ot 10 none (fl 11 2047) HT_ (fun K hK=>?_)
        have hs53:w52.cell? ⟨gb677,0,none⟩=some (.int .i64 0):=(blk_cell BK677.out 0).trans rfl
        have hfs53:=blk_frozen BK677.out 0
        have hns53_0:=NB652_677.out
        have hns53_1:=NB658_677.out
        have hns53_2:=NB664_677.out
        have hns53_3:=NB672_677.out
        have hms53_0:=NB677_652.out
        have hms53_1:=NB677_658.out
        have hms53_2:=NB677_664.out
        have hms53_3:=NB677_672.out
        have hs54:w52.cell? ⟨gb677,1,none⟩=some (.slice none 0 0):=(blk_cell BK677.out 1).trans rfl
        have hfs54:=blk_frozen BK677.out 1
        have hns54_0:=NB652_677.out
        have hns54_1:=NB658_677.out
        have hns54_2:=NB664_677.out
        have hns54_3:=NB672_677.out
        have hms54_0:=NB677_652.out
        have hms54_1:=NB677_658.out
        have hms54_2:=NB677_664.out
        have hms54_3:=NB677_672.out
        refine skip_ (w1:=?_) (by rfl) rfl ?_ ?_
        rotate_left
        ·go_simp
         rfl
        refine hK.out _ _ ⟨((cell_far (p:=⟨gb677,_,none⟩) NB652_677.out _).trans (((cell_far (p:=⟨gb677,_,none⟩) NB652_677.out _).trans (hHeld.1)))),((cell_far (p:=⟨gb677,_,none⟩) NB652_677.out _).trans (((cell_far (p:=⟨gb677,_,none⟩) NB652_677.out _).trans (hHeld.2.1)))),((cell_far (p:=⟨gb677,_,none⟩) NB658_677.out _).trans (((cell_far (p:=⟨gb677,_,none⟩) NB658_677.out _).trans (hHeld.2.2.1)))),((cell_far (p:=⟨gb677,_,none⟩) NB658_677.out _).trans (((cell_far (p:=⟨gb677,_,none⟩) NB658_677.out _).trans (hHeld.2.2.2))))⟩ (fun hHeld=>?_)
        clear hK K
        refine done_ (done_of HT_.out (by kernel_rfl)) ?_
        go_upto_region 13 with (fail)
        go_cut [91] (fun v91 wc=>∃ (kq:Nat) (x91_39:Bool),v91 = .bool x91_39∧Aside0 (laws_FnRebalanced.j2 kq t649 t657 x9_2 x91_39 t645 t646 t653 t654=some r)∧Aside0 (kq≤k2)∧Aside0 (Kd.R k61 61 wc w.heap.size (fun _=>True) (.slice Ao12 t649.length co12) t649)∧Aside0 (Kd.S k35 35 wc w.heap.size (fun k_=>some k_ ≠ ((.slice Ao17 t654.length co17):Value).ownBlock∧some k_ ≠ ((.slice Ao24 t660.length co24):Value).ownBlock) (.slice Ao11 t646.length co11) t646)∧Aside0 (Kd.S k35 35 wc w.heap.size (fun k_=>some k_ ≠ ((.slice Ao11 t646.length co11):Value).ownBlock∧some k_ ≠ ((.slice Ao24 t660.length co24):Value).ownBlock) (.slice Ao17 t654.length co17) t654)∧Aside0 (Kd.S k35 35 wc w.heap.size (fun k_=>some k_ ≠ ((.slice Ao11 t646.length co11):Value).ownBlock∧some k_ ≠ ((.slice Ao17 t654.length co17):Value).ownBlock) (.slice Ao24 t660.length co24) t660)∧Aside0 (wc.heap[gb652]?=some (.cells #[.int .i64 t645,(.slice Ao11 t646.length co11)] 26 (0,0)))∧Aside0 (wc.heap[gb658]?=some (.cells #[.int .i64 t653,(.slice Ao17 t654.length co17)] 26 (0,0)))∧Aside0 (wc.heap[gb664]?=some (.cells #[.int .i64 t659,(.slice Ao24 t660.length co24)] 26 (0,0)))∧Aside0 (Below w.heap.size w wc))
        case first=>
         have H:=HC40.out
         clear HC40
         replace H:=Option.bind_eq_some_iff.mp H
         obtain ⟨t678,A550,H⟩:=H
         try dsimp only at H
         have A55:=aM A550
         clear A550
         by_cases c56:t678 > 1
         ·rw [if_pos c56] at H
          have c56b0:decide (1 < t678)=true:=decide_eq_true c56
          clear c56
          (skip)
          have H':=Aside0.mk H
          clear H
          try go_wp2
          obtain ⟨w57,hW_⟩ : ∃ W_:World,W_=((w52.setCell ⟨gb677,0,none⟩ (.int .i64 t645)).setCell ⟨gb677,1,none⟩ (.slice A51 y673.length c51)):=⟨_,rfl⟩
          have n0_:Aside0 (Kd.C k35 w57 A45 y668.length y668):=⟨by rw [Ny668.out,KA45.out,hW_];exact Kd.C_mid (lo:=(x9_2:Int).toNat) (hi:=((wrap64 (x9_2+1)):Int).toNat) (c:=co11) ((Kd.S_reads' (by exact (Kd.S_mono (Kd.S_far (p:=⟨gb677,1,none⟩) (Kd.S_far (p:=⟨gb677,0,none⟩) (Kd.S_types HO_653001.out BK677.out (by decide)) (fun _ hk=>hk.2) (.int .i64 t645)) (fun _ hk=>hk.2) (.slice A51 y673.length c51)) (fun _ h_=>h_.1)))).2.2) KM45.out KL45.out ((Kd.S_reads' (HO_653001.out)).2.1)⟩
          have n1_:Aside0 (Kd.C k35 w57 A51 y673.length y673):=⟨by rw [Ny673.out,KA51.out,hW_];exact Kd.C_mid (lo:=(x9_2:Int).toNat) (hi:=((wrap64 (x9_2+1)):Int).toNat) (c:=co17) ((Kd.S_reads' (by exact (Kd.S_mono (Kd.S_far (p:=⟨gb677,1,none⟩) (Kd.S_far (p:=⟨gb677,0,none⟩) (Kd.S_types HO_659001.out BK677.out (by decide)) (fun _ hk=>hk.2) (.int .i64 t645)) (fun _ hk=>hk.2) (.slice A51 y673.length c51)) (fun _ h_=>h_.1)))).2.2) KM51.out KL51.out ((Kd.S_reads' (HO_659001.out)).2.1)⟩
          have n2_:Aside0 (Kd.R k61 61 w57 w.heap.size (fun _=>True) (.slice Ao12 t649.length co12) t649):=⟨by rw [hW_];exact Kd.R_mono (Kd.R_far (p:=⟨gb677,1,none⟩) (Kd.R_far (p:=⟨gb677,0,none⟩) (Kd.R_types HO_4.out BK677.out (by decide)) (fun _ hk=>hk.2) (.int .i64 t645)) (fun _ hk=>hk.2) (.slice A51 y673.length c51)) (fun _ hk=>trivial)⟩
          have n3_:Aside0 (Kd.S k35 35 w57 w.heap.size (fun k_=>some k_ ≠ (.slice Ao17 t654.length co17:Value).ownBlock∧some k_ ≠ (.slice Ao24 t660.length co24:Value).ownBlock) (.slice Ao11 t646.length co11) t646):=⟨by rw [hW_];exact Kd.S_mono (Kd.S_far (p:=⟨gb677,1,none⟩) (Kd.S_far (p:=⟨gb677,0,none⟩) (Kd.S_types HO_653001.out BK677.out (by decide)) (fun _ hk=>hk.2) (.int .i64 t645)) (fun _ hk=>hk.2) (.slice A51 y673.length c51)) (fun _ hk=>⟨hk.1.1,hk.1.2⟩)⟩
          have n4_:Aside0 (Kd.S k35 35 w57 w.heap.size (fun k_=>some k_ ≠ (.slice Ao11 t646.length co11:Value).ownBlock∧some k_ ≠ (.slice Ao24 t660.length co24:Value).ownBlock) (.slice Ao17 t654.length co17) t654):=⟨by rw [hW_];exact Kd.S_mono (Kd.S_far (p:=⟨gb677,1,none⟩) (Kd.S_far (p:=⟨gb677,0,none⟩) (Kd.S_types HO_659001.out BK677.out (by decide)) (fun _ hk=>hk.2) (.int .i64 t645)) (fun _ hk=>hk.2) (.slice A51 y673.length c51)) (fun _ hk=>⟨hk.1.1,hk.1.2⟩)⟩
          have n5_:Aside0 (Kd.S k35 35 w57 w.heap.size (fun k_=>some k_ ≠ (.slice Ao11 t646.length co11:Value).ownBlock∧some k_ ≠ (.slice Ao17 t654.length co17:Value).ownBlock) (.slice Ao24 t660.length co24) t660):=⟨by rw [hW_];exact Kd.S_mono (Kd.S_far (p:=⟨gb677,1,none⟩) (Kd.S_far (p:=⟨gb677,0,none⟩) (Kd.S_types HO_665001.out BK677.out (by decide)) (fun _ hk=>hk.2) (.int .i64 t645)) (fun _ hk=>hk.2) (.slice A51 y673.length c51)) (fun _ hk=>⟨hk.1.1,hk.1.2⟩)⟩
          have n6_:Aside0 (w57.heap[gb652]?=some (.cells #[.int .i64 t645,.slice Ao11 t646.length co11] 26 (0,0))):=⟨by rw [hW_];refine blk_far ?_ NB652_677.out _;refine blk_far ?_ NB652_677.out _;exact BK652.out⟩
          have n7_:Aside0 (w57.heap[gb658]?=some (.cells #[.int .i64 t653,.slice Ao17 t654.length co17] 26 (0,0))):=⟨by rw [hW_];refine blk_far ?_ NB658_677.out _;refine blk_far ?_ NB658_677.out _;exact BK658.out⟩
          have n8_:Aside0 (w57.heap[gb664]?=some (.cells #[.int .i64 t659,.slice Ao24 t660.length co24] 26 (0,0))):=⟨by rw [hW_];refine blk_far ?_ NB664_677.out _;refine blk_far ?_ NB664_677.out _;exact BK664.out⟩
          have n9_:Aside0 (w57.heap[gb672]?=some (.cells #[.int .i64 t645,.slice A45 y668.length c45] 26 (0,0))):=⟨by rw [hW_];refine blk_far ?_ NB672_677.out _;refine blk_far ?_ NB672_677.out _;exact BK672.out⟩
          have n10_:Aside0 (w57.heap[gb677]?=some (.cells #[.int .i64 t645,.slice A51 y673.length c51] 26 (0,0))):=⟨by rw [hW_];refine blk_put (cs:=#[.int .i64 t645,.slice none 0 0]) ?_ 1 _ rfl;refine blk_put (cs:=#[.int .i64 0,.slice none 0 0]) ?_ 0 _ rfl;exact BK677.out⟩
          have n11_:Aside0 (Below w.heap.size w w57):=⟨by rw [hW_];exact be⟩
          (try clear HR671)
          (try clear HR676)
          (try clear HO_4)
          (try clear HO_653001)
          (try clear HO_659001)
          (try clear HO_665001)
          (try clear BK652)
          (try clear BK658)
          (try clear BK664)
          (try clear BK672)
          (try clear BK677)
          (try clear HB)
          rw [← hW_];clear hW_
          have HR671:=n0_;have HR676:=n1_;have HO_4:=n2_;have HO_653001:=n3_;have HO_659001:=n4_;have HO_665001:=n5_;have BK652:=n6_;have BK658:=n7_;have BK664:=n8_;have BK672:=n9_;have BK677:=n10_;have HB:=n11_;clear n0_ n1_ n2_ n3_ n4_ n5_ n6_ n7_ n8_ n9_ n10_ n11_;replace HO_4:=aM (Kd.R_drew HO_4.out);replace HO_653001:=aM (Kd.S_drew HO_653001.out);replace HO_659001:=aM (Kd.S_drew HO_659001.out);replace HO_665001:=aM (Kd.S_drew HO_665001.out);replace BK652:=aM (blk_drew BK652.out);replace BK658:=aM (blk_drew BK658.out);replace BK664:=aM (blk_drew BK664.out);replace BK672:=aM (blk_drew BK672.out);replace BK677:=aM (blk_drew BK677.out);replace HR671:=aM (Kd.C_drew HR671.out);replace HR676:=aM (Kd.C_drew HR676.out);replace HB:=aM (below_drew1 HB.out)
          refine start_ (n:=16) (S:=fun w'=>w'.cell? ⟨gb672,0,none⟩=some (.int .i64 t645)∧w'.cell? ⟨gb672,1,none⟩=some (.slice A45 y668.length c45)∧w'.cell? ⟨gb677,0,none⟩=some (.int .i64 t645)∧w'.cell? ⟨gb677,1,none⟩=some (.slice A51 y673.length c51)) (ds:=[]) (fl 16 0) (by kernel_rfl) rfl rfl ⟨bq BK672 0,bq BK672 1,bq BK677 0,bq BK677 1⟩ (fun hHeld=>?_);refine with_tabW laws_FnRebalanced.tab13 laws_FnRebalanced.bits13 (fun HT_ HW_=>?_)
          generalize w57.drew=w58 at HO_4 HO_653001 HO_659001 HO_665001 BK652 BK658 BK664 BK672 BK677 HR671 HR676 HB hHeld ⊢
          refine tt 0 76 (fl 16 1) HT_ HW_ hHeld ?_
          refine tt 1 77 (fl 16 3) HT_ HW_ hHeld ?_
          refine ot 2 (some 78) (fl 16 7) HT_ (fun K hK=>?_)
          refine goes_ Try.func12 (by kernel_rfl) rfl #[.agg #[.int .i64 t645,.slice A45 y668.length c45],.agg #[.int .i64 t645,.slice A51 y673.length c51]] (by rfl) rfl rfl (by (try simp only [List.map_toArray,List.map_cons,List.map_nil]);rfl) ?_
          with_reducible refine (impl_Moved.calls k2 t645 _ _ y668 t645 _ _ y673 t678 _ ?side1 ?side2 ?side3 ?side4 A55.out).mono ?_
          (case side1=>repeat (exact HR671.out))
          (case side2=>exact HC671.out)
          (case side3=>repeat (exact HR676.out))
          (case side4=>exact HC676.out)
          rintro e w59 ⟨rfl,hb⟩
          refine ⟨_,rfl,?_⟩
          replace HO_4:=rB HO_4 hb;replace HO_653001:=sB HO_653001 hb;replace HO_659001:=sB HO_659001 hb;replace HO_665001:=sB HO_665001 hb;replace BK652:=bB BK652 hb;replace BK658:=bB BK658 hb;replace BK664:=bB BK664 hb;replace BK672:=bB BK672 hb;replace BK677:=bB BK677 hb;replace HB:=bs hb;clear HR671 HR676;(try clear hb);skip
          refine hK.out _ _ ⟨bq BK672 0,bq BK672 1,bq BK677 0,bq BK677 1⟩ (fun hHeld=>?_)
          clear hK K
          refine no 78 ?_
          refine pt 3 79 (fl 16 15) HT_ ?_
          refine pt 4 80 (fl 16 31) HT_ ?_
          refine ut 5 81 (fl 16 63) HT_ ?_
          refine ut 6 82 (fl 16 127) HT_ ?_
          refine ut 7 83 (fl 16 255) HT_ ?_
          refine ut 8 84 (fl 16 511) HT_ ?_
          refine ut 9 85 (fl 16 1023) HT_ ?_
          refine ut 10 86 (fl 16 2047) HT_ ?_
          refine ut 11 87 (fl 16 4095) HT_ ?_
          refine ut 12 88 (fl 16 8191) HT_ ?_
          refine ut 13 89 (fl 16 16383) HT_ ?_
          refine ut 14 90 (fl 16 32767) HT_ ?_
          refine pt 15 91 (fl 16 65535) HT_ ?_
          refine done_ (done_of HT_.out (by kernel_rfl)) ?_
          try go_wp2
          go_meet
          case rel=>exact ⟨_,(true),rd_,H',⟨by have:=HJ6.out;have:=HK2.out;omega⟩,⟨rR HO_4⟩,⟨rS HO_653001⟩,⟨rS HO_659001⟩,⟨rS HO_665001⟩,⟨bk BK652⟩,⟨bk BK658⟩,⟨bk BK664⟩,⟨be⟩⟩
         ·rw [if_neg c56] at H
          have c56b0:decide (1 < t678)=false:=decide_eq_false c56
          clear c56
          (skip)
          obtain ⟨c60,H⟩:=ifs H
          have c60b0:decide (x9_2 < (t654.length:Int))=true:=decide_eq_true c60
          clear c60
          have H':=Aside0.mk H
          clear H
          try go_wp2
          obtain ⟨w61,hW_⟩ : ∃ W_:World,W_=((w52.setCell ⟨gb677,0,none⟩ (.int .i64 t645)).setCell ⟨gb677,1,none⟩ (.slice A51 y673.length c51)):=⟨_,rfl⟩
          have n0_:Aside0 (Kd.C k35 w61 A45 y668.length y668):=⟨by rw [Ny668.out,KA45.out,hW_];exact Kd.C_mid (lo:=(x9_2:Int).toNat) (hi:=((wrap64 (x9_2+1)):Int).toNat) (c:=co11) ((Kd.S_reads' (by exact (Kd.S_mono (Kd.S_far (p:=⟨gb677,1,none⟩) (Kd.S_far (p:=⟨gb677,0,none⟩) (Kd.S_types HO_653001.out BK677.out (by decide)) (fun _ hk=>hk.2) (.int .i64 t645)) (fun _ hk=>hk.2) (.slice A51 y673.length c51)) (fun _ h_=>h_.1)))).2.2) KM45.out KL45.out ((Kd.S_reads' (HO_653001.out)).2.1)⟩
          have n1_:Aside0 (Kd.C k35 w61 A51 y673.length y673):=⟨by rw [Ny673.out,KA51.out,hW_];exact Kd.C_mid (lo:=(x9_2:Int).toNat) (hi:=((wrap64 (x9_2+1)):Int).toNat) (c:=co17) ((Kd.S_reads' (by exact (Kd.S_mono (Kd.S_far (p:=⟨gb677,1,none⟩) (Kd.S_far (p:=⟨gb677,0,none⟩) (Kd.S_types HO_659001.out BK677.out (by decide)) (fun _ hk=>hk.2) (.int .i64 t645)) (fun _ hk=>hk.2) (.slice A51 y673.length c51)) (fun _ h_=>h_.1)))).2.2) KM51.out KL51.out ((Kd.S_reads' (HO_659001.out)).2.1)⟩
          have n2_:Aside0 (Kd.R k61 61 w61 w.heap.size (fun _=>True) (.slice Ao12 t649.length co12) t649):=⟨by rw [hW_];exact Kd.R_mono (Kd.R_far (p:=⟨gb677,1,none⟩) (Kd.R_far (p:=⟨gb677,0,none⟩) (Kd.R_types HO_4.out BK677.out (by decide)) (fun _ hk=>hk.2) (.int .i64 t645)) (fun _ hk=>hk.2) (.slice A51 y673.length c51)) (fun _ hk=>trivial)⟩
          have n3_:Aside0 (Kd.S k35 35 w61 w.heap.size (fun k_=>some k_ ≠ (.slice Ao17 t654.length co17:Value).ownBlock∧some k_ ≠ (.slice Ao24 t660.length co24:Value).ownBlock) (.slice Ao11 t646.length co11) t646):=⟨by rw [hW_];exact Kd.S_mono (Kd.S_far (p:=⟨gb677,1,none⟩) (Kd.S_far (p:=⟨gb677,0,none⟩) (Kd.S_types HO_653001.out BK677.out (by decide)) (fun _ hk=>hk.2) (.int .i64 t645)) (fun _ hk=>hk.2) (.slice A51 y673.length c51)) (fun _ hk=>⟨hk.1.1,hk.1.2⟩)⟩
          have n4_:Aside0 (Kd.S k35 35 w61 w.heap.size (fun k_=>some k_ ≠ (.slice Ao11 t646.length co11:Value).ownBlock∧some k_ ≠ (.slice Ao24 t660.length co24:Value).ownBlock) (.slice Ao17 t654.length co17) t654):=⟨by rw [hW_];exact Kd.S_mono (Kd.S_far (p:=⟨gb677,1,none⟩) (Kd.S_far (p:=⟨gb677,0,none⟩) (Kd.S_types HO_659001.out BK677.out (by decide)) (fun _ hk=>hk.2) (.int .i64 t645)) (fun _ hk=>hk.2) (.slice A51 y673.length c51)) (fun _ hk=>⟨hk.1.1,hk.1.2⟩)⟩
          have n5_:Aside0 (Kd.S k35 35 w61 w.heap.size (fun k_=>some k_ ≠ (.slice Ao11 t646.length co11:Value).ownBlock∧some k_ ≠ (.slice Ao17 t654.length co17:Value).ownBlock) (.slice Ao24 t660.length co24) t660):=⟨by rw [hW_];exact Kd.S_mono (Kd.S_far (p:=⟨gb677,1,none⟩) (Kd.S_far (p:=⟨gb677,0,none⟩) (Kd.S_types HO_665001.out BK677.out (by decide)) (fun _ hk=>hk.2) (.int .i64 t645)) (fun _ hk=>hk.2) (.slice A51 y673.length c51)) (fun _ hk=>⟨hk.1.1,hk.1.2⟩)⟩
          have n6_:Aside0 (w61.heap[gb652]?=some (.cells #[.int .i64 t645,.slice Ao11 t646.length co11] 26 (0,0))):=⟨by rw [hW_];refine blk_far ?_ NB652_677.out _;refine blk_far ?_ NB652_677.out _;exact BK652.out⟩
          have n7_:Aside0 (w61.heap[gb658]?=some (.cells #[.int .i64 t653,.slice Ao17 t654.length co17] 26 (0,0))):=⟨by rw [hW_];refine blk_far ?_ NB658_677.out _;refine blk_far ?_ NB658_677.out _;exact BK658.out⟩
          have n8_:Aside0 (w61.heap[gb664]?=some (.cells #[.int .i64 t659,.slice Ao24 t660.length co24] 26 (0,0))):=⟨by rw [hW_];refine blk_far ?_ NB664_677.out _;refine blk_far ?_ NB664_677.out _;exact BK664.out⟩
          have n9_:Aside0 (w61.heap[gb672]?=some (.cells #[.int .i64 t645,.slice A45 y668.length c45] 26 (0,0))):=⟨by rw [hW_];refine blk_far ?_ NB672_677.out _;refine blk_far ?_ NB672_677.out _;exact BK672.out⟩
          have n10_:Aside0 (w61.heap[gb677]?=some (.cells #[.int .i64 t645,.slice A51 y673.length c51] 26 (0,0))):=⟨by rw [hW_];refine blk_put (cs:=#[.int .i64 t645,.slice none 0 0]) ?_ 1 _ rfl;refine blk_put (cs:=#[.int .i64 0,.slice none 0 0]) ?_ 0 _ rfl;exact BK677.out⟩
          have n11_:Aside0 (Below w.heap.size w w61):=⟨by rw [hW_];exact be⟩
          (try clear HR671)
          (try clear HR676)
          (try clear HO_4)
          (try clear HO_653001)
          (try clear HO_659001)
          (try clear HO_665001)
          (try clear BK652)
          (try clear BK658)
          (try clear BK664)
          (try clear BK672)
          (try clear BK677)
          (try clear HB)
          rw [← hW_];clear hW_
          have HR671:=n0_;have HR676:=n1_;have HO_4:=n2_;have HO_653001:=n3_;have HO_659001:=n4_;have HO_665001:=n5_;have BK652:=n6_;have BK658:=n7_;have BK664:=n8_;have BK672:=n9_;have BK677:=n10_;have HB:=n11_;clear n0_ n1_ n2_ n3_ n4_ n5_ n6_ n7_ n8_ n9_ n10_ n11_;replace HO_4:=aM (Kd.R_drew HO_4.out);replace HO_653001:=aM (Kd.S_drew HO_653001.out);replace HO_659001:=aM (Kd.S_drew HO_659001.out);replace HO_665001:=aM (Kd.S_drew HO_665001.out);replace BK652:=aM (blk_drew BK652.out);replace BK658:=aM (blk_drew BK658.out);replace BK664:=aM (blk_drew BK664.out);replace BK672:=aM (blk_drew BK672.out);replace BK677:=aM (blk_drew BK677.out);replace HR671:=aM (Kd.C_drew HR671.out);replace HR676:=aM (Kd.C_drew HR676.out);replace HB:=aM (below_drew1 HB.out)
          have p679:0≤(x9_2:Int):=od
          have q679:x9_2 < (t654.length:Int):=od
          obtain ⟨ad679,A679_0,c679_0,e679,hx679_0,hl679_0,hi679_0⟩:=at_T35 (Kd.S_reads' HO_659001.out).2.2 x9_2 p679 q679
          cases e679
          obtain ⟨ce679,hce679,hMe679,hcc679⟩:=Kd.S_get HO_659001.out z35 x9_2 p679 (by exact q679)
          obtain ⟨ve679_0,rfl,ge679_0⟩:=k35_openM hMe679
          have hv679_0:=hcc679 0 _ rfl
          rw [Nat.add_zero,show (k35).sz=1 from rfl,Nat.mul_one] at hv679_0
          replace hv679_0:=Option.some.inj (hv679_0.symm.trans hx679_0)
          rw [hv679_0] at ge679_0
          have HL679_0:=aM (show Kd.R (Kd.int .i64) 3 _ _ _ _ ((rd_T35 t654 x9_2).f0) from ge679_0)
          clear hv679_0 ge679_0 hcc679 hce679
          have HR679_0:=aM hi679_0
          have HC679_0:=aM hl679_0
          clear hi679_0 hl679_0
          replace p679:=eq_true p679
          replace q679:=eq_true q679
          refine start_ (n:=16) (S:=fun w'=>w'.cell? ⟨gb672,0,none⟩=some (.int .i64 t645)∧w'.cell? ⟨gb672,1,none⟩=some (.slice A45 y668.length c45)∧w'.cell? ⟨gb677,0,none⟩=some (.int .i64 t645)∧w'.cell? ⟨gb677,1,none⟩=some (.slice A51 y673.length c51)∧w'.cell? ⟨gb658,0,none⟩=some (.int .i64 t653)∧w'.cell? ⟨gb658,1,none⟩=some (.slice (some ad679) t654.length co17)∧w'.cell? ⟨gb652,0,none⟩=some (.int .i64 t645)∧w'.cell? ⟨gb652,1,none⟩=some (.slice Ao11 t646.length co11)∧w'.cell? (ad679.add (x9_2).toNat)=some (.slice A679_0 ((rd_T35 t654 x9_2).f0).length c679_0)) (ds:=[]) (fl 16 0) (by kernel_rfl) rfl rfl ⟨bq BK672 0,bq BK672 1,bq BK677 0,bq BK677 1,bq BK658 0,bq BK658 1,bq BK652 0,bq BK652 1,hx679_0⟩ (fun hHeld=>?_);refine with_tabW laws_FnRebalanced.tab13 laws_FnRebalanced.bits13 (fun HT_ HW_=>?_)
          generalize w61.drew=w62 at HO_4 HO_653001 HO_659001 HO_665001 BK652 BK658 BK664 BK672 BK677 HR671 HR676 HB HL679_0 HR679_0 hx679_0 hHeld ⊢
          refine tt 0 76 (fl 16 1) HT_ HW_ hHeld ?_
          refine tt 1 77 (fl 16 3) HT_ HW_ hHeld ?_
          refine ot 2 (some 78) (fl 16 7) HT_ (fun K hK=>?_)
          refine goes_ Try.func12 (by kernel_rfl) rfl #[.agg #[.int .i64 t645,.slice A45 y668.length c45],.agg #[.int .i64 t645,.slice A51 y673.length c51]] (by rfl) rfl rfl (by (try simp only [List.map_toArray,List.map_cons,List.map_nil]);rfl) ?_
          with_reducible refine (impl_Moved.calls k2 t645 _ _ y668 t645 _ _ y673 t678 _ ?side1 ?side2 ?side3 ?side4 A55.out).mono ?_
          (case side1=>repeat (exact HR671.out))
          (case side2=>exact HC671.out)
          (case side3=>repeat (exact HR676.out))
          (case side4=>exact HC676.out)
          rintro e w63 ⟨rfl,hb⟩
          have HS8_:=(hb.cell (World.block_lt_of_cell? _ _ (hHeld.2.2.2.2.2.2.2.2))).trans (hHeld.2.2.2.2.2.2.2.2)
          refine ⟨_,rfl,?_⟩
          replace HO_4:=rB HO_4 hb;replace HO_653001:=sB HO_653001 hb;replace HO_659001:=sB HO_659001 hb;replace HO_665001:=sB HO_665001 hb;replace BK652:=bB BK652 hb;replace BK658:=bB BK658 hb;replace BK664:=bB BK664 hb;replace BK672:=bB BK672 hb;replace BK677:=bB BK677 hb;replace HB:=bs hb;clear HR671 HR676;(try clear hb);skip
          refine hK.out _ _ ⟨bq BK672 0,bq BK672 1,bq BK677 0,bq BK677 1,bq BK658 0,bq BK658 1,bq BK652 0,bq BK652 1,HS8_⟩ (fun hHeld=>?_)
          clear hK K
          refine no 78 ?_
          refine pt 3 79 (fl 16 15) HT_ ?_
          refine pt 4 80 (fl 16 31) HT_ ?_
          refine pt 5 81 (fl 16 63) HT_ ?_
          refine pt 7 83 (fl 16 191) HT_ ?_
          refine pt 12 88 (fl 16 4287) HT_ ?_
          refine tt 6 82 (fl 16 4351) HT_ HW_ hHeld ?_
          refine pt 8 84 (fl 16 4607) HT_ ?_
          refine pt 9 85 (fl 16 5119) HT_ ?_
          refine tt 10 86 (fl 16 6143) HT_ HW_ hHeld ?_
          refine pt 11 87 (fl 16 8191) HT_ ?_
          refine tt 13 89 (fl 16 16383) HT_ HW_ hHeld ?_
          refine pt 14 90 (fl 16 32767) HT_ ?_
          refine pt 15 91 (fl 16 65535) HT_ ?_
          refine done_ (done_of HT_.out (by kernel_rfl)) ?_
          try go_wp2
          go_meet
          case rel=>exact ⟨_,(((((rd_T35 t654 x9_2).f0).length:Int) != t645)),rd_,H',⟨by have:=HJ6.out;have:=HK2.out;omega⟩,⟨rR HO_4⟩,⟨rS HO_653001⟩,⟨rS HO_659001⟩,⟨rS HO_665001⟩,⟨bk BK652⟩,⟨bk BK658⟩,⟨bk BK664⟩,⟨be⟩⟩
        case rest=>
         clear HC40
         obtain ⟨kq,x91_39,rfl,HA,HJ39,HO_4,HO_653001,HO_659001,HO_665001,BK652,BK658,BK664,HB⟩:=hcut
         cases kq with
         | zero=>exact absurd HA.out (by simp [laws_FnRebalanced.j2])
         | succ kj39=>
          have H:=HA.out
          clear HA
          simp only [laws_FnRebalanced.j2] at H
          by_cases c64:x91_39=true
          ·subst c64
           rw [if_pos rfl] at H
           exact absurd ((Option.some.inj H).trans hr_.out) (by decide)
          ·replace c64:=Bool.eq_false_iff.mpr c64
           subst c64
           replace H:=(if_neg (show ¬ (false=true) by decide)).symm.trans H
           have H':=Aside0.mk H
           clear H
           go_wp2
           go_loopg [12] kj39 (fun kq v12 w'=>∃ (x12_4:Int),v12 = .int .i64 x12_4∧Aside0 (laws_FnRebalanced.l1 kq t649 t657 x9_2 x12_4 t645 t646 t653 t654=some r)∧Aside0 (kq≤kj39)∧Aside0 (Kd.R k61 61 w' w.heap.size (fun _=>True) (.slice Ao12 t649.length co12) t649)∧Aside0 (Kd.S k35 35 w' w.heap.size (fun k_=>some k_ ≠ ((.slice Ao17 t654.length co17):Value).ownBlock∧some k_ ≠ ((.slice Ao24 t660.length co24):Value).ownBlock) (.slice Ao11 t646.length co11) t646)∧Aside0 (Kd.S k35 35 w' w.heap.size (fun k_=>some k_ ≠ ((.slice Ao11 t646.length co11):Value).ownBlock∧some k_ ≠ ((.slice Ao24 t660.length co24):Value).ownBlock) (.slice Ao17 t654.length co17) t654)∧Aside0 (Kd.S k35 35 w' w.heap.size (fun k_=>some k_ ≠ ((.slice Ao11 t646.length co11):Value).ownBlock∧some k_ ≠ ((.slice Ao17 t654.length co17):Value).ownBlock) (.slice Ao24 t660.length co24) t660)∧Aside0 (w'.heap[gb652]?=some (.cells #[.int .i64 t645,(.slice Ao11 t646.length co11)] 26 (0,0)))∧Aside0 (w'.heap[gb658]?=some (.cells #[.int .i64 t653,(.slice Ao17 t654.length co17)] 26 (0,0)))∧Aside0 (w'.heap[gb664]?=some (.cells #[.int .i64 t659,(.slice Ao24 t660.length co24)] 26 (0,0)))∧Aside0 (Below w.heap.size w w'))
           case atStart=>exact ⟨(0),rd_,H',⟨Nat.le_refl _⟩,⟨rR HO_4⟩,⟨rS HO_653001⟩,⟨rS HO_659001⟩,⟨rS HO_665001⟩,⟨bk BK652⟩,⟨bk BK658⟩,⟨bk BK664⟩,⟨be⟩⟩
           case round=>
            clear H'
            obtain ⟨x12_4,rfl,HA,HK4,HO_4,HO_653001,HO_659001,HO_665001,BK652,BK658,BK664,HB⟩:=hrel
            cases gk with
            | zero=>exact absurd HA.out (by simp [laws_FnRebalanced.l1])
            | succ k4=>
             have H:=HA.out
             clear HA
             simp only [laws_FnRebalanced.l1] at H
             by_cases c65:x12_4 < t645
             ·rw [if_pos c65] at H
              have c65b0:decide (x12_4 < t645)=true:=decide_eq_true c65
              clear c65
              obtain ⟨c66,H⟩:=ifs H
              have c66b0:decide (0≤x9_2)=true:=decide_eq_true c66
              clear c66
              obtain ⟨c67,H⟩:=ifs H
              have c67b0:decide (x9_2 < (t654.length:Int))=true:=decide_eq_true c67
              clear c67
              obtain ⟨c68,H⟩:=ifs H
              have c68b0:=eq_true c68
              have c68b1:decide (0≤x12_4)=true:=decide_eq_true c68
              clear c68
              obtain ⟨c69,H⟩:=ifs H
              have c69b0:=eq_true c69
              have c69b1:decide (x12_4≤(((rd_T35 t654 x9_2).f0).length:Int))=true:=decide_eq_true c69
              clear c69
              obtain ⟨y681,hy681⟩ : ∃ y_:List Int,y_=(((rd_T35 t654 x9_2).f0).take (x12_4:Int).toNat):=⟨_,rfl⟩
              replace H:(if x12_4 < (((rd_T35 t654 x9_2).f0).length:Int) then ((laws_has.f k4 y681 (rd ((rd_T35 t654 x9_2).f0) x12_4)).bind fun t687=>(if t687=true then (some false) else (laws_FnRebalanced.l1 k4 t649 t657 x9_2 (wrap64 (x12_4+1)) t645 t646 t653 t654))) else (none))=some r:=by (rw [hy681];with_reducible exact H)
              have Ny681:=aM hy681
              clear hy681
              obtain ⟨c70,H⟩:=ifs H
              have c70b0:decide (x12_4 < (((rd_T35 t654 x9_2).f0).length:Int))=true:=decide_eq_true c70
              clear c70
              replace H:=Option.bind_eq_some_iff.mp H
              obtain ⟨t687,A710,H⟩:=H
              try dsimp only at H
              have A71:=aM A710
              clear A710
              by_cases c72:t687=true
              ·subst c72
               rw [if_pos rfl] at H
               exact absurd ((Option.some.inj H).trans hr_.out) (by decide)
              ·replace c72:=Bool.eq_false_iff.mpr c72
               subst c72
               replace H:=(if_neg (show ¬ (false=true) by decide)).symm.trans H
               have H':=Aside0.mk H
               clear H
               have hnb73:=NB652_658.out
               have hnc73:=NB658_652.out
               have hnb74:=NB652_664.out
               have hnc74:=NB664_652.out
               obtain ⟨hcz75_0,hcz75_1,hfz75_0,hfz75_1⟩:=b2 BK652
               try go_wp2
               replace HO_4:=aM (Kd.R_drew HO_4.out);replace HO_653001:=aM (Kd.S_drew HO_653001.out);replace HO_659001:=aM (Kd.S_drew HO_659001.out);replace HO_665001:=aM (Kd.S_drew HO_665001.out);replace BK652:=aM (blk_drew BK652.out);replace BK658:=aM (blk_drew BK658.out);replace BK664:=aM (blk_drew BK664.out);replace HB:=aM (below_drew1 HB.out)
               have p680:0≤(x9_2:Int):=od
               have q680:x9_2 < (t654.length:Int):=od
               obtain ⟨ad680,A680_0,c680_0,e680,hx680_0,hl680_0,hi680_0⟩:=at_T35 (Kd.S_reads' HO_659001.out).2.2 x9_2 p680 q680
               cases e680
               obtain ⟨ce680,hce680,hMe680,hcc680⟩:=Kd.S_get HO_659001.out z35 x9_2 p680 (by exact q680)
               obtain ⟨ve680_0,rfl,ge680_0⟩:=k35_openM hMe680
               have hv680_0:=hcc680 0 _ rfl
               rw [Nat.add_zero,show (k35).sz=1 from rfl,Nat.mul_one] at hv680_0
               replace hv680_0:=Option.some.inj (hv680_0.symm.trans hx680_0)
               rw [hv680_0] at ge680_0
               have HL680_0:=aM (show Kd.R (Kd.int .i64) 3 _ _ _ _ ((rd_T35 t654 x9_2).f0) from ge680_0)
               clear hv680_0 ge680_0 hcc680 hce680
               have HR680_0:=aM hi680_0
               have HC680_0:=aM hl680_0
               clear hi680_0 hl680_0
               replace p680:=eq_true p680
               replace q680:=eq_true q680
               have q77:(x12_4:Int)≤((((rd_T35 t654 x9_2).f0).length:Int):Int):=od
               obtain ⟨i077,hi077,_,hsz77,_⟩:=info_parts info3
               have hroom77:((rd_T35 t654 x9_2).f0).length≤c680_0:=HC680_0.out
               have hC77:Kd.C (Kd.int .i64) _ A680_0 ((rd_T35 t654 x9_2).f0).length ((rd_T35 t654 x9_2).f0):=HR680_0.out
               have hcut77:=cut_to (P:=Try.prog) 33 3 .i64 Try.underlying33 hi077 A680_0 ((rd_T35 t654 x9_2).f0).length c680_0 x12_4 od q77 hroom77
               have hr77:=Kd.C_take (m:=(x12_4:Int).toNat) hC77 (by omega)
               have hy77:y681.length=(x12_4:Int).toNat:=(by rw [Ny681.out,List.length_take];omega)
               rw [← Ny681.out] at hr77
               rw [← hy77] at hcut77
               have HR684:=aM hr77
               have HC684:=aM (show y681.length≤c680_0 from by omega)
               clear hr77 hC77 hroom77 hi077 hsz77
               have KY77:=aM hy77
               clear hy77
               replace q77:=eq_true q77
               have p685:0≤(x9_2:Int):=od
               have q685:x9_2 < (t654.length:Int):=od
               obtain ⟨ad685,A685_0,c685_0,e685,hx685_0,hl685_0,hi685_0⟩:=at_T35 (Kd.S_reads' HO_659001.out).2.2 x9_2 p685 q685
               obtain rfl:ad680=ad685:=(by injection e685)
               obtain ⟨ce685,hce685,hMe685,hcc685⟩:=Kd.S_get HO_659001.out z35 x9_2 p685 (by exact q685)
               obtain ⟨ve685_0,rfl,ge685_0⟩:=k35_openM hMe685
               have hv685_0:=hcc685 0 _ rfl
               rw [Nat.add_zero,show (k35).sz=1 from rfl,Nat.mul_one] at hv685_0
               replace hv685_0:=Option.some.inj (hv685_0.symm.trans hx685_0)
               rw [hv685_0] at ge685_0
               have HL685_0:=aM (show Kd.R (Kd.int .i64) 3 _ _ _ _ ((rd_T35 t654 x9_2).f0) from ge685_0)
               clear hv685_0 ge685_0 hcc685 hce685
               have HR685_0:=aM hi685_0
               have HC685_0:=aM hl685_0
               clear hi685_0 hl685_0
               replace p685:=eq_true p685
               replace q685:=eq_true q685
               have ea_:=Option.some.inj (hx680_0.symm.trans hx685_0)
               injection ea_ with ea_ en_ ec_
               subst ea_
               subst ec_
               clear en_
               have p686:0≤(x12_4:Int):=od
               have q686:x12_4 < (((rd_T35 t654 x9_2).f0).length:Int):=od
               obtain ⟨ad686,e686,hx686_0⟩:=Kd.at_int HR685_0.out x12_4 p686 q686
               cases e686
               replace p686:=eq_true p686
               replace q686:=eq_true q686
               refine start_ (n:=18) (S:=fun w'=>w'.cell? ⟨gb658,0,none⟩=some (.int .i64 t653)∧w'.cell? ⟨gb658,1,none⟩=some (.slice (some ad680) t654.length co17)∧w'.cell? (ad680.add (x9_2).toNat)=some (.slice (some ad686) ((rd_T35 t654 x9_2).f0).length c680_0)∧w'.cell? (ad680.add (x9_2).toNat)=some (.slice (some ad686) ((rd_T35 t654 x9_2).f0).length c680_0)∧w'.cell? (ad686.add (x12_4).toNat)=some (.int .i64 (rd ((rd_T35 t654 x9_2).f0) x12_4))) (ds:=[]) (fl 18 0) (by kernel_rfl) rfl rfl ⟨bq BK658 0,bq BK658 1,hx680_0,hx685_0,hx686_0⟩ (fun hHeld=>?_);refine with_tabW laws_FnRebalanced.tab18 laws_FnRebalanced.bits18 (fun HT_ HW_=>?_)
               generalize wr.drew=w76 at HO_4 HO_653001 HO_659001 HO_665001 BK652 BK658 BK664 HB HL680_0 HL685_0 HR680_0 HR684 HR685_0 hx680_0 hx685_0 hx686_0 hHeld ⊢
               refine pt 0 98 (fl 18 1) HT_ ?_
               refine pt 2 100 (fl 18 5) HT_ ?_
               refine pt 6 104 (fl 18 69) HT_ ?_
               refine pt 8 106 (fl 18 325) HT_ ?_
               refine pt 10 108 (fl 18 1349) HT_ ?_
               refine pt 14 112 (fl 18 17733) HT_ ?_
               refine tt 1 99 (fl 18 17735) HT_ HW_ hHeld ?_
               refine pt 3 101 (fl 18 17743) HT_ ?_
               refine pt 4 102 (fl 18 17759) HT_ ?_
               refine tt 5 103 (fl 18 17791) HT_ HW_ hHeld ?_
               refine pt 7 105 (fl 18 17919) HT_ ?_
               refine tt 9 107 (fl 18 18431) HT_ HW_ hHeld ?_
               refine pt 11 109 (fl 18 20479) HT_ ?_
               refine pt 12 110 (fl 18 24575) HT_ ?_
               refine tt 13 111 (fl 18 32767) HT_ HW_ hHeld ?_
               refine pt 15 113 (fl 18 65535) HT_ ?_
               refine tt 16 114 (fl 18 131071) HT_ HW_ hHeld ?_
               refine ot 17 (some 115) (fl 18 262143) HT_ (fun K hK=>?_)
               refine goes_ Try.func13 (by kernel_rfl) rfl #[.slice (some ad686) y681.length c680_0,.int .i64 (rd ((rd_T35 t654 x9_2).f0) x12_4)] (by rfl) rfl rfl (by (try simp only [List.map_toArray,List.map_cons,List.map_nil]);rfl) ?_
               with_reducible refine (laws_has.calls k4 _ _ y681 (rd ((rd_T35 t654 x9_2).f0) x12_4) false _ ?side1 ?side2 A71.out).mono ?_
               (case side1=>repeat (exact HR684.out))
               (case side2=>exact HC684.out)
               rintro e w' ⟨rfl,⟨nd,rfl⟩⟩
               refine ⟨_,rfl,?_⟩
               refine hK.out _ _ ⟨bq BK658 0,bq BK658 1,hHeld.2.2.1,hHeld.2.2.2.1,hHeld.2.2.2.2⟩ (fun hHeld=>?_)
               clear hK K
               refine no 115 ?_
               refine done_ (done_of HT_.out (by kernel_rfl)) ?_
               try go_wp2
               go_roundg k4
               case measure=>have:=HJ6.out;have:=HK2.out;have:=HJ39.out;have:=HK4.out;omega
               case rel=>exact ⟨(wrap64 (x12_4+1)),rd_,H',⟨by have:=HJ6.out;have:=HK2.out;have:=HJ39.out;have:=HK4.out;omega⟩,⟨rR HO_4⟩,⟨rS HO_653001⟩,⟨rS HO_659001⟩,⟨rS HO_665001⟩,⟨bk BK652⟩,⟨bk BK658⟩,⟨bk BK664⟩,⟨be⟩⟩
             ·rw [if_neg c65] at H
              have c65b0:decide (x12_4 < t645)=false:=decide_eq_false c65
              clear c65
              have H':=Aside0.mk H
              clear H
              have hnb78:=NB652_658.out
              have hnc78:=NB658_652.out
              have hnb79:=NB652_664.out
              have hnc79:=NB664_652.out
              obtain ⟨hcz80_0,hcz80_1,hfz80_0,hfz80_1⟩:=b2 BK652
              go_wp2
              go_roundg k4
              case measure=>have:=HJ6.out;have:=HK2.out;have:=HJ39.out;have:=HK4.out;omega
              case rel=>exact ⟨(wrap64 (x9_2+1)),rd_,H',⟨by have:=HJ6.out;have:=HK2.out;have:=HJ39.out;have:=HK4.out;omega⟩,⟨rR HO_4⟩,⟨rS HO_653001⟩,⟨rS HO_659001⟩,⟨rS HO_665001⟩,⟨bk BK652⟩,⟨bk BK658⟩,⟨bk BK664⟩,⟨be⟩⟩
       ·rw [if_neg c33] at H
        have c33b0:decide (x9_2 < (t646.length:Int))=false:=decide_eq_false c33
        clear c33
        replace H:=Option.bind_eq_some_iff.mp H
        obtain ⟨t665,A810,H⟩:=H
        try dsimp only at H
        have A81:=aM A810
        clear A810
        by_cases c82:t665=t657
        ·rw [if_pos c82] at H
         have c82b0:(t665 == t657)=true:=beq_iff_eq.mpr c82
         have c82b1:(t665 != t657)=false:=bne_eq_false_iff_eq.mpr c82
         clear c82
         replace H:=Option.bind_eq_some_iff.mp H
         obtain ⟨t666,A830,H⟩:=H
         try dsimp only at H
         have A83:=aM A830
         clear A830
         by_cases c84:t666=true
         ·subst c84
          rw [if_pos rfl] at H
          replace H:=Option.bind_eq_some_iff.mp H
          obtain ⟨t667,A850,H⟩:=H
          try dsimp only at H
          have A85:=aM A850
          clear A850
          obtain rfl:=Option.some.inj H
          have hnb86:=NB652_658.out
          have hnc86:=NB658_652.out
          have hnb87:=NB652_664.out
          have hnc87:=NB664_652.out
          obtain ⟨hcz88_0,hcz88_1,hfz88_0,hfz88_1⟩:=b2 BK652
          have hnb89:=NB658_664.out
          have hnc89:=NB664_658.out
          obtain ⟨hcz90_0,hcz90_1,hfz90_0,hfz90_1⟩:=b2 BK658
          go_wp2_with (first|((with_reducible refine gate_callee (f:=12) rfl ?_);refine goesL_ (some 118) rfl rfl Try.func12 (by kernel_rfl) rfl #[.agg #[.int .i64 t645,.slice Ao11 t646.length co11],.agg #[.int .i64 t653,.slice Ao17 t654.length co17]] rfl (by (try simp only [List.map_toArray,List.map_cons,List.map_nil]);rfl) ?_;(with_reducible refine (impl_Moved.calls k2 t645 _ _ t646 t653 _ _ t654 t665 _ ?side1 ?side2 ?side3 ?side4 A81.out).mono ?_);(case side1=>exact sS HO_653001);(case side2=>exact (Kd.S_reads' HO_653001.out).2.1);(case side3=>exact sS HO_659001);(case side4=>exact (Kd.S_reads' HO_659001.out).2.1);rintro e w91 ⟨rfl,hb⟩;refine ⟨_,rfl,?_⟩;replace HO_4:=rB HO_4 hb;replace HO_653001:=sB HO_653001 hb;replace HO_659001:=sB HO_659001 hb;replace BK652:=bB BK652 hb;replace BK658:=bB BK658 hb;replace HB:=bs hb;clear HO_665001 BK664;(try clear hb);obtain ⟨hcz92_0,hcz92_1,hfz92_0,hfz92_1⟩:=b2 BK652)|(go_at_call 14;(with_reducible refine (spec_RingOk.calls k2 t645 _ _ t646 _ _ t649 true _ ?side1 ?side2 ?side3 ?side4 A83.out).mono ?_);(case side1=>exact sS HO_653001);(case side2=>exact (Kd.S_reads' HO_653001.out).2.1);(case side3=>exact sR HO_4);(case side4=>exact (Kd.R_reads' HO_4.out).2.1);rintro e w93 ⟨rfl,hb⟩;replace HO_4:=rB HO_4 hb;replace HO_659001:=sB HO_659001 hb;replace BK658:=bB BK658 hb;replace HB:=bs hb;clear HO_653001 BK652;(try clear hb);obtain ⟨hcz94_0,hcz94_1,hfz94_0,hfz94_1⟩:=b2 BK658)|(go_at_call 15;(with_reducible refine (impl_RingOk.calls k2 t653 _ _ t654 _ _ t649 t667 _ ?side1 ?side2 ?side3 ?side4 A85.out).mono ?_);(case side1=>exact sS HO_659001);(case side2=>exact (Kd.S_reads' HO_659001.out).2.1);(case side3=>exact sR HO_4);(case side4=>exact (Kd.R_reads' HO_4.out).2.1);rintro e w95 ⟨rfl,hb⟩;replace HB:=bs hb;clear HO_4 HO_659001 BK658;(try clear hb)))
          go_ret
          exact ⟨rz,be⟩
         ·replace c84:=Bool.eq_false_iff.mpr c84
          subst c84
          replace H:=(if_neg (show ¬ (false=true) by decide)).symm.trans H
          obtain rfl:=Option.some.inj H
          have hnb96:=NB652_658.out
          have hnc96:=NB658_652.out
          have hnb97:=NB652_664.out
          have hnc97:=NB664_652.out
          obtain ⟨hcz98_0,hcz98_1,hfz98_0,hfz98_1⟩:=b2 BK652
          have hnb99:=NB658_664.out
          have hnc99:=NB664_658.out
          obtain ⟨hcz100_0,hcz100_1,hfz100_0,hfz100_1⟩:=b2 BK658
          go_wp2_with (first|((with_reducible refine gate_callee (f:=12) rfl ?_);refine goesL_ (some 118) rfl rfl Try.func12 (by kernel_rfl) rfl #[.agg #[.int .i64 t645,.slice Ao11 t646.length co11],.agg #[.int .i64 t653,.slice Ao17 t654.length co17]] rfl (by (try simp only [List.map_toArray,List.map_cons,List.map_nil]);rfl) ?_;(with_reducible refine (impl_Moved.calls k2 t645 _ _ t646 t653 _ _ t654 t665 _ ?side1 ?side2 ?side3 ?side4 A81.out).mono ?_);(case side1=>exact sS HO_653001);(case side2=>exact (Kd.S_reads' HO_653001.out).2.1);(case side3=>exact sS HO_659001);(case side4=>exact (Kd.S_reads' HO_659001.out).2.1);rintro e w101 ⟨rfl,hb⟩;refine ⟨_,rfl,?_⟩;replace HO_4:=rB HO_4 hb;replace HO_653001:=sB HO_653001 hb;replace BK652:=bB BK652 hb;replace HB:=bs hb;clear HO_659001 HO_665001 BK658 BK664;(try clear hb);obtain ⟨hcz102_0,hcz102_1,hfz102_0,hfz102_1⟩:=b2 BK652)|(go_at_call 14;(with_reducible refine (spec_RingOk.calls k2 t645 _ _ t646 _ _ t649 false _ ?side1 ?side2 ?side3 ?side4 A83.out).mono ?_);(case side1=>exact sS HO_653001);(case side2=>exact (Kd.S_reads' HO_653001.out).2.1);(case side3=>exact sR HO_4);(case side4=>exact (Kd.R_reads' HO_4.out).2.1);rintro e w103 ⟨rfl,hb⟩;replace HB:=bs hb;clear HO_4 HO_653001 BK652;(try clear hb)))
          go_ret
          exact ⟨rz,be⟩
        ·rw [if_neg c82] at H
         have c82b0:(t665 == t657)=false:=beq_eq_false_iff_ne.mpr c82
         have c82b1:(t665 != t657)=true:=bne_iff_ne.mpr c82
         exact absurd ((Option.some.inj H).trans hr_.out) (by decide)
end Go.Proofs.Ytpbjbfimnfghkaa.PFnRebalanced
