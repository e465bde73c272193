/- Trimmed by a program of this session (trim.py). Not trusted: Lean checks it. -/
import Derived.Test.YtnoglmdicdpabaaDoorTLDevsPFnDevsx0
import Derived.Test.YtnoglmdicdpabaaDoorTLDevsPFnDevsx1
import Derived.Test.YtnoglmdicdpabaaDoorTLDevsPFnDevsx2
import Derived.Test.YtnoglmdicdpabaaDoorTLDevsPFnDevsx3
import Derived.Test.YtnoglmdicdpabaaDoorTLDevsPFnDevsx4
import Derived.Test.YtnoglmdicdpabaaDoorTLDevsPFnDevsx5
import Derived.Test.YtnoglmdicdpabaaDoorTLDevsPFnDevsx6
namespace Go.Proofs.YtnoglmdicdpabaaDoor.PFnDevs
open Go.RowKit Go.Proofs.YtnoglmdicdpabaaDoorW.PrintWords Go.Proofs.YtnoglmdicdpabaaDoorW.PrintLast Go.Proofs.YtnoglmdicdpabaaDoorW.PrintMore Go.Proofs.YtnoglmdicdpabaaDoor.St
attribute [local go_sem] max2_int min2_int max_two min_two max_three min_three max_four min_four
set_option linter.unusedVariables false
set_option linter.unusedSimpArgs false
attribute [local go_sem high] eqA53
mutual
def laws_FnDevs.j0:Nat→List (S53)→Bool→Option (Bool)
 | 0,_,_=>none
 | k+1,x3,x45=>if x45=true then (some false) else ((impl_ZonesOf.f k x3).bind fun t269=>(laws_FnDevs.l0 k x3 t269 0))
def laws_FnDevs.l0:Nat→List (S53)→List Int→Int→Option (Bool)
 | 0,_,_,_=>none
 | k+1,x3,x7,x8=>if x8 < (x3.length:Int) then (if 0≤x8 then ((impl_DevAt.f k x3 ((rd_T53 x3 x8).f0)).bind fun bt273=>(if bt273.2.2.2=true then (if (!(bt273.1 == ((rd_T53 x3 x8).f0)) || (!(bt273.2.1 == ((rd_T53 x3 x8).f1)) || (!(bt273.2.2.1 == ((rd_T53 x3 x8).f2)))))=true then (some false) else ((laws_has.f k x7 bt273.2.1).bind fun t279=>(if t279=true then (laws_FnDevs.l0 k x3 x7 (wrap64 (x8+1))) else (some false)))) else (some false))) else (none)) else (laws_FnDevs.l1 k x3 x7 1)
def laws_FnDevs.l1:Nat→List (S53)→List Int→Int→Option (Bool)
 | 0,_,_,_=>none
 | k+1,x3,x7,x11=>if x11 < (x7.length:Int) then (if 0≤(wrap64 (x11 - 1)) then (if (wrap64 (x11 - 1)) < (x7.length:Int) then (if 0≤x11 then (if (rd x7 (wrap64 (x11 - 1))) ≥ (rd x7 x11) then (some false) else (laws_FnDevs.l1 k x3 x7 (wrap64 (x11+1)))) else (none)) else (none)) else (none)) else (if (x7.length:Int) ≥ 1 then (some (decide ((x7.length:Int)≤(x3.length:Int)))) else (some false))
end
def laws_FnDevs.f (k:Nat) (l0:List Int):Option (Bool):=(laws_big.f l0).bind fun t256=>(if t256=true then (some true) else ((spec_DrawDevsText.f k l0).bind fun t257=>((impl_DevsText.f k t257).bind fun t260=>((spec_DevsOk.f k t257).bind fun t261=>(if t261=true then ((impl_ParseDevs.f k t260).bind fun bt263=>(if bt263.2=true then ((laws_sameDevs.f k bt263.1 t257).bind fun t267=>(if t267=true then ((impl_DevsOk.f k t257).bind fun t268=>(laws_FnDevs.j0 k t257 (!t268))) else (laws_FnDevs.j0 k t257 true))) else (laws_FnDevs.j0 k t257 true))) else (if t260.toList=([]:List UInt8) then ((impl_DevsOk.f k t257).bind fun t262=>(some (!t262))) else (some false)))))))
set_option maxHeartbeats 8000000 in
set_option maxRecDepth 100000 in
theorem laws_FnDevs.calls (k:Nat) (A0:Option Addr) (c0:Nat) (l0:List Int) (r:Bool) (w:World) (hL:Aside0 (Laid w)) (hr0:Kd.C (Kd.int .u8) w A0 l0.length l0) (hc0:l0.length≤c0) (h:laws_FnDevs.f k l0=some r) (hr_:Aside0 (r=true)) :
  Calls Tryd.prog 10 #[.slice A0 l0.length c0] w fun e w'=>e = .returned (.bool r)∧Below w.heap.size w w':=by
 have hu53:=Tryd.underlying53
 have HR0:=Aside0.mk hr0
 have HC0:=Aside0.mk hc0
 clear hr0 hc0
 have HB:=Aside0.mk (Below.refl w.heap.size w)
 have H:((laws_big.f l0).bind fun t256=>(if t256=true then (some true) else ((spec_DrawDevsText.f k l0).bind fun t257=>((impl_DevsText.f k t257).bind fun t260=>((spec_DevsOk.f k t257).bind fun t261=>(if t261=true then ((impl_ParseDevs.f k t260).bind fun bt263=>(if bt263.2=true then ((laws_sameDevs.f k bt263.1 t257).bind fun t267=>(if t267=true then ((impl_DevsOk.f k t257).bind fun t268=>(laws_FnDevs.j0 k t257 (!t268))) else (laws_FnDevs.j0 k t257 true))) else (laws_FnDevs.j0 k t257 true))) else (if t260.toList=([]:List UInt8) then ((impl_DevsOk.f k t257).bind fun t262=>(some (!t262))) else (some false))))))))=some r:=h
 clear h
 replace H:=Option.bind_eq_some_iff.mp H
 obtain ⟨t256,A20,H⟩:=H
 try dsimp only at H
 have A2:=Aside0.mk A20
 clear A20
 by_cases c3:t256=true
 ·subst c3
  rw [if_pos rfl] at H
  obtain rfl:=Option.some.inj H
  go_enter Tryd.func10,Tryd.ntmps10
  go_wp2_with (first|(go_at_call 22;(with_reducible refine (laws_big.calls _ _ l0 true _ ?side1 ?side2 A2.out).mono ?_);(case side1=>exact sC HR0);(case side2=>exact HC0.out);rintro e w' ⟨rfl,⟨nd,rfl⟩⟩;(try first|exact ⟨rfl,_,World.drewN_drewN _ _ _⟩|exact ⟨rfl,_,Eq.trans (World.drewN_drewN _ _ _) (congrArg (World.drewN _) (Nat.add_assoc _ _ _))⟩)))
  repeat (go_quiet (first|(go_at_call 22;(with_reducible refine (laws_big.calls _ _ l0 true _ ?side1 ?side2 A2.out).mono ?_);(case side1=>exact sC HR0);(case side2=>exact HC0.out);rintro e w' ⟨rfl,⟨nd,rfl⟩⟩;(try first|exact ⟨rfl,_,World.drewN_drewN _ _ _⟩|exact ⟨rfl,_,Eq.trans (World.drewN_drewN _ _ _) (congrArg (World.drewN _) (Nat.add_assoc _ _ _))⟩)));try go_wp2_with (first|(go_at_call 22;(with_reducible refine (laws_big.calls _ _ l0 true _ ?side1 ?side2 A2.out).mono ?_);(case side1=>exact sC HR0);(case side2=>exact HC0.out);rintro e w' ⟨rfl,⟨nd,rfl⟩⟩;(try first|exact ⟨rfl,_,World.drewN_drewN _ _ _⟩|exact ⟨rfl,_,Eq.trans (World.drewN_drewN _ _ _) (congrArg (World.drewN _) (Nat.add_assoc _ _ _))⟩))))
  go_ret
  exact ⟨rz,be⟩
 ·replace c3:=Bool.eq_false_iff.mpr c3
  subst c3
  have H1:((spec_DrawDevsText.f k l0).bind fun t257=>((impl_DevsText.f k t257).bind fun t260=>((spec_DevsOk.f k t257).bind fun t261=>(if t261=true then ((impl_ParseDevs.f k t260).bind fun bt263=>(if bt263.2=true then ((laws_sameDevs.f k bt263.1 t257).bind fun t267=>(if t267=true then ((impl_DevsOk.f k t257).bind fun t268=>(laws_FnDevs.j0 k t257 (!t268))) else (laws_FnDevs.j0 k t257 true))) else (laws_FnDevs.j0 k t257 true))) else (if t260.toList=([]:List UInt8) then ((impl_DevsOk.f k t257).bind fun t262=>(some (!t262))) else (some false))))))=some r:=by rw [if_neg (show ¬ (false=true) by decide)] at H;exact H
  clear H
  have H:=H1
  clear H1
  replace H:=Option.bind_eq_some_iff.mp H
  obtain ⟨t257,A40,H⟩:=H
  try dsimp only at H
  have A4:=Aside0.mk A40
  clear A40
  replace H:=Option.bind_eq_some_iff.mp H
  obtain ⟨t260,A50,H⟩:=H
  try dsimp only at H
  have A5:=Aside0.mk A50
  clear A50
  replace H:=Option.bind_eq_some_iff.mp H
  obtain ⟨t261,A60,H⟩:=H
  try dsimp only at H
  have A6:=Aside0.mk A60
  clear A60
  by_cases c7:t261=true
  ·subst c7
   rw [if_pos rfl] at H
   replace H:=Option.bind_eq_some_iff.mp H
   obtain ⟨⟨t263,t264⟩,A80,H⟩:=H
   try dsimp only at H
   have A8:=Aside0.mk A80
   clear A80
   have HC9:=Aside0.mk H
   clear H
   go_enter Tryd.func10,Tryd.ntmps10
   go_upto_region 8 with (first|(go_at_call 22;(with_reducible refine (laws_big.calls _ _ l0 false _ ?side1 ?side2 A2.out).mono ?_);(case side1=>exact sC HR0);(case side2=>exact HC0.out);rintro e w' ⟨rfl,⟨nd,rfl⟩⟩;(try first|exact ⟨rfl,_,World.drewN_drewN _ _ _⟩|exact ⟨rfl,_,Eq.trans (World.drewN_drewN _ _ _) (congrArg (World.drewN _) (Nat.add_assoc _ _ _))⟩))|(go_at_call 35;(with_reducible refine (spec_DrawDevsText.calls k _ _ l0 t257 _ ?side1 ?side2 A4.out).mono ?_);(case side1=>exact sC HR0);(case side2=>exact HC0.out);rintro e w10 ⟨v258,rfl,ho0,hb⟩;have n0_:=Aside0.mk (Kd.R_lower ho0 (below_size be));have n1_:=bs hb;clear HB;have HO259:=n0_;have HB:=n1_;clear n0_ n1_;(try clear hb);(try clear hb2);(try clear hk);(try clear hi);(try clear ho0);obtain ⟨Ao11,co11,eo11⟩:=Kd.R_slice HO259.out;subst eo11)|(go_at_call 17;(with_reducible refine (impl_DevsText.calls k _ _ t257 t260 _ ?side3 ?side1 ?side2 A5.out).mono ?_);(case side1=>exact sR HO259);(case side2=>exact (Kd.R_reads' HO259.out).2.1);(case side3=>exact lb hL);rintro e w12 ⟨rfl,hb⟩;have n0_:=Aside0.mk (Kd.R_below ((rR HO259)) hb);have n1_:=bs hb;clear HO259;clear HB;have HO259:=n0_;have HB:=n1_;clear n0_ n1_;(try clear hb);(try clear hb2);(try clear hk);(try clear hi))|(go_at_call 36;(with_reducible refine (spec_DevsOk.calls k _ _ t257 true _ ?side1 ?side2 A6.out).mono ?_);(case side1=>exact sR HO259);(case side2=>exact (Kd.R_reads' HO259.out).2.1);rintro e w13 ⟨rfl,hb⟩;have n0_:=Aside0.mk (Kd.R_below ((rR HO259)) hb);have n1_:=bs hb;clear HO259;clear HB;have HO259:=n0_;have HB:=n1_;clear n0_ n1_;(try clear hb);(try clear hb2);(try clear hk);(try clear hi))|(go_at_call 30;(with_reducible refine (impl_ParseDevs.calls k t260 t263 t264 _ ?side1 A8.out).mono ?_);(case side1=>exact lb hL);rintro e w14 ⟨v265,rfl,ho0,hb⟩;have n0_:=Aside0.mk (Kd.R_elder' (rR HO259) (Kd.R_base ho0) hb);have n1_:=Aside0.mk (Kd.R_lower (Kd.R_new' ho0 (Kd.R_lt (rR HO259))) (below_size be));have n2_:=bs hb;clear HO259;clear HB;have HO259:=n0_;have HO266:=n1_;have HB:=n2_;clear n0_ n1_ n2_;(try clear hb);(try clear hb2);(try clear hk);(try clear hi);(try clear ho0)))
   repeat (go_quiet (first|(go_at_call 22;(with_reducible refine (laws_big.calls _ _ l0 false _ ?side1 ?side2 A2.out).mono ?_);(case side1=>exact sC HR0);(case side2=>exact HC0.out);rintro e w' ⟨rfl,⟨nd,rfl⟩⟩;(try first|exact ⟨rfl,_,World.drewN_drewN _ _ _⟩|exact ⟨rfl,_,Eq.trans (World.drewN_drewN _ _ _) (congrArg (World.drewN _) (Nat.add_assoc _ _ _))⟩))|(go_at_call 35;(with_reducible refine (spec_DrawDevsText.calls k _ _ l0 t257 _ ?side1 ?side2 A4.out).mono ?_);(case side1=>exact sC HR0);(case side2=>exact HC0.out);rintro e w10 ⟨v258,rfl,ho0,hb⟩;have n0_:=Aside0.mk (Kd.R_lower ho0 (below_size be));have n1_:=bs hb;clear HB;have HO259:=n0_;have HB:=n1_;clear n0_ n1_;(try clear hb);(try clear hb2);(try clear hk);(try clear hi);(try clear ho0);obtain ⟨Ao11,co11,eo11⟩:=Kd.R_slice HO259.out;subst eo11)|(go_at_call 17;(with_reducible refine (impl_DevsText.calls k _ _ t257 t260 _ ?side3 ?side1 ?side2 A5.out).mono ?_);(case side1=>exact sR HO259);(case side2=>exact (Kd.R_reads' HO259.out).2.1);(case side3=>exact lb hL);rintro e w12 ⟨rfl,hb⟩;have n0_:=Aside0.mk (Kd.R_below ((rR HO259)) hb);have n1_:=bs hb;clear HO259;clear HB;have HO259:=n0_;have HB:=n1_;clear n0_ n1_;(try clear hb);(try clear hb2);(try clear hk);(try clear hi))|(go_at_call 36;(with_reducible refine (spec_DevsOk.calls k _ _ t257 true _ ?side1 ?side2 A6.out).mono ?_);(case side1=>exact sR HO259);(case side2=>exact (Kd.R_reads' HO259.out).2.1);rintro e w13 ⟨rfl,hb⟩;have n0_:=Aside0.mk (Kd.R_below ((rR HO259)) hb);have n1_:=bs hb;clear HO259;clear HB;have HO259:=n0_;have HB:=n1_;clear n0_ n1_;(try clear hb);(try clear hb2);(try clear hk);(try clear hi))|(go_at_call 30;(with_reducible refine (impl_ParseDevs.calls k t260 t263 t264 _ ?side1 A8.out).mono ?_);(case side1=>exact lb hL);rintro e w14 ⟨v265,rfl,ho0,hb⟩;have n0_:=Aside0.mk (Kd.R_elder' (rR HO259) (Kd.R_base ho0) hb);have n1_:=Aside0.mk (Kd.R_lower (Kd.R_new' ho0 (Kd.R_lt (rR HO259))) (below_size be));have n2_:=bs hb;clear HO259;clear HB;have HO259:=n0_;have HO266:=n1_;have HB:=n2_;clear n0_ n1_ n2_;(try clear hb);(try clear hb2);(try clear hk);(try clear hi);(try clear ho0)));go_upto_region 8 with (first|(go_at_call 22;(with_reducible refine (laws_big.calls _ _ l0 false _ ?side1 ?side2 A2.out).mono ?_);(case side1=>exact sC HR0);(case side2=>exact HC0.out);rintro e w' ⟨rfl,⟨nd,rfl⟩⟩;(try first|exact ⟨rfl,_,World.drewN_drewN _ _ _⟩|exact ⟨rfl,_,Eq.trans (World.drewN_drewN _ _ _) (congrArg (World.drewN _) (Nat.add_assoc _ _ _))⟩))|(go_at_call 35;(with_reducible refine (spec_DrawDevsText.calls k _ _ l0 t257 _ ?side1 ?side2 A4.out).mono ?_);(case side1=>exact sC HR0);(case side2=>exact HC0.out);rintro e w10 ⟨v258,rfl,ho0,hb⟩;have n0_:=Aside0.mk (Kd.R_lower ho0 (below_size be));have n1_:=bs hb;clear HB;have HO259:=n0_;have HB:=n1_;clear n0_ n1_;(try clear hb);(try clear hb2);(try clear hk);(try clear hi);(try clear ho0);obtain ⟨Ao11,co11,eo11⟩:=Kd.R_slice HO259.out;subst eo11)|(go_at_call 17;(with_reducible refine (impl_DevsText.calls k _ _ t257 t260 _ ?side3 ?side1 ?side2 A5.out).mono ?_);(case side1=>exact sR HO259);(case side2=>exact (Kd.R_reads' HO259.out).2.1);(case side3=>exact lb hL);rintro e w12 ⟨rfl,hb⟩;have n0_:=Aside0.mk (Kd.R_below ((rR HO259)) hb);have n1_:=bs hb;clear HO259;clear HB;have HO259:=n0_;have HB:=n1_;clear n0_ n1_;(try clear hb);(try clear hb2);(try clear hk);(try clear hi))|(go_at_call 36;(with_reducible refine (spec_DevsOk.calls k _ _ t257 true _ ?side1 ?side2 A6.out).mono ?_);(case side1=>exact sR HO259);(case side2=>exact (Kd.R_reads' HO259.out).2.1);rintro e w13 ⟨rfl,hb⟩;have n0_:=Aside0.mk (Kd.R_below ((rR HO259)) hb);have n1_:=bs hb;clear HO259;clear HB;have HO259:=n0_;have HB:=n1_;clear n0_ n1_;(try clear hb);(try clear hb2);(try clear hk);(try clear hi))|(go_at_call 30;(with_reducible refine (impl_ParseDevs.calls k t260 t263 t264 _ ?side1 A8.out).mono ?_);(case side1=>exact lb hL);rintro e w14 ⟨v265,rfl,ho0,hb⟩;have n0_:=Aside0.mk (Kd.R_elder' (rR HO259) (Kd.R_base ho0) hb);have n1_:=Aside0.mk (Kd.R_lower (Kd.R_new' ho0 (Kd.R_lt (rR HO259))) (below_size be));have n2_:=bs hb;clear HO259;clear HB;have HO259:=n0_;have HO266:=n1_;have HB:=n2_;clear n0_ n1_ n2_;(try clear hb);(try clear hb2);(try clear hk);(try clear hi);(try clear ho0))))
   (try simp only [Act.put,List.setIfInBounds_toArray,List.set_cons_zero,List.set_cons_succ])
   go_cut [45] (fun v45 wc=>∃ (kq:Nat) (x45_8:Bool),v45 = .bool x45_8∧Aside0 (laws_FnDevs.j0 kq t257 x45_8=some r)∧Aside0 (kq≤k)∧Aside0 (Kd.R k53 53 wc w.heap.size (fun _=>True) (.slice Ao11 t257.length co11) t257)∧Aside0 (Below w.heap.size w wc))
   case first=>
    have H:=HC9.out
    clear HC9
    by_cases c15:t264=true
    ·subst c15
     rw [if_pos rfl] at H
     replace H:=Option.bind_eq_some_iff.mp H
     obtain ⟨t267,A160,H⟩:=H
     try dsimp only at H
     have A16:=Aside0.mk A160
     clear A160
     by_cases c17:t267=true
     ·subst c17
      rw [if_pos rfl] at H
      replace H:=Option.bind_eq_some_iff.mp H
      obtain ⟨t268,A180,H⟩:=H
      try dsimp only at H
      have A18:=Aside0.mk A180
      clear A180
      have H':=Aside0.mk H
      clear H
      obtain ⟨Ao19,co19,eo19⟩:=Kd.R_slice HO266.out
      subst eo19
      go_wp2_with (first|(go_at_call 37;(with_reducible refine (laws_sameDevs.calls k _ _ t263 _ _ t257 true _ ?side1 ?side2 ?side3 ?side4 A16.out).mono ?_);(case side1=>exact sR HO266);(case side2=>exact (Kd.R_reads' HO266.out).2.1);(case side3=>exact sR HO259);(case side4=>exact (Kd.R_reads' HO259.out).2.1);rintro e w' ⟨rfl,⟨nd,rfl⟩⟩;(try first|exact ⟨rfl,_,World.drewN_drewN _ _ _⟩|exact ⟨rfl,_,Eq.trans (World.drewN_drewN _ _ _) (congrArg (World.drewN _) (Nat.add_assoc _ _ _))⟩))|(go_at_call 34;(with_reducible refine (impl_DevsOk.calls k _ _ t257 t268 _ ?side1 ?side2 A18.out).mono ?_);(case side1=>exact sR HO259);(case side2=>exact (Kd.R_reads' HO259.out).2.1);rintro e w20 ⟨rfl,hb⟩;have n0_:=Aside0.mk (Kd.R_below ((rR HO259)) hb);have n1_:=Aside0.mk (Kd.R_below ((rR HO266)) hb);have n2_:=bs hb;clear HO259;clear HO266;clear HB;have HO259:=n0_;have HO266:=n1_;have HB:=n2_;clear n0_ n1_ n2_;(try clear hb);(try clear hb2);(try clear hk);(try clear hi)))
      repeat (go_quiet (first|(go_at_call 37;(with_reducible refine (laws_sameDevs.calls k _ _ t263 _ _ t257 true _ ?side1 ?side2 ?side3 ?side4 A16.out).mono ?_);(case side1=>exact sR HO266);(case side2=>exact (Kd.R_reads' HO266.out).2.1);(case side3=>exact sR HO259);(case side4=>exact (Kd.R_reads' HO259.out).2.1);rintro e w' ⟨rfl,⟨nd,rfl⟩⟩;(try first|exact ⟨rfl,_,World.drewN_drewN _ _ _⟩|exact ⟨rfl,_,Eq.trans (World.drewN_drewN _ _ _) (congrArg (World.drewN _) (Nat.add_assoc _ _ _))⟩))|(go_at_call 34;(with_reducible refine (impl_DevsOk.calls k _ _ t257 t268 _ ?side1 ?side2 A18.out).mono ?_);(case side1=>exact sR HO259);(case side2=>exact (Kd.R_reads' HO259.out).2.1);rintro e w20 ⟨rfl,hb⟩;have n0_:=Aside0.mk (Kd.R_below ((rR HO259)) hb);have n1_:=Aside0.mk (Kd.R_below ((rR HO266)) hb);have n2_:=bs hb;clear HO259;clear HO266;clear HB;have HO259:=n0_;have HO266:=n1_;have HB:=n2_;clear n0_ n1_ n2_;(try clear hb);(try clear hb2);(try clear hk);(try clear hi)));try go_wp2_with (first|(go_at_call 37;(with_reducible refine (laws_sameDevs.calls k _ _ t263 _ _ t257 true _ ?side1 ?side2 ?side3 ?side4 A16.out).mono ?_);(case side1=>exact sR HO266);(case side2=>exact (Kd.R_reads' HO266.out).2.1);(case side3=>exact sR HO259);(case side4=>exact (Kd.R_reads' HO259.out).2.1);rintro e w' ⟨rfl,⟨nd,rfl⟩⟩;(try first|exact ⟨rfl,_,World.drewN_drewN _ _ _⟩|exact ⟨rfl,_,Eq.trans (World.drewN_drewN _ _ _) (congrArg (World.drewN _) (Nat.add_assoc _ _ _))⟩))|(go_at_call 34;(with_reducible refine (impl_DevsOk.calls k _ _ t257 t268 _ ?side1 ?side2 A18.out).mono ?_);(case side1=>exact sR HO259);(case side2=>exact (Kd.R_reads' HO259.out).2.1);rintro e w20 ⟨rfl,hb⟩;have n0_:=Aside0.mk (Kd.R_below ((rR HO259)) hb);have n1_:=Aside0.mk (Kd.R_below ((rR HO266)) hb);have n2_:=bs hb;clear HO259;clear HO266;clear HB;have HO259:=n0_;have HO266:=n1_;have HB:=n2_;clear n0_ n1_ n2_;(try clear hb);(try clear hb2);(try clear hk);(try clear hi))))
      go_meet
      case rel=>exact ⟨_,(!t268),rd_,H',⟨by first|omega|exact Nat.le_refl _⟩,⟨by (with_reducible repeat (first|apply Kd.R_alloc|apply Kd.R_drewN|apply Kd.R_drew));exact Kd.R_mono HO259.out (fun _ hk=>trivial)⟩,⟨be⟩⟩
     ·replace c17:=Bool.eq_false_iff.mpr c17
      subst c17
      have H1:(laws_FnDevs.j0 k t257 true)=some r:=by rw [if_neg (show ¬ (false=true) by decide)] at H;exact H
      clear H
      have H:=H1
      clear H1
      have H':=Aside0.mk H
      clear H
      obtain ⟨Ao21,co21,eo21⟩:=Kd.R_slice HO266.out
      subst eo21
      go_wp2_with (first|(go_at_call 37;(with_reducible refine (laws_sameDevs.calls k _ _ t263 _ _ t257 false _ ?side1 ?side2 ?side3 ?side4 A16.out).mono ?_);(case side1=>exact sR HO266);(case side2=>exact (Kd.R_reads' HO266.out).2.1);(case side3=>exact sR HO259);(case side4=>exact (Kd.R_reads' HO259.out).2.1);rintro e w' ⟨rfl,⟨nd,rfl⟩⟩;(try first|exact ⟨rfl,_,World.drewN_drewN _ _ _⟩|exact ⟨rfl,_,Eq.trans (World.drewN_drewN _ _ _) (congrArg (World.drewN _) (Nat.add_assoc _ _ _))⟩)))
      repeat (go_quiet (first|(go_at_call 37;(with_reducible refine (laws_sameDevs.calls k _ _ t263 _ _ t257 false _ ?side1 ?side2 ?side3 ?side4 A16.out).mono ?_);(case side1=>exact sR HO266);(case side2=>exact (Kd.R_reads' HO266.out).2.1);(case side3=>exact sR HO259);(case side4=>exact (Kd.R_reads' HO259.out).2.1);rintro e w' ⟨rfl,⟨nd,rfl⟩⟩;(try first|exact ⟨rfl,_,World.drewN_drewN _ _ _⟩|exact ⟨rfl,_,Eq.trans (World.drewN_drewN _ _ _) (congrArg (World.drewN _) (Nat.add_assoc _ _ _))⟩)));try go_wp2_with (first|(go_at_call 37;(with_reducible refine (laws_sameDevs.calls k _ _ t263 _ _ t257 false _ ?side1 ?side2 ?side3 ?side4 A16.out).mono ?_);(case side1=>exact sR HO266);(case side2=>exact (Kd.R_reads' HO266.out).2.1);(case side3=>exact sR HO259);(case side4=>exact (Kd.R_reads' HO259.out).2.1);rintro e w' ⟨rfl,⟨nd,rfl⟩⟩;(try first|exact ⟨rfl,_,World.drewN_drewN _ _ _⟩|exact ⟨rfl,_,Eq.trans (World.drewN_drewN _ _ _) (congrArg (World.drewN _) (Nat.add_assoc _ _ _))⟩))))
      go_meet
      case rel=>exact ⟨_,(true),rd_,H',⟨by first|omega|exact Nat.le_refl _⟩,⟨by (with_reducible repeat (first|apply Kd.R_alloc|apply Kd.R_drewN|apply Kd.R_drew));exact Kd.R_mono HO259.out (fun _ hk=>trivial)⟩,⟨be⟩⟩
    ·replace c15:=Bool.eq_false_iff.mpr c15
     subst c15
     have H1:(laws_FnDevs.j0 k t257 true)=some r:=by rw [if_neg (show ¬ (false=true) by decide)] at H;exact H
     clear H
     have H:=H1
     clear H1
     have H':=Aside0.mk H
     clear H
     go_wp2
     repeat (go_quiet (fail);try go_wp2)
     go_meet
     case rel=>exact ⟨_,(true),rd_,H',⟨by first|omega|exact Nat.le_refl _⟩,⟨by (with_reducible repeat (first|apply Kd.R_alloc|apply Kd.R_drewN|apply Kd.R_drew));exact Kd.R_mono HO259.out (fun _ hk=>trivial)⟩,⟨be⟩⟩
   case rest=>
    clear HC9
    try clear c1
    try clear p2
    try clear c3
    try clear c7
    try clear c10
    try clear c15
    try clear c17
    obtain ⟨kq,x45_8,rfl,HA,HJ8,HO_3,HB⟩:=hcut
    cases kq with
    | zero=>exact absurd HA.out (by simp [laws_FnDevs.j0])
    | succ kj8=>
     have H:=HA.out
     clear HA
     simp only [laws_FnDevs.j0] at H
     by_cases c22:x45_8=true
     ·subst c22
      rw [if_pos rfl] at H
      exact absurd ((Option.some.inj H).trans hr_.out) (by decide)
     ·replace c22:=Bool.eq_false_iff.mpr c22
      subst c22
      have H1:((impl_ZonesOf.f kj8 t257).bind fun t269=>(laws_FnDevs.l0 kj8 t257 t269 0))=some r:=by rw [if_neg (show ¬ (false=true) by decide)] at H;exact H
      clear H
      have H:=H1
      clear H1
      replace H:=Option.bind_eq_some_iff.mp H
      obtain ⟨t269,A230,H⟩:=H
      try dsimp only at H
      have A23:=Aside0.mk A230
      clear A230
      have H':=Aside0.mk H
      clear H
      go_wp2_with (first|(go_at_call 38;(with_reducible refine (impl_ZonesOf.calls kj8 _ _ t257 t269 _ ?side1 ?side2 A23.out).mono ?_);(case side1=>exact sR HO_3);(case side2=>exact (Kd.R_reads' HO_3.out).2.1);rintro e w24 ⟨v270,rfl,ho0,hb⟩;have n0_:=Aside0.mk (Kd.R_below ((rR HO_3)) hb);have n1_:=Aside0.mk (Kd.R_lower ho0 (below_size be));have n2_:=bs hb;clear HO_3;clear HB;have HO_3:=n0_;have HO271:=n1_;have HB:=n2_;clear n0_ n1_ n2_;(try clear hb);(try clear hb2);(try clear hk);(try clear hi);(try clear ho0)))
      repeat (go_quiet (first|(go_at_call 38;(with_reducible refine (impl_ZonesOf.calls kj8 _ _ t257 t269 _ ?side1 ?side2 A23.out).mono ?_);(case side1=>exact sR HO_3);(case side2=>exact (Kd.R_reads' HO_3.out).2.1);rintro e w24 ⟨v270,rfl,ho0,hb⟩;have n0_:=Aside0.mk (Kd.R_below ((rR HO_3)) hb);have n1_:=Aside0.mk (Kd.R_lower ho0 (below_size be));have n2_:=bs hb;clear HO_3;clear HB;have HO_3:=n0_;have HO271:=n1_;have HB:=n2_;clear n0_ n1_ n2_;(try clear hb);(try clear hb2);(try clear hk);(try clear hi);(try clear ho0)));try go_wp2_with (first|(go_at_call 38;(with_reducible refine (impl_ZonesOf.calls kj8 _ _ t257 t269 _ ?side1 ?side2 A23.out).mono ?_);(case side1=>exact sR HO_3);(case side2=>exact (Kd.R_reads' HO_3.out).2.1);rintro e w24 ⟨v270,rfl,ho0,hb⟩;have n0_:=Aside0.mk (Kd.R_below ((rR HO_3)) hb);have n1_:=Aside0.mk (Kd.R_lower ho0 (below_size be));have n2_:=bs hb;clear HO_3;clear HB;have HO_3:=n0_;have HO271:=n1_;have HB:=n2_;clear n0_ n1_ n2_;(try clear hb);(try clear hb2);(try clear hk);(try clear hi);(try clear ho0))))
      go_loopg [8] kj8 (fun kq v8 w'=>∃ (x8_2:Int),v8 = .int .i64 x8_2∧Aside0 (laws_FnDevs.l0 kq t257 t269 x8_2=some r)∧Aside0 (kq≤kj8)∧Aside0 (Kd.R k53 53 w' w.heap.size (fun _=>True) (.slice Ao11 t257.length co11) t257)∧Aside0 (Kd.R (Kd.int .i64) 3 w' w.heap.size (fun _=>True) v270 t269)∧Aside0 (Below w.heap.size w w'))
      case atStart=>exact ⟨(0),rd_,H',⟨Nat.le_refl _⟩,⟨rR HO_3⟩,⟨rR HO271⟩,⟨be⟩⟩
      case round=>
       clear H'
       try clear c1
       try clear c2
       try clear p2
       try clear c3
       try clear c7
       try clear c10
       try clear c15
       try clear c17
       try clear c22
       try clear p2
       obtain ⟨x8_2,rfl,HA,HK2,HO_3,HO_7,HB⟩:=hrel
       cases gk with
       | zero=>exact absurd HA.out (by simp [laws_FnDevs.l0])
       | succ k2=>
        have H:=HA.out
        clear HA
        simp only [laws_FnDevs.l0] at H
        by_cases c25:x8_2 < (t257.length:Int)
        ·rw [if_pos c25] at H
         have c25b0:decide (x8_2 < (t257.length:Int))=true:=decide_eq_true c25
         clear c25
         by_cases c26:0≤x8_2
         ·rw [if_pos c26] at H
          have c26b0:decide (0≤x8_2)=true:=decide_eq_true c26
          clear c26
          replace H:=Option.bind_eq_some_iff.mp H
          obtain ⟨⟨t273,t274,t275,t276⟩,A270,H⟩:=H
          try dsimp only at H
          have A27:=Aside0.mk A270
          clear A270
          by_cases c28:t276=true
          ·subst c28
           rw [if_pos rfl] at H
           by_cases c29:(!(t273 == ((rd_T53 t257 x8_2).f0)) || (!(t274 == ((rd_T53 t257 x8_2).f1)) || (!(t275 == ((rd_T53 t257 x8_2).f2)))))=true
           ·rw [if_pos c29] at H
            have c29b0:(!(t273 == ((rd_T53 t257 x8_2).f0)) || (!(t274 == ((rd_T53 t257 x8_2).f1)) || (!(t275 == ((rd_T53 t257 x8_2).f2)))))=true:=c29
            clear c29
            exact absurd ((Option.some.inj H).trans hr_.out) (by decide)
           ·rw [if_neg c29] at H
            have c29b0:(!(t273 == ((rd_T53 t257 x8_2).f0)) || (!(t274 == ((rd_T53 t257 x8_2).f1)) || (!(t275 == ((rd_T53 t257 x8_2).f2)))))=false:=by simpa using c29
            clear c29
            replace H:=Option.bind_eq_some_iff.mp H
            obtain ⟨t279,A300,H⟩:=H
            try dsimp only at H
            have A30:=Aside0.mk A300
            clear A300
            by_cases c31:t279=true
            ·subst c31
             rw [if_pos rfl] at H
             have H':=Aside0.mk H
             clear H
             have p272:0≤(x8_2:Int):=of_decide_eq_true (by first|(with_reducible assumption)|assumption)
             have q272:x8_2 < (t257.length:Int):=of_decide_eq_true (by first|(with_reducible assumption)|assumption)
             obtain ⟨ad272,e272,hx272_0,hx272_1,hx272_2⟩:=at_T53 (Kd.R_reads' HO_3.out).2.2 x8_2 p272 q272
             cases e272
             replace p272:=eq_true p272
             replace q272:=eq_true q272
             go_wp2_with (first|(go_at_call 39;(with_reducible refine (impl_DevAt.calls k2 _ _ t257 ((rd_T53 t257 x8_2).f0) t273 t274 t275 true _ ?side1 ?side2 A27.out).mono ?_);(case side1=>exact sR HO_3);(case side2=>exact (Kd.R_reads' HO_3.out).2.1);rintro e w32 ⟨rfl,hb⟩;have n0_:=Aside0.mk (Kd.R_below ((rR HO_3)) hb);have n1_:=Aside0.mk (Kd.R_below ((rR HO_7)) hb);have n2_:=bs hb;clear HO_3;clear HO_7;clear HB;have HO_3:=n0_;have HO_7:=n1_;have HB:=n2_;clear n0_ n1_ n2_;(try clear hb);(try clear hb2);(try clear hk);(try clear hi))|((with_reducible refine gate_dst (N:=9) rfl ?_);(try (refine gate_guard (by rfl) ?_;dsimp only));refine box_event ?hg (N:=9) ?hd (cs:=#[.int .i64 0,.int .i64 0,.int .i64 0]) (t:=53) ?hr ?_;(case hd=>rfl);(case hg=>rfl);(case hr=>first|(go_simp;done)|(go_simp;rfl));intro gb277 hg w33 hbox hb;have n0_:=Aside0.mk (Kd.R_below (Kd.R_elderB (rR HO_3) gb277 (Nat.le_of_eq hg.symm)) hb);have n1_:=Aside0.mk (Kd.R_below (rR HO_7) hb);have n2_:=bs hb;have n3_:=Aside0.mk (hbox);have n4_:=Aside0.mk ((by rw [hg];exact (below_size be):w.heap.size≤gb277));have n5_:=Aside0.mk ((by rw [hg];exact (below_size be):w.heap.size≤gb277));clear HO_3;clear HO_7;clear HB;have HO_3:=n0_;have HO_7:=n1_;have HB:=n2_;have BK277:=n3_;have GW277:=n4_;have GE277:=n5_;clear n0_ n1_ n2_ n3_ n4_ n5_;clear hb hbox hg;have hcz34_0:w33.cell? ⟨gb277,0,none⟩=some (.int .i64 0):=(blk_cell BK277.out 0).trans rfl;have hcz34_1:w33.cell? ⟨gb277,1,none⟩=some (.int .i64 0):=(blk_cell BK277.out 1).trans rfl;have hcz34_2:w33.cell? ⟨gb277,2,none⟩=some (.int .i64 0):=(blk_cell BK277.out 2).trans rfl;have hfz34_0:=blk_frozen BK277.out 0;have hfz34_1:=blk_frozen BK277.out 1;have hfz34_2:=blk_frozen BK277.out 2;have p278:0≤(x8_2:Int):=of_decide_eq_true (by first|(with_reducible assumption)|assumption);have q278:x8_2 < (t257.length:Int):=of_decide_eq_true (by first|(with_reducible assumption)|assumption);obtain ⟨ad278,e278,hx278_0,hx278_1,hx278_2⟩:=at_T53 (Kd.R_reads' HO_3.out).2.2 x8_2 p278 q278;obtain rfl:ad272=ad278:=(by injection e278);have hn278_0:ad272.block ≠ gb277:=(HO_3.out.1 _ rfl).2;have hn278_1:ad272.block ≠ gb277:=(HO_3.out.1 _ rfl).2;have hn278_2:ad272.block ≠ gb277:=(HO_3.out.1 _ rfl).2;replace hx278_0:=(cell_far (p:=⟨gb277,0,none⟩) (by first|(rw [add_block];exact hn278_0)|(show (Addr.add _ _).block ≠ _;rw [add_block];exact hn278_0)|exact hn278_0) (.int .i64 t273)).trans hx278_0;replace hx278_1:=(cell_far (p:=⟨gb277,0,none⟩) (by first|(rw [add_block];exact hn278_0)|(show (Addr.add _ _).block ≠ _;rw [add_block];exact hn278_0)|exact hn278_0) (.int .i64 t273)).trans hx278_1;replace hx278_2:=(cell_far (p:=⟨gb277,0,none⟩) (by first|(rw [add_block];exact hn278_0)|(show (Addr.add _ _).block ≠ _;rw [add_block];exact hn278_0)|exact hn278_0) (.int .i64 t273)).trans hx278_2;replace hx278_0:=(cell_far (p:=⟨gb277,1,none⟩) (by first|(rw [add_block];exact hn278_1)|(show (Addr.add _ _).block ≠ _;rw [add_block];exact hn278_1)|exact hn278_1) (.int .i64 t274)).trans hx278_0;replace hx278_1:=(cell_far (p:=⟨gb277,1,none⟩) (by first|(rw [add_block];exact hn278_1)|(show (Addr.add _ _).block ≠ _;rw [add_block];exact hn278_1)|exact hn278_1) (.int .i64 t274)).trans hx278_1;replace hx278_2:=(cell_far (p:=⟨gb277,1,none⟩) (by first|(rw [add_block];exact hn278_1)|(show (Addr.add _ _).block ≠ _;rw [add_block];exact hn278_1)|exact hn278_1) (.int .i64 t274)).trans hx278_2;replace hx278_0:=(cell_far (p:=⟨gb277,2,none⟩) (by first|(rw [add_block];exact hn278_2)|(show (Addr.add _ _).block ≠ _;rw [add_block];exact hn278_2)|exact hn278_2) (.int .i64 t275)).trans hx278_0;replace hx278_1:=(cell_far (p:=⟨gb277,2,none⟩) (by first|(rw [add_block];exact hn278_2)|(show (Addr.add _ _).block ≠ _;rw [add_block];exact hn278_2)|exact hn278_2) (.int .i64 t275)).trans hx278_1;replace hx278_2:=(cell_far (p:=⟨gb277,2,none⟩) (by first|(rw [add_block];exact hn278_2)|(show (Addr.add _ _).block ≠ _;rw [add_block];exact hn278_2)|exact hn278_2) (.int .i64 t275)).trans hx278_2;(try have hy278_0:=fun (n_:Nat)=>(show (((((w33.drewN n_).setCell ⟨gb277,0,none⟩ (.int .i64 t273)).setCell ⟨gb277,1,none⟩ (.int .i64 t274)).setCell ⟨gb277,2,none⟩ (.int .i64 t275))).cell? _=some _ from hx278_0));(try have hy278_1:=fun (n_:Nat)=>(show (((((w33.drewN n_).setCell ⟨gb277,0,none⟩ (.int .i64 t273)).setCell ⟨gb277,1,none⟩ (.int .i64 t274)).setCell ⟨gb277,2,none⟩ (.int .i64 t275))).cell? _=some _ from hx278_1));(try have hy278_2:=fun (n_:Nat)=>(show (((((w33.drewN n_).setCell ⟨gb277,0,none⟩ (.int .i64 t273)).setCell ⟨gb277,1,none⟩ (.int .i64 t274)).setCell ⟨gb277,2,none⟩ (.int .i64 t275))).cell? _=some _ from hx278_2));clear hn278_0;clear hn278_1;clear hn278_2;replace p278:=eq_true p278;replace q278:=eq_true q278;obtain ⟨Ao35,co35,eo35⟩:=Kd.R_slice HO_7.out;subst eo35)|(go_at_call 40;(with_reducible refine (laws_has.calls k2 _ _ t269 t274 true _ ?side1 ?side2 A30.out).mono ?_);(case side1=>refine (Kd.R_reads' (e:=3) (base:=w.heap.size) (ok:=fun k_=>True) (n:=t269.length) (c:=co35) ?_).2.2;exact (by (with_reducible repeat (first|apply Kd.R_alloc|apply Kd.R_drewN|apply Kd.R_drew));exact (Kd.R_mono (Kd.R_far (p:=⟨gb277,2,none⟩) (Kd.R_far (p:=⟨gb277,1,none⟩) (Kd.R_far (p:=⟨gb277,0,none⟩) (Kd.R_types HO_7.out BK277.out (by decide)) (fun _ hk=>hk.2) (.int .i64 t273)) (fun _ hk=>hk.2) (.int .i64 t274)) (fun _ hk=>hk.2) (.int .i64 t275)) (fun _ h_=>h_.1))));(case side2=>exact (Kd.R_reads' HO_7.out).2.1);rintro e w' ⟨rfl,⟨nd,rfl⟩⟩;(try first|exact ⟨rfl,_,World.drewN_drewN _ _ _⟩|exact ⟨rfl,_,Eq.trans (World.drewN_drewN _ _ _) (congrArg (World.drewN _) (Nat.add_assoc _ _ _))⟩)))
             repeat (go_quiet (first|(go_at_call 39;(with_reducible refine (impl_DevAt.calls k2 _ _ t257 ((rd_T53 t257 x8_2).f0) t273 t274 t275 true _ ?side1 ?side2 A27.out).mono ?_);(case side1=>exact sR HO_3);(case side2=>exact (Kd.R_reads' HO_3.out).2.1);rintro e w32 ⟨rfl,hb⟩;have n0_:=Aside0.mk (Kd.R_below ((rR HO_3)) hb);have n1_:=Aside0.mk (Kd.R_below ((rR HO_7)) hb);have n2_:=bs hb;clear HO_3;clear HO_7;clear HB;have HO_3:=n0_;have HO_7:=n1_;have HB:=n2_;clear n0_ n1_ n2_;(try clear hb);(try clear hb2);(try clear hk);(try clear hi))|((with_reducible refine gate_dst (N:=9) rfl ?_);(try (refine gate_guard (by rfl) ?_;dsimp only));refine box_event ?hg (N:=9) ?hd (cs:=#[.int .i64 0,.int .i64 0,.int .i64 0]) (t:=53) ?hr ?_;(case hd=>rfl);(case hg=>rfl);(case hr=>first|(go_simp;done)|(go_simp;rfl));intro gb277 hg w33 hbox hb;have n0_:=Aside0.mk (Kd.R_below (Kd.R_elderB (rR HO_3) gb277 (Nat.le_of_eq hg.symm)) hb);have n1_:=Aside0.mk (Kd.R_below (rR HO_7) hb);have n2_:=bs hb;have n3_:=Aside0.mk (hbox);have n4_:=Aside0.mk ((by rw [hg];exact (below_size be):w.heap.size≤gb277));have n5_:=Aside0.mk ((by rw [hg];exact (below_size be):w.heap.size≤gb277));clear HO_3;clear HO_7;clear HB;have HO_3:=n0_;have HO_7:=n1_;have HB:=n2_;have BK277:=n3_;have GW277:=n4_;have GE277:=n5_;clear n0_ n1_ n2_ n3_ n4_ n5_;clear hb hbox hg;have hcz34_0:w33.cell? ⟨gb277,0,none⟩=some (.int .i64 0):=(blk_cell BK277.out 0).trans rfl;have hcz34_1:w33.cell? ⟨gb277,1,none⟩=some (.int .i64 0):=(blk_cell BK277.out 1).trans rfl;have hcz34_2:w33.cell? ⟨gb277,2,none⟩=some (.int .i64 0):=(blk_cell BK277.out 2).trans rfl;have hfz34_0:=blk_frozen BK277.out 0;have hfz34_1:=blk_frozen BK277.out 1;have hfz34_2:=blk_frozen BK277.out 2;have p278:0≤(x8_2:Int):=of_decide_eq_true (by first|(with_reducible assumption)|assumption);have q278:x8_2 < (t257.length:Int):=of_decide_eq_true (by first|(with_reducible assumption)|assumption);obtain ⟨ad278,e278,hx278_0,hx278_1,hx278_2⟩:=at_T53 (Kd.R_reads' HO_3.out).2.2 x8_2 p278 q278;obtain rfl:ad272=ad278:=(by injection e278);have hn278_0:ad272.block ≠ gb277:=(HO_3.out.1 _ rfl).2;have hn278_1:ad272.block ≠ gb277:=(HO_3.out.1 _ rfl).2;have hn278_2:ad272.block ≠ gb277:=(HO_3.out.1 _ rfl).2;replace hx278_0:=(cell_far (p:=⟨gb277,0,none⟩) (by first|(rw [add_block];exact hn278_0)|(show (Addr.add _ _).block ≠ _;rw [add_block];exact hn278_0)|exact hn278_0) (.int .i64 t273)).trans hx278_0;replace hx278_1:=(cell_far (p:=⟨gb277,0,none⟩) (by first|(rw [add_block];exact hn278_0)|(show (Addr.add _ _).block ≠ _;rw [add_block];exact hn278_0)|exact hn278_0) (.int .i64 t273)).trans hx278_1;replace hx278_2:=(cell_far (p:=⟨gb277,0,none⟩) (by first|(rw [add_block];exact hn278_0)|(show (Addr.add _ _).block ≠ _;rw [add_block];exact hn278_0)|exact hn278_0) (.int .i64 t273)).trans hx278_2;replace hx278_0:=(cell_far (p:=⟨gb277,1,none⟩) (by first|(rw [add_block];exact hn278_1)|(show (Addr.add _ _).block ≠ _;rw [add_block];exact hn278_1)|exact hn278_1) (.int .i64 t274)).trans hx278_0;replace hx278_1:=(cell_far (p:=⟨gb277,1,none⟩) (by first|(rw [add_block];exact hn278_1)|(show (Addr.add _ _).block ≠ _;rw [add_block];exact hn278_1)|exact hn278_1) (.int .i64 t274)).trans hx278_1;replace hx278_2:=(cell_far (p:=⟨gb277,1,none⟩) (by first|(rw [add_block];exact hn278_1)|(show (Addr.add _ _).block ≠ _;rw [add_block];exact hn278_1)|exact hn278_1) (.int .i64 t274)).trans hx278_2;replace hx278_0:=(cell_far (p:=⟨gb277,2,none⟩) (by first|(rw [add_block];exact hn278_2)|(show (Addr.add _ _).block ≠ _;rw [add_block];exact hn278_2)|exact hn278_2) (.int .i64 t275)).trans hx278_0;replace hx278_1:=(cell_far (p:=⟨gb277,2,none⟩) (by first|(rw [add_block];exact hn278_2)|(show (Addr.add _ _).block ≠ _;rw [add_block];exact hn278_2)|exact hn278_2) (.int .i64 t275)).trans hx278_1;replace hx278_2:=(cell_far (p:=⟨gb277,2,none⟩) (by first|(rw [add_block];exact hn278_2)|(show (Addr.add _ _).block ≠ _;rw [add_block];exact hn278_2)|exact hn278_2) (.int .i64 t275)).trans hx278_2;(try have hy278_0:=fun (n_:Nat)=>(show (((((w33.drewN n_).setCell ⟨gb277,0,none⟩ (.int .i64 t273)).setCell ⟨gb277,1,none⟩ (.int .i64 t274)).setCell ⟨gb277,2,none⟩ (.int .i64 t275))).cell? _=some _ from hx278_0));(try have hy278_1:=fun (n_:Nat)=>(show (((((w33.drewN n_).setCell ⟨gb277,0,none⟩ (.int .i64 t273)).setCell ⟨gb277,1,none⟩ (.int .i64 t274)).setCell ⟨gb277,2,none⟩ (.int .i64 t275))).cell? _=some _ from hx278_1));(try have hy278_2:=fun (n_:Nat)=>(show (((((w33.drewN n_).setCell ⟨gb277,0,none⟩ (.int .i64 t273)).setCell ⟨gb277,1,none⟩ (.int .i64 t274)).setCell ⟨gb277,2,none⟩ (.int .i64 t275))).cell? _=some _ from hx278_2));clear hn278_0;clear hn278_1;clear hn278_2;replace p278:=eq_true p278;replace q278:=eq_true q278;obtain ⟨Ao35,co35,eo35⟩:=Kd.R_slice HO_7.out;subst eo35)|(go_at_call 40;(with_reducible refine (laws_has.calls k2 _ _ t269 t274 true _ ?side1 ?side2 A30.out).mono ?_);(case side1=>refine (Kd.R_reads' (e:=3) (base:=w.heap.size) (ok:=fun k_=>True) (n:=t269.length) (c:=co35) ?_).2.2;exact (by (with_reducible repeat (first|apply Kd.R_alloc|apply Kd.R_drewN|apply Kd.R_drew));exact (Kd.R_mono (Kd.R_far (p:=⟨gb277,2,none⟩) (Kd.R_far (p:=⟨gb277,1,none⟩) (Kd.R_far (p:=⟨gb277,0,none⟩) (Kd.R_types HO_7.out BK277.out (by decide)) (fun _ hk=>hk.2) (.int .i64 t273)) (fun _ hk=>hk.2) (.int .i64 t274)) (fun _ hk=>hk.2) (.int .i64 t275)) (fun _ h_=>h_.1))));(case side2=>exact (Kd.R_reads' HO_7.out).2.1);rintro e w' ⟨rfl,⟨nd,rfl⟩⟩;(try first|exact ⟨rfl,_,World.drewN_drewN _ _ _⟩|exact ⟨rfl,_,Eq.trans (World.drewN_drewN _ _ _) (congrArg (World.drewN _) (Nat.add_assoc _ _ _))⟩)));try go_wp2_with (first|(go_at_call 39;(with_reducible refine (impl_DevAt.calls k2 _ _ t257 ((rd_T53 t257 x8_2).f0) t273 t274 t275 true _ ?side1 ?side2 A27.out).mono ?_);(case side1=>exact sR HO_3);(case side2=>exact (Kd.R_reads' HO_3.out).2.1);rintro e w32 ⟨rfl,hb⟩;have n0_:=Aside0.mk (Kd.R_below ((rR HO_3)) hb);have n1_:=Aside0.mk (Kd.R_below ((rR HO_7)) hb);have n2_:=bs hb;clear HO_3;clear HO_7;clear HB;have HO_3:=n0_;have HO_7:=n1_;have HB:=n2_;clear n0_ n1_ n2_;(try clear hb);(try clear hb2);(try clear hk);(try clear hi))|((with_reducible refine gate_dst (N:=9) rfl ?_);(try (refine gate_guard (by rfl) ?_;dsimp only));refine box_event ?hg (N:=9) ?hd (cs:=#[.int .i64 0,.int .i64 0,.int .i64 0]) (t:=53) ?hr ?_;(case hd=>rfl);(case hg=>rfl);(case hr=>first|(go_simp;done)|(go_simp;rfl));intro gb277 hg w33 hbox hb;have n0_:=Aside0.mk (Kd.R_below (Kd.R_elderB (rR HO_3) gb277 (Nat.le_of_eq hg.symm)) hb);have n1_:=Aside0.mk (Kd.R_below (rR HO_7) hb);have n2_:=bs hb;have n3_:=Aside0.mk (hbox);have n4_:=Aside0.mk ((by rw [hg];exact (below_size be):w.heap.size≤gb277));have n5_:=Aside0.mk ((by rw [hg];exact (below_size be):w.heap.size≤gb277));clear HO_3;clear HO_7;clear HB;have HO_3:=n0_;have HO_7:=n1_;have HB:=n2_;have BK277:=n3_;have GW277:=n4_;have GE277:=n5_;clear n0_ n1_ n2_ n3_ n4_ n5_;clear hb hbox hg;have hcz34_0:w33.cell? ⟨gb277,0,none⟩=some (.int .i64 0):=(blk_cell BK277.out 0).trans rfl;have hcz34_1:w33.cell? ⟨gb277,1,none⟩=some (.int .i64 0):=(blk_cell BK277.out 1).trans rfl;have hcz34_2:w33.cell? ⟨gb277,2,none⟩=some (.int .i64 0):=(blk_cell BK277.out 2).trans rfl;have hfz34_0:=blk_frozen BK277.out 0;have hfz34_1:=blk_frozen BK277.out 1;have hfz34_2:=blk_frozen BK277.out 2;have p278:0≤(x8_2:Int):=of_decide_eq_true (by first|(with_reducible assumption)|assumption);have q278:x8_2 < (t257.length:Int):=of_decide_eq_true (by first|(with_reducible assumption)|assumption);obtain ⟨ad278,e278,hx278_0,hx278_1,hx278_2⟩:=at_T53 (Kd.R_reads' HO_3.out).2.2 x8_2 p278 q278;obtain rfl:ad272=ad278:=(by injection e278);have hn278_0:ad272.block ≠ gb277:=(HO_3.out.1 _ rfl).2;have hn278_1:ad272.block ≠ gb277:=(HO_3.out.1 _ rfl).2;have hn278_2:ad272.block ≠ gb277:=(HO_3.out.1 _ rfl).2;replace hx278_0:=(cell_far (p:=⟨gb277,0,none⟩) (by first|(rw [add_block];exact hn278_0)|(show (Addr.add _ _).block ≠ _;rw [add_block];exact hn278_0)|exact hn278_0) (.int .i64 t273)).trans hx278_0;replace hx278_1:=(cell_far (p:=⟨gb277,0,none⟩) (by first|(rw [add_block];exact hn278_0)|(show (Addr.add _ _).block ≠ _;rw [add_block];exact hn278_0)|exact hn278_0) (.int .i64 t273)).trans hx278_1;replace hx278_2:=(cell_far (p:=⟨gb277,0,none⟩) (by first|(rw [add_block];exact hn278_0)|(show (Addr.add _ _).block ≠ _;rw [add_block];exact hn278_0)|exact hn278_0) (.int .i64 t273)).trans hx278_2;replace hx278_0:=(cell_far (p:=⟨gb277,1,none⟩) (by first|(rw [add_block];exact hn278_1)|(show (Addr.add _ _).block ≠ _;rw [add_block];exact hn278_1)|exact hn278_1) (.int .i64 t274)).trans hx278_0;replace hx278_1:=(cell_far (p:=⟨gb277,1,none⟩) (by first|(rw [add_block];exact hn278_1)|(show (Addr.add _ _).block ≠ _;rw [add_block];exact hn278_1)|exact hn278_1) (.int .i64 t274)).trans hx278_1;replace hx278_2:=(cell_far (p:=⟨gb277,1,none⟩) (by first|(rw [add_block];exact hn278_1)|(show (Addr.add _ _).block ≠ _;rw [add_block];exact hn278_1)|exact hn278_1) (.int .i64 t274)).trans hx278_2;replace hx278_0:=(cell_far (p:=⟨gb277,2,none⟩) (by first|(rw [add_block];exact hn278_2)|(show (Addr.add _ _).block ≠ _;rw [add_block];exact hn278_2)|exact hn278_2) (.int .i64 t275)).trans hx278_0;replace hx278_1:=(cell_far (p:=⟨gb277,2,none⟩) (by first|(rw [add_block];exact hn278_2)|(show (Addr.add _ _).block ≠ _;rw [add_block];exact hn278_2)|exact hn278_2) (.int .i64 t275)).trans hx278_1;replace hx278_2:=(cell_far (p:=⟨gb277,2,none⟩) (by first|(rw [add_block];exact hn278_2)|(show (Addr.add _ _).block ≠ _;rw [add_block];exact hn278_2)|exact hn278_2) (.int .i64 t275)).trans hx278_2;(try have hy278_0:=fun (n_:Nat)=>(show (((((w33.drewN n_).setCell ⟨gb277,0,none⟩ (.int .i64 t273)).setCell ⟨gb277,1,none⟩ (.int .i64 t274)).setCell ⟨gb277,2,none⟩ (.int .i64 t275))).cell? _=some _ from hx278_0));(try have hy278_1:=fun (n_:Nat)=>(show (((((w33.drewN n_).setCell ⟨gb277,0,none⟩ (.int .i64 t273)).setCell ⟨gb277,1,none⟩ (.int .i64 t274)).setCell ⟨gb277,2,none⟩ (.int .i64 t275))).cell? _=some _ from hx278_1));(try have hy278_2:=fun (n_:Nat)=>(show (((((w33.drewN n_).setCell ⟨gb277,0,none⟩ (.int .i64 t273)).setCell ⟨gb277,1,none⟩ (.int .i64 t274)).setCell ⟨gb277,2,none⟩ (.int .i64 t275))).cell? _=some _ from hx278_2));clear hn278_0;clear hn278_1;clear hn278_2;replace p278:=eq_true p278;replace q278:=eq_true q278;obtain ⟨Ao35,co35,eo35⟩:=Kd.R_slice HO_7.out;subst eo35)|(go_at_call 40;(with_reducible refine (laws_has.calls k2 _ _ t269 t274 true _ ?side1 ?side2 A30.out).mono ?_);(case side1=>refine (Kd.R_reads' (e:=3) (base:=w.heap.size) (ok:=fun k_=>True) (n:=t269.length) (c:=co35) ?_).2.2;exact (by (with_reducible repeat (first|apply Kd.R_alloc|apply Kd.R_drewN|apply Kd.R_drew));exact (Kd.R_mono (Kd.R_far (p:=⟨gb277,2,none⟩) (Kd.R_far (p:=⟨gb277,1,none⟩) (Kd.R_far (p:=⟨gb277,0,none⟩) (Kd.R_types HO_7.out BK277.out (by decide)) (fun _ hk=>hk.2) (.int .i64 t273)) (fun _ hk=>hk.2) (.int .i64 t274)) (fun _ hk=>hk.2) (.int .i64 t275)) (fun _ h_=>h_.1))));(case side2=>exact (Kd.R_reads' HO_7.out).2.1);rintro e w' ⟨rfl,⟨nd,rfl⟩⟩;(try first|exact ⟨rfl,_,World.drewN_drewN _ _ _⟩|exact ⟨rfl,_,Eq.trans (World.drewN_drewN _ _ _) (congrArg (World.drewN _) (Nat.add_assoc _ _ _))⟩))))
             go_roundg k2
             case measure=>have:=HJ8.out;have:=HK2.out;omega
             case rel=>exact ⟨(wrap64 (x8_2+1)),rd_,H',⟨by have:=HJ8.out;have:=HK2.out;omega⟩,⟨by (with_reducible repeat (first|apply Kd.R_alloc|apply Kd.R_drewN|apply Kd.R_drew));exact Kd.R_mono (Kd.R_far (p:=⟨gb277,2,none⟩) (Kd.R_far (p:=⟨gb277,1,none⟩) (Kd.R_far (p:=⟨gb277,0,none⟩) (Kd.R_mono HO_3.out (fun k_ hk=>(⟨hk,hk.2⟩:_∧k_ ≠ gb277))) (fun _ hk=>hk.2) (.int .i64 t273)) (fun _ hk=>hk.2) (.int .i64 t274)) (fun _ hk=>hk.2) (.int .i64 t275)) (fun _ hk=>trivial)⟩,⟨by (with_reducible repeat (first|apply Kd.R_alloc|apply Kd.R_drewN|apply Kd.R_drew));exact Kd.R_mono (Kd.R_far (p:=⟨gb277,2,none⟩) (Kd.R_far (p:=⟨gb277,1,none⟩) (Kd.R_far (p:=⟨gb277,0,none⟩) (Kd.R_types HO_7.out BK277.out (by decide)) (fun _ hk=>hk.2) (.int .i64 t273)) (fun _ hk=>hk.2) (.int .i64 t274)) (fun _ hk=>hk.2) (.int .i64 t275)) (fun _ hk=>trivial)⟩,⟨be⟩⟩
            ·replace c31:=Bool.eq_false_iff.mpr c31
             subst c31
             have H1:(some false)=some r:=by rw [if_neg (show ¬ (false=true) by decide)] at H;exact H
             clear H
             have H:=H1
             clear H1
             exact absurd ((Option.some.inj H).trans hr_.out) (by decide)
          ·replace c28:=Bool.eq_false_iff.mpr c28
           subst c28
           have H1:(some false)=some r:=by rw [if_neg (show ¬ (false=true) by decide)] at H;exact H
           clear H
           have H:=H1
           clear H1
           exact absurd ((Option.some.inj H).trans hr_.out) (by decide)
         ·rw [if_neg c26] at H
          exact absurd H (by simp)
        ·rw [if_neg c25] at H
         have c25b0:decide (x8_2 < (t257.length:Int))=false:=decide_eq_false c25
         clear c25
         have H':=Aside0.mk H
         clear H
         go_wp2
         repeat (go_quiet (fail);try go_wp2)
         go_loopg [11] k2 (fun kq v11 w'=>∃ (x11_3:Int),v11 = .int .i64 x11_3∧Aside0 (laws_FnDevs.l1 kq t257 t269 x11_3=some r)∧Aside0 (kq≤k2)∧Aside0 (Kd.R k53 53 w' w.heap.size (fun _=>True) (.slice Ao11 t257.length co11) t257)∧Aside0 (Kd.R (Kd.int .i64) 3 w' w.heap.size (fun _=>True) v270 t269)∧Aside0 (Below w.heap.size w w'))
         case atStart=>exact ⟨(1),rd_,H',⟨Nat.le_refl _⟩,⟨rR HO_3⟩,⟨rR HO_7⟩,⟨be⟩⟩
         case round=>
          clear H'
          try clear c1
          try clear c2
          try clear p2
          try clear q2
          try clear hx2
          try clear c3
          try clear p6
          try clear c7
          try clear c10
          try clear c15
          try clear c17
          try clear c22
          try clear c25
          try clear c25b0
          try clear c26
          try clear c26b0
          try clear p27
          try clear q27
          try clear hx27
          try clear c28
          try clear c29
          try clear c29b0
          try clear c31
          try clear hcz34_0
          try clear hcz34_1
          try clear hcz34_2
          try clear hfz34_0
          try clear hfz34_1
          try clear hfz34_2
          try clear hx272_0
          try clear hx272_1
          try clear hx272_2
          try clear hx278_0
          try clear hx278_1
          try clear hx278_2
          try clear p2
          try clear p272
          try clear p278
          try clear q272
          try clear q278
          obtain ⟨x11_3,rfl,HA,HK3,HO_3,HO_7,HB⟩:=hrel
          cases gk with
          | zero=>exact absurd HA.out (by simp [laws_FnDevs.l1])
          | succ k3=>
           have H:=HA.out
           clear HA
           simp only [laws_FnDevs.l1] at H
           by_cases c36:x11_3 < (t269.length:Int)
           ·rw [if_pos c36] at H
            have c36b0:decide (x11_3 < (t269.length:Int))=true:=decide_eq_true c36
            clear c36
            obtain ⟨ji37,hji37⟩ : ∃ j_:Int,(wrap64 (x11_3 - 1))=j_:=⟨_,rfl⟩
            replace H:(if 0≤(ji37) then (if (ji37) < (t269.length:Int) then (if 0≤x11_3 then (if (rd t269 (ji37)) ≥ (rd t269 x11_3) then (some false) else (laws_FnDevs.l1 k3 t257 t269 (wrap64 (x11_3+1)))) else (none)) else (none)) else (none))=some r:=by first|(rw [hji37] at H;exact H)|(simp only [hji37] at H ⊢;exact H)
            have hji37w:(IntKind.i64.wrap (x11_3 - 1))=ji37:=(i64_w _).trans hji37
            by_cases c38:0≤(ji37)
            ·rw [if_pos c38] at H
             have c38b0:decide (0≤(ji37))=true:=decide_eq_true c38
             clear c38
             by_cases c39:(ji37) < (t269.length:Int)
             ·rw [if_pos c39] at H
              have c39b0:decide ((ji37) < (t269.length:Int))=true:=decide_eq_true c39
              clear c39
              by_cases c40:0≤x11_3
              ·rw [if_pos c40] at H
               have c40b0:decide (0≤x11_3)=true:=decide_eq_true c40
               clear c40
               by_cases c41:(rd t269 (ji37)) ≥ (rd t269 x11_3)
               ·rw [if_pos c41] at H
                have c41b0:decide ((rd t269 x11_3)≤(rd t269 (ji37)))=true:=decide_eq_true c41
                clear c41
                exact absurd ((Option.some.inj H).trans hr_.out) (by decide)
               ·rw [if_neg c41] at H
                have c41b0:decide ((rd t269 x11_3)≤(rd t269 (ji37)))=false:=decide_eq_false c41
                clear c41
                have H':=Aside0.mk H
                clear H
                obtain ⟨Ao42,co42,eo42⟩:=Kd.R_slice HO_7.out
                subst eo42
                have p280:0≤((ji37):Int):=of_decide_eq_true (by first|(with_reducible assumption)|assumption)
                have q280:(ji37) < (t269.length:Int):=of_decide_eq_true (by first|(with_reducible assumption)|assumption)
                obtain ⟨ad280,e280,hx280_0⟩:=Kd.at_int (Kd.R_reads' HO_7.out).2.2 (ji37) p280 q280
                cases e280
                replace p280:=eq_true p280
                replace q280:=eq_true q280
                have p281:0≤(x11_3:Int):=of_decide_eq_true (by first|(with_reducible assumption)|assumption)
                have q281:x11_3 < (t269.length:Int):=of_decide_eq_true (by first|(with_reducible assumption)|assumption)
                obtain ⟨ad281,e281,hx281_0⟩:=Kd.at_int (Kd.R_reads' HO_7.out).2.2 x11_3 p281 q281
                obtain rfl:ad280=ad281:=(by injection e281)
                replace p281:=eq_true p281
                replace q281:=eq_true q281
                go_wp2
                repeat (go_quiet (fail);try go_wp2)
                go_roundg k3
                case measure=>have:=HJ8.out;have:=HK2.out;have:=HK3.out;omega
                case rel=>exact ⟨(wrap64 (x11_3+1)),rd_,H',⟨by have:=HJ8.out;have:=HK2.out;have:=HK3.out;omega⟩,⟨rR HO_3⟩,⟨rR HO_7⟩,⟨be⟩⟩
              ·rw [if_neg c40] at H
               exact absurd H (by simp)
             ·rw [if_neg c39] at H
              exact absurd H (by simp)
            ·rw [if_neg c38] at H
             exact absurd H (by simp)
           ·rw [if_neg c36] at H
            have c36b0:decide (x11_3 < (t269.length:Int))=false:=decide_eq_false c36
            clear c36
            by_cases c43:(t269.length:Int) ≥ 1
            ·rw [if_pos c43] at H
             have c43b0:decide (1≤(t269.length:Int))=true:=decide_eq_true c43
             have c43b1:decide (1≤t269.length)=true:=decide_eq_true (by omega)
             clear c43
             obtain rfl:=Option.some.inj H
             obtain ⟨Ao44,co44,eo44⟩:=Kd.R_slice HO_7.out
             subst eo44
             go_wp2
             repeat (go_quiet (fail);try go_wp2)
             go_ret
             exact ⟨rz,be⟩
            ·rw [if_neg c43] at H
             have c43b0:decide (1≤(t269.length:Int))=false:=decide_eq_false c43
             have c43b1:decide (1≤t269.length)=false:=decide_eq_false (by omega)
             clear c43
             exact absurd ((Option.some.inj H).trans hr_.out) (by decide)
  ·replace c7:=Bool.eq_false_iff.mpr c7
   subst c7
   have H1:(if t260.toList=([]:List UInt8) then ((impl_DevsOk.f k t257).bind fun t262=>(some (!t262))) else (some false))=some r:=by rw [if_neg (show ¬ (false=true) by decide)] at H;exact H
   clear H
   have H:=H1
   clear H1
   by_cases c45:t260.toList=([]:List UInt8)
   ·rw [if_pos c45] at H
    have c45b0:(t260.toList == ([]:List UInt8))=true:=beq_iff_eq.mpr c45
    have c45b1:(t260.toList != ([]:List UInt8))=false:=bne_eq_false_iff_eq.mpr c45
    clear c45
    replace H:=Option.bind_eq_some_iff.mp H
    obtain ⟨t262,A460,H⟩:=H
    try dsimp only at H
    have A46:=Aside0.mk A460
    clear A460
    obtain rfl:=Option.some.inj H
    go_enter Tryd.func10,Tryd.ntmps10
    go_wp2_with (first|(go_at_call 22;(with_reducible refine (laws_big.calls _ _ l0 false _ ?side1 ?side2 A2.out).mono ?_);(case side1=>exact sC HR0);(case side2=>exact HC0.out);rintro e w' ⟨rfl,⟨nd,rfl⟩⟩;(try first|exact ⟨rfl,_,World.drewN_drewN _ _ _⟩|exact ⟨rfl,_,Eq.trans (World.drewN_drewN _ _ _) (congrArg (World.drewN _) (Nat.add_assoc _ _ _))⟩))|(go_at_call 35;(with_reducible refine (spec_DrawDevsText.calls k _ _ l0 t257 _ ?side1 ?side2 A4.out).mono ?_);(case side1=>exact sC HR0);(case side2=>exact HC0.out);rintro e w47 ⟨v258,rfl,ho0,hb⟩;have n0_:=Aside0.mk (Kd.R_lower ho0 (below_size be));have n1_:=bs hb;clear HB;have HO259:=n0_;have HB:=n1_;clear n0_ n1_;(try clear hb);(try clear hb2);(try clear hk);(try clear hi);(try clear ho0);obtain ⟨Ao48,co48,eo48⟩:=Kd.R_slice HO259.out;subst eo48)|(go_at_call 17;(with_reducible refine (impl_DevsText.calls k _ _ t257 t260 _ ?side3 ?side1 ?side2 A5.out).mono ?_);(case side1=>exact sR HO259);(case side2=>exact (Kd.R_reads' HO259.out).2.1);(case side3=>exact lb hL);rintro e w49 ⟨rfl,hb⟩;have n0_:=Aside0.mk (Kd.R_below ((rR HO259)) hb);have n1_:=bs hb;clear HO259;clear HB;have HO259:=n0_;have HB:=n1_;clear n0_ n1_;(try clear hb);(try clear hb2);(try clear hk);(try clear hi))|(go_at_call 36;(with_reducible refine (spec_DevsOk.calls k _ _ t257 false _ ?side1 ?side2 A6.out).mono ?_);(case side1=>exact sR HO259);(case side2=>exact (Kd.R_reads' HO259.out).2.1);rintro e w50 ⟨rfl,hb⟩;have n0_:=Aside0.mk (Kd.R_below ((rR HO259)) hb);have n1_:=bs hb;clear HO259;clear HB;have HO259:=n0_;have HB:=n1_;clear n0_ n1_;(try clear hb);(try clear hb2);(try clear hk);(try clear hi))|(go_at_call 34;(with_reducible refine (impl_DevsOk.calls k _ _ t257 t262 _ ?side1 ?side2 A46.out).mono ?_);(case side1=>exact sR HO259);(case side2=>exact (Kd.R_reads' HO259.out).2.1);rintro e w51 ⟨rfl,hb⟩;have n0_:=Aside0.mk (Kd.R_below ((rR HO259)) hb);have n1_:=bs hb;clear HO259;clear HB;have HO259:=n0_;have HB:=n1_;clear n0_ n1_;(try clear hb);(try clear hb2);(try clear hk);(try clear hi)))
    repeat (go_quiet (first|(go_at_call 22;(with_reducible refine (laws_big.calls _ _ l0 false _ ?side1 ?side2 A2.out).mono ?_);(case side1=>exact sC HR0);(case side2=>exact HC0.out);rintro e w' ⟨rfl,⟨nd,rfl⟩⟩;(try first|exact ⟨rfl,_,World.drewN_drewN _ _ _⟩|exact ⟨rfl,_,Eq.trans (World.drewN_drewN _ _ _) (congrArg (World.drewN _) (Nat.add_assoc _ _ _))⟩))|(go_at_call 35;(with_reducible refine (spec_DrawDevsText.calls k _ _ l0 t257 _ ?side1 ?side2 A4.out).mono ?_);(case side1=>exact sC HR0);(case side2=>exact HC0.out);rintro e w47 ⟨v258,rfl,ho0,hb⟩;have n0_:=Aside0.mk (Kd.R_lower ho0 (below_size be));have n1_:=bs hb;clear HB;have HO259:=n0_;have HB:=n1_;clear n0_ n1_;(try clear hb);(try clear hb2);(try clear hk);(try clear hi);(try clear ho0);obtain ⟨Ao48,co48,eo48⟩:=Kd.R_slice HO259.out;subst eo48)|(go_at_call 17;(with_reducible refine (impl_DevsText.calls k _ _ t257 t260 _ ?side3 ?side1 ?side2 A5.out).mono ?_);(case side1=>exact sR HO259);(case side2=>exact (Kd.R_reads' HO259.out).2.1);(case side3=>exact lb hL);rintro e w49 ⟨rfl,hb⟩;have n0_:=Aside0.mk (Kd.R_below ((rR HO259)) hb);have n1_:=bs hb;clear HO259;clear HB;have HO259:=n0_;have HB:=n1_;clear n0_ n1_;(try clear hb);(try clear hb2);(try clear hk);(try clear hi))|(go_at_call 36;(with_reducible refine (spec_DevsOk.calls k _ _ t257 false _ ?side1 ?side2 A6.out).mono ?_);(case side1=>exact sR HO259);(case side2=>exact (Kd.R_reads' HO259.out).2.1);rintro e w50 ⟨rfl,hb⟩;have n0_:=Aside0.mk (Kd.R_below ((rR HO259)) hb);have n1_:=bs hb;clear HO259;clear HB;have HO259:=n0_;have HB:=n1_;clear n0_ n1_;(try clear hb);(try clear hb2);(try clear hk);(try clear hi))|(go_at_call 34;(with_reducible refine (impl_DevsOk.calls k _ _ t257 t262 _ ?side1 ?side2 A46.out).mono ?_);(case side1=>exact sR HO259);(case side2=>exact (Kd.R_reads' HO259.out).2.1);rintro e w51 ⟨rfl,hb⟩;have n0_:=Aside0.mk (Kd.R_below ((rR HO259)) hb);have n1_:=bs hb;clear HO259;clear HB;have HO259:=n0_;have HB:=n1_;clear n0_ n1_;(try clear hb);(try clear hb2);(try clear hk);(try clear hi)));try go_wp2_with (first|(go_at_call 22;(with_reducible refine (laws_big.calls _ _ l0 false _ ?side1 ?side2 A2.out).mono ?_);(case side1=>exact sC HR0);(case side2=>exact HC0.out);rintro e w' ⟨rfl,⟨nd,rfl⟩⟩;(try first|exact ⟨rfl,_,World.drewN_drewN _ _ _⟩|exact ⟨rfl,_,Eq.trans (World.drewN_drewN _ _ _) (congrArg (World.drewN _) (Nat.add_assoc _ _ _))⟩))|(go_at_call 35;(with_reducible refine (spec_DrawDevsText.calls k _ _ l0 t257 _ ?side1 ?side2 A4.out).mono ?_);(case side1=>exact sC HR0);(case side2=>exact HC0.out);rintro e w47 ⟨v258,rfl,ho0,hb⟩;have n0_:=Aside0.mk (Kd.R_lower ho0 (below_size be));have n1_:=bs hb;clear HB;have HO259:=n0_;have HB:=n1_;clear n0_ n1_;(try clear hb);(try clear hb2);(try clear hk);(try clear hi);(try clear ho0);obtain ⟨Ao48,co48,eo48⟩:=Kd.R_slice HO259.out;subst eo48)|(go_at_call 17;(with_reducible refine (impl_DevsText.calls k _ _ t257 t260 _ ?side3 ?side1 ?side2 A5.out).mono ?_);(case side1=>exact sR HO259);(case side2=>exact (Kd.R_reads' HO259.out).2.1);(case side3=>exact lb hL);rintro e w49 ⟨rfl,hb⟩;have n0_:=Aside0.mk (Kd.R_below ((rR HO259)) hb);have n1_:=bs hb;clear HO259;clear HB;have HO259:=n0_;have HB:=n1_;clear n0_ n1_;(try clear hb);(try clear hb2);(try clear hk);(try clear hi))|(go_at_call 36;(with_reducible refine (spec_DevsOk.calls k _ _ t257 false _ ?side1 ?side2 A6.out).mono ?_);(case side1=>exact sR HO259);(case side2=>exact (Kd.R_reads' HO259.out).2.1);rintro e w50 ⟨rfl,hb⟩;have n0_:=Aside0.mk (Kd.R_below ((rR HO259)) hb);have n1_:=bs hb;clear HO259;clear HB;have HO259:=n0_;have HB:=n1_;clear n0_ n1_;(try clear hb);(try clear hb2);(try clear hk);(try clear hi))|(go_at_call 34;(with_reducible refine (impl_DevsOk.calls k _ _ t257 t262 _ ?side1 ?side2 A46.out).mono ?_);(case side1=>exact sR HO259);(case side2=>exact (Kd.R_reads' HO259.out).2.1);rintro e w51 ⟨rfl,hb⟩;have n0_:=Aside0.mk (Kd.R_below ((rR HO259)) hb);have n1_:=bs hb;clear HO259;clear HB;have HO259:=n0_;have HB:=n1_;clear n0_ n1_;(try clear hb);(try clear hb2);(try clear hk);(try clear hi))))
    go_ret
    exact ⟨rz,be⟩
   ·rw [if_neg c45] at H
    have c45b0:(t260.toList == ([]:List UInt8))=false:=beq_eq_false_iff_ne.mpr c45
    have c45b1:(t260.toList != ([]:List UInt8))=true:=bne_iff_ne.mpr c45
    exact absurd ((Option.some.inj H).trans hr_.out) (by decide)
end Go.Proofs.YtnoglmdicdpabaaDoor.PFnDevs
