/- Trimmed by a program of this session (trim.py). Not trusted: Lean checks it. -/
import Derived.Test.YtpbjbfimnfghkaaTLRebalancedPFnRebalancedx0
import Derived.Test.YtpbjbfimnfghkaaTLRebalancedPFnRebalancedx1
import Derived.Test.YtpbjbfimnfghkaaTLRebalancedPFnRebalancedx3
namespace Go.Proofs.Ytpbjbfimnfghkaa.PFnRebalanced
open Go.RowKit Go.Proofs.YtpbjbfimnfghkaaW.PrintWords Go.Proofs.YtpbjbfimnfghkaaW.PrintLast Go.Proofs.YtpbjbfimnfghkaaW.PrintMore Go.Proofs.Ytpbjbfimnfghkaa.St
attribute [local go_sem] max2_int min2_int max_two min_two max_three min_three max_four min_four
set_option linter.unusedVariables false
set_option linter.unusedSimpArgs false
mutual
def spec_Build.j0:Nat→List (S61)→Int→Int→Bool→Option (Int × (List (S35)) × Bool)
 | 0,_,_,_,_=>none
 | k+1,x0,x1,x2,x30=>if x30=true then (some (0,([]:List (S35)),false)) else (spec_Build.l0 k x0 x1 x2 0 x2 ([]:List (S35)))
def spec_Build.l0:Nat→List (S61)→Int→Int→Int→Int→List (S35)→Option (Int × (List (S35)) × Bool)
 | 0,_,_,_,_,_,_=>none
 | k+1,x0,x1,x2,x9,x152000,x152001=>if x9 < x1 then (if x152001.length < 5864062014805 then (spec_Build.l1 k x0 x1 x2 x9 0 x152000 (x152001 ++ [(⟨([]:List Int)⟩:S35)])) else (none)) else (some (x152000,x152001,true))
def spec_Build.l1:Nat→List (S61)→Int→Int→Int→Int→Int→List (S35)→Option (Int × (List (S35)) × Bool)
 | 0,_,_,_,_,_,_,_=>none
 | k+1,x0,x1,x2,x9,x10,x152000,x152001=>if x10 < x2 then (if 0≤x9 then (if x9 < (x152001.length:Int) then ((spec_Best.f k x152000 x152001 ((rd_T35 x152001 x9).f0) x0).bind fun t156=>(if ((rd_T35 x152001 x9).f0).length < 17592186044416 then (spec_Build.l1 k x0 x1 x2 x9 (wrap64 (x10+1)) x152000 (x152001.set (x9:Int).toNat (⟨(((rd_T35 x152001 x9).f0) ++ [t156])⟩:S35))) else (none))) else (none)) else (none)) else (spec_Build.l0 k x0 x1 x2 (wrap64 (x9+1)) x152000 x152001)
end
def spec_Build.f (k:Nat) (l0:List (S61)) (a1:Int) (a2:Int):Option (Int × (List (S35)) × Bool):=(spec_DevsOk.f k l0).bind fun t148=>(if t148=true then ((spec_l1In.f a1 1 64).bind fun t149=>(if t149=true then ((spec_l1In.f a2 1 5).bind fun t150=>(if t150=true then (spec_Build.j0 k l0 a1 a2 (decide (a2 > (l0.length:Int)))) else (spec_Build.j0 k l0 a1 a2 true))) else (spec_Build.j0 k l0 a1 a2 true))) else (spec_Build.j0 k l0 a1 a2 true))
def spec_Build.T11:Bool × List (List Nat × List Nat):=(true,[([],[]),([],[]),([1],[1]),([],[]),([2,3],[2,3]),([4],[4]),([],[]),([0,5,6],[0,5,6]),([7,7,0,1,2,3,4,5,6,7],[7])])
def spec_Build.B11:List Nat:=[0,0,2,0,14,30,0,127,255]
theorem spec_Build.tab11:rtab .any (opsOf Try.f32 11)=spec_Build.T11:=by kernel_rfl
theorem spec_Build.bits11:waitsOk spec_Build.T11.2 spec_Build.B11=true:=by kernel_rfl
def spec_Build.T12:Bool × List (List Nat × List Nat):=(true,[([],[]),([0],[0]),([],[]),([],[]),([3],[3]),([],[]),([4,5],[4,5]),([6],[6]),([7],[7]),([],[]),([9],[9]),([8,10],[8,10]),([1,2,0,1,2,3,4,5,6,7,8,9,10,11],[1,2]),([12,0,1,2,3,4,5,6,7,8,9,10,11],[12]),([13,11,11,0,1,2,3,4,5,6,7,8,9,10,11],[11,13])])
def spec_Build.B12:List Nat:=[0,1,0,0,8,0,56,120,248,0,512,2040,4095,8191,16383]
theorem spec_Build.tab12:rtab .any (opsOf Try.f32 12)=spec_Build.T12:=by kernel_rfl
theorem spec_Build.bits12:waitsOk spec_Build.T12.2 spec_Build.B12=true:=by kernel_rfl
set_option maxHeartbeats 8000000 in
set_option maxRecDepth 100000 in
theorem spec_Build.calls (k:Nat) (A0:Option Addr) (c0:Nat) (l0:List (S61)) (a1:Int) (a2:Int) (r1:Int) (r2:List (S35)) (r3:Bool) (w:World) (hr0:Kd.C k61 w A0 l0.length l0) (hc0:l0.length≤c0) (h:spec_Build.f k l0 a1 a2=some (r1,r2,r3)) :
  Calls Try.prog 32 #[.slice A0 l0.length c0,.int .i64 a1,.int .i64 a2] w fun e w'=>∃ v1_:Value,e = .returned (.tuple #[.agg #[.int .i64 r1,v1_],.bool r3])∧Kd.S k35 35 w' w.heap.size (fun _=>True) v1_ r2∧Below w.heap.size w w':=by
 have hu26:=Try.underlying26
 have hu35:=Try.underlying35
 have HR0:=aM hr0
 have HC0:=aM hc0
 clear hr0 hc0
 have HB:=aM (Below.refl w.heap.size w)
 have H:((spec_DevsOk.f k l0).bind fun t148=>(if t148=true then ((spec_l1In.f a1 1 64).bind fun t149=>(if t149=true then ((spec_l1In.f a2 1 5).bind fun t150=>(if t150=true then (spec_Build.j0 k l0 a1 a2 (decide (a2 > (l0.length:Int)))) else (spec_Build.j0 k l0 a1 a2 true))) else (spec_Build.j0 k l0 a1 a2 true))) else (spec_Build.j0 k l0 a1 a2 true)))=some (r1,r2,r3):=h
 clear h
 have HC4:=aM H
 clear H
 go_enter Try.func32,Try.ntmps32
 go_upto_region 1 with ((with_reducible refine gate_dst (N:=6) rfl ?_);(try (refine gate_guard (by rfl) ?_;dsimp only));refine box_event ?hg (N:=6) ?hd (cs:=#[.int .i64 0,.slice none 0 0]) (t:=26) ?hr ?_;(case hd=>rfl);(case hg=>rfl);(case hr=>(go_simp;done));intro gb147 hg w5 hbox hb;have BK147:=aM (hbox);have GW147:=gS w hg;replace HB:=bs hb;clear hb hbox hg)
 skip
 go_cut [30] (fun v30 wc=>∃ (kq:Nat) (x30_3:Bool),v30 = .bool x30_3∧Aside0 (spec_Build.j0 kq l0 a1 a2 x30_3=some (r1,r2,r3))∧Aside0 (kq≤k)∧Aside0 (wc.heap[gb147]?=some (.cells #[.int .i64 0,(.slice none 0 0)] 26 (0,0)))∧Aside0 (Below w.heap.size w wc))
 case first=>
  have H:=HC4.out
  clear HC4
  replace H:=Option.bind_eq_some_iff.mp H
  obtain ⟨t148,A60,H⟩:=H
  try dsimp only at H
  have A6:=aM A60
  clear A60
  by_cases c7:t148=true
  ·subst c7
   rw [if_pos rfl] at H
   replace H:=Option.bind_eq_some_iff.mp H
   obtain ⟨t149,A80,H⟩:=H
   try dsimp only at H
   have A8:=aM A80
   clear A80
   by_cases c9:t149=true
   ·subst c9
    rw [if_pos rfl] at H
    replace H:=Option.bind_eq_some_iff.mp H
    obtain ⟨t150,A100,H⟩:=H
    try dsimp only at H
    have A10:=aM A100
    clear A100
    by_cases c11:t150=true
    ·subst c11
     rw [if_pos rfl] at H
     have H':=Aside0.mk H
     clear H
     go_wp2_with (first|((with_reducible refine gate_callee (f:=53) rfl ?_);refine goesL_ (some 13) rfl rfl Try.func53 (by kernel_rfl) rfl #[.slice A0 l0.length c0] rfl (by (try simp only [List.map_toArray,List.map_cons,List.map_nil]);rfl) ?_;(with_reducible refine (spec_DevsOk.calls k _ _ l0 true _ ?side1 ?side2 A6.out).mono ?_);(case side1=>exact rC HR0);(case side2=>exact HC0.out);rintro e w12 ⟨rfl,hb⟩;refine ⟨_,rfl,?_⟩;replace BK147:=bB BK147 hb;replace HB:=bs hb;(try clear hb))|(go_at_call 54;(with_reducible refine (spec_l1In.calls a1 1 64 true _ A8.out).mono ?_);rintro e w' ⟨rfl,⟨nd,rfl⟩⟩)|(go_at_call 54;(with_reducible refine (spec_l1In.calls a2 1 5 true _ A10.out).mono ?_);rintro e w' ⟨rfl,⟨nd,rfl⟩⟩))
     go_meet
     case rel=>exact ⟨_,(decide (a2 > (l0.length:Int))),rd_,H',⟨by omega⟩,⟨bk BK147⟩,⟨be⟩⟩
    ·replace c11:=Bool.eq_false_iff.mpr c11
     subst c11
     replace H:=(if_neg (show ¬ (false=true) by decide)).symm.trans H
     have H':=Aside0.mk H
     clear H
     go_wp2_with (first|((with_reducible refine gate_callee (f:=53) rfl ?_);refine goesL_ (some 13) rfl rfl Try.func53 (by kernel_rfl) rfl #[.slice A0 l0.length c0] rfl (by (try simp only [List.map_toArray,List.map_cons,List.map_nil]);rfl) ?_;(with_reducible refine (spec_DevsOk.calls k _ _ l0 true _ ?side1 ?side2 A6.out).mono ?_);(case side1=>exact rC HR0);(case side2=>exact HC0.out);rintro e w13 ⟨rfl,hb⟩;refine ⟨_,rfl,?_⟩;replace BK147:=bB BK147 hb;replace HB:=bs hb;(try clear hb))|(go_at_call 54;(with_reducible refine (spec_l1In.calls a1 1 64 true _ A8.out).mono ?_);rintro e w' ⟨rfl,⟨nd,rfl⟩⟩)|(go_at_call 54;(with_reducible refine (spec_l1In.calls a2 1 5 false _ A10.out).mono ?_);rintro e w' ⟨rfl,⟨nd,rfl⟩⟩))
     go_meet
     case rel=>exact ⟨_,(true),rd_,H',⟨by omega⟩,⟨bk BK147⟩,⟨be⟩⟩
   ·replace c9:=Bool.eq_false_iff.mpr c9
    subst c9
    replace H:=(if_neg (show ¬ (false=true) by decide)).symm.trans H
    have H':=Aside0.mk H
    clear H
    go_wp2_with (first|((with_reducible refine gate_callee (f:=53) rfl ?_);refine goesL_ (some 13) rfl rfl Try.func53 (by kernel_rfl) rfl #[.slice A0 l0.length c0] rfl (by (try simp only [List.map_toArray,List.map_cons,List.map_nil]);rfl) ?_;(with_reducible refine (spec_DevsOk.calls k _ _ l0 true _ ?side1 ?side2 A6.out).mono ?_);(case side1=>exact rC HR0);(case side2=>exact HC0.out);rintro e w14 ⟨rfl,hb⟩;refine ⟨_,rfl,?_⟩;replace BK147:=bB BK147 hb;replace HB:=bs hb;(try clear hb))|(go_at_call 54;(with_reducible refine (spec_l1In.calls a1 1 64 false _ A8.out).mono ?_);rintro e w' ⟨rfl,⟨nd,rfl⟩⟩))
    go_meet
    case rel=>exact ⟨_,(true),rd_,H',⟨by omega⟩,⟨bk BK147⟩,⟨be⟩⟩
  ·replace c7:=Bool.eq_false_iff.mpr c7
   subst c7
   replace H:=(if_neg (show ¬ (false=true) by decide)).symm.trans H
   have H':=Aside0.mk H
   clear H
   go_wp2_with ((with_reducible refine gate_callee (f:=53) rfl ?_);refine goesL_ (some 13) rfl rfl Try.func53 (by kernel_rfl) rfl #[.slice A0 l0.length c0] rfl (by (try simp only [List.map_toArray,List.map_cons,List.map_nil]);rfl) ?_;(with_reducible refine (spec_DevsOk.calls k _ _ l0 false _ ?side1 ?side2 A6.out).mono ?_);(case side1=>exact rC HR0);(case side2=>exact HC0.out);rintro e w15 ⟨rfl,hb⟩;refine ⟨_,rfl,?_⟩;replace BK147:=bB BK147 hb;replace HB:=bs hb;(try clear hb))
   go_meet
   case rel=>exact ⟨_,(true),rd_,H',⟨by omega⟩,⟨bk BK147⟩,⟨be⟩⟩
 case rest=>
  clear HC4
  obtain ⟨kq,x30_3,rfl,HA,HJ3,BK147,HB⟩:=hcut
  cases kq with
  | zero=>exact absurd HA.out (by simp [spec_Build.j0])
  | succ kj3=>
   have H:=HA.out
   clear HA
   simp only [spec_Build.j0] at H
   by_cases c16:x30_3=true
   ·subst c16
    rw [if_pos rfl] at H
    simp only [Option.some.injEq,Prod.mk.injEq] at H
    obtain ⟨rfl,rfl,rfl⟩:=H
    obtain ⟨hcz17_0,hcz17_1,hfz17_0,hfz17_1⟩:=b2 BK147
    go_wp2
    refine bodyPost_ret (results_ct rfl _ _ gb147 26 #[.int .i64 0,.slice none 0 0] (0,0) _ rfl (by refine blk_put (cs:=#[.int .i64 0,.slice none 0 0]) ?_ 1 _ rfl;refine blk_put (cs:=#[.int .i64 0,.slice none 0 0]) ?_ 0 _ rfl;exact BK147.out) Try.underlying26 rfl (by kernel_rfl)) rfl ?_
    exact ⟨_,rz,by exact Kd.S_nil _ _ _ _ _,be⟩
   ·replace c16:=Bool.eq_false_iff.mpr c16
    subst c16
    replace H:=(if_neg (show ¬ (false=true) by decide)).symm.trans H
    have H':=Aside0.mk H
    clear H
    go_wp2_with ((with_reducible refine gate_dst (N:=8) rfl ?_);(try (refine gate_guard (by rfl) ?_;dsimp only));refine box_event ?hg (N:=8) ?hd (cs:=#[.int .i64 0,.slice none 0 0]) (t:=26) ?hr ?_;(case hd=>rfl);(case hg=>rfl);(case hr=>(go_simp;done));intro gb151 hg w18 hbox hb;have BK151:=aM (hbox);have GW151:=gS w hg;replace HB:=bs hb;have NB147_151:=nL hg BK147;have NB151_147:=nG hg BK147;replace BK147:=bB BK147 hb;clear hb hbox hg;have hnb19:=NB151_147.out;have hnc19:=NB147_151.out;obtain ⟨hcz20_0,hcz20_1,hfz20_0,hfz20_1⟩:=b2 BK151)
    go_loopg [9] kj3 (fun kq v9 w'=>∃ (x9_2:Int) (x152001_2:List (S35)) (u152001:Value),v9 = .int .i64 x9_2∧Aside0 (spec_Build.l0 kq l0 a1 a2 x9_2 a2 x152001_2=some (r1,r2,r3))∧Aside0 (kq≤kj3)∧Aside0 (Kd.S k35 35 w' w.heap.size (fun _=>True) u152001 x152001_2)∧Aside0 (w'.heap[gb147]?=some (.cells #[.int .i64 0,(.slice none 0 0)] 26 (0,0)))∧Aside0 (w'.heap[gb151]?=some (.cells #[.int .i64 a2,u152001] 26 (0,0)))∧Aside0 (Below w.heap.size w w'))
    case atStart=>exact ⟨(0),(([]:List (S35))),(.slice none 0 0),rd_,H',⟨Nat.le_refl _⟩,⟨by exact Kd.S_nil _ _ _ _ _⟩,⟨by refine blk_far ?_ NB147_151.out _;refine blk_far ?_ NB147_151.out _;exact BK147.out⟩,⟨by refine blk_put (cs:=#[.int .i64 a2,.slice none 0 0]) ?_ 1 _ rfl;refine blk_put (cs:=#[.int .i64 0,.slice none 0 0]) ?_ 0 _ rfl;exact BK151.out⟩,⟨be⟩⟩
    case round=>
     clear H'
     try clear hcz20_0
     try clear hcz20_1
     try clear hfz20_0
     try clear hfz20_1
     obtain ⟨x9_2,x152001_2,u152001,rfl,HA,HK2,HO_152001,BK147,BK151,HB⟩:=hrel
     cases gk with
     | zero=>exact absurd HA.out (by simp [spec_Build.l0])
     | succ k2=>
      have H:=HA.out
      clear HA
      simp only [spec_Build.l0] at H
      by_cases c21:x9_2 < a1
      ·rw [if_pos c21] at H
       have c21b0:decide (x9_2 < a1)=true:=decide_eq_true c21
       clear c21
       obtain ⟨c22,H⟩:=ifs H
       have LMc22:=aM c22
       clear c22
       obtain ⟨y152,hy152⟩ : ∃ y_:List (S35),y_=(x152001_2 ++ [(⟨([]:List Int)⟩:S35)]):=⟨_,rfl⟩
       replace H:(spec_Build.l1 k2 l0 a1 a2 x9_2 0 a2 y152)=some (r1,r2,r3):=by (rw [hy152];with_reducible exact H)
       have Ny152:=aM hy152
       clear hy152
       have H':=Aside0.mk H
       clear H
       have hnb23:=NB151_147.out
       have hnc23:=NB147_151.out
       obtain ⟨hcz24_0,hcz24_1,hfz24_0,hfz24_1⟩:=b2 BK151
       go_wp2_with ((with_reducible refine gate_builtin (b:=.append) (xs:=#[.tmp 40,.tmp 42]) rfl ?_);(try (refine gate_guard (by rfl) ?_;dsimp only));at_builtin;refine Kd.S_append k35 (w0:=w) w.heap.size rfl (.tmp 40) (.tmp 42) 24 35 (.agg #[(.slice none 0 0)]) 24 rfl Try.underlying24 info35 rfl (by decide) (by omega) u152001 x152001_2 (⟨([]:List Int)⟩:S35) [.slice none 0 0] (fun _=>True) (fun _=>False) rfl rfl ?aP (fun k_ hk_=>hk_.elim) ?aF ?aO ?aB ?aS ?aL ?_;(case aP=>exact k35_mkM _ _ _ (⟨([]:List Int)⟩:S35) (Kd.R_nil _ _ _ _ _));(case aB=>exact be);(case aF=>exact (fun _ _=>trivial));(case aO=>exact (by exact Kd.S_mono HO_152001.out (fun k_ hk=>⟨trivial,fun e_=>e_⟩)));(case aS=>exact (below_size be));(case aL=>have:=LMc22.out;omega);intro v153 w25 ho hb hg hat;rw [← Ny152.out] at ho;replace BK147:=bG BK147 hg (Kd.S_ne HO_152001.out BK147.out (by decide));replace BK151:=bG BK151 hg (Kd.S_ne HO_152001.out BK151.out (by decide));replace HB:=aM (hb);have HO154:=aM (ho);clear HO_152001;clear ho hb hg hat;obtain ⟨Ao26,co26,eo26⟩:=Kd.S_slice HO154.out;subst eo26;obtain ⟨hcz27_0,hcz27_1,hfz27_0,hfz27_1⟩:=b2 BK151)
       go_loopg [10] k2 (fun kq v10 w'=>∃ (x10_3:Int) (x152001_3:List (S35)) (u152001:Value),v10 = .int .i64 x10_3∧Aside0 (spec_Build.l1 kq l0 a1 a2 x9_2 x10_3 a2 x152001_3=some (r1,r2,r3))∧Aside0 (kq≤k2)∧Aside0 (Kd.S k35 35 w' w.heap.size (fun _=>True) u152001 x152001_3)∧Aside0 (w'.heap[gb147]?=some (.cells #[.int .i64 0,(.slice none 0 0)] 26 (0,0)))∧Aside0 (w'.heap[gb151]?=some (.cells #[.int .i64 a2,u152001] 26 (0,0)))∧Aside0 (Below w.heap.size w w'))
       case atStart=>exact ⟨(0),(y152),(.slice Ao26 y152.length co26),rd_,H',⟨Nat.le_refl _⟩,⟨by exact Kd.S_mono (Kd.S_far (p:=⟨gb151,1,none⟩) (Kd.S_types HO154.out BK151.out (by decide)) (fun _ hk=>hk.2) (.slice Ao26 y152.length co26)) (fun _ hk=>trivial)⟩,⟨by refine blk_far ?_ NB147_151.out _;exact BK147.out⟩,⟨by refine blk_put (cs:=#[.int .i64 a2,u152001]) ?_ 1 _ rfl;exact BK151.out⟩,⟨be⟩⟩
       case round=>
        clear H'
        try clear c21b0
        try clear hcz24_0
        try clear hcz24_1
        try clear hcz27_0
        try clear hcz27_1
        try clear hfz24_0
        try clear hfz24_1
        try clear hfz27_0
        try clear hfz27_1
        obtain ⟨x10_3,x152001_3,u152001,rfl,HA,HK3,HO_152001,BK147,BK151,HB⟩:=hrel
        cases gk with
        | zero=>exact absurd HA.out (by simp [spec_Build.l1])
        | succ k3=>
         have H:=HA.out
         clear HA
         simp only [spec_Build.l1] at H
         by_cases c28:x10_3 < a2
         ·rw [if_pos c28] at H
          have c28b0:decide (x10_3 < a2)=true:=decide_eq_true c28
          clear c28
          obtain ⟨c29,H⟩:=ifs H
          have c29b0:decide (0≤x9_2)=true:=decide_eq_true c29
          clear c29
          obtain ⟨c30,H⟩:=ifs H
          have c30b0:decide (x9_2 < (x152001_3.length:Int))=true:=decide_eq_true c30
          clear c30
          replace H:=Option.bind_eq_some_iff.mp H
          obtain ⟨t156,A310,H⟩:=H
          try dsimp only at H
          have A31:=aM A310
          clear A310
          obtain ⟨c32,H⟩:=ifs H
          have LMc32:=aM c32
          clear c32
          obtain ⟨y158,hy158⟩ : ∃ y_:List Int,y_=(((rd_T35 x152001_3 x9_2).f0) ++ [t156]):=⟨_,rfl⟩
          replace H:(spec_Build.l1 k3 l0 a1 a2 x9_2 (wrap64 (x10_3+1)) a2 (x152001_3.set (x9_2:Int).toNat (⟨y158⟩:S35)))=some (r1,r2,r3):=by (rw [hy158];with_reducible exact H)
          have Ny158:=aM hy158
          clear hy158
          obtain ⟨y161,hy161⟩ : ∃ y_:List (S35),y_=(x152001_3.set (x9_2:Int).toNat (⟨y158⟩:S35)):=⟨_,rfl⟩
          replace H:(spec_Build.l1 k3 l0 a1 a2 x9_2 (wrap64 (x10_3+1)) a2 y161)=some (r1,r2,r3):=by (rw [hy161];with_reducible exact H)
          have Ny161:=aM hy161
          clear hy161
          have H':=Aside0.mk H
          clear H
          try go_wp2
          replace HO_152001:=aM (Kd.S_drew HO_152001.out);replace BK147:=aM (blk_drew BK147.out);replace BK151:=aM (blk_drew BK151.out);replace HB:=aM (below_drew1 HB.out)
          obtain ⟨Ao35,co35,eo35⟩:=Kd.S_slice HO_152001.out
          (subst eo35)
          have p155:0≤(x9_2:Int):=od
          have q155:x9_2 < (x152001_3.length:Int):=od
          obtain ⟨ad155,A155_0,c155_0,e155,hx155_0,hl155_0,hi155_0⟩:=at_T35 (Kd.S_reads' HO_152001.out).2.2 x9_2 p155 q155
          cases e155
          obtain ⟨ce155,hce155,hMe155,hcc155⟩:=Kd.S_get HO_152001.out z35 x9_2 p155 (by exact q155)
          obtain ⟨ve155_0,rfl,ge155_0⟩:=k35_openM hMe155
          have hv155_0:=hcc155 0 _ rfl
          rw [Nat.add_zero,show (k35).sz=1 from rfl,Nat.mul_one] at hv155_0
          replace hv155_0:=Option.some.inj (hv155_0.symm.trans hx155_0)
          rw [hv155_0] at ge155_0
          have HL155_0:=aM (show Kd.R (Kd.int .i64) 3 _ _ _ _ ((rd_T35 x152001_3 x9_2).f0) from ge155_0)
          clear hv155_0 ge155_0
          have HX155_0:=aM hx155_0
          clear hcc155 hce155
          have HR155_0:=aM hi155_0
          have HC155_0:=aM hl155_0
          clear hi155_0 hl155_0
          replace p155:=eq_true p155
          replace q155:=eq_true q155
          refine start_ (n:=9) (S:=fun w'=>w'.cell? ⟨gb151,0,none⟩=some (.int .i64 a2)∧w'.cell? ⟨gb151,1,none⟩=some (.slice (some ad155) x152001_3.length co35)∧w'.cell? (ad155.add (x9_2).toNat)=some (.slice A155_0 ((rd_T35 x152001_3 x9_2).f0).length c155_0)) (ds:=[]) (fl 9 0) (by kernel_rfl) rfl rfl ⟨bq BK151 0,bq BK151 1,hx155_0⟩ (fun hHeld=>?_);refine with_tabW spec_Build.tab11 spec_Build.bits11 (fun HT_ HW_=>?_)
          generalize wr.drew=w34 at HO_152001 BK147 BK151 HB HL155_0 HR155_0 HX155_0 hx155_0 hHeld ⊢
          refine pt 1 51 (fl 9 2) HT_ ?_
          refine pt 3 53 (fl 9 10) HT_ ?_
          refine pt 6 56 (fl 9 74) HT_ ?_
          refine tt 0 50 (fl 9 75) HT_ HW_ hHeld ?_
          refine tt 2 52 (fl 9 79) HT_ HW_ hHeld ?_
          refine pt 4 54 (fl 9 95) HT_ ?_
          refine tt 5 55 (fl 9 127) HT_ HW_ hHeld ?_
          refine ot 7 (some 57) (fl 9 255) HT_ (fun K hK=>?_)
          refine goes_ Try.func50 (by kernel_rfl) rfl #[.agg #[.int .i64 a2,.slice (some ad155) x152001_3.length co35],.agg #[.slice A155_0 ((rd_T35 x152001_3 x9_2).f0).length c155_0],.slice A0 l0.length c0] (by rfl) rfl rfl (by (try simp only [List.map_toArray,List.map_cons,List.map_nil]);rfl) ?_
          with_reducible refine (spec_Best.calls k3 a2 _ _ x152001_3 _ _ ((rd_T35 x152001_3 x9_2).f0) _ _ l0 t156 _ ?side1 ?side2 ?side3 ?side4 ?side5 ?side6 A31.out).mono ?_
          (case side1=>exact sS HO_152001)
          (case side2=>exact (Kd.S_reads' HO_152001.out).2.1)
          (case side3=>repeat (exact HR155_0.out))
          (case side4=>exact HC155_0.out)
          (case side5=>exact rC HR0)
          (case side6=>exact HC0.out)
          rintro e w36 ⟨rfl,hb⟩
          have HS2_:=(hb.cell (World.block_lt_of_cell? _ _ (hHeld.2.2))).trans (hHeld.2.2)
          refine ⟨_,rfl,?_⟩
          replace HO_152001:=sB HO_152001 hb;replace HL155_0:=rB HL155_0 hb;replace BK147:=bB BK147 hb;replace BK151:=bB BK151 hb;replace HR155_0:=cB HR155_0 hb;replace HB:=bs hb;clear HX155_0;(try clear hb);skip
          refine hK.out _ _ ⟨bq BK151 0,bq BK151 1,HS2_⟩ (fun hHeld=>?_)
          clear hK K
          refine no 57 ?_
          refine pt 8 11 (fl 9 511) HT_ ?_
          refine done_ (done_of HT_.out (by kernel_rfl)) ?_
          try go_wp2
          replace HO_152001:=aM (Kd.S_drew HO_152001.out);replace HL155_0:=aM (Kd.R_drew HL155_0.out);replace BK147:=aM (blk_drew BK147.out);replace BK151:=aM (blk_drew BK151.out);replace HR155_0:=aM (Kd.C_drew HR155_0.out);replace HB:=aM (below_drew1 HB.out)
          have p157:0≤(x9_2:Int):=od
          have q157:x9_2 < (x152001_3.length:Int):=od
          obtain ⟨ad157,A157_0,c157_0,e157,hx157_0,hl157_0,hi157_0⟩:=at_T35 (Kd.S_reads' HO_152001.out).2.2 x9_2 p157 q157
          obtain rfl:ad155=ad157:=(by injection e157)
          obtain ⟨ce157,hce157,hMe157,hcc157⟩:=Kd.S_get HO_152001.out z35 x9_2 p157 (by exact q157)
          obtain ⟨ve157_0,rfl,ge157_0⟩:=k35_openM hMe157
          have hv157_0:=hcc157 0 _ rfl
          rw [Nat.add_zero,show (k35).sz=1 from rfl,Nat.mul_one] at hv157_0
          replace hv157_0:=Option.some.inj (hv157_0.symm.trans hx157_0)
          rw [hv157_0] at ge157_0
          have HL157_0:=aM (show Kd.R (Kd.int .i64) 3 _ _ _ _ ((rd_T35 x152001_3 x9_2).f0) from ge157_0)
          clear hv157_0 ge157_0
          have HX157_0:=aM hx157_0
          clear hcc157 hce157
          have HR157_0:=aM hi157_0
          have HC157_0:=aM hl157_0
          clear hi157_0 hl157_0
          replace p157:=eq_true p157
          replace q157:=eq_true q157
          obtain ⟨go38,co38,eo38,gb38,gl38,cl38,HG38⟩:=Kd.S_form HO_152001.out (by have h_:(x9_2:Int) < ((x152001_3.length:Int):Int):=od;have h2_:0≤(x9_2:Int):=od;omega)
          (cases eo38)
          have GB38:=aM gb38
          have GG38:=aM HG38
          clear gb38 gl38 HG38
          (simp only [add_plain] at hx155_0)
          (simp only [add_plain] at hx157_0)
          obtain ⟨oki38,ce38,hcl38,hM38,hcc38,_,_,hH38⟩:=Kd.S_elem HO_152001.out z35 (x9_2:Int) od (by have h_:(x9_2:Int) < ((x152001_3.length:Int):Int):=od;exact h_)
          obtain ⟨ve38_0,rfl,ge38_0⟩:=k35_openM hM38
          have hv38:=hcc38 0 _ rfl
          have hX38:=HX157_0.out
          (try simp only [add_plain] at hX38)
          (try simp only [Nat.add_zero] at hv38)
          (try rw [show (k35).sz=1 from rfl,Nat.mul_one] at hv38)
          replace hv38:=Option.some.inj (hv38.symm.trans hX38)
          subst hv38
          clear hX38 hcc38 hcl38
          have UU38:=aM (show Kd.R (Kd.int .i64) 3 _ w.heap.size oki38 (.slice A157_0 ((rd_T35 x152001_3 x9_2).f0).length c157_0) ((rd_T35 x152001_3 x9_2).f0) from ge38_0)
          have HH38:=aM hH38
          have HN38:=aM (Kd.S_reads' HO_152001.out).1
          clear hH38 ge38_0
          refine start_ (n:=15) (S:=fun w'=>w'.cell? ⟨gb151,0,none⟩=some (.int .i64 a2)∧w'.cell? ⟨gb151,1,none⟩=some (.slice (some ⟨go38,0,none⟩) x152001_3.length co35)∧w'.cell? ⟨go38,(x9_2).toNat,none⟩=some (.slice A157_0 ((rd_T35 x152001_3 x9_2).f0).length c157_0)) (ds:=[14]) (fl 15 0) (by kernel_rfl) rfl rfl ⟨bq BK151 0,bq BK151 1,hx157_0⟩ (fun hHeld=>?_);refine with_tabW spec_Build.tab12 spec_Build.bits12 (fun HT_ HW_=>?_)
          generalize w36.drew=w37 at HO_152001 HL155_0 BK147 BK151 HR155_0 HB GG38 HH38 HL157_0 HR157_0 HX157_0 UU38 hx155_0 hx157_0 hHeld ⊢
          refine pt 0 58 (fl 15 1) HT_ ?_
          refine pt 2 60 (fl 15 5) HT_ ?_
          refine pt 3 61 (fl 15 13) HT_ ?_
          refine pt 5 63 (fl 15 45) HT_ ?_
          refine pt 9 67 (fl 15 557) HT_ ?_
          refine tt 1 59 (fl 15 559) HT_ HW_ hHeld ?_
          refine tt 4 62 (fl 15 575) HT_ HW_ hHeld ?_
          refine pt 6 64 (fl 15 639) HT_ ?_
          refine pt 7 65 (fl 15 767) HT_ ?_
          refine tt 8 66 (fl 15 1023) HT_ HW_ hHeld ?_
          refine ot 10 (some 68) (fl 15 2047) HT_ (fun K hK=>?_)
          refine value_ (w1:=?_) (v:=?_) (by rfl) rfl ?_ ?_
          rotate_left 2
          ·go_simp
           constructor
           ·rfl
           ·rfl
          refine hK.out _ _ ⟨(blk_cell (blk_alloc BK151.out _) 0).trans rfl,(blk_cell (blk_alloc BK151.out _) 1).trans rfl,(World.cell?_alloc_lt _ _ _ (World.block_lt_of_cell? _ _ (hHeld.2.2))).trans (hHeld.2.2)⟩ (fun hHeld=>?_)
          clear hK K
          refine no 68 ?_
          refine ot 11 (some 69) (fl 15 4095) HT_ (fun K hK=>?_)
          refine Kd.R_append_step (Kd.int .i64) (w0:=w) w.heap.size (by rfl) (.tmp 66) (.tmp 68) 33 3 (.int .i64 0) 8 rfl Try.underlying33 info3 rfl (by decide) (by omega) (.slice A157_0 ((rd_T35 x152001_3 x9_2).f0).length c157_0) ((rd_T35 x152001_3 x9_2).f0) t156 [.int .i64 t156] (fun k_=>oki38 k_ ∨ ((fun _=>True)) k_∧w37.heap.size≤k_) (fun _=>False) rfl rfl ?aP (fun _ hk=>hk.elim) ?aF ?aO ?aB ?aS ?aL ?_
          (case aP=>exact rfl)
          (case aB=>exact be)
          (case aF=>exact (fun k_ hk=>.inr ⟨trivial,hk⟩))
          (case aO=>exact (by exact Kd.R_mono UU38.out (fun _ hk=>.inl hk)))
          (case aS=>exact (below_size be))
          (case aL=>have:=LMc32.out;omega)
          intro v159 w39 ho hb hg hat
          (have HS2_:=cell_grown hg (cell_unalloc (hHeld.2.2) (by exact Kd.S_lt HO_152001.out _ rfl)) (by exact (fun e_=>((HL157_0.out.1 _ e_.symm).2) rfl)))
          rw [← Ny158.out] at ho
          replace BK147:=bG BK147 hg (Kd.R_ne HL157_0.out BK147.out (by decide));replace BK151:=bG BK151 hg (Kd.R_ne HL157_0.out BK151.out (by decide));replace HB:=aM (hb);replace HH38:=aM (Kd.H_grown (Kd.H_widen HH38.out) hg (fun k_ e_=>.inl (UU38.out.1 k_ e_)));have HO160:=aM (ho);clear HO_152001 UU38 HL155_0 HL157_0;clear ho hb hg hat
          have p33:0≤(x9_2:Int):=od
          have q33:(x9_2:Int) < ((x152001_3.length:Int):Int):=od
          replace p33:=eq_true p33
          replace q33:=eq_true q33
          obtain ⟨Ao42,co42,eo42⟩:=Kd.R_slice HO160.out
          (subst eo42)
          obtain ⟨_,_,hraw40,_,_,hcc40,_⟩:=Kd.H_raw HH38.out od (by have h_:(x9_2:Int) < ((x152001_3.length:Int):Int):=od;exact h_)
          obtain ⟨_,hfr40⟩:=Kd.H_at HH38.out od (by have h_:(x9_2:Int) < ((x152001_3.length:Int):Int):=od;exact h_)
          have hx40_0:=hcc40 0 _ rfl
          have hf40_0:=hfr40 0
          (try simp only [Nat.add_zero] at hx40_0 hf40_0)
          (try rw [show (k35).sz=1 from rfl,Nat.mul_one] at hx40_0)
          (try rw [show (k35).sz=1 from rfl,Nat.mul_one] at hf40_0)
          have HP40:=Kd.S_seg0 HH38.out od (by have h_:(x9_2:Int) < ((x152001_3.length:Int):Int):=od;exact h_) (seg:=[.slice Ao42 y158.length co42]) (j:=0) (show 1≤1 from by decide) (x':=(⟨y158⟩:S35)) (k35_mkM _ _ _ (⟨y158⟩:S35) HO160.out) (fun _ hk=>hk)
          (try simp only [show (k35).sz=1 from rfl,Nat.mul_one,Nat.add_zero] at HP40)
          clear hcc40 hfr40
          have HNB147_go38:=aM (show gb147 ≠ go38 from by have h_:=Kd.R_ne hraw40 BK147.out (by decide);intro e_;exact h_ (by rw [e_];rfl))
          have HNB151_go38:=aM (show gb151 ≠ go38 from by have h_:=Kd.R_ne hraw40 BK151.out (by decide);intro e_;exact h_ (by rw [e_];rfl))
          have HS40:=HP40.1
          rw [← Ny161.out] at HS40
          have HQ40:=aM HS40
          obtain ⟨_,hgg40⟩:=Kd.R_typed hraw40 go38 rfl
          have GG40_:=aM hgg40
          clear HP40 HS40 hgg40
          refine hK.out _ _ ⟨bq BK151 0,bq BK151 1,HS2_⟩ (fun hHeld=>?_)
          clear hK K
          refine no 69 ?_
          refine pt 12 70 (fl 15 8191) HT_ ?_
          refine pt 13 71 (fl 15 16383) HT_ ?_
          refine last_ (i:=14) (N:=none) (fl 15 32767) rfl rfl (one_of HT_.out (by kernel_rfl)) (by decide) (fun K hK=>?_)
          refine skip_ (w1:=?_) (by rfl) rfl ?_ ?_
          rotate_left
          ·go_simp
           rfl
          refine hK.out _ _ ?_
          clear hK K
          refine done_ (done_of HT_.out (by kernel_rfl)) ?_
          try go_wp2
          go_roundg k3
          case measure=>have:=HJ3.out;have:=HK2.out;have:=HK3.out;omega
          case rel=>exact ⟨(wrap64 (x10_3+1)),(y161),(.slice (some ⟨go38,0,none⟩) x152001_3.length co35),rd_,H',⟨by have:=HJ3.out;have:=HK2.out;have:=HK3.out;omega⟩,⟨by exact HQ40.out⟩,⟨by refine blk_far ?_ HNB147_go38.out _;exact BK147.out⟩,⟨by refine blk_far ?_ HNB151_go38.out _;exact BK151.out⟩,⟨be⟩⟩
         ·rw [if_neg c28] at H
          have c28b0:decide (x10_3 < a2)=false:=decide_eq_false c28
          clear c28
          have H':=Aside0.mk H
          clear H
          go_wp2
          go_roundg k3
          case measure=>have:=HJ3.out;have:=HK2.out;have:=HK3.out;omega
          case rel=>exact ⟨(wrap64 (x9_2+1)),(x152001_3),(u152001),rd_,H',⟨by have:=HJ3.out;have:=HK2.out;have:=HK3.out;omega⟩,⟨rS HO_152001⟩,⟨bk BK147⟩,⟨bk BK151⟩,⟨be⟩⟩
      ·rw [if_neg c21] at H
       have c21b0:decide (x9_2 < a1)=false:=decide_eq_false c21
       clear c21
       simp only [Option.some.injEq,Prod.mk.injEq] at H
       obtain ⟨rfl,rfl,rfl⟩:=H
       have hnb43:=NB151_147.out
       have hnc43:=NB147_151.out
       obtain ⟨hcz44_0,hcz44_1,hfz44_0,hfz44_1⟩:=b2 BK151
       obtain ⟨hcz45_0,hcz45_1,hfz45_0,hfz45_1⟩:=b2 BK147
       obtain ⟨Ao46,co46,eo46⟩:=Kd.S_slice HO_152001.out
       subst eo46
       go_wp2
       refine bodyPost_ret (results_ct rfl _ _ gb147 26 #[.int .i64 a2,.slice Ao46 x152001_2.length co46] (0,0) _ rfl (by refine blk_put (cs:=#[.int .i64 a2,.slice none 0 0]) ?_ 1 _ rfl;refine blk_put (cs:=#[.int .i64 0,.slice none 0 0]) ?_ 0 _ rfl;exact BK147.out) Try.underlying26 rfl (by kernel_rfl)) rfl ?_
       exact ⟨_,rz,by exact Kd.S_mono (Kd.S_far (p:=⟨gb147,1,none⟩) (Kd.S_far (p:=⟨gb147,0,none⟩) (Kd.S_types HO_152001.out BK147.out (by decide)) (fun _ hk=>hk.2) (.int .i64 a2)) (fun _ hk=>hk.2) (.slice Ao46 x152001_2.length co46)) (fun _ hk=>trivial),be⟩
def spec_l1Byte.f (s0_0:List Int) (s0_1:Int) (s0_2:Int):Option (Int × Int × Int):=if s0_1 < (s0_0.length:Int) then (if 0≤s0_1 then (some (Go.bits .and .i64 (wrap64 ((Go.bits .and .i64 (Go.bits .xor .i64 ((wrap64 ((wrap64 (s0_2 * 6364136223846793005))+1442695040888963407)) / 8589934592) ((wrap64 ((wrap64 (s0_2 * 6364136223846793005))+1442695040888963407)) / 140737488355328)) 255)+(wrap64 (rd s0_0 s0_1)))) 255,wrap64 (s0_1+1),wrap64 ((wrap64 (s0_2 * 6364136223846793005))+1442695040888963407))) else (none)) else (some (Go.bits .and .i64 (Go.bits .xor .i64 ((wrap64 ((wrap64 (s0_2 * 6364136223846793005))+1442695040888963407)) / 8589934592) ((wrap64 ((wrap64 (s0_2 * 6364136223846793005))+1442695040888963407)) / 140737488355328)) 255,s0_1,wrap64 ((wrap64 (s0_2 * 6364136223846793005))+1442695040888963407)))
set_option maxHeartbeats 8000000 in
set_option maxRecDepth 100000 in
theorem spec_l1Byte.calls (g:Nat) (s0_0:List Int) (s0_1:Int) (s0_2:Int) (r1:Int) (r2:Int) (r3:Int) (w0 w:World) (hI:IsS93 w0 w g s0_0 s0_1 s0_2) (hB:Below w0.heap.size w0 w) (h:spec_l1Byte.f s0_0 s0_1 s0_2=some (r1,r2,r3)) :
  Calls Try.prog 81 #[.pointer (some ⟨g,0,none⟩)] w fun e w'=>e = .returned (.int .i64 r1)∧IsS93 w0 w' g s0_0 r2 r3∧Below w0.heap.size w0 w' ∧ KeepBut w w' g none:=by
 have HI0:=aM hI
 have HK:=aM (KeepBut.refl w g none)
 have HL:=aM hB.size
 clear hI
 have HW0:=aM hB.size
 have HB:=aM hB
 clear hB
 have H:(if s0_1 < (s0_0.length:Int) then (if 0≤s0_1 then (some (Go.bits .and .i64 (wrap64 ((Go.bits .and .i64 (Go.bits .xor .i64 ((wrap64 ((wrap64 (s0_2 * 6364136223846793005))+1442695040888963407)) / 8589934592) ((wrap64 ((wrap64 (s0_2 * 6364136223846793005))+1442695040888963407)) / 140737488355328)) 255)+(wrap64 (rd s0_0 s0_1)))) 255,wrap64 (s0_1+1),wrap64 ((wrap64 (s0_2 * 6364136223846793005))+1442695040888963407))) else (none)) else (some (Go.bits .and .i64 (Go.bits .xor .i64 ((wrap64 ((wrap64 (s0_2 * 6364136223846793005))+1442695040888963407)) / 8589934592) ((wrap64 ((wrap64 (s0_2 * 6364136223846793005))+1442695040888963407)) / 140737488355328)) 255,s0_1,wrap64 ((wrap64 (s0_2 * 6364136223846793005))+1442695040888963407))))=some (r1,r2,r3):=h
 clear h
 by_cases c2:s0_1 < (s0_0.length:Int)
 ·rw [if_pos c2] at H
  have c2b0:decide (s0_1 < (s0_0.length:Int))=true:=decide_eq_true c2
  clear c2
  obtain ⟨c3,H⟩:=ifs H
  have c3b0:decide (0≤s0_1)=true:=decide_eq_true c3
  clear c3
  simp only [Option.some.injEq,Prod.mk.injEq] at H
  obtain ⟨rfl,rfl,rfl⟩:=H
  obtain ⟨ASz4_0,cSz4_0,HGz4,hgz4,HSz4_0⟩:=HI0.out
  have hcz4_0:=cellS93_0 HGz4
  have hcz4_1:=cellS93_1 HGz4
  have hcz4_2:=cellS93_2 HGz4
  have hfz4_1:=blk_frozen HGz4 1
  have hfz4_2:=blk_frozen HGz4 2
  clear HGz4 hgz4
  have p162:0≤(s0_1:Int):=od
  have q162:s0_1 < (s0_0.length:Int):=od
  obtain ⟨ad162,e162,hx162_0⟩:=Kd.at_int HSz4_0 s0_1 p162 q162
  cases e162
  have hn162_0:ad162.block ≠ g:=Nat.ne_of_lt (Nat.lt_of_lt_of_le (by have:=World.block_lt_of_cell? _ _ hx162_0;rwa [add_block] at this) (IsS93.ge HI0.out))
  replace hx162_0:=pw_cell_below HB.out hx162_0
  replace hx162_0:=(cell_far (p:=⟨g,2,none⟩) (by (rw [add_block];exact hn162_0)) (.int .i64 (wrap64 ((wrap64 (s0_2 * 6364136223846793005))+1442695040888963407)))).trans hx162_0
  (try have hy162_0:=fun (n_:Nat)=>(show (((w.drewN n_).setCell ⟨g,2,none⟩ (.int .i64 (wrap64 ((wrap64 (s0_2 * 6364136223846793005))+1442695040888963407))))).cell? _=some _ from hx162_0))
  clear hn162_0
  replace p162:=eq_true p162
  replace q162:=eq_true q162
  go_enter Try.func81,Try.ntmps81
  go_wp2
  repeat (go_quiet (fail);try go_wp2)
  go_ret
  exact ⟨rz,by repeat ((with_reducible first|exact HI0.out|apply IsS93.drewN|apply IsS93.set_1|apply IsS93.set_2)),by repeat ((with_reducible first|exact HB.out|apply pw_below_drewN|refine below_set ?_ (IsS93.ge HI0.out))),by repeat ((with_reducible first|exact HK.out|apply KeepBut.set_|apply keep_drewN))⟩
 ·rw [if_neg c2] at H
  have c2b0:decide (s0_1 < (s0_0.length:Int))=false:=decide_eq_false c2
  clear c2
  simp only [Option.some.injEq,Prod.mk.injEq] at H
  obtain ⟨rfl,rfl,rfl⟩:=H
  obtain ⟨ASz5_0,cSz5_0,HGz5,hgz5,HSz5_0⟩:=HI0.out
  have hcz5_0:=cellS93_0 HGz5
  have hcz5_1:=cellS93_1 HGz5
  have hcz5_2:=cellS93_2 HGz5
  have hfz5_1:=blk_frozen HGz5 1
  have hfz5_2:=blk_frozen HGz5 2
  clear HGz5 hgz5
  go_enter Try.func81,Try.ntmps81
  go_wp2
  repeat (go_quiet (fail);try go_wp2)
  go_ret
  exact ⟨rz,by repeat ((with_reducible first|exact HI0.out|apply IsS93.drewN|apply IsS93.set_2)),by repeat ((with_reducible first|exact HB.out|apply pw_below_drewN|refine below_set ?_ (IsS93.ge HI0.out))),by repeat ((with_reducible first|exact HK.out|apply KeepBut.set_|apply keep_drewN))⟩
def spec_l1Below.f (s0_0:List Int) (s0_1:Int) (s0_2:Int) (a1:Int):Option (Int × Int × Int):=if a1≤0 then (some (0,s0_1,s0_2)) else (if a1≤256 then ((spec_l1Byte.f s0_0 s0_1 s0_2).bind fun bt163=>(if a1=0 then (none) else (some (Int.tmod bt163.1 a1,bt163.2.1,bt163.2.2)))) else ((spec_l1Byte.f s0_0 s0_1 s0_2).bind fun bt166=>((spec_l1Byte.f s0_0 bt166.2.1 bt166.2.2).bind fun bt169=>((spec_l1Byte.f s0_0 bt169.2.1 bt169.2.2).bind fun bt172=>(if a1=0 then (none) else (some (Int.tmod (wrap64 ((wrap64 ((wrap64 (bt166.1 * 65536))+(wrap64 (bt169.1 * 256))))+bt172.1)) a1,bt172.2.1,bt172.2.2)))))))
set_option maxHeartbeats 8000000 in
set_option maxRecDepth 100000 in
theorem spec_l1Below.calls (g:Nat) (s0_0:List Int) (s0_1:Int) (s0_2:Int) (a1:Int) (r1:Int) (r2:Int) (r3:Int) (w0 w:World) (hI:IsS93 w0 w g s0_0 s0_1 s0_2) (hB:Below w0.heap.size w0 w) (h:spec_l1Below.f s0_0 s0_1 s0_2 a1=some (r1,r2,r3)) :
  Calls Try.prog 74 #[.pointer (some ⟨g,0,none⟩),.int .i64 a1] w fun e w'=>e = .returned (.int .i64 r1)∧IsS93 w0 w' g s0_0 r2 r3∧Below w0.heap.size w0 w' ∧ KeepBut w w' g none:=by
 have HI0:=aM hI
 have HK:=aM (KeepBut.refl w g none)
 have HL:=aM hB.size
 clear hI
 have HW0:=aM hB.size
 have HB:=aM hB
 clear hB
 have H:(if a1≤0 then (some (0,s0_1,s0_2)) else (if a1≤256 then ((spec_l1Byte.f s0_0 s0_1 s0_2).bind fun bt163=>(if a1=0 then (none) else (some (Int.tmod bt163.1 a1,bt163.2.1,bt163.2.2)))) else ((spec_l1Byte.f s0_0 s0_1 s0_2).bind fun bt166=>((spec_l1Byte.f s0_0 bt166.2.1 bt166.2.2).bind fun bt169=>((spec_l1Byte.f s0_0 bt169.2.1 bt169.2.2).bind fun bt172=>(if a1=0 then (none) else (some (Int.tmod (wrap64 ((wrap64 ((wrap64 (bt166.1 * 65536))+(wrap64 (bt169.1 * 256))))+bt172.1)) a1,bt172.2.1,bt172.2.2))))))))=some (r1,r2,r3):=h
 clear h
 by_cases c3:a1≤0
 ·rw [if_pos c3] at H
  have c3b0:decide (a1≤0)=true:=decide_eq_true c3
  clear c3
  simp only [Option.some.injEq,Prod.mk.injEq] at H
  obtain ⟨rfl,rfl,rfl⟩:=H
  go_enter Try.func74,Try.ntmps74
  go_wp2
  go_ret
  exact ⟨rz,by repeat ((with_reducible exact HI0.out)),by repeat ((with_reducible exact HB.out)),by repeat ((with_reducible exact HK.out))⟩
 ·rw [if_neg c3] at H
  have c3b0:decide (a1≤0)=false:=decide_eq_false c3
  clear c3
  by_cases c4:a1≤256
  ·rw [if_pos c4] at H
   have c4b0:decide (a1≤256)=true:=decide_eq_true c4
   clear c4
   replace H:=Option.bind_eq_some_iff.mp H
   obtain ⟨⟨t163,t164,t165⟩,A50,H⟩:=H
   try dsimp only at H
   have A5:=aM A50
   clear A50
   by_cases c6:a1=0
   ·rw [if_pos c6] at H
    exact absurd H (by simp)
   ·rw [if_neg c6] at H
    have c6b0:(a1 == 0)=false:=beq_eq_false_iff_ne.mpr c6
    have c6b1:(a1 != 0)=true:=bne_iff_ne.mpr c6
    simp only [Option.some.injEq,Prod.mk.injEq] at H
    obtain ⟨rfl,rfl,rfl⟩:=H
    go_enter Try.func74,Try.ntmps74
    go_wp2_with ((with_reducible refine gate_callee (f:=81) rfl ?_);refine goesL_ (some 13) rfl rfl Try.func81 (by kernel_rfl) rfl #[.pointer (some ⟨g,0,none⟩)] rfl (by (try simp only [List.map_toArray,List.map_cons,List.map_nil]);rfl) ?_;(with_reducible refine (spec_l1Byte.calls g s0_0 s0_1 s0_2 t163 t164 t165 w0 _ ?side1 ?side2 A5.out).mono ?_);(case side1=>repeat ((with_reducible exact HI0.out)));(case side2=>repeat ((with_reducible exact HB.out)));rintro e w7 ⟨rfl,hi,hb,hk⟩;refine ⟨_,rfl,?_⟩;replace HK:=aM (KeepBut.trans HK.out hk (.inl rfl));replace HB:=aM (hb);replace HI0:=aM (hi);(try clear hb);(try clear hk);(try clear hi))
    go_ret
    exact ⟨rz,by repeat ((with_reducible exact HI0.out)),by repeat ((with_reducible exact HB.out)),by repeat ((with_reducible exact HK.out))⟩
  ·rw [if_neg c4] at H
   have c4b0:decide (a1≤256)=false:=decide_eq_false c4
   clear c4
   replace H:=Option.bind_eq_some_iff.mp H
   obtain ⟨⟨t166,t167,t168⟩,A80,H⟩:=H
   try dsimp only at H
   have A8:=aM A80
   clear A80
   replace H:=Option.bind_eq_some_iff.mp H
   obtain ⟨⟨t169,t170,t171⟩,A90,H⟩:=H
   try dsimp only at H
   have A9:=aM A90
   clear A90
   replace H:=Option.bind_eq_some_iff.mp H
   obtain ⟨⟨t172,t173,t174⟩,A100,H⟩:=H
   try dsimp only at H
   have A10:=aM A100
   clear A100
   by_cases c11:a1=0
   ·rw [if_pos c11] at H
    exact absurd H (by simp)
   ·rw [if_neg c11] at H
    have c11b0:(a1 == 0)=false:=beq_eq_false_iff_ne.mpr c11
    have c11b1:(a1 != 0)=true:=bne_iff_ne.mpr c11
    simp only [Option.some.injEq,Prod.mk.injEq] at H
    obtain ⟨rfl,rfl,rfl⟩:=H
    go_enter Try.func74,Try.ntmps74
    go_wp2_with (first|((with_reducible refine gate_callee (f:=81) rfl ?_);refine goesL_ (some 17) rfl rfl Try.func81 (by kernel_rfl) rfl #[.pointer (some ⟨g,0,none⟩)] rfl (by (try simp only [List.map_toArray,List.map_cons,List.map_nil]);rfl) ?_;(with_reducible refine (spec_l1Byte.calls g s0_0 s0_1 s0_2 t166 t167 t168 w0 _ ?side1 ?side2 A8.out).mono ?_);(case side1=>repeat ((with_reducible exact HI0.out)));(case side2=>repeat ((with_reducible exact HB.out)));rintro e w12 ⟨rfl,hi,hb,hk⟩;refine ⟨_,rfl,?_⟩;replace HK:=aM (KeepBut.trans HK.out hk (.inl rfl));replace HB:=aM (hb);replace HI0:=aM (hi);(try clear hb);(try clear hk);(try clear hi))|((with_reducible refine gate_callee (f:=81) rfl ?_);refine goesL_ (some 19) rfl rfl Try.func81 (by kernel_rfl) rfl #[.pointer (some ⟨g,0,none⟩)] rfl (by (try simp only [List.map_toArray,List.map_cons,List.map_nil]);rfl) ?_;(with_reducible refine (spec_l1Byte.calls g s0_0 t167 t168 t169 t170 t171 w0 _ ?side1 ?side2 A9.out).mono ?_);(case side1=>repeat ((with_reducible exact HI0.out)));(case side2=>repeat ((with_reducible exact HB.out)));rintro e w13 ⟨rfl,hi,hb,hk⟩;refine ⟨_,rfl,?_⟩;replace HK:=aM (KeepBut.trans HK.out hk (.inl rfl));replace HB:=aM (hb);replace HI0:=aM (hi);(try clear hb);(try clear hk);(try clear hi))|((with_reducible refine gate_callee (f:=81) rfl ?_);refine goesL_ (some 21) rfl rfl Try.func81 (by kernel_rfl) rfl #[.pointer (some ⟨g,0,none⟩)] rfl (by (try simp only [List.map_toArray,List.map_cons,List.map_nil]);rfl) ?_;(with_reducible refine (spec_l1Byte.calls g s0_0 t170 t171 t172 t173 t174 w0 _ ?side1 ?side2 A10.out).mono ?_);(case side1=>repeat ((with_reducible exact HI0.out)));(case side2=>repeat ((with_reducible exact HB.out)));rintro e w14 ⟨rfl,hi,hb,hk⟩;refine ⟨_,rfl,?_⟩;replace HK:=aM (KeepBut.trans HK.out hk (.inl rfl));replace HB:=aM (hb);replace HI0:=aM (hi);(try clear hb);(try clear hk);(try clear hi)))
    go_ret
    exact ⟨rz,by repeat ((with_reducible exact HI0.out)),by repeat ((with_reducible exact HB.out)),by repeat ((with_reducible exact HK.out))⟩
def spec_l1Int.f (s0_0:List Int) (s0_1:Int) (s0_2:Int) (l1:List Int):Option (Int × Int × Int):=(spec_l1Below.f s0_0 s0_1 s0_2 (l1.length:Int)).bind fun bt175=>(if 0≤bt175.1 then (if bt175.1 < (l1.length:Int) then (some (rd l1 bt175.1,bt175.2.1,bt175.2.2)) else (none)) else (none))
set_option maxHeartbeats 8000000 in
set_option maxRecDepth 100000 in
theorem spec_l1Int.calls (g:Nat) (s0_0:List Int) (s0_1:Int) (s0_2:Int) (A1:Option Addr) (c1:Nat) (l1:List Int) (r1:Int) (r2:Int) (r3:Int) (w0 w:World) (hI:IsS93 w0 w g s0_0 s0_1 s0_2) (hB:Below w0.heap.size w0 w) (hr1:Kd.C (Kd.int .i64) w A1 l1.length l1) (hc1:l1.length≤c1) (hf1 : ∀ ad,A1=some ad→0 < l1.length→ad.block ≠ g) (h:spec_l1Int.f s0_0 s0_1 s0_2 l1=some (r1,r2,r3)) :
  Calls Try.prog 71 #[.pointer (some ⟨g,0,none⟩),.slice A1 l1.length c1] w fun e w'=>e = .returned (.int .i64 r1)∧IsS93 w0 w' g s0_0 r2 r3∧Below w0.heap.size w0 w' ∧ KeepBut w w' g none:=by
 have HR1:=aM hr1
 have HC1:=aM hc1
 clear hr1 hc1
 have HI0:=aM hI
 have HK:=aM (KeepBut.refl w g none)
 have HL:=aM hB.size
 clear hI
 have HW0:=aM hB.size
 have HB:=aM hB
 clear hB
 have H:((spec_l1Below.f s0_0 s0_1 s0_2 (l1.length:Int)).bind fun bt175=>(if 0≤bt175.1 then (if bt175.1 < (l1.length:Int) then (some (rd l1 bt175.1,bt175.2.1,bt175.2.2)) else (none)) else (none)))=some (r1,r2,r3):=h
 clear h
 replace H:=Option.bind_eq_some_iff.mp H
 obtain ⟨⟨t175,t176,t177⟩,A30,H⟩:=H
 try dsimp only at H
 have A3:=aM A30
 clear A30
 obtain ⟨c4,H⟩:=ifs H
 have c4b0:decide (0≤t175)=true:=decide_eq_true c4
 clear c4
 obtain ⟨c5,H⟩:=ifs H
 have c5b0:decide (t175 < (l1.length:Int))=true:=decide_eq_true c5
 clear c5
 simp only [Option.some.injEq,Prod.mk.injEq] at H
 obtain ⟨rfl,rfl,rfl⟩:=H
 go_enter Try.func71,Try.ntmps71
 go_wp2_with ((with_reducible refine gate_callee (f:=74) rfl ?_);refine goesL_ (some 9) rfl rfl Try.func74 (by kernel_rfl) rfl #[.pointer (some ⟨g,0,none⟩),.int .i64 (l1.length:Int)] rfl (by (try simp only [List.map_toArray,List.map_cons,List.map_nil]);rfl) ?_;(with_reducible refine (spec_l1Below.calls g s0_0 s0_1 s0_2 (l1.length:Int) t175 t176 t177 w0 _ ?side1 ?side2 A3.out).mono ?_);(case side1=>repeat ((with_reducible exact HI0.out)));(case side2=>repeat ((with_reducible exact HB.out)));rintro e w6 ⟨rfl,hi,hb,hk⟩;refine ⟨_,rfl,?_⟩;replace HK:=aM (KeepBut.trans HK.out hk (.inl rfl));replace HB:=aM (hb);replace HI0:=aM (hi);(try clear hb);(try clear hk);(try clear hi);have p178:0≤(t175:Int):=od;have q178:t175 < (l1.length:Int):=od;obtain ⟨ad178,e178,hx178_0⟩:=Kd.at_int HR1.out t175 p178 q178;cases e178;replace hx178_0:=keep_cell HK.out hx178_0 (by (rw [add_block];exact hf1 _ rfl (by omega)));replace p178:=eq_true p178;replace q178:=eq_true q178)
 go_ret
 exact ⟨rz,by repeat ((with_reducible exact HI0.out)),by repeat ((with_reducible exact HB.out)),by repeat ((with_reducible exact HK.out))⟩
def spec_l4Draw.l0:Nat→List (S61)→Int→Int→Int→List Int→Int→Int→Option ((List (S61)) × Int × Int)
 | 0,_,_,_,_,_,_,_=>none
 | k+1,x3,x4,x5,x6,x1000,x1001,x1002=>if x6 > 0 then ((spec_l1Int.f x1000 x1001 x1002 (([1,1,2]:List Int))).bind fun bt191=>((spec_l1Below.f x1000 bt191.2.1 bt191.2.2 x4).bind fun bt194=>((spec_l1Int.f x1000 bt194.2.1 bt194.2.2 (([1,1,1,2,10,100]:List Int))).bind fun bt200=>(if x3.length < 5864062014805 then (spec_l4Draw.l0 k (x3 ++ [(⟨wrap64 (x5+bt191.1),bt194.1,bt200.1⟩:S61)]) x4 (wrap64 (x5+bt191.1)) (wrap64 (x6 - 1)) x1000 bt200.2.1 bt200.2.2) else (none))))) else (some (x3,x1001,x1002))
def spec_l4Draw.f (k:Nat) (s0_0:List Int) (s0_1:Int) (s0_2:Int):Option ((List (S61)) × Int × Int):=(spec_l1Below.f s0_0 s0_1 s0_2 4).bind fun bt182=>((spec_l1Below.f s0_0 bt182.2.1 bt182.2.2 5).bind fun bt185=>(spec_l4Draw.l0 k (([]:List (S61))) (wrap64 (1+bt182.1)) 0 (wrap64 (2+bt185.1)) s0_0 bt185.2.1 bt185.2.2))
set_option maxHeartbeats 8000000 in
set_option maxRecDepth 100000 in
theorem spec_l4Draw.calls (k:Nat) (g:Nat) (s0_0:List Int) (s0_1:Int) (s0_2:Int) (r1:List (S61)) (r2:Int) (r3:Int) (w0 w:World) (hI:IsS93 w0 w g s0_0 s0_1 s0_2) (hB:Below w0.heap.size w0 w) (h:spec_l4Draw.f k s0_0 s0_1 s0_2=some (r1,r2,r3)) :
  Calls Try.prog 73 #[.pointer (some ⟨g,0,none⟩)] w fun e w'=>∃ v0_:Value,e = .returned (v0_)∧Kd.R k61 61 w' w.heap.size (fun _=>True) v0_ r1∧IsS93 w0 w' g s0_0 r2 r3∧Below w0.heap.size w0 w' ∧ KeepBut w w' g none:=by
 have hu61:=Try.underlying61
 have HI0:=aM hI
 have HK:=aM (KeepBut.refl w g none)
 have HL:=aM hB.size
 clear hI
 have HW0:=aM hB.size
 have HB:=aM hB
 clear hB
 have H:((spec_l1Below.f s0_0 s0_1 s0_2 4).bind fun bt182=>((spec_l1Below.f s0_0 bt182.2.1 bt182.2.2 5).bind fun bt185=>(spec_l4Draw.l0 k (([]:List (S61))) (wrap64 (1+bt182.1)) 0 (wrap64 (2+bt185.1)) s0_0 bt185.2.1 bt185.2.2)))=some (r1,r2,r3):=h
 clear h
 obtain ⟨y179,hy179⟩ : ∃ y_:List (S61),y_=(([]:List (S61))):=⟨_,rfl⟩
 replace H:((spec_l1Below.f s0_0 s0_1 s0_2 4).bind fun bt182=>((spec_l1Below.f s0_0 bt182.2.1 bt182.2.2 5).bind fun bt185=>(spec_l4Draw.l0 k y179 (wrap64 (1+bt182.1)) 0 (wrap64 (2+bt185.1)) s0_0 bt185.2.1 bt185.2.2)))=some (r1,r2,r3):=by (rw [hy179];with_reducible exact H)
 have Ny179:=aM hy179
 clear hy179
 replace H:=Option.bind_eq_some_iff.mp H
 obtain ⟨⟨t182,t183,t184⟩,A20,H⟩:=H
 try dsimp only at H
 have A2:=aM A20
 clear A20
 replace H:=Option.bind_eq_some_iff.mp H
 obtain ⟨⟨t185,t186,t187⟩,A30,H⟩:=H
 try dsimp only at H
 have A3:=aM A30
 clear A30
 have H':=Aside0.mk H
 clear H
 go_enter Try.func73,Try.ntmps73
 go_wp2_with (first|((with_reducible refine gate_dst (N:=7) rfl ?_);refine Kd.R_lit k61 _ 61 ?hg (N:=7) ?hd (xs:=([]:List (S61))) (inner:=[]) (ok:=fun _=>True) (okp:=fun _=>True) ?hr ?hp (fun _ hk=>hk) trivial (Below.refl _ _) (Nat.le_refl _) (by simp) ?_;(case hd=>rfl);(case hg=>rfl);(case hr=>(go_simp;done));(case hp=>exact (Reps.none _ _));intro v180 w4 ho5 hb hg_ hnew_;clear hg_ hnew_;(rw [← Ny179.out] at ho5);have HO181:=aM (Kd.R_lower ho5 (keep_size (w:=w) (g:=g) (row:=none) HK.out));replace HK:=aM (KeepBut.trans HK.out (KeepBut.of_below hb g none) (.inl rfl));replace HB:=aM (below_step HB.out hb);replace HI0:=aM (IsS93.below HI0.out hb);clear hb ho5)|((with_reducible refine gate_callee (f:=74) rfl ?_);refine goesL_ (some 9) rfl rfl Try.func74 (by kernel_rfl) rfl #[.pointer (some ⟨g,0,none⟩),.int .i64 4] rfl (by (try simp only [List.map_toArray,List.map_cons,List.map_nil]);rfl) ?_;(with_reducible refine (spec_l1Below.calls g s0_0 s0_1 s0_2 4 t182 t183 t184 w0 _ ?side1 ?side2 A2.out).mono ?_);(case side1=>repeat ((with_reducible exact HI0.out)));(case side2=>repeat ((with_reducible exact HB.out)));rintro e w6 ⟨rfl,hi,hb,hk⟩;refine ⟨_,rfl,?_⟩;replace HO181:=aM (Kd.R_mono (Kd.R_keep (IsS93.apart (show IsS93 w0 _ g s0_0 s0_1 s0_2 from by exact HI0.out) (rR HO181) (by decide)) hk (fun _ h=>h.2)) (fun _ h=>h.1));replace HK:=aM (KeepBut.trans HK.out hk (.inl rfl));replace HB:=aM (hb);replace HI0:=aM (hi);(try clear hb);(try clear hk);(try clear hi))|((with_reducible refine gate_callee (f:=74) rfl ?_);refine goesL_ (some 12) rfl rfl Try.func74 (by kernel_rfl) rfl #[.pointer (some ⟨g,0,none⟩),.int .i64 5] rfl (by (try simp only [List.map_toArray,List.map_cons,List.map_nil]);rfl) ?_;(with_reducible refine (spec_l1Below.calls g s0_0 t183 t184 5 t185 t186 t187 w0 _ ?side1 ?side2 A3.out).mono ?_);(case side1=>repeat ((with_reducible exact HI0.out)));(case side2=>repeat ((with_reducible exact HB.out)));rintro e w7 ⟨rfl,hi,hb,hk⟩;refine ⟨_,rfl,?_⟩;replace HO181:=aM (Kd.R_mono (Kd.R_keep (IsS93.apart (show IsS93 w0 _ g s0_0 t183 t184 from by exact HI0.out) (rR HO181) (by decide)) hk (fun _ h=>h.2)) (fun _ h=>h.1));replace HK:=aM (KeepBut.trans HK.out hk (.inl rfl));replace HB:=aM (hb);replace HI0:=aM (hi);(try clear hb);(try clear hk);(try clear hi)))
 go_loopg [3,5,6] k (fun kq v3 v5 v6 w'=>∃ (x3_1:List (S61)) (x5_1:Int) (x6_1:Int) (x1001_1:Int) (x1002_1:Int),v5 = .int .i64 x5_1∧v6 = .int .i64 x6_1∧Aside0 (spec_l4Draw.l0 kq x3_1 (wrap64 (1+t182)) x5_1 x6_1 s0_0 x1001_1 x1002_1=some (r1,r2,r3))∧Aside0 (kq≤k)∧Aside0 (Kd.R k61 61 w' w.heap.size (fun _=>True) v3 x3_1)∧Aside0 (IsS93 w0 w' g s0_0 x1001_1 x1002_1)∧Aside0 (KeepBut w w' g none)∧Aside0 (Below w0.heap.size w0 w'))
 case atStart=>exact ⟨(y179),(0),(wrap64 (2+t185)),(t186),(t187),rd_,rd_,H',⟨Nat.le_refl _⟩,⟨rR HO181⟩,⟨by repeat ((with_reducible exact HI0.out))⟩,⟨by repeat ((with_reducible exact HK.out))⟩,⟨by repeat ((with_reducible exact HB.out))⟩⟩
 case round=>
  clear H'
  obtain ⟨x3_1,x5_1,x6_1,x1001_1,x1002_1,rfl,rfl,HA,HK1,HO_3,HI0,HK,HB⟩:=hrel
  cases gk with
  | zero=>exact absurd HA.out (by simp [spec_l4Draw.l0])
  | succ k1=>
   have H:=HA.out
   clear HA
   simp only [spec_l4Draw.l0] at H
   by_cases c8:x6_1 > 0
   ·rw [if_pos c8] at H
    have c8b0:decide (0 < x6_1)=true:=decide_eq_true c8
    clear c8
    obtain ⟨y188,hy188⟩ : ∃ y_:List Int,y_=(([1,1,2]:List Int)):=⟨_,rfl⟩
    replace H:((spec_l1Int.f s0_0 x1001_1 x1002_1 y188).bind fun bt191=>((spec_l1Below.f s0_0 bt191.2.1 bt191.2.2 (wrap64 (1+t182))).bind fun bt194=>((spec_l1Int.f s0_0 bt194.2.1 bt194.2.2 (([1,1,1,2,10,100]:List Int))).bind fun bt200=>(if x3_1.length < 5864062014805 then (spec_l4Draw.l0 k1 (x3_1 ++ [(⟨wrap64 (x5_1+bt191.1),bt194.1,bt200.1⟩:S61)]) (wrap64 (1+t182)) (wrap64 (x5_1+bt191.1)) (wrap64 (x6_1 - 1)) s0_0 bt200.2.1 bt200.2.2) else (none)))))=some (r1,r2,r3):=by (rw [hy188];with_reducible exact H)
    have Ny188:=aM hy188
    clear hy188
    replace H:=Option.bind_eq_some_iff.mp H
    obtain ⟨⟨t191,t192,t193⟩,A90,H⟩:=H
    try dsimp only at H
    have A9:=aM A90
    clear A90
    replace H:=Option.bind_eq_some_iff.mp H
    obtain ⟨⟨t194,t195,t196⟩,A100,H⟩:=H
    try dsimp only at H
    have A10:=aM A100
    clear A100
    obtain ⟨y197,hy197⟩ : ∃ y_:List Int,y_=(([1,1,1,2,10,100]:List Int)):=⟨_,rfl⟩
    replace H:((spec_l1Int.f s0_0 t195 t196 y197).bind fun bt200=>(if x3_1.length < 5864062014805 then (spec_l4Draw.l0 k1 (x3_1 ++ [(⟨wrap64 (x5_1+t191),t194,bt200.1⟩:S61)]) (wrap64 (1+t182)) (wrap64 (x5_1+t191)) (wrap64 (x6_1 - 1)) s0_0 bt200.2.1 bt200.2.2) else (none)))=some (r1,r2,r3):=by (rw [hy197];with_reducible exact H)
    have Ny197:=aM hy197
    clear hy197
    replace H:=Option.bind_eq_some_iff.mp H
    obtain ⟨⟨t200,t201,t202⟩,A110,H⟩:=H
    try dsimp only at H
    have A11:=aM A110
    clear A110
    obtain ⟨c12,H⟩:=ifs H
    have LMc12:=aM c12
    clear c12
    obtain ⟨y203,hy203⟩ : ∃ y_:List (S61),y_=(x3_1 ++ [(⟨wrap64 (x5_1+t191),t194,t200⟩:S61)]):=⟨_,rfl⟩
    replace H:(spec_l4Draw.l0 k1 y203 (wrap64 (1+t182)) (wrap64 (x5_1+t191)) (wrap64 (x6_1 - 1)) s0_0 t201 t202)=some (r1,r2,r3):=by (rw [hy203];with_reducible exact H)
    have Ny203:=aM hy203
    clear hy203
    have H':=Aside0.mk H
    clear H
    go_wp2_with (first|((with_reducible refine gate_dst (N:=20) rfl ?_);refine Kd.R_lit (Kd.int .i64) _ 3 ?hg (N:=20) ?hd (xs:=([1,1,2]:List Int)) (inner:=[.int .i64 1,.int .i64 1,.int .i64 2]) (ok:=fun _=>True) (okp:=fun _=>True) ?hr ?hp (fun _ hk=>hk) trivial (Below.refl _ _) (Nat.le_refl _) (by simp) ?_;(case hd=>rfl);(case hg=>rfl);(case hr=>(go_simp;done));(case hp=>exact (Reps.one (show Kd.M (Kd.int .i64) _ _ _ 1 [.int .i64 1] from rfl) (Reps.one (show Kd.M (Kd.int .i64) _ _ _ 1 [.int .i64 1] from rfl) (Reps.one (show Kd.M (Kd.int .i64) _ _ _ 2 [.int .i64 2] from rfl) (Reps.none _ _)))));intro v189 w13 ho14 hb hg_ hnew_;clear hg_ hnew_;(rw [← Ny188.out] at ho14);replace HO_3:=rB HO_3 hb;have HO190:=aM (Kd.R_lower ho14 (keep_size (w:=w) (g:=g) (row:=none) HK.out));replace HK:=aM (KeepBut.trans HK.out (KeepBut.of_below hb g none) (.inl rfl));replace HB:=aM (below_step HB.out hb);replace HI0:=aM (IsS93.below HI0.out hb);clear hb ho14;obtain ⟨Ao15,co15,eo15⟩:=Kd.R_slice HO190.out;subst eo15)|((with_reducible refine gate_callee (f:=71) rfl ?_);refine goesL_ (some 21) rfl rfl Try.func71 (by kernel_rfl) rfl #[.pointer (some ⟨g,0,none⟩),.slice Ao15 y188.length co15] rfl (by (try simp only [List.map_toArray,List.map_cons,List.map_nil]);rfl) ?_;(with_reducible refine (spec_l1Int.calls g s0_0 x1001_1 x1002_1 _ _ y188 t191 t192 t193 w0 _ ?side1 ?side2 ?side3 ?side4 ?side5 A9.out).mono ?_);(case side1=>repeat ((with_reducible exact HI0.out)));(case side2=>repeat ((with_reducible exact HB.out)));(case side3=>exact sR HO190);(case side4=>exact (Kd.R_reads' HO190.out).2.1);(case side5=>exact far_slice (IsS93.own_ne HI0.out HO190.out (by decide)));rintro e w16 ⟨rfl,hi,hb,hk⟩;refine ⟨_,rfl,?_⟩;replace HO_3:=aM (Kd.R_mono (Kd.R_keep (IsS93.apart (show IsS93 w0 _ g s0_0 x1001_1 x1002_1 from by exact HI0.out) (rR HO_3) (by decide)) hk (fun _ h=>h.2)) (fun _ h=>h.1));replace HO190:=aM (Kd.R_mono (Kd.R_keep (IsS93.apart (show IsS93 w0 _ g s0_0 x1001_1 x1002_1 from by exact HI0.out) (rR HO190) (by decide)) hk (fun _ h=>h.2)) (fun _ h=>h.1));replace HK:=aM (KeepBut.trans HK.out hk (.inl rfl));replace HB:=aM (hb);replace HI0:=aM (hi);(try clear hb);(try clear hk);(try clear hi))|((with_reducible refine gate_callee (f:=74) rfl ?_);refine goesL_ (some 27) rfl rfl Try.func74 (by kernel_rfl) rfl #[.pointer (some ⟨g,0,none⟩),.int .i64 (wrap64 (1+t182))] rfl (by (try simp only [List.map_toArray,List.map_cons,List.map_nil]);rfl) ?_;(with_reducible refine (spec_l1Below.calls g s0_0 t192 t193 (wrap64 (1+t182)) t194 t195 t196 w0 _ ?side1 ?side2 A10.out).mono ?_);(case side1=>repeat ((with_reducible exact HI0.out)));(case side2=>repeat ((with_reducible exact HB.out)));rintro e w17 ⟨rfl,hi,hb,hk⟩;refine ⟨_,rfl,?_⟩;replace HO_3:=aM (Kd.R_mono (Kd.R_keep (IsS93.apart (show IsS93 w0 _ g s0_0 t192 t193 from by exact HI0.out) (rR HO_3) (by decide)) hk (fun _ h=>h.2)) (fun _ h=>h.1));replace HO190:=aM (Kd.R_mono (Kd.R_keep (IsS93.apart (show IsS93 w0 _ g s0_0 t192 t193 from by exact HI0.out) (rR HO190) (by decide)) hk (fun _ h=>h.2)) (fun _ h=>h.1));replace HK:=aM (KeepBut.trans HK.out hk (.inl rfl));replace HB:=aM (hb);replace HI0:=aM (hi);(try clear hb);(try clear hk);(try clear hi))|((with_reducible refine gate_dst (N:=29) rfl ?_);refine Kd.R_lit (Kd.int .i64) _ 3 ?hg (N:=29) ?hd (xs:=([1,1,1,2,10,100]:List Int)) (inner:=[.int .i64 1,.int .i64 1,.int .i64 1,.int .i64 2,.int .i64 10,.int .i64 100]) (ok:=fun _=>True) (okp:=fun _=>True) ?hr ?hp (fun _ hk=>hk) trivial (Below.refl _ _) (Nat.le_refl _) (by simp) ?_;(case hd=>rfl);(case hg=>rfl);(case hr=>(go_simp;done));(case hp=>exact (Reps.one (show Kd.M (Kd.int .i64) _ _ _ 1 [.int .i64 1] from rfl) (Reps.one (show Kd.M (Kd.int .i64) _ _ _ 1 [.int .i64 1] from rfl) (Reps.one (show Kd.M (Kd.int .i64) _ _ _ 1 [.int .i64 1] from rfl) (Reps.one (show Kd.M (Kd.int .i64) _ _ _ 2 [.int .i64 2] from rfl) (Reps.one (show Kd.M (Kd.int .i64) _ _ _ 10 [.int .i64 10] from rfl) (Reps.one (show Kd.M (Kd.int .i64) _ _ _ 100 [.int .i64 100] from rfl) (Reps.none _ _))))))));intro v198 w18 ho19 hb hg_ hnew_;clear hg_ hnew_;(rw [← Ny197.out] at ho19);replace HO_3:=rB HO_3 hb;have HO199:=aM (Kd.R_lower (Kd.R_new' ho19 (Kd.R_lt (rR HO190))) (keep_size (w:=w) (g:=g) (row:=none) HK.out));replace HK:=aM (KeepBut.trans HK.out (KeepBut.of_below hb g none) (.inl rfl));replace HB:=aM (below_step HB.out hb);replace HI0:=aM (IsS93.below HI0.out hb);clear HO190;clear hb ho19;obtain ⟨Ao20,co20,eo20⟩:=Kd.R_slice HO199.out;subst eo20)|((with_reducible refine gate_callee (f:=71) rfl ?_);refine goesL_ (some 30) rfl rfl Try.func71 (by kernel_rfl) rfl #[.pointer (some ⟨g,0,none⟩),.slice Ao20 y197.length co20] rfl (by (try simp only [List.map_toArray,List.map_cons,List.map_nil]);rfl) ?_;(with_reducible refine (spec_l1Int.calls g s0_0 t195 t196 _ _ y197 t200 t201 t202 w0 _ ?side1 ?side2 ?side3 ?side4 ?side5 A11.out).mono ?_);(case side1=>repeat ((with_reducible exact HI0.out)));(case side2=>repeat ((with_reducible exact HB.out)));(case side3=>exact sR HO199);(case side4=>exact (Kd.R_reads' HO199.out).2.1);(case side5=>exact far_slice (IsS93.own_ne HI0.out HO199.out (by decide)));rintro e w21 ⟨rfl,hi,hb,hk⟩;refine ⟨_,rfl,?_⟩;replace HO_3:=aM (Kd.R_mono (Kd.R_keep (IsS93.apart (show IsS93 w0 _ g s0_0 t195 t196 from by exact HI0.out) (rR HO_3) (by decide)) hk (fun _ h=>h.2)) (fun _ h=>h.1));replace HK:=aM (KeepBut.trans HK.out hk (.inl rfl));replace HB:=aM (hb);replace HI0:=aM (hi);clear HO199;(try clear hb);(try clear hk);(try clear hi))|((with_reducible refine gate_builtin (b:=.append) (xs:=#[.tmp 23,.tmp 32]) rfl ?_);at_builtin;refine Kd.R_append k61 w.heap.size rfl (.tmp 23) (.tmp 32) 27 61 (.agg #[(.int .i64 0),(.int .i64 0),(.int .i64 0)]) 24 rfl Try.underlying27 info61 rfl (by decide) (by omega) u3 x3_1 (⟨wrap64 (x5_1+t191),t194,t200⟩:S61) [.int .i64 (wrap64 (x5_1+t191)),.int .i64 t194,.int .i64 t200] (fun _=>True) (fun _=>False) rfl rfl ?aP (fun _ hk=>hk.elim) ?aF ?aO (Below.refl _ _) ?aS ?aL ?_;(case aP=>exact k61_mkM _ _ _ (⟨wrap64 (x5_1+t191),t194,t200⟩:S61));(case aF=>exact (fun _ _=>trivial));(case aO=>exact (rR HO_3));(case aS=>exact (keep_size (w:=w) (g:=g) (row:=none) HK.out));(case aL=>have:=LMc12.out;omega);intro v204 w22 ho hb hg hat;rw [← Ny203.out] at ho;replace HB:=aM (below_weaken HB.out HL.out hb);replace HI0:=aM (IsS93.grown HI0.out hg (IsS93.own_ne HI0.out HO_3.out (by decide)));replace HK:=aM (KeepBut.trans HK.out (KeepBut.of_grown hg g) (Kd.R_base2 HO_3.out));have HO205:=aM (ho);clear HO_3;clear ho hb hg hat))
    go_roundg k1
    case measure=>have:=HK1.out;omega
    case rel=>exact ⟨(y203),(wrap64 (x5_1+t191)),(wrap64 (x6_1 - 1)),(t201),(t202),rd_,rd_,H',⟨by have:=HK1.out;omega⟩,⟨rR HO205⟩,⟨by repeat ((with_reducible exact HI0.out))⟩,⟨by repeat ((with_reducible exact HK.out))⟩,⟨by repeat ((with_reducible exact HB.out))⟩⟩
   ·rw [if_neg c8] at H
    have c8b0:decide (0 < x6_1)=false:=decide_eq_false c8
    clear c8
    simp only [Option.some.injEq,Prod.mk.injEq] at H
    obtain ⟨rfl,rfl,rfl⟩:=H
    go_wp2
    go_ret
    exact ⟨_,rz,rR HO_3,by repeat ((with_reducible exact HI0.out)),by repeat ((with_reducible exact HB.out)),by repeat ((with_reducible exact HK.out))⟩
end Go.Proofs.Ytpbjbfimnfghkaa.PFnRebalanced
