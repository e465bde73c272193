/- Trimmed by a program of this session (trim.py). Not trusted: Lean checks it. -/
import Derived.Test.YtnoglmdicdpabaaDoorTLDevsReadPFnDevsReadx0
import Derived.Test.YtnoglmdicdpabaaDoorTLDevsReadPFnDevsReadx2
import Derived.Test.YtnoglmdicdpabaaDoorTLDevsReadPFnDevsReadx3
import Derived.Lib.AtoiErrMem
import Derived.Lib.SplitLaws
import Derived.Test.YtnoglmdicdpabaaDoorTLDevsReadLaidE
import Derived.Test.YtnoglmdicdpabaaDoorTLDevsReadShelf
namespace Go.Proofs.YtnoglmdicdpabaaDoor.PFnDevsRead
open Go.RowKit Go.Proofs.YtnoglmdicdpabaaDoorW.PrintWords Go.Proofs.YtnoglmdicdpabaaDoorW.PrintLast Go.Proofs.YtnoglmdicdpabaaDoorW.PrintMore Go.Proofs.YtnoglmdicdpabaaDoor.St
attribute [local go_sem] max2_int min2_int max_two min_two max_three min_three max_four min_four
set_option linter.unusedVariables false
set_option linter.unusedSimpArgs false
mutual
def spec_l2Number.j0:Nat→ByteArray→Bool→Option (Int)
 | 0,_,_=>none
 | k+1,x0,x18=>if x18=true then (some (-1)) else (spec_l2Number.l0 k x0 0 0)
def spec_l2Number.l0:Nat→ByteArray→Int→Int→Option (Int)
 | 0,_,_,_=>none
 | k+1,x0,x3,x4=>if x4 < (x0.size:Int) then (if 0≤x4 then ((spec_l1In.f (wrap64 (bt x0 x4)) 48 57).bind fun t136=>(if t136=true then (spec_l2Number.l0 k x0 (wrap64 ((wrap64 (x3 * 10))+(((bt x0 x4) - 48) % 256))) (wrap64 (x4+1))) else (some (-1)))) else (none)) else (some x3)
end
def spec_l2Number.f (k:Nat) (a0:ByteArray):Option (Int):=(spec_l1In.f (a0.size:Int) 1 10).bind fun t135=>(if t135=true then (if (a0.size:Int) > 1 then (if 0 < (a0.size:Int) then (spec_l2Number.j0 k a0 ((bt a0 0) == 48)) else (none)) else (spec_l2Number.j0 k a0 false)) else (spec_l2Number.j0 k a0 true))
set_option maxHeartbeats 8000000 in
set_option maxRecDepth 100000 in
theorem spec_l2Number.calls (k:Nat) (a0:ByteArray) (r:Int) (w:World) (h:spec_l2Number.f k a0=some r) :
  Calls Tryd.prog 47 #[.string a0] w fun e w'=>e = .returned (.int .i64 r)∧Drawn0 w w':=by
 have H:((spec_l1In.f (a0.size:Int) 1 10).bind fun t135=>(if t135=true then (if (a0.size:Int) > 1 then (if 0 < (a0.size:Int) then (spec_l2Number.j0 k a0 ((bt a0 0) == 48)) else (none)) else (spec_l2Number.j0 k a0 false)) else (spec_l2Number.j0 k a0 true)))=some r:=h
 clear h
 have HC2:=Aside0.mk H
 clear H
 go_enter Tryd.func47,Tryd.ntmps47
 go_upto_region 1 with (fail)
 go_cut [18] (fun v18 wc=>∃ (kq:Nat) (x18_1:Bool),v18 = .bool x18_1∧Aside0 (spec_l2Number.j0 kq a0 x18_1=some r)∧Aside0 (kq≤k)∧Drawn0 w wc)
 case first=>
  have H:=HC2.out
  clear HC2
  replace H:=Option.bind_eq_some_iff.mp H
  obtain ⟨t135,A30,H⟩:=H
  try dsimp only at H
  have A3:=Aside0.mk A30
  clear A30
  by_cases c4:t135=true
  ·subst c4
   rw [if_pos rfl] at H
   by_cases c5:(a0.size:Int) > 1
   ·rw [if_pos c5] at H
    have c5b0:decide (1 < (a0.size:Int))=true:=decide_eq_true c5
    have c5b1:decide (1 < a0.size)=true:=decide_eq_true (by omega)
    clear c5
    (first|rw [c5b0]|(simp only [i64_w,i32_w];rw [c5b0])|skip)
    by_cases c6:0 < (a0.size:Int)
    ·rw [if_pos c6] at H
     have c6b0:decide (0 < (a0.size:Int))=true:=decide_eq_true c6
     have c6b1:decide (0 < a0.size)=true:=decide_eq_true (by omega)
     clear c6
     have H':=Aside0.mk H
     clear H
     go_wp2_with (first|((with_reducible refine gate_callee (f:=52) rfl ?_);refine goesL_ (some 7) rfl rfl Tryd.func52 (by kernel_rfl) rfl #[.int .i64 (a0.size:Int),.int .i64 1,.int .i64 10] rfl (by (try simp only [List.map_toArray,List.map_cons,List.map_nil]);first|done|rfl|(simp only [List.length_drop,List.length_take];rfl)) ?_;(with_reducible refine (spec_l1In.calls (a0.size:Int) 1 10 true _ A3.out).mono ?_);rintro e w' ⟨rfl,⟨nd,rfl⟩⟩;refine ⟨_,rfl,?_⟩;have p7:0≤(0:Int):=(by omega);have q7:0 < a0.size:=(by have:(0:Int) < (a0.size:Int):=of_decide_eq_true (by first|(with_reducible assumption)|assumption);omega);have hx7 : ∀ h:0 < a0.size,((a0[0]'h).toNat:Int)=bt a0 0:=bt_at a0 0;clear p7;have qi7:(0 < (a0.size:Int))=True:=eq_true (of_decide_eq_true (by first|(with_reducible assumption)|assumption));replace q7:=eq_true q7))
     go_meet
     case rel=>exact ⟨_,(((bt a0 0) == 48)),rd_,H',⟨by first|omega|exact Nat.le_refl _⟩,by repeat (first|exact Drawn0.refl _|apply Drawn0.step)⟩
    ·rw [if_neg c6] at H
     exact absurd H (by simp)
   ·rw [if_neg c5] at H
    have c5b0:decide (1 < (a0.size:Int))=false:=decide_eq_false c5
    have c5b1:decide (1 < a0.size)=false:=decide_eq_false (by omega)
    clear c5
    (first|rw [c5b0]|(simp only [i64_w,i32_w];rw [c5b0])|skip)
    have H':=Aside0.mk H
    clear H
    go_wp2_with (first|((with_reducible refine gate_callee (f:=52) rfl ?_);refine goesL_ (some 7) rfl rfl Tryd.func52 (by kernel_rfl) rfl #[.int .i64 (a0.size:Int),.int .i64 1,.int .i64 10] rfl (by (try simp only [List.map_toArray,List.map_cons,List.map_nil]);first|done|rfl|(simp only [List.length_drop,List.length_take];rfl)) ?_;(with_reducible refine (spec_l1In.calls (a0.size:Int) 1 10 true _ A3.out).mono ?_);rintro e w' ⟨rfl,⟨nd,rfl⟩⟩;refine ⟨_,rfl,?_⟩))
    go_meet
    case rel=>exact ⟨_,(false),rd_,H',⟨by first|omega|exact Nat.le_refl _⟩,by repeat (first|exact Drawn0.refl _|apply Drawn0.step)⟩
  ·replace c4:=Bool.eq_false_iff.mpr c4
   subst c4
   have H1:(spec_l2Number.j0 k a0 true)=some r:=by rw [if_neg (show ¬ (false=true) by decide)] at H;exact H
   clear H
   have H:=H1
   clear H1
   have H':=Aside0.mk H
   clear H
   go_wp2_with (first|((with_reducible refine gate_callee (f:=52) rfl ?_);refine goesL_ (some 7) rfl rfl Tryd.func52 (by kernel_rfl) rfl #[.int .i64 (a0.size:Int),.int .i64 1,.int .i64 10] rfl (by (try simp only [List.map_toArray,List.map_cons,List.map_nil]);first|done|rfl|(simp only [List.length_drop,List.length_take];rfl)) ?_;(with_reducible refine (spec_l1In.calls (a0.size:Int) 1 10 false _ A3.out).mono ?_);rintro e w' ⟨rfl,⟨nd,rfl⟩⟩;refine ⟨_,rfl,?_⟩))
   go_meet
   case rel=>exact ⟨_,(true),rd_,H',⟨by first|omega|exact Nat.le_refl _⟩,by repeat (first|exact Drawn0.refl _|apply Drawn0.step)⟩
 case rest=>
  clear HC2
  try clear p2
  try clear c4
  try clear c5
  try clear c5b0
  try clear c5b1
  try clear c6
  try clear c6b0
  try clear c6b1
  try clear p7
  try clear q7
  try clear hx7
  try clear qi7
  try clear p7
  try clear q7
  obtain ⟨kq,x18_1,rfl,HA,HJ1,⟨mc1,rfl⟩⟩:=hcut
  cases kq with
  | zero=>exact absurd HA.out (by simp [spec_l2Number.j0])
  | succ kj1=>
   have H:=HA.out
   clear HA
   simp only [spec_l2Number.j0] at H
   by_cases c8:x18_1=true
   ·subst c8
    rw [if_pos rfl] at H
    obtain rfl:=Option.some.inj H
    go_wp2
    go_ret
    exact ⟨by first|rfl|(simp;done)|(simp [*];done),by repeat (first|exact Drawn0.refl _|apply Drawn0.step)⟩
   ·replace c8:=Bool.eq_false_iff.mpr c8
    subst c8
    have H1:(spec_l2Number.l0 kj1 a0 0 0)=some r:=by rw [if_neg (show ¬ (false=true) by decide)] at H;exact H
    clear H
    have H:=H1
    clear H1
    have H':=Aside0.mk H
    clear H
    go_wp2
    go_loopg [3,4] kj1 (fun kq v3 v4 w'=>∃ (x3_2:Int) (x4_2:Int),v3 = .int .i64 x3_2∧v4 = .int .i64 x4_2∧Aside0 (spec_l2Number.l0 kq a0 x3_2 x4_2=some r)∧Aside0 (kq≤kj1)∧Drawn0 w w')
    case atStart=>exact ⟨(0),(0),rd_,rd_,H',⟨Nat.le_refl _⟩,by repeat (first|exact Drawn0.refl _|apply Drawn0.step)⟩
    case round=>
     clear H'
     try clear c1
     try clear p2
     try clear c4
     try clear c5
     try clear c5b0
     try clear c5b1
     try clear c6
     try clear c6b0
     try clear c6b1
     try clear p7
     try clear q7
     try clear hx7
     try clear qi7
     try clear c8
     try clear p2
     try clear p7
     try clear q7
     obtain ⟨x3_2,x4_2,rfl,rfl,HA,HK2,⟨m2,rfl⟩⟩:=hrel
     cases gk with
     | zero=>exact absurd HA.out (by simp [spec_l2Number.l0])
     | succ k2=>
      have H:=HA.out
      clear HA
      simp only [spec_l2Number.l0] at H
      by_cases c9:x4_2 < (a0.size:Int)
      ·rw [if_pos c9] at H
       have c9b0:decide (x4_2 < (a0.size:Int))=true:=decide_eq_true c9
       clear c9
       by_cases c10:0≤x4_2
       ·rw [if_pos c10] at H
        have c10b0:decide (0≤x4_2)=true:=decide_eq_true c10
        clear c10
        replace H:=Option.bind_eq_some_iff.mp H
        obtain ⟨t136,A120,H⟩:=H
        try dsimp only at H
        have A12:=Aside0.mk A120
        clear A120
        by_cases c13:t136=true
        ·subst c13
         rw [if_pos rfl] at H
         have H':=Aside0.mk H
         clear H
         have p11:0≤(x4_2:Int):=of_decide_eq_true (by first|(with_reducible assumption)|assumption)
         have q11:x4_2 < (a0.size:Int):=of_decide_eq_true (by first|(with_reducible assumption)|assumption)
         have hx11:=bt_at a0 x4_2
         replace p11:=eq_true p11
         replace q11:=eq_true q11
         go_wp2_with (first|((with_reducible refine gate_callee (f:=52) rfl ?_);refine goesL_ (some 29) rfl rfl Tryd.func52 (by kernel_rfl) rfl #[.int .i64 (wrap64 (bt a0 x4_2)),.int .i64 48,.int .i64 57] rfl (by (try simp only [List.map_toArray,List.map_cons,List.map_nil]);first|done|rfl|(simp only [List.length_drop,List.length_take];rfl)) ?_;(with_reducible refine (spec_l1In.calls (wrap64 (bt a0 x4_2)) 48 57 true _ A12.out).mono ?_);rintro e w' ⟨rfl,⟨nd,rfl⟩⟩;refine ⟨_,rfl,?_⟩;have p14:0≤(x4_2:Int):=of_decide_eq_true (by first|(with_reducible assumption)|assumption);have q14:x4_2 < (a0.size:Int):=of_decide_eq_true (by first|(with_reducible assumption)|assumption);have hx14:=bt_at a0 x4_2;replace p14:=eq_true p14;replace q14:=eq_true q14))
         go_roundg k2
         case measure=>have:=HJ1.out;have:=HK2.out;omega
         case rel=>exact ⟨(wrap64 ((wrap64 (x3_2 * 10))+(((bt a0 x4_2) - 48) % 256))),(wrap64 (x4_2+1)),rd_,rd_,H',⟨by have:=HJ1.out;have:=HK2.out;omega⟩,by repeat (first|exact Drawn0.refl _|apply Drawn0.step)⟩
        ·replace c13:=Bool.eq_false_iff.mpr c13
         subst c13
         have H1:(some (-1))=some r:=by rw [if_neg (show ¬ (false=true) by decide)] at H;exact H
         clear H
         have H:=H1
         clear H1
         obtain rfl:=Option.some.inj H
         have p11:0≤(x4_2:Int):=of_decide_eq_true (by first|(with_reducible assumption)|assumption)
         have q11:x4_2 < (a0.size:Int):=of_decide_eq_true (by first|(with_reducible assumption)|assumption)
         have hx11:=bt_at a0 x4_2
         replace p11:=eq_true p11
         replace q11:=eq_true q11
         go_wp2_with (first|((with_reducible refine gate_callee (f:=52) rfl ?_);refine goesL_ (some 29) rfl rfl Tryd.func52 (by kernel_rfl) rfl #[.int .i64 (wrap64 (bt a0 x4_2)),.int .i64 48,.int .i64 57] rfl (by (try simp only [List.map_toArray,List.map_cons,List.map_nil]);first|done|rfl|(simp only [List.length_drop,List.length_take];rfl)) ?_;(with_reducible refine (spec_l1In.calls (wrap64 (bt a0 x4_2)) 48 57 false _ A12.out).mono ?_);rintro e w' ⟨rfl,⟨nd,rfl⟩⟩;refine ⟨_,rfl,?_⟩))
         go_ret
         exact ⟨by first|rfl|(simp;done)|(simp [*];done),by repeat (first|exact Drawn0.refl _|apply Drawn0.step)⟩
       ·rw [if_neg c10] at H
        exact absurd H (by simp)
      ·rw [if_neg c9] at H
       have c9b0:decide (x4_2 < (a0.size:Int))=false:=decide_eq_false c9
       clear c9
       obtain rfl:=Option.some.inj H
       go_wp2
       go_ret
       exact ⟨by first|rfl|(simp;done)|(simp [*];done),by repeat (first|exact Drawn0.refl _|apply Drawn0.step)⟩
def spec_ParseDevs.l0:Nat→List (S53)→List ByteArray→Int→Option ((List (S53)) × Bool)
 | 0,_,_,_=>none
 | k+1,x4,x5,x6=>if x6 < (x5.length:Int) then (if 0≤x6 then ((spec_l2Split.f k (rdOf ByteArray.empty x5 x6) 58).bind fun t148=>(if (t148.length:Int)=3 then (if 0 < (t148.length:Int) then ((spec_l2Number.f k (rdOf ByteArray.empty t148 0)).bind fun t152=>(if 1 < (t148.length:Int) then ((spec_l2Number.f k (rdOf ByteArray.empty t148 1)).bind fun t154=>(if 2 < (t148.length:Int) then ((spec_l2Number.f k (rdOf ByteArray.empty t148 2)).bind fun t156=>(if x4.length < 5864062014805 then (spec_ParseDevs.l0 k (x4 ++ [(⟨t152,t154,t156⟩:S53)]) x5 (wrap64 (x6+1))) else (none))) else (none))) else (none))) else (none)) else (some ((([]:List (S53))),false)))) else (none)) else ((spec_DevsOk.f k x4).bind fun t143=>(if t143=true then (some (x4,true)) else (some ((([]:List (S53))),false))))
def spec_ParseDevs.f (k:Nat) (a0:ByteArray):Option ((List (S53)) × Bool):=(spec_l2Split.f k a0 32).bind fun t140=>(spec_ParseDevs.l0 k (([]:List (S53))) t140 0)
def spec_ParseDevs.T9:Bool × List (List Nat × List Nat):=(true,[([],[]),([],[]),([1],[1]),([2],[2]),([3],[3]),([],[]),([5],[5]),([6],[6]),([7,4],[7]),([],[]),([9],[9]),([10],[10]),([11,8],[11]),([4,8,12],[4,8,12]),([13],[13]),([0,14,12],[0,14]),([15,15,0,1,2,3,4,5,6,7,8,9,10,11,12,13,14,15],[0,15])])
def spec_ParseDevs.B9:List Nat:=[0,0,2,6,14,0,32,96,254,0,512,1536,4094,8190,16382,32767,65535]
theorem spec_ParseDevs.tab9:rtab .any (opsOf Tryd.f29 9)=spec_ParseDevs.T9:=by kernel_rfl
theorem spec_ParseDevs.bits9:waitsOk spec_ParseDevs.T9.2 spec_ParseDevs.B9=true:=by kernel_rfl
set_option maxHeartbeats 8000000 in
set_option maxRecDepth 100000 in
theorem spec_ParseDevs.calls (k:Nat) (a0:ByteArray) (r1:List (S53)) (r2:Bool) (w:World) (h:spec_ParseDevs.f k a0=some (r1,r2)) :
  Calls Tryd.prog 29 #[.string a0] w fun e w'=>∃ v0_:Value,e = .returned (.tuple #[v0_,.bool r2])∧Kd.R k53 53 w' w.heap.size (fun _=>True) v0_ r1∧Below w.heap.size w w':=by
 have hu53:=Tryd.underlying53
 have HB:=Aside0.mk (Below.refl w.heap.size w)
 have H:((spec_l2Split.f k a0 32).bind fun t140=>(spec_ParseDevs.l0 k (([]:List (S53))) t140 0))=some (r1,r2):=h
 clear h
 obtain ⟨y137,hy137⟩ : ∃ y_:List (S53),y_=(([]:List (S53))):=⟨_,rfl⟩
 replace H:((spec_l2Split.f k a0 32).bind fun t140=>(spec_ParseDevs.l0 k y137 t140 0))=some (r1,r2):=by first|(rw [hy137];with_reducible exact H)|(have H2_:=(Option.bind_some _ _).symm.trans H;rw [hy137];with_reducible exact H2_)|(have H2_:=(Option.bind_some _ _).symm.trans H;with_reducible exact H2_)|with_reducible exact H|(rw [hy137];exact H)|exact H
 have Ny137:=Aside0.mk hy137
 clear hy137
 replace H:=Option.bind_eq_some_iff.mp H
 obtain ⟨t140,A20,H⟩:=H
 try dsimp only at H
 have A2:=Aside0.mk A20
 clear A20
 have H':=Aside0.mk H
 clear H
 go_enter Tryd.func29,Tryd.ntmps29
 go_wp2_with (first|((with_reducible refine gate_dst (N:=8) rfl ?_);refine Kd.R_lit k53 _ 53 ?hg (N:=8) ?hd (xs:=([]:List (S53))) (inner:=[]) (ok:=fun _=>True) (okp:=fun _=>True) ?hr ?hp (fun _ hk=>hk) trivial (Below.refl _ _) (Nat.le_refl _) (by simp) ?_;(case hd=>rfl);(case hg=>rfl);(case hr=>first|(go_simp;done)|(go_simp;rfl));(case hp=>exact (Reps.none _ _));intro v138 w3 ho4 hb hg_ hnew_;clear hg_ hnew_;(first|rw [← Ny137.out] at ho4|(simp only [Int.reduceToNat] at ho4;rw [← Ny137.out] at ho4));have n0_:=Aside0.mk (Kd.R_lower ho4 (below_size be));have n1_:=bs hb;clear HB;have HO139:=n0_;have HB:=n1_;clear n0_ n1_;clear hb ho4)|((with_reducible refine gate_callee (f:=46) rfl ?_);refine goesL_ (some 10) rfl rfl Tryd.func46 (by kernel_rfl) rfl #[.string a0,.int .u8 32] rfl (by (try simp only [List.map_toArray,List.map_cons,List.map_nil]);first|done|rfl|(simp only [List.length_drop,List.length_take];rfl)) ?_;(with_reducible refine (spec_l2Split.calls k a0 32 t140 _ A2.out).mono ?_);rintro e w5 ⟨v141,rfl,ho0,hb⟩;refine ⟨_,rfl,?_⟩;have n0_:=Aside0.mk (Kd.R_below ((rR HO139)) hb);have n1_:=Aside0.mk (Kd.R_lower ho0 (below_size be));have n2_:=bs hb;clear HO139;clear HB;have HO139:=n0_;have HO142:=n1_;have HB:=n2_;clear n0_ n1_ n2_;(try clear hb);(try clear hb2);(try clear hk);(try clear hi);(try clear ho0)))
 go_loopg [4,6] k (fun kq v4 v6 w'=>∃ (x4_1:List (S53)) (x6_1:Int),v6 = .int .i64 x6_1∧Aside0 (spec_ParseDevs.l0 kq x4_1 t140 x6_1=some (r1,r2))∧Aside0 (kq≤k)∧Aside0 (Kd.R k53 53 w' w.heap.size (fun _=>True) v4 x4_1)∧Aside0 (Kd.R Kd.string 9 w' w.heap.size (fun _=>True) v141 t140)∧Aside0 (Below w.heap.size w w'))
 case atStart=>exact ⟨(y137),(0),rd_,H',⟨Nat.le_refl _⟩,⟨rR HO139⟩,⟨rR HO142⟩,⟨be⟩⟩
 case round=>
  clear H'
  try clear c2
  try clear p2
  try clear c4
  obtain ⟨x4_1,x6_1,rfl,HA,HK1,HO_4,HO_5,HB⟩:=hrel
  cases gk with
  | zero=>exact absurd HA.out (by simp [spec_ParseDevs.l0])
  | succ k1=>
   have H:=HA.out
   clear HA
   simp only [spec_ParseDevs.l0] at H
   by_cases c6:x6_1 < (t140.length:Int)
   ·rw [if_pos c6] at H
    have c6b0:decide (x6_1 < (t140.length:Int))=true:=decide_eq_true c6
    clear c6
    by_cases c7:0≤x6_1
    ·rw [if_pos c7] at H
     have c7b0:decide (0≤x6_1)=true:=decide_eq_true c7
     clear c7
     replace H:=Option.bind_eq_some_iff.mp H
     obtain ⟨t148,A80,H⟩:=H
     try dsimp only at H
     have A8:=Aside0.mk A80
     clear A80
     by_cases c9:(t148.length:Int)=3
     ·rw [if_pos c9] at H
      have c9b0:((t148.length:Int) == 3)=true:=beq_iff_eq.mpr c9
      have c9b1:((t148.length:Int) != 3)=false:=bne_eq_false_iff_eq.mpr c9
      clear c9
      by_cases c10:0 < (t148.length:Int)
      ·rw [if_pos c10] at H
       have c10b0:decide (0 < (t148.length:Int))=true:=decide_eq_true c10
       have c10b1:decide (0 < t148.length)=true:=decide_eq_true (by omega)
       clear c10
       replace H:=Option.bind_eq_some_iff.mp H
       obtain ⟨t152,A110,H⟩:=H
       try dsimp only at H
       have A11:=Aside0.mk A110
       clear A110
       by_cases c12:1 < (t148.length:Int)
       ·rw [if_pos c12] at H
        have c12b0:decide (1 < (t148.length:Int))=true:=decide_eq_true c12
        have c12b1:decide (1 < t148.length)=true:=decide_eq_true (by omega)
        clear c12
        replace H:=Option.bind_eq_some_iff.mp H
        obtain ⟨t154,A130,H⟩:=H
        try dsimp only at H
        have A13:=Aside0.mk A130
        clear A130
        by_cases c14:2 < (t148.length:Int)
        ·rw [if_pos c14] at H
         have c14b0:decide (2 < (t148.length:Int))=true:=decide_eq_true c14
         have c14b1:decide (2 < t148.length)=true:=decide_eq_true (by omega)
         clear c14
         replace H:=Option.bind_eq_some_iff.mp H
         obtain ⟨t156,A150,H⟩:=H
         try dsimp only at H
         have A15:=Aside0.mk A150
         clear A150
         by_cases c16:x4_1.length < 5864062014805
         ·rw [if_pos c16] at H
          have LMc16:=Aside0.mk c16
          clear c16
          obtain ⟨y157,hy157⟩ : ∃ y_:List (S53),y_=(x4_1 ++ [(⟨t152,t154,t156⟩:S53)]):=⟨_,rfl⟩
          replace H:(spec_ParseDevs.l0 k1 y157 t140 (wrap64 (x6_1+1)))=some (r1,r2):=by first|(rw [hy157];with_reducible exact H)|(have H2_:=(Option.bind_some _ _).symm.trans H;rw [hy157];with_reducible exact H2_)|(have H2_:=(Option.bind_some _ _).symm.trans H;with_reducible exact H2_)|with_reducible exact H|(rw [hy157];exact H)|exact H
          have Ny157:=Aside0.mk hy157
          clear hy157
          have H':=Aside0.mk H
          clear H
          obtain ⟨Ao17,co17,eo17⟩:=Kd.R_slice HO_5.out
          subst eo17
          have p147:0≤(x6_1:Int):=of_decide_eq_true (by first|(with_reducible assumption)|assumption)
          have q147:x6_1 < (t140.length:Int):=of_decide_eq_true (by first|(with_reducible assumption)|assumption)
          obtain ⟨ad147,e147,hx147_0⟩:=Kd.at_string (Kd.R_reads' HO_5.out).2.2 x6_1 p147 q147
          cases e147
          replace p147:=eq_true p147
          replace q147:=eq_true q147
          try go_wp2_with (first|((with_reducible refine gate_callee (f:=46) rfl ?_);refine goesL_ (some 21) rfl rfl Tryd.func46 (by kernel_rfl) rfl #[.string (rdOf ByteArray.empty t140 x6_1),.int .u8 58] rfl (by (try simp only [List.map_toArray,List.map_cons,List.map_nil]);first|done|rfl|(simp only [List.length_drop,List.length_take];rfl)) ?_;(with_reducible refine (spec_l2Split.calls k1 (rdOf ByteArray.empty t140 x6_1) 58 t148 _ A8.out).mono ?_);rintro e w18 ⟨v149,rfl,ho0,hb⟩;refine ⟨_,rfl,?_⟩;have n0_:=Aside0.mk (Kd.R_below ((rR HO_4)) hb);have n1_:=Aside0.mk (Kd.R_elder' (rR HO_5) (Kd.R_base ho0) hb);have n2_:=Aside0.mk (Kd.R_lower (Kd.R_new' ho0 (Kd.R_lt (rR HO_5))) (below_size be));have n3_:=bs hb;clear HO_4;clear HO_5;clear HB;have HO_4:=n0_;have HO_5:=n1_;have HO150:=n2_;have HB:=n3_;clear n0_ n1_ n2_ n3_;(try clear hb);(try clear hb2);(try clear hk);(try clear hi);(try clear ho0);obtain ⟨Ao19,co19,eo19⟩:=Kd.R_slice HO150.out;subst eo19))
          have n0_:=Aside0.mk (Kd.R_drew HO_4.out)
          have n1_:=Aside0.mk (Kd.R_drew HO_5.out)
          have n2_:=Aside0.mk (Kd.R_drew HO150.out)
          have n3_:=Aside0.mk (below_drew1 HB.out)
          clear HO_4
          clear HO_5
          clear HO150
          clear HB
          have HO_4:=n0_
          have HO_5:=n1_
          have HO150:=n2_
          have HB:=n3_
          clear n0_ n1_ n2_ n3_
          have p151:0≤(0:Int):=(by omega)
          have q151:0 < (t148.length:Int):=of_decide_eq_true (by first|(with_reducible assumption)|assumption)
          obtain ⟨ad151,e151,hx151_0⟩:=Kd.at_string (Kd.R_reads' HO150.out).2.2 0 p151 q151
          cases e151
          have qi151:(0 < t148.length)=True:=eq_true (by omega)
          (try rw [show ((0:Int)).toNat=0 from rfl] at hx151_0)
          (try rw [Addr.add_zero'] at hx151_0)
          replace p151:=eq_true p151
          replace q151:=eq_true q151
          have p153:0≤(1:Int):=(by omega)
          have q153:1 < (t148.length:Int):=of_decide_eq_true (by first|(with_reducible assumption)|assumption)
          obtain ⟨ad153,e153,hx153_0⟩:=Kd.at_string (Kd.R_reads' HO150.out).2.2 1 p153 q153
          obtain rfl:ad151=ad153:=(by injection e153)
          (try simp only [show (1:Int).toNat=1 from rfl,Nat.reduceMul,Nat.reduceEqDiff,Go.Addr.add,↓reduceIte] at hx153_0)
          have qi153:(1 < t148.length)=True:=eq_true (by omega)
          (try rw [show ((1:Int)).toNat=1 from rfl] at hx153_0)
          replace p153:=eq_true p153
          replace q153:=eq_true q153
          have p155:0≤(2:Int):=(by omega)
          have q155:2 < (t148.length:Int):=of_decide_eq_true (by first|(with_reducible assumption)|assumption)
          obtain ⟨ad155,e155,hx155_0⟩:=Kd.at_string (Kd.R_reads' HO150.out).2.2 2 p155 q155
          obtain rfl:ad151=ad155:=(by injection e155)
          (try simp only [show (2:Int).toNat=2 from rfl,Nat.reduceMul,Nat.reduceEqDiff,Go.Addr.add,↓reduceIte] at hx155_0)
          have qi155:(2 < t148.length)=True:=eq_true (by omega)
          (try rw [show ((2:Int)).toNat=2 from rfl] at hx155_0)
          replace p155:=eq_true p155
          replace q155:=eq_true q155
          refine start_ (n:=17) (S:=fun w'=>w'.cell? ad151=some (.string (rdOf ByteArray.empty t148 0))∧w'.cell? ⟨ad151.block,ad151.off+1,none⟩=some (.string (rdOf ByteArray.empty t148 1))∧w'.cell? ⟨ad151.block,ad151.off+2,none⟩=some (.string (rdOf ByteArray.empty t148 2))) (ds:=[14,15]) (fl 17 0) (by kernel_rfl) rfl rfl ⟨hx151_0,hx153_0,hx155_0⟩ (fun hHeld=>?_);refine with_tabW spec_ParseDevs.tab9 spec_ParseDevs.bits9 (fun HT_ HW_=>?_)
          generalize w18.drew=w20 at HO_4 HO_5 HO150 HB hx151_0 hx153_0 hx155_0 hHeld ⊢
          refine pt 0 26 (fl 17 1) HT_ ?_
          refine pt 1 27 (fl 17 3) HT_ ?_
          refine pt 2 28 (fl 17 7) HT_ ?_
          refine pt 5 31 (fl 17 39) HT_ ?_
          refine pt 6 32 (fl 17 103) HT_ ?_
          refine pt 9 35 (fl 17 615) HT_ ?_
          refine pt 10 36 (fl 17 1639) HT_ ?_
          refine tt 3 29 (fl 17 1647) HT_ HW_ hHeld ?_
          refine tt 7 33 (fl 17 1775) HT_ HW_ hHeld ?_
          refine tt 11 37 (fl 17 3823) HT_ HW_ hHeld ?_
          refine ot 4 (some 30) (fl 17 3839) HT_ (fun K hK=>?_)
          refine goes_ Tryd.func47 (by kernel_rfl) rfl #[.string (rdOf ByteArray.empty t148 0)] (by rfl) rfl rfl (by (try simp only [List.map_toArray,List.map_cons,List.map_nil]);first|done|rfl|(simp only [List.length_drop,List.length_take];rfl)) ?_
          with_reducible refine (spec_l2Number.calls k1 (rdOf ByteArray.empty t148 0) t152 _ A11.out).mono ?_
          rintro e w' ⟨rfl,⟨nd,rfl⟩⟩
          refine ⟨_,rfl,?_⟩
          refine hK.out _ _ ⟨hHeld.1,hHeld.2.1,hHeld.2.2⟩ (fun hHeld=>?_)
          clear hK K
          refine no 30 ?_
          refine ot 8 (some 34) (fl 17 4095) HT_ (fun K hK=>?_)
          refine goes_ Tryd.func47 (by kernel_rfl) rfl #[.string (rdOf ByteArray.empty t148 1)] (by rfl) rfl rfl (by (try simp only [List.map_toArray,List.map_cons,List.map_nil]);first|done|rfl|(simp only [List.length_drop,List.length_take];rfl)) ?_
          with_reducible refine (spec_l2Number.calls k1 (rdOf ByteArray.empty t148 1) t154 _ A13.out).mono ?_
          rintro e w' ⟨rfl,⟨nd,rfl⟩⟩
          refine ⟨_,rfl,?_⟩
          refine hK.out _ _ ⟨hHeld.1,hHeld.2.1,hHeld.2.2⟩ (fun hHeld=>?_)
          clear hK K
          refine no 34 ?_
          refine ot 12 (some 38) (fl 17 8191) HT_ (fun K hK=>?_)
          refine goes_ Tryd.func47 (by kernel_rfl) rfl #[.string (rdOf ByteArray.empty t148 2)] (by rfl) rfl rfl (by (try simp only [List.map_toArray,List.map_cons,List.map_nil]);first|done|rfl|(simp only [List.length_drop,List.length_take];rfl)) ?_
          with_reducible refine (spec_l2Number.calls k1 (rdOf ByteArray.empty t148 2) t156 _ A15.out).mono ?_
          rintro e w' ⟨rfl,⟨nd,rfl⟩⟩
          refine ⟨_,rfl,?_⟩
          refine hK.out _ _ ⟨hHeld.1,hHeld.2.1,hHeld.2.2⟩ (fun hHeld=>?_)
          clear hK K
          refine no 38 ?_
          refine pt 13 39 (fl 17 16383) HT_ ?_
          refine last_ (i:=14) (N:=some 40) (fl 17 32767) rfl rfl (one_of HT_.out (by kernel_rfl)) (by decide) (fun K hK=>?_)
          refine value_ (w1:=?_) (v:=?_) (by rfl) rfl ?_ ?_
          rotate_left 2
          ·go_simp
           constructor
           ·rfl
           ·rfl
          refine hK.out _ _ ?_
          clear hK K
          refine no 40 ?_
          refine last_ (i:=15) (N:=some 41) (fl 17 65535) rfl rfl (one_of HT_.out (by kernel_rfl)) (by decide) (fun K hK=>?_)
          refine Kd.R_append_step k53 (w0:=w) w.heap.size (by rfl) (.tmp 26) (.tmp 40) 31 53 (.agg #[(.int .i64 0),(.int .i64 0),(.int .i64 0)]) 24 rfl Tryd.underlying31 info53 rfl (by decide) (by omega) u4 x4_1 (⟨t152,t154,t156⟩:S53) [.int .i64 t152,.int .i64 t154,.int .i64 t156] (fun _=>True) (fun _=>False) rfl rfl ?aP (fun _ hk=>hk.elim) ?aF ?aO ?aB ?aS ?aL ?_
          (case aP=>exact k53_mkM _ _ _ (⟨t152,t154,t156⟩:S53))
          (case aB=>exact be)
          (case aF=>exact (fun _ _=>trivial))
          (case aO=>exact (rR HO_4))
          (case aS=>exact (below_size be))
          (case aL=>have:=LMc16.out;omega)
          intro v158 w21 ho hb hg hat
          rw [← Ny157.out] at ho
          have n0_:=Aside0.mk (Kd.R_over' (rR HO_5) (Kd.R_typed (rR HO_4)) (by decide) hg)
          have n1_:=Aside0.mk (Kd.R_over' (rR HO150) (Kd.R_typed (rR HO_4)) (by decide) hg)
          have n2_:=Aside0.mk (hb)
          have n3_:=Aside0.mk (ho)
          clear HO_5
          clear HO150
          clear HB
          clear HO_4
          have HO_5:=n0_
          have HO150:=n1_
          have HB:=n2_
          have HO159:=n3_
          clear n0_ n1_ n2_ n3_
          clear ho hb hg hat
          refine hK.out _ _ ?_
          clear hK K
          refine no 41 ?_
          refine pt 16 4 (fl 17 131071) HT_ ?_
          refine done_ (done_of HT_.out (by kernel_rfl)) ?_
          try go_wp2
          go_roundg k1
          case measure=>have:=HK1.out;omega
          case rel=>exact ⟨(y157),(wrap64 (x6_1+1)),rd_,H',⟨by have:=HK1.out;omega⟩,⟨rR HO159⟩,⟨by (with_reducible repeat (first|apply Kd.R_alloc|apply Kd.R_drewN|apply Kd.R_drew));exact Kd.R_mono HO_5.out (fun _ hk=>trivial)⟩,⟨be⟩⟩
         ·rw [if_neg c16] at H
          exact absurd H (by simp)
        ·rw [if_neg c14] at H
         exact absurd H (by simp)
       ·rw [if_neg c12] at H
        exact absurd H (by simp)
      ·rw [if_neg c10] at H
       exact absurd H (by simp)
     ·rw [if_neg c9] at H
      have c9b0:((t148.length:Int) == 3)=false:=beq_eq_false_iff_ne.mpr c9
      have c9b1:((t148.length:Int) != 3)=true:=bne_iff_ne.mpr c9
      obtain ⟨y160,hy160⟩ : ∃ y_:List (S53),y_=(([]:List (S53))):=⟨_,rfl⟩
      replace H:(some (y160,false))=some (r1,r2):=by first|(rw [hy160];with_reducible exact H)|(have H2_:=(Option.bind_some _ _).symm.trans H;rw [hy160];with_reducible exact H2_)|(have H2_:=(Option.bind_some _ _).symm.trans H;with_reducible exact H2_)|with_reducible exact H|(rw [hy160];exact H)|exact H
      have Ny160:=Aside0.mk hy160
      clear hy160
      simp only [Option.some.injEq,Prod.mk.injEq] at H
      obtain ⟨rfl,rfl⟩:=H
      obtain ⟨Ao22,co22,eo22⟩:=Kd.R_slice HO_5.out
      subst eo22
      have p147:0≤(x6_1:Int):=of_decide_eq_true (by first|(with_reducible assumption)|assumption)
      have q147:x6_1 < (t140.length:Int):=of_decide_eq_true (by first|(with_reducible assumption)|assumption)
      obtain ⟨ad147,e147,hx147_0⟩:=Kd.at_string (Kd.R_reads' HO_5.out).2.2 x6_1 p147 q147
      cases e147
      replace p147:=eq_true p147
      replace q147:=eq_true q147
      go_wp2_with (first|((with_reducible refine gate_callee (f:=46) rfl ?_);refine goesL_ (some 21) rfl rfl Tryd.func46 (by kernel_rfl) rfl #[.string (rdOf ByteArray.empty t140 x6_1),.int .u8 58] rfl (by (try simp only [List.map_toArray,List.map_cons,List.map_nil]);first|done|rfl|(simp only [List.length_drop,List.length_take];rfl)) ?_;(with_reducible refine (spec_l2Split.calls k1 (rdOf ByteArray.empty t140 x6_1) 58 t148 _ A8.out).mono ?_);rintro e w23 ⟨v149,rfl,ho0,hb⟩;refine ⟨_,rfl,?_⟩;have n0_:=Aside0.mk (Kd.R_below ((rR HO_4)) hb);have n1_:=Aside0.mk (Kd.R_elder' (rR HO_5) (Kd.R_base ho0) hb);have n2_:=Aside0.mk (Kd.R_lower (Kd.R_new' ho0 (Kd.R_lt (rR HO_5))) (below_size be));have n3_:=bs hb;clear HO_4;clear HO_5;clear HB;have HO_4:=n0_;have HO_5:=n1_;have HO150:=n2_;have HB:=n3_;clear n0_ n1_ n2_ n3_;(try clear hb);(try clear hb2);(try clear hk);(try clear hi);(try clear ho0);obtain ⟨Ao24,co24,eo24⟩:=Kd.R_slice HO150.out;subst eo24)|((with_reducible refine gate_dst (N:=25) rfl ?_);refine Kd.R_lit k53 _ 53 ?hg (N:=25) ?hd (xs:=([]:List (S53))) (inner:=[]) (ok:=fun _=>True) (okp:=fun _=>True) ?hr ?hp (fun _ hk=>hk) trivial (Below.refl _ _) (Nat.le_refl _) (by simp) ?_;(case hd=>rfl);(case hg=>rfl);(case hr=>first|(go_simp;done)|(go_simp;rfl));(case hp=>exact (Reps.none _ _));intro v161 w25 ho26 hb hg_ hnew_;clear hg_ hnew_;(first|rw [← Ny160.out] at ho26|(simp only [Int.reduceToNat] at ho26;rw [← Ny160.out] at ho26));have n0_:=Aside0.mk (Kd.R_elder' (rR HO_4) (Kd.R_base ho26) hb);have n1_:=Aside0.mk (Kd.R_below ((rR HO_5)) hb);have n2_:=Aside0.mk (Kd.R_below ((rR HO150)) hb);have n3_:=Aside0.mk (Kd.R_lower (Kd.R_new' ho26 (Kd.R_lt (rR HO_4))) (below_size be));have n4_:=bs hb;clear HO_4;clear HO_5;clear HO150;clear HB;have HO_4:=n0_;have HO_5:=n1_;have HO150:=n2_;have HO162:=n3_;have HB:=n4_;clear n0_ n1_ n2_ n3_ n4_;clear hb ho26))
      go_ret2
      exact ⟨_,rz,by (with_reducible repeat (first|apply Kd.R_alloc|apply Kd.R_drewN|apply Kd.R_drew));exact Kd.R_mono HO162.out (fun _ hk=>trivial),be⟩
    ·rw [if_neg c7] at H
     exact absurd H (by simp)
   ·rw [if_neg c6] at H
    have c6b0:decide (x6_1 < (t140.length:Int))=false:=decide_eq_false c6
    clear c6
    replace H:=Option.bind_eq_some_iff.mp H
    obtain ⟨t143,A270,H⟩:=H
    try dsimp only at H
    have A27:=Aside0.mk A270
    clear A270
    by_cases c28:t143=true
    ·subst c28
     rw [if_pos rfl] at H
     simp only [Option.some.injEq,Prod.mk.injEq] at H
     obtain ⟨rfl,rfl⟩:=H
     obtain ⟨Ao29,co29,eo29⟩:=Kd.R_slice HO_5.out
     subst eo29
     obtain ⟨Ao30,co30,eo30⟩:=Kd.R_slice HO_4.out
     subst eo30
     go_wp2_with (first|((with_reducible refine gate_callee (f:=36) rfl ?_);refine goesL_ (some 43) rfl rfl Tryd.func36 (by kernel_rfl) rfl #[.slice Ao30 x4_1.length co30] rfl (by (try simp only [List.map_toArray,List.map_cons,List.map_nil]);first|done|rfl|(simp only [List.length_drop,List.length_take];rfl)) ?_;(with_reducible refine (spec_DevsOk.calls k1 _ _ x4_1 true _ ?side1 ?side2 A27.out).mono ?_);(case side1=>exact sR HO_4);(case side2=>exact (Kd.R_reads' HO_4.out).2.1);rintro e w31 ⟨rfl,hb⟩;refine ⟨_,rfl,?_⟩;have n0_:=Aside0.mk (Kd.R_below ((rR HO_4)) hb);have n1_:=Aside0.mk (Kd.R_below ((rR HO_5)) hb);have n2_:=bs hb;clear HO_4;clear HO_5;clear HB;have HO_4:=n0_;have HO_5:=n1_;have HB:=n2_;clear n0_ n1_ n2_;(try clear hb);(try clear hb2);(try clear hk);(try clear hi)))
     go_ret2
     exact ⟨_,rz,rR HO_4,be⟩
    ·replace c28:=Bool.eq_false_iff.mpr c28
     subst c28
     have H1:(some ((([]:List (S53))),false))=some (r1,r2):=by rw [if_neg (show ¬ (false=true) by decide)] at H;exact H
     clear H
     have H:=H1
     clear H1
     obtain ⟨y144,hy144⟩ : ∃ y_:List (S53),y_=(([]:List (S53))):=⟨_,rfl⟩
     replace H:(some (y144,false))=some (r1,r2):=by first|(rw [hy144];with_reducible exact H)|(have H2_:=(Option.bind_some _ _).symm.trans H;rw [hy144];with_reducible exact H2_)|(have H2_:=(Option.bind_some _ _).symm.trans H;with_reducible exact H2_)|with_reducible exact H|(rw [hy144];exact H)|exact H
     have Ny144:=Aside0.mk hy144
     clear hy144
     simp only [Option.some.injEq,Prod.mk.injEq] at H
     obtain ⟨rfl,rfl⟩:=H
     obtain ⟨Ao32,co32,eo32⟩:=Kd.R_slice HO_5.out
     subst eo32
     obtain ⟨Ao33,co33,eo33⟩:=Kd.R_slice HO_4.out
     subst eo33
     go_wp2_with (first|((with_reducible refine gate_callee (f:=36) rfl ?_);refine goesL_ (some 43) rfl rfl Tryd.func36 (by kernel_rfl) rfl #[.slice Ao33 x4_1.length co33] rfl (by (try simp only [List.map_toArray,List.map_cons,List.map_nil]);first|done|rfl|(simp only [List.length_drop,List.length_take];rfl)) ?_;(with_reducible refine (spec_DevsOk.calls k1 _ _ x4_1 false _ ?side1 ?side2 A27.out).mono ?_);(case side1=>exact sR HO_4);(case side2=>exact (Kd.R_reads' HO_4.out).2.1);rintro e w34 ⟨rfl,hb⟩;refine ⟨_,rfl,?_⟩;have n0_:=Aside0.mk (Kd.R_below ((rR HO_4)) hb);have n1_:=Aside0.mk (Kd.R_below ((rR HO_5)) hb);have n2_:=bs hb;clear HO_4;clear HO_5;clear HB;have HO_4:=n0_;have HO_5:=n1_;have HB:=n2_;clear n0_ n1_ n2_;(try clear hb);(try clear hb2);(try clear hk);(try clear hi))|((with_reducible refine gate_dst (N:=45) rfl ?_);refine Kd.R_lit k53 _ 53 ?hg (N:=45) ?hd (xs:=([]:List (S53))) (inner:=[]) (ok:=fun _=>True) (okp:=fun _=>True) ?hr ?hp (fun _ hk=>hk) trivial (Below.refl _ _) (Nat.le_refl _) (by simp) ?_;(case hd=>rfl);(case hg=>rfl);(case hr=>first|(go_simp;done)|(go_simp;rfl));(case hp=>exact (Reps.none _ _));intro v145 w35 ho36 hb hg_ hnew_;clear hg_ hnew_;(first|rw [← Ny144.out] at ho36|(simp only [Int.reduceToNat] at ho36;rw [← Ny144.out] at ho36));have n0_:=Aside0.mk (Kd.R_elder' (rR HO_4) (Kd.R_base ho36) hb);have n1_:=Aside0.mk (Kd.R_below ((rR HO_5)) hb);have n2_:=Aside0.mk (Kd.R_lower (Kd.R_new' ho36 (Kd.R_lt (rR HO_4))) (below_size be));have n3_:=bs hb;clear HO_4;clear HO_5;clear HB;have HO_4:=n0_;have HO_5:=n1_;have HO146:=n2_;have HB:=n3_;clear n0_ n1_ n2_ n3_;clear hb ho36))
     go_ret2
     exact ⟨_,rz,by (with_reducible repeat (first|apply Kd.R_alloc|apply Kd.R_drewN|apply Kd.R_drew));exact Kd.R_mono HO146.out (fun _ hk=>trivial),be⟩
def strings_Split.f (a0:ByteArray) (a1:ByteArray):Option (List ByteArray):=if a0.size < 4294967281∧1≤a1.size then some (Lib.splitB a1 0 (Lib.countB a0 a1) a0) else none
theorem strings_Split.calls (a0:ByteArray) (a1:ByteArray) (r:List ByteArray) (w:World) (hL:Aside0 (Go.Proofs.YtnoglmdicdpabaaDoor.St.Laid w)) (h:strings_Split.f a0 a1=some r) :
  Calls Tryd.prog 56 #[.string a0,.string a1] w fun e w'=>∃ v0_:Value,e = .returned (v0_)∧Kd.R Kd.string 9 w' w.heap.size (fun _=>True) v0_ r∧Below w.heap.size w w':=by
 unfold strings_Split.f at h
 by_cases hl:a0.size < 4294967281∧1≤a1.size
 ·rw [if_pos hl] at h
  obtain rfl:=Option.some.inj h
  obtain ⟨m,hm⟩:=hL.out.max
  refine (Tryd.strings_Split a0 a1 m w hl.1 hm hl.2).mono fun e w' he=>?_
  obtain ⟨rfl,rfl⟩:=he
  have hlen:=Lib.splitB_all a1 hl.2 0 (Lib.countB a0 a1) a0 rfl
  have hc:=Lib.countB_le a1 hl.2 a0.size a0 (Nat.le_refl _)
  refine ⟨_,rfl,Kd.R_of_own ⟨by simp [encs],Or.inr ⟨w.heap.size,Lib.countB a0 a1+1,((Lib.splitB a1 0 (Lib.countB a0 a1) a0).map Value.string).toArray,by rw [hlen],Nat.le_refl _,Array.getElem?_push_size,by omega,by unfold maxLen;omega,by simp [hlen],?_⟩⟩ (fun _ _=>trivial),(Below.refl _ _).alloc (Nat.le_refl _) _⟩
  rw [List.toList_toArray,Nat.mul_one,List.take_of_length_le (by simp)]
  rfl
 ·rw [if_neg hl] at h
  cases h
def atoiRes (l:List UInt8):Int × Option Int:=match Lib.atoiAll l with
 | .ok v=>(v,none)
 | .range=>(Lib.atoiSat l,some 0)
 | _=>(0,some 0)
def strconv_Atoi.f (a0:ByteArray):Option (Int × Option Int):=if a0.size≤281474976710656 then some (atoiRes a0.data.toList) else none
theorem strconv_Atoi.calls (a0:ByteArray) (r1:Int) (r2:Option Int) (w:World) (hL:Aside0 (Go.Proofs.YtnoglmdicdpabaaDoor.St.Laid w)) (h:strconv_Atoi.f a0=some (r1,r2)) :
  Calls Tryd.prog 66 #[.string a0] w fun e w'=>∃ (E_:Option Int→Value) (N_:Nat),E_ none = .nilIface∧(∀ c,E_ (some c) = .iface 111 (.pointer (some ⟨N_,0,none⟩)))∧e = .returned (.tuple #[.int .i64 r1,E_ r2])∧Below w.heap.size w w':=by
 unfold strconv_Atoi.f at h
 by_cases hl:a0.size≤281474976710656
 ·rw [if_pos hl] at h
  have h:=Option.some.inj h
  rw [atoiRes] at h
  cases e:Lib.atoiAll a0.data.toList with
  | ok v=>
   rw [e] at h
   simp only [Prod.mk.injEq] at h
   obtain ⟨rfl,rfl⟩:=h
   refine (Tryd.strconv_Atoi_ok a0 (by omega) v e w).mono fun e w' he=>?_
   obtain ⟨rfl,hw⟩:=he
   refine ⟨fun|none=>.nilIface|some _=>.iface 111 (.pointer (some ⟨0,0,none⟩)),0,rfl,fun _=>rfl,rfl,?_⟩
   rcases hw with rfl|⟨t,rfl⟩
   ·exact Below.refl _ _
   ·exact Lib.bytesWorld_below _ _ _
  | range=>
   rw [e] at h
   simp only [Prod.mk.injEq] at h
   obtain ⟨rfl,rfl⟩:=h
   obtain ⟨tp,p,hv⟩:=hL.out.rng
   refine (Tryd.strconv_Atoi_range_var a0 hl e tp p w hv).mono fun e w' he=>?_
   obtain ⟨N,rfl,_,_,hb⟩:=he
   exact ⟨fun|none=>.nilIface|some _=>.iface 111 (.pointer (some ⟨N,0,none⟩)),N,rfl,fun _=>rfl,rfl,hb⟩
  | _=>
   rw [e] at h
   simp only [Prod.mk.injEq] at h
   obtain ⟨rfl,rfl⟩:=h
   obtain ⟨tp,p,hv⟩:=hL.out.syn
   refine (Tryd.strconv_Atoi_syntax_var a0 hl _ ⟨fun _ c=>(by cases c),fun c=>(by cases c)⟩ e tp p w hv).mono fun e w' he=>?_
   obtain ⟨N,rfl,_,_,hb⟩:=he
   exact ⟨fun|none=>.nilIface|some _=>.iface 111 (.pointer (some ⟨N,0,none⟩)),N,rfl,fun _=>rfl,rfl,hb⟩
 ·rw [if_neg hl] at h
  cases h
def impl_numbersOf.l0:Nat→Int→List Int→List ByteArray→Int→Int→Option (List Int × Bool)
 | 0,_,_,_,_,_=>none
 | k+1,x2,x8,x15,x16,x17=>if x17 < x16 then (if 0≤x17 then (if x17 < (x15.length:Int) then ((strconv_Atoi.f (rdOf ByteArray.empty x15 x17)).bind fun bt167=>(if bt167.2.isNone=true then (if (x8.length:Int) ≥ x2 then (some (([]:List Int),false)) else (if x8.length < 17592186044416 then (impl_numbersOf.l0 k x2 (x8 ++ [bt167.1]) x15 x16 (wrap64 (x17+1))) else (none))) else (some (([]:List Int),false)))) else (none)) else (none)) else (some (x8,((x8.length:Int) == x2)))
def impl_numbersOf.f (k:Nat) (a0:ByteArray) (a1:ByteArray) (a2:Int):Option (List Int × Bool):=(strings_Split.f a0 a1).bind fun t163=>(impl_numbersOf.l0 k a2 ([]:List Int) t163 (t163.length:Int) 0)
set_option maxHeartbeats 8000000 in
set_option maxRecDepth 100000 in
theorem impl_numbersOf.calls (k:Nat) (a0:ByteArray) (a1:ByteArray) (a2:Int) (r1:List Int) (r2:Bool) (w:World) (hL:Aside0 (Laid w)) (h:impl_numbersOf.f k a0 a1 a2=some (r1,r2)) :
  Calls Tryd.prog 48 #[.string a0,.string a1,.int .i64 a2] w fun e w'=>∃ v0_:Value,e = .returned (.tuple #[v0_,.bool r2])∧Kd.R (Kd.int .i64) 3 w' w.heap.size (fun _=>True) v0_ r1∧Below w.heap.size w w':=by
 have hu82:=Tryd.underlying82
 have HB:=Aside0.mk (Below.refl w.heap.size w)
 have H:((strings_Split.f a0 a1).bind fun t163=>(impl_numbersOf.l0 k a2 ([]:List Int) t163 (t163.length:Int) 0))=some (r1,r2):=h
 clear h
 replace H:=Option.bind_eq_some_iff.mp H
 obtain ⟨t163,A40,H⟩:=H
 try dsimp only at H
 have A4:=Aside0.mk A40
 clear A40
 have H':=Aside0.mk H
 clear H
 go_enter Tryd.func48,Tryd.ntmps48
 go_wp2_with (first|((with_reducible refine gate_callee (f:=56) rfl ?_);refine goesL_ (some 15) rfl rfl Tryd.func56 (by kernel_rfl) rfl #[.string a0,.string a1] rfl (by (try simp only [List.map_toArray,List.map_cons,List.map_nil]);first|done|rfl|(simp only [List.length_drop,List.length_take];rfl)) ?_;(with_reducible refine (strings_Split.calls a0 a1 t163 _ ?side1 A4.out).mono ?_);(case side1=>exact lb hL);rintro e w5 ⟨v164,rfl,ho0,hb⟩;refine ⟨_,rfl,?_⟩;have n0_:=Aside0.mk (Kd.R_lower ho0 (below_size be));have n1_:=bs hb;clear HB;have HO165:=n0_;have HB:=n1_;clear n0_ n1_;(try clear hb);(try clear hb2);(try clear hk);(try clear hi);(try clear ho0);obtain ⟨Ao6,co6,eo6⟩:=Kd.R_slice HO165.out;subst eo6))
 go_loopg [8,17] k (fun kq v8 v17 w'=>∃ (x8_1:List Int) (x17_1:Int),v17 = .int .i64 x17_1∧Aside0 (impl_numbersOf.l0 kq a2 x8_1 t163 (t163.length:Int) x17_1=some (r1,r2))∧Aside0 (kq≤k)∧Aside0 (Kd.R (Kd.int .i64) 3 w' w.heap.size (fun _=>True) v8 x8_1)∧Aside0 (Kd.R Kd.string 9 w' w.heap.size (fun _=>True) (.slice Ao6 t163.length co6) t163)∧Aside0 (Below w.heap.size w w'))
 case atStart=>exact ⟨(([]:List Int)),(0),rd_,H',⟨Nat.le_refl _⟩,⟨by first|exact Kd.R_nil _ _ _ _ _|exact Kd.N_nil _ _ _ _ _|exact Kd.V_nil _ _ _ _ _|exact Kd.Q_nil _ _ _ _ _|exact Kd.S_nil _ _ _ _ _⟩,⟨rR HO165⟩,⟨be⟩⟩
 case round=>
  clear H'
  try clear p2
  try clear c4
  try clear c5
  obtain ⟨x8_1,x17_1,rfl,HA,HK1,HO_8,HO_15,HB⟩:=hrel
  cases gk with
  | zero=>exact absurd HA.out (by simp [impl_numbersOf.l0])
  | succ k1=>
   have H:=HA.out
   clear HA
   simp only [impl_numbersOf.l0] at H
   by_cases c7:x17_1 < (t163.length:Int)
   ·rw [if_pos c7] at H
    have c7b0:decide (x17_1 < (t163.length:Int))=true:=decide_eq_true c7
    clear c7
    by_cases c8:0≤x17_1
    ·rw [if_pos c8] at H
     have c8b0:decide (0≤x17_1)=true:=decide_eq_true c8
     clear c8
     by_cases c9:x17_1 < (t163.length:Int)
     ·rw [if_pos c9] at H
      have c9b0:decide (x17_1 < (t163.length:Int))=true:=decide_eq_true c9
      clear c9
      replace H:=Option.bind_eq_some_iff.mp H
      obtain ⟨⟨t167,t168⟩,A100,H⟩:=H
      try dsimp only at H
      have A10:=Aside0.mk A100
      clear A100
      rcases t168 with _|q169
      ·have H1:(if (x8_1.length:Int) ≥ a2 then (some (([]:List Int),false)) else (if x8_1.length < 17592186044416 then (impl_numbersOf.l0 k1 a2 (x8_1 ++ [t167]) t163 (t163.length:Int) (wrap64 (x17_1+1))) else (none)))=some (r1,r2):=by rw [if_pos (show (none:Option Int).isNone=true by rfl)] at H;exact H
       clear H
       have H:=H1
       clear H1
       try simp only [errW_none,errW_some]
       by_cases c11:(x8_1.length:Int) ≥ a2
       ·rw [if_pos c11] at H
        have c11b0:decide (a2≤(x8_1.length:Int))=true:=decide_eq_true c11
        clear c11
        simp only [Option.some.injEq,Prod.mk.injEq] at H
        obtain ⟨rfl,rfl⟩:=H
        have p166:0≤(x17_1:Int):=of_decide_eq_true (by first|(with_reducible assumption)|assumption)
        have q166:x17_1 < (t163.length:Int):=of_decide_eq_true (by first|(with_reducible assumption)|assumption)
        obtain ⟨ad166,e166,hx166_0⟩:=Kd.at_string (Kd.R_reads' HO_15.out).2.2 x17_1 p166 q166
        cases e166
        replace p166:=eq_true p166
        replace q166:=eq_true q166
        go_wp2_with (first|((with_reducible refine gate_callee (f:=66) rfl ?_);refine goesL_ (some 23) rfl rfl Tryd.func66 (by kernel_rfl) rfl #[.string (rdOf ByteArray.empty t163 x17_1)] rfl (by (try simp only [List.map_toArray,List.map_cons,List.map_nil]);first|done|rfl|(simp only [List.length_drop,List.length_take];rfl)) ?_;(with_reducible refine (strconv_Atoi.calls (rdOf ByteArray.empty t163 x17_1) t167 none _ ?side1 A10.out).mono ?_);(case side1=>exact lb hL);rintro e w12 ⟨E_,N_,E0_,E1_,rfl,hb⟩;refine ⟨_,rfl,?_⟩;(try simp only [E0_,E1_]);have n0_:=Aside0.mk (Kd.R_below ((rR HO_8)) hb);have n1_:=Aside0.mk (Kd.R_below ((rR HO_15)) hb);have n2_:=bs hb;clear HO_8;clear HO_15;clear HB;have HO_8:=n0_;have HO_15:=n1_;have HB:=n2_;clear n0_ n1_ n2_;(try clear hb);(try clear hb2);(try clear hk);(try clear hi);(try simp only [errW_none,errW_some]);obtain ⟨Ao13,co13,eo13⟩:=Kd.R_slice HO_8.out;subst eo13))
        go_ret2
        exact ⟨_,by first|rfl|(simp [errW_none,errW_some] <;> rfl)|(simp [*,errW_none,errW_some] <;> rfl),by first|exact Kd.R_nil _ _ _ _ _|exact Kd.N_nil _ _ _ _ _|exact Kd.V_nil _ _ _ _ _|exact Kd.Q_nil _ _ _ _ _|exact Kd.S_nil _ _ _ _ _,be⟩
       ·rw [if_neg c11] at H
        have c11b0:decide (a2≤(x8_1.length:Int))=false:=decide_eq_false c11
        clear c11
        by_cases c14:x8_1.length < 17592186044416
        ·rw [if_pos c14] at H
         have LMc14:=Aside0.mk c14
         clear c14
         obtain ⟨y170,hy170⟩ : ∃ y_:List Int,y_=(x8_1 ++ [t167]):=⟨_,rfl⟩
         replace H:(impl_numbersOf.l0 k1 a2 y170 t163 (t163.length:Int) (wrap64 (x17_1+1)))=some (r1,r2):=by first|(rw [hy170];with_reducible exact H)|(have H2_:=(Option.bind_some _ _).symm.trans H;rw [hy170];with_reducible exact H2_)|(have H2_:=(Option.bind_some _ _).symm.trans H;with_reducible exact H2_)|with_reducible exact H|(rw [hy170];exact H)|exact H
         have Ny170:=Aside0.mk hy170
         clear hy170
         have H':=Aside0.mk H
         clear H
         have p166:0≤(x17_1:Int):=of_decide_eq_true (by first|(with_reducible assumption)|assumption)
         have q166:x17_1 < (t163.length:Int):=of_decide_eq_true (by first|(with_reducible assumption)|assumption)
         obtain ⟨ad166,e166,hx166_0⟩:=Kd.at_string (Kd.R_reads' HO_15.out).2.2 x17_1 p166 q166
         cases e166
         replace p166:=eq_true p166
         replace q166:=eq_true q166
         go_wp2_with (first|((with_reducible refine gate_callee (f:=66) rfl ?_);refine goesL_ (some 23) rfl rfl Tryd.func66 (by kernel_rfl) rfl #[.string (rdOf ByteArray.empty t163 x17_1)] rfl (by (try simp only [List.map_toArray,List.map_cons,List.map_nil]);first|done|rfl|(simp only [List.length_drop,List.length_take];rfl)) ?_;(with_reducible refine (strconv_Atoi.calls (rdOf ByteArray.empty t163 x17_1) t167 none _ ?side1 A10.out).mono ?_);(case side1=>exact lb hL);rintro e w15 ⟨E_,N_,E0_,E1_,rfl,hb⟩;refine ⟨_,rfl,?_⟩;(try simp only [E0_,E1_]);have n0_:=Aside0.mk (Kd.R_below ((rR HO_8)) hb);have n1_:=Aside0.mk (Kd.R_below ((rR HO_15)) hb);have n2_:=bs hb;clear HO_8;clear HO_15;clear HB;have HO_8:=n0_;have HO_15:=n1_;have HB:=n2_;clear n0_ n1_ n2_;(try clear hb);(try clear hb2);(try clear hk);(try clear hi);(try simp only [errW_none,errW_some]);obtain ⟨Ao16,co16,eo16⟩:=Kd.R_slice HO_8.out;subst eo16)|((with_reducible refine gate_builtin (b:=.append) (xs:=#[.tmp 34,.tmp 36]) rfl ?_);(try (refine gate_guard (by rfl) ?_;dsimp only));at_builtin;refine Kd.R_append (Kd.int .i64) (w0:=w) w.heap.size rfl (.tmp 34) (.tmp 36) 50 3 (.int .i64 0) 8 rfl Tryd.underlying50 info3 rfl (by decide) (by omega) (.slice Ao16 x8_1.length co16) x8_1 t167 [.int .i64 t167] (fun _=>True) (fun _=>False) rfl rfl ?aP (fun _ hk=>hk.elim) ?aF ?aO ?aB ?aS ?aL ?_;(case aP=>exact rfl);(case aB=>exact be);(case aF=>exact (fun _ _=>trivial));(case aO=>exact (rR HO_8));(case aS=>exact (below_size be));(case aL=>have:=LMc14.out;omega);intro v171 w17 ho hb hg hat;rw [← Ny170.out] at ho;have n0_:=Aside0.mk (Kd.R_over' (rR HO_15) (Kd.R_typed (rR HO_8)) (by decide) hg);have n1_:=Aside0.mk (hb);have n2_:=Aside0.mk (ho);clear HO_15;clear HB;clear HO_8;have HO_15:=n0_;have HB:=n1_;have HO172:=n2_;clear n0_ n1_ n2_;clear ho hb hg hat))
         go_roundg k1
         case measure=>have:=HK1.out;omega
         case rel=>exact ⟨(y170),(wrap64 (x17_1+1)),rd_,H',⟨by have:=HK1.out;omega⟩,⟨rR HO172⟩,⟨rR HO_15⟩,⟨be⟩⟩
        ·rw [if_neg c14] at H
         exact absurd H (by simp)
      ·have H1:(some (([]:List Int),false))=some (r1,r2):=by rw [if_neg (show ¬ (some q169).isNone=true by simp)] at H;exact H
       clear H
       have H:=H1
       clear H1
       try simp only [errW_none,errW_some]
       simp only [Option.some.injEq,Prod.mk.injEq] at H
       obtain ⟨rfl,rfl⟩:=H
       have p166:0≤(x17_1:Int):=of_decide_eq_true (by first|(with_reducible assumption)|assumption)
       have q166:x17_1 < (t163.length:Int):=of_decide_eq_true (by first|(with_reducible assumption)|assumption)
       obtain ⟨ad166,e166,hx166_0⟩:=Kd.at_string (Kd.R_reads' HO_15.out).2.2 x17_1 p166 q166
       cases e166
       replace p166:=eq_true p166
       replace q166:=eq_true q166
       go_wp2_with (first|((with_reducible refine gate_callee (f:=66) rfl ?_);refine goesL_ (some 23) rfl rfl Tryd.func66 (by kernel_rfl) rfl #[.string (rdOf ByteArray.empty t163 x17_1)] rfl (by (try simp only [List.map_toArray,List.map_cons,List.map_nil]);first|done|rfl|(simp only [List.length_drop,List.length_take];rfl)) ?_;(with_reducible refine (strconv_Atoi.calls (rdOf ByteArray.empty t163 x17_1) t167 (some q169) _ ?side1 A10.out).mono ?_);(case side1=>exact lb hL);rintro e w18 ⟨E_,N_,E0_,E1_,rfl,hb⟩;refine ⟨_,rfl,?_⟩;(try simp only [E0_,E1_]);have n0_:=Aside0.mk (Kd.R_below ((rR HO_8)) hb);have n1_:=Aside0.mk (Kd.R_below ((rR HO_15)) hb);have n2_:=bs hb;clear HO_8;clear HO_15;clear HB;have HO_8:=n0_;have HO_15:=n1_;have HB:=n2_;clear n0_ n1_ n2_;(try clear hb);(try clear hb2);(try clear hk);(try clear hi);(try simp only [errW_none,errW_some])))
       go_ret2
       exact ⟨_,by first|rfl|(simp [errW_none,errW_some] <;> rfl)|(simp [*,errW_none,errW_some] <;> rfl),by first|exact Kd.R_nil _ _ _ _ _|exact Kd.N_nil _ _ _ _ _|exact Kd.V_nil _ _ _ _ _|exact Kd.Q_nil _ _ _ _ _|exact Kd.S_nil _ _ _ _ _,be⟩
     ·rw [if_neg c9] at H
      exact absurd H (by simp)
    ·rw [if_neg c8] at H
     exact absurd H (by simp)
   ·rw [if_neg c7] at H
    have c7b0:decide (x17_1 < (t163.length:Int))=false:=decide_eq_false c7
    clear c7
    simp only [Option.some.injEq,Prod.mk.injEq] at H
    obtain ⟨rfl,rfl⟩:=H
    obtain ⟨Ao19,co19,eo19⟩:=Kd.R_slice HO_8.out
    subst eo19
    go_wp2
    go_ret2
    exact ⟨_,by first|rfl|(simp [errW_none,errW_some] <;> rfl)|(simp [*,errW_none,errW_some] <;> rfl),rR HO_8,be⟩
end Go.Proofs.YtnoglmdicdpabaaDoor.PFnDevsRead
