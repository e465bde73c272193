/- Trimmed by a program of this session (trim.py). Not trusted: Lean checks it. -/
import Derived.Test.YtpbjbfimnfghkaaTLRingsPFnRingsx0
import Derived.Test.YtpbjbfimnfghkaaTLRingsPFnRingsx1
import Derived.Sort.OwnSortedInts
import Derived.Test.YtpbjbfimnfghkaaTLRingsShelf
namespace Go.Proofs.Ytpbjbfimnfghkaa.PFnRings
open Go.RowKit Go.Proofs.YtpbjbfimnfghkaaW.PrintWords Go.Proofs.YtpbjbfimnfghkaaW.PrintLast Go.Proofs.YtpbjbfimnfghkaaW.PrintMore Go.Proofs.Ytpbjbfimnfghkaa.St
attribute [local go_sem] max2_int min2_int max_two min_two max_three min_three max_four min_four
set_option linter.unusedVariables false
set_option linter.unusedSimpArgs false
def impl_apart.l0:Nat→List Int→List Int→Int→Int→Option (Bool)
 | 0,_,_,_,_=>none
 | k+1,x0,x5,x6,x7=>if x7 < x6 then (if 0≤x7 then (if x7 < (x5.length:Int) then (if x7≤(x0.length:Int) then ((impl_hasInt.f k (x0.take (x7:Int).toNat) (rd x5 x7)).bind fun t111=>(if t111=true then (some false) else (impl_apart.l0 k x0 x5 x6 (wrap64 (x7+1))))) else (none)) else (none)) else (none)) else (some true)
def impl_apart.f (k:Nat) (l0:List Int):Option (Bool):=impl_apart.l0 k l0 l0 (l0.length:Int) 0
set_option maxHeartbeats 8000000 in
set_option maxRecDepth 100000 in
theorem impl_apart.calls (k:Nat) (A0:Option Addr) (c0:Nat) (l0:List Int) (r:Bool) (w:World) (hr0:Kd.C (Kd.int .i64) w A0 l0.length l0) (hc0:l0.length≤c0) (h:impl_apart.f k l0=some r) :
  Calls Try.prog 59 #[.slice A0 l0.length c0] w fun e w'=>e = .returned (.bool r)∧Drawn0 w w':=by
 have HR0:=Aside0.mk hr0
 have HC0:=Aside0.mk hc0
 clear hr0 hc0
 have H:(impl_apart.l0 k l0 l0 (l0.length:Int) 0)=some r:=h
 clear h
 have H':=Aside0.mk H
 clear H
 go_enter Try.func59,Try.ntmps59
 go_wp2
 go_loopg [7] k (fun kq v7 w'=>∃ (x7_1:Int),v7 = .int .i64 x7_1∧Aside0 (impl_apart.l0 kq l0 l0 (l0.length:Int) x7_1=some r)∧Aside0 (kq≤k)∧Drawn0 w w')
 case atStart=>exact ⟨(0),rd_,H',⟨Nat.le_refl _⟩,by repeat (first|exact Drawn0.refl _|apply Drawn0.step)⟩
 case round=>
  clear H'
  obtain ⟨x7_1,rfl,HA,HK1,⟨m1,rfl⟩⟩:=hrel
  cases gk with
  | zero=>exact absurd HA.out (by simp [impl_apart.l0])
  | succ k1=>
   have H:=HA.out
   clear HA
   simp only [impl_apart.l0] at H
   by_cases c2:x7_1 < (l0.length:Int)
   ·rw [if_pos c2] at H
    have c2b0:decide (x7_1 < (l0.length:Int))=true:=decide_eq_true c2
    clear c2
    by_cases c3:0≤x7_1
    ·rw [if_pos c3] at H
     have c3b0:decide (0≤x7_1)=true:=decide_eq_true c3
     clear c3
     by_cases c4:x7_1 < (l0.length:Int)
     ·rw [if_pos c4] at H
      have c4b0:decide (x7_1 < (l0.length:Int))=true:=decide_eq_true c4
      clear c4
      have c5b0:=eq_true (of_decide_eq_true (by first|(with_reducible assumption)|assumption):0≤x7_1)
      by_cases c6:x7_1≤(l0.length:Int)
      ·rw [if_pos c6] at H
       have c6b0:=eq_true c6
       have c6b1:decide (x7_1≤(l0.length:Int))=true:=decide_eq_true c6
       clear c6
       replace H:=Option.bind_eq_some_iff.mp H
       obtain ⟨t111,A70,H⟩:=H
       try dsimp only at H
       have A7:=Aside0.mk A70
       clear A70
       by_cases c8:t111=true
       ·subst c8
        rw [if_pos rfl] at H
        obtain rfl:=Option.some.inj H
        have p109:0≤(x7_1:Int):=of_decide_eq_true (by first|(with_reducible assumption)|assumption)
        have q109:x7_1 < (l0.length:Int):=of_decide_eq_true (by first|(with_reducible assumption)|assumption)
        obtain ⟨ad109,e109,hx109_0⟩:=Kd.at_int HR0.out x7_1 p109 q109
        cases e109
        replace p109:=eq_true p109
        replace q109:=eq_true q109
        obtain ⟨i09,hi09,_,hsz9,_⟩:=info_parts info3
        obtain ⟨hcut9,hA9,hC9⟩:=print_take_of (P:=Try.prog) (Value.int .i64) 0 33 3 .i64 Try.underlying33 hi09 hsz9 (some ad109) c0 l0 x7_1 (of_decide_eq_true (by first|(with_reducible assumption)|assumption)) (of_decide_eq_true (by first|(with_reducible assumption)|assumption)) HC0.out
        have HR110:=Aside0.mk (Kd.C_of_reads (h1:=fun _=>rfl) (hA9 _ (Kd.reads_of_C HR0.out)))
        have HC110:=Aside0.mk hC9
        clear hA9 hC9 hi09 hsz9
        go_wp2_with (first|((with_reducible refine gate_callee (f:=52) rfl ?_);refine goesL_ (some 16) rfl rfl Try.func52 (by kernel_rfl) rfl #[.slice (some ad109) (l0.take (x7_1:Int).toNat).length c0,.int .i64 (rd l0 x7_1)] rfl (by (try simp only [List.map_toArray,List.map_cons,List.map_nil]);first|done|(rw [show (l0.take (x7_1:Int).toNat).length=x7_1.toNat from (by rw [List.length_take];have h_:(x7_1:Int)≤(l0.length:Int):=of_decide_eq_true (by first|(with_reducible assumption)|assumption);omega)] <;> rfl)|rfl|(simp only [List.length_drop,List.length_take];rfl)) ?_;(with_reducible refine (impl_hasInt.calls k1 _ _ (l0.take (x7_1:Int).toNat) (rd l0 x7_1) true _ ?side1 ?side2 A7.out).mono ?_);(case side1=>exact sC HR110);(case side2=>exact HC110.out);rintro e w' ⟨rfl,⟨nd,rfl⟩⟩;refine ⟨_,rfl,?_⟩))
        go_ret
        exact ⟨by first|rfl|(simp;done)|(simp [*];done),by repeat (first|exact Drawn0.refl _|apply Drawn0.step)⟩
       ·replace c8:=Bool.eq_false_iff.mpr c8
        subst c8
        have H1:(impl_apart.l0 k1 l0 l0 (l0.length:Int) (wrap64 (x7_1+1)))=some r:=by rw [if_neg (show ¬ (false=true) by decide)] at H;exact H
        clear H
        have H:=H1
        clear H1
        have H':=Aside0.mk H
        clear H
        have p109:0≤(x7_1:Int):=of_decide_eq_true (by first|(with_reducible assumption)|assumption)
        have q109:x7_1 < (l0.length:Int):=of_decide_eq_true (by first|(with_reducible assumption)|assumption)
        obtain ⟨ad109,e109,hx109_0⟩:=Kd.at_int HR0.out x7_1 p109 q109
        cases e109
        replace p109:=eq_true p109
        replace q109:=eq_true q109
        obtain ⟨i010,hi010,_,hsz10,_⟩:=info_parts info3
        obtain ⟨hcut10,hA10,hC10⟩:=print_take_of (P:=Try.prog) (Value.int .i64) 0 33 3 .i64 Try.underlying33 hi010 hsz10 (some ad109) c0 l0 x7_1 (of_decide_eq_true (by first|(with_reducible assumption)|assumption)) (of_decide_eq_true (by first|(with_reducible assumption)|assumption)) HC0.out
        have HR110:=Aside0.mk (Kd.C_of_reads (h1:=fun _=>rfl) (hA10 _ (Kd.reads_of_C HR0.out)))
        have HC110:=Aside0.mk hC10
        clear hA10 hC10 hi010 hsz10
        go_wp2_with (first|((with_reducible refine gate_callee (f:=52) rfl ?_);refine goesL_ (some 16) rfl rfl Try.func52 (by kernel_rfl) rfl #[.slice (some ad109) (l0.take (x7_1:Int).toNat).length c0,.int .i64 (rd l0 x7_1)] rfl (by (try simp only [List.map_toArray,List.map_cons,List.map_nil]);first|done|(rw [show (l0.take (x7_1:Int).toNat).length=x7_1.toNat from (by rw [List.length_take];have h_:(x7_1:Int)≤(l0.length:Int):=of_decide_eq_true (by first|(with_reducible assumption)|assumption);omega)] <;> rfl)|rfl|(simp only [List.length_drop,List.length_take];rfl)) ?_;(with_reducible refine (impl_hasInt.calls k1 _ _ (l0.take (x7_1:Int).toNat) (rd l0 x7_1) false _ ?side1 ?side2 A7.out).mono ?_);(case side1=>exact sC HR110);(case side2=>exact HC110.out);rintro e w' ⟨rfl,⟨nd,rfl⟩⟩;refine ⟨_,rfl,?_⟩))
        go_roundg k1
        case measure=>have:=HK1.out;omega
        case rel=>exact ⟨(wrap64 (x7_1+1)),rd_,H',⟨by have:=HK1.out;omega⟩,by repeat (first|exact Drawn0.refl _|apply Drawn0.step)⟩
      ·rw [if_neg c6] at H
       exact absurd H (by simp)
     ·rw [if_neg c4] at H
      exact absurd H (by simp)
    ·rw [if_neg c3] at H
     exact absurd H (by simp)
   ·rw [if_neg c2] at H
    have c2b0:decide (x7_1 < (l0.length:Int))=false:=decide_eq_false c2
    clear c2
    obtain rfl:=Option.some.inj H
    go_wp2
    go_ret
    exact ⟨by first|rfl|(simp;done)|(simp [*];done),by repeat (first|exact Drawn0.refl _|apply Drawn0.step)⟩
def impl_DevAt.l0:Nat→Int→List (S61)→Int→Int→Option (Int × Int × Int × Bool)
 | 0,_,_,_,_=>none
 | k+1,x1,x8,x9,x10=>if x10 < x9 then (if 0≤x10 then (if x10 < (x8.length:Int) then (if ((rd_T61 x8 x10).f0)=x1 then (some ((rd_T61 x8 x10).f0,(rd_T61 x8 x10).f1,(rd_T61 x8 x10).f2,true)) else (impl_DevAt.l0 k x1 x8 x9 (wrap64 (x10+1)))) else (none)) else (none)) else (some (0,0,0,false))
def impl_DevAt.f (k:Nat) (l0:List (S61)) (a1:Int):Option (Int × Int × Int × Bool):=impl_DevAt.l0 k a1 l0 (l0.length:Int) 0
set_option maxHeartbeats 8000000 in
set_option maxRecDepth 100000 in
theorem impl_DevAt.calls (k:Nat) (A0:Option Addr) (c0:Nat) (l0:List (S61)) (a1:Int) (r1:Int) (r2:Int) (r3:Int) (r4:Bool) (w:World) (hr0:Kd.C k61 w A0 l0.length l0) (hc0:l0.length≤c0) (h:impl_DevAt.f k l0 a1=some (r1,r2,r3,r4)) :
  Calls Try.prog 60 #[.slice A0 l0.length c0,.int .i64 a1] w fun e w'=>e = .returned (.tuple #[.agg #[.int .i64 r1,.int .i64 r2,.int .i64 r3],.bool r4])∧Below w.heap.size w w':=by
 have hu61:=Try.underlying61
 have HR0:=Aside0.mk hr0
 have HC0:=Aside0.mk hc0
 clear hr0 hc0
 have HB:=Aside0.mk (Below.refl w.heap.size w)
 have H:(impl_DevAt.l0 k a1 l0 (l0.length:Int) 0)=some (r1,r2,r3,r4):=h
 clear h
 have H':=Aside0.mk H
 clear H
 go_enter Try.func60,Try.ntmps60
 go_wp2_with (first|((with_reducible refine gate_dst (N:=4) rfl ?_);refine box_event ?hg (N:=4) ?hd (cs:=#[.int .i64 0,.int .i64 0,.int .i64 0]) (t:=61) ?hr ?_;(case hd=>rfl);(case hg=>rfl);(case hr=>first|(go_simp;done)|(go_simp;rfl));intro gb112 hg w3 hbox hb;have n0_:=bs hb;have n1_:=Aside0.mk (hbox);have n2_:=Aside0.mk ((by rw [hg];exact (below_size be):w.heap.size≤gb112));have n3_:=Aside0.mk ((by rw [hg];exact (below_size be):w.heap.size≤gb112));clear HB;have HB:=n0_;have BK112:=n1_;have GW112:=n2_;have GE112:=n3_;clear n0_ n1_ n2_ n3_;clear hb hbox hg))
 go_loopg [10] k (fun kq v10 w'=>∃ (x10_1:Int) (x113000_1:Int) (x113001_1:Int) (x113002_1:Int),v10 = .int .i64 x10_1∧Aside0 (impl_DevAt.l0 kq a1 l0 (l0.length:Int) x10_1=some (r1,r2,r3,r4))∧Aside0 (kq≤k)∧Aside0 (w'.heap[gb112]?=some (.cells #[.int .i64 x113000_1,.int .i64 x113001_1,.int .i64 x113002_1] 61 (0,0)))∧Aside0 (Below w.heap.size w w'))
 case atStart=>exact ⟨(0),(0),(0),(0),rd_,H',⟨Nat.le_refl _⟩,⟨bk BK112⟩,⟨be⟩⟩
 case round=>
  clear H'
  try clear p2
  obtain ⟨x10_1,x113000_1,x113001_1,x113002_1,rfl,HA,HK1,BK112,HB⟩:=hrel
  cases gk with
  | zero=>exact absurd HA.out (by simp [impl_DevAt.l0])
  | succ k1=>
   have H:=HA.out
   clear HA
   simp only [impl_DevAt.l0] at H
   by_cases c4:x10_1 < (l0.length:Int)
   ·rw [if_pos c4] at H
    have c4b0:decide (x10_1 < (l0.length:Int))=true:=decide_eq_true c4
    clear c4
    by_cases c5:0≤x10_1
    ·rw [if_pos c5] at H
     have c5b0:decide (0≤x10_1)=true:=decide_eq_true c5
     clear c5
     by_cases c6:x10_1 < (l0.length:Int)
     ·rw [if_pos c6] at H
      have c6b0:decide (x10_1 < (l0.length:Int))=true:=decide_eq_true c6
      clear c6
      by_cases c7:((rd_T61 l0 x10_1).f0)=a1
      ·rw [if_pos c7] at H
       have c7b0:(((rd_T61 l0 x10_1).f0) == a1)=true:=beq_iff_eq.mpr c7
       have c7b1:(((rd_T61 l0 x10_1).f0) != a1)=false:=bne_eq_false_iff_eq.mpr c7
       clear c7
       simp only [Option.some.injEq,Prod.mk.injEq] at H
       obtain ⟨rfl,rfl,rfl,rfl⟩:=H
       have p113:0≤(x10_1:Int):=of_decide_eq_true (by first|(with_reducible assumption)|assumption)
       have q113:x10_1 < (l0.length:Int):=of_decide_eq_true (by first|(with_reducible assumption)|assumption)
       obtain ⟨ad113,e113,hx113_0,hx113_1,hx113_2⟩:=at_T61 HR0.out x10_1 p113 q113
       cases e113
       replace hx113_0:=(HB.out.cell (World.block_lt_of_cell? w _ hx113_0)).trans hx113_0
       replace hx113_1:=(HB.out.cell (World.block_lt_of_cell? w _ hx113_1)).trans hx113_1
       replace hx113_2:=(HB.out.cell (World.block_lt_of_cell? w _ hx113_2)).trans hx113_2
       replace p113:=eq_true p113
       replace q113:=eq_true q113
       go_wp2_with (first|((with_reducible refine gate_dst (N:=7) rfl ?_);refine box_event ?hg (N:=7) ?hd (cs:=#[.int .i64 0,.int .i64 0,.int .i64 0]) (t:=61) ?hr ?_;(case hd=>rfl);(case hg=>rfl);(case hr=>first|(go_simp;done)|(go_simp;rfl));intro gb114 hg w8 hbox hb;have n0_:=Aside0.mk (blk_below (g:=gb112) (o:=.cells #[.int .i64 x113000_1,.int .i64 x113001_1,.int .i64 x113002_1] 61 (0,0)) (bk BK112) hb);have n1_:=bs hb;have n2_:=Aside0.mk (hbox);have n3_:=Aside0.mk ((by rw [hg];exact (below_size be):w.heap.size≤gb114));have n4_:=Aside0.mk ((by rw [hg];exact (below_size be):w.heap.size≤gb114));have n5_:=Aside0.mk ((by rw [hg];exact Nat.ne_of_lt (blk_lt (g:=gb112) (o:=.cells #[.int .i64 x113000_1,.int .i64 x113001_1,.int .i64 x113002_1] 61 (0,0)) (bk BK112)):gb112 ≠ gb114));have n6_:=Aside0.mk ((by rw [hg];exact Nat.ne_of_gt (blk_lt (g:=gb112) (o:=.cells #[.int .i64 x113000_1,.int .i64 x113001_1,.int .i64 x113002_1] 61 (0,0)) (bk BK112)):gb114 ≠ gb112));clear BK112;clear HB;have BK112:=n0_;have HB:=n1_;have BK114:=n2_;have GW114:=n3_;have GE114:=n4_;have NB112_114:=n5_;have NB114_112:=n6_;clear n0_ n1_ n2_ n3_ n4_ n5_ n6_;clear hb hbox hg;have hnb9:=NB114_112.out;have hnc9:=NB112_114.out;have hcz10_0:w8.cell? ⟨gb114,0,none⟩=some (.int .i64 0):=(blk_cell BK114.out 0).trans rfl;have hcz10_1:w8.cell? ⟨gb114,1,none⟩=some (.int .i64 0):=(blk_cell BK114.out 1).trans rfl;have hcz10_2:w8.cell? ⟨gb114,2,none⟩=some (.int .i64 0):=(blk_cell BK114.out 2).trans rfl;have hfz10_0:=blk_frozen BK114.out 0;have hfz10_1:=blk_frozen BK114.out 1;have hfz10_2:=blk_frozen BK114.out 2;have hcz11_0:w8.cell? ⟨gb112,0,none⟩=some (.int .i64 x113000_1):=(blk_cell BK112.out 0).trans rfl;have hcz11_1:w8.cell? ⟨gb112,1,none⟩=some (.int .i64 x113001_1):=(blk_cell BK112.out 1).trans rfl;have hcz11_2:w8.cell? ⟨gb112,2,none⟩=some (.int .i64 x113002_1):=(blk_cell BK112.out 2).trans rfl;have hfz11_0:=blk_frozen BK112.out 0;have hfz11_1:=blk_frozen BK112.out 1;have hfz11_2:=blk_frozen BK112.out 2))
       refine bodyPost_ret (results_ct rfl _ _ gb112 61 #[.int .i64 ((rd_T61 l0 x10_1).f0),.int .i64 ((rd_T61 l0 x10_1).f1),.int .i64 ((rd_T61 l0 x10_1).f2)] (0,0) _ rfl (by (with_reducible repeat (first|refine blk_drewN ?_ _|refine blk_drew ?_|refine blk_alloc ?_ _));refine blk_put (cs:=#[.int .i64 ((rd_T61 l0 x10_1).f0),.int .i64 ((rd_T61 l0 x10_1).f1),.int .i64 x113002_1]) ?_ 2 _ rfl;(with_reducible repeat (first|refine blk_drewN ?_ _|refine blk_drew ?_|refine blk_alloc ?_ _));refine blk_put (cs:=#[.int .i64 ((rd_T61 l0 x10_1).f0),.int .i64 x113001_1,.int .i64 x113002_1]) ?_ 1 _ rfl;(with_reducible repeat (first|refine blk_drewN ?_ _|refine blk_drew ?_|refine blk_alloc ?_ _));refine blk_put (cs:=#[.int .i64 x113000_1,.int .i64 x113001_1,.int .i64 x113002_1]) ?_ 0 _ rfl;(with_reducible repeat (first|refine blk_drewN ?_ _|refine blk_drew ?_|refine blk_alloc ?_ _));refine blk_far ?_ NB112_114.out _;(with_reducible repeat (first|refine blk_drewN ?_ _|refine blk_drew ?_|refine blk_alloc ?_ _));refine blk_far ?_ NB112_114.out _;(with_reducible repeat (first|refine blk_drewN ?_ _|refine blk_drew ?_|refine blk_alloc ?_ _));refine blk_far ?_ NB112_114.out _;(with_reducible repeat (first|refine blk_drewN ?_ _|refine blk_drew ?_|refine blk_alloc ?_ _));exact BK112.out) Try.underlying61 rfl (by kernel_rfl)) rfl ?_
       exact ⟨rz,be⟩
      ·rw [if_neg c7] at H
       have c7b0:(((rd_T61 l0 x10_1).f0) == a1)=false:=beq_eq_false_iff_ne.mpr c7
       have c7b1:(((rd_T61 l0 x10_1).f0) != a1)=true:=bne_iff_ne.mpr c7
       have H':=Aside0.mk H
       clear H
       have p113:0≤(x10_1:Int):=of_decide_eq_true (by first|(with_reducible assumption)|assumption)
       have q113:x10_1 < (l0.length:Int):=of_decide_eq_true (by first|(with_reducible assumption)|assumption)
       obtain ⟨ad113,e113,hx113_0,hx113_1,hx113_2⟩:=at_T61 HR0.out x10_1 p113 q113
       cases e113
       replace hx113_0:=(HB.out.cell (World.block_lt_of_cell? w _ hx113_0)).trans hx113_0
       replace hx113_1:=(HB.out.cell (World.block_lt_of_cell? w _ hx113_1)).trans hx113_1
       replace hx113_2:=(HB.out.cell (World.block_lt_of_cell? w _ hx113_2)).trans hx113_2
       replace p113:=eq_true p113
       replace q113:=eq_true q113
       go_wp2_with (first|((with_reducible refine gate_dst (N:=7) rfl ?_);refine box_event ?hg (N:=7) ?hd (cs:=#[.int .i64 0,.int .i64 0,.int .i64 0]) (t:=61) ?hr ?_;(case hd=>rfl);(case hg=>rfl);(case hr=>first|(go_simp;done)|(go_simp;rfl));intro gb114 hg w12 hbox hb;have n0_:=Aside0.mk (blk_below (g:=gb112) (o:=.cells #[.int .i64 x113000_1,.int .i64 x113001_1,.int .i64 x113002_1] 61 (0,0)) (bk BK112) hb);have n1_:=bs hb;have n2_:=Aside0.mk (hbox);have n3_:=Aside0.mk ((by rw [hg];exact (below_size be):w.heap.size≤gb114));have n4_:=Aside0.mk ((by rw [hg];exact (below_size be):w.heap.size≤gb114));have n5_:=Aside0.mk ((by rw [hg];exact Nat.ne_of_lt (blk_lt (g:=gb112) (o:=.cells #[.int .i64 x113000_1,.int .i64 x113001_1,.int .i64 x113002_1] 61 (0,0)) (bk BK112)):gb112 ≠ gb114));have n6_:=Aside0.mk ((by rw [hg];exact Nat.ne_of_gt (blk_lt (g:=gb112) (o:=.cells #[.int .i64 x113000_1,.int .i64 x113001_1,.int .i64 x113002_1] 61 (0,0)) (bk BK112)):gb114 ≠ gb112));clear BK112;clear HB;have BK112:=n0_;have HB:=n1_;have BK114:=n2_;have GW114:=n3_;have GE114:=n4_;have NB112_114:=n5_;have NB114_112:=n6_;clear n0_ n1_ n2_ n3_ n4_ n5_ n6_;clear hb hbox hg;have hnb13:=NB114_112.out;have hnc13:=NB112_114.out;have hcz14_0:w12.cell? ⟨gb114,0,none⟩=some (.int .i64 0):=(blk_cell BK114.out 0).trans rfl;have hcz14_1:w12.cell? ⟨gb114,1,none⟩=some (.int .i64 0):=(blk_cell BK114.out 1).trans rfl;have hcz14_2:w12.cell? ⟨gb114,2,none⟩=some (.int .i64 0):=(blk_cell BK114.out 2).trans rfl;have hfz14_0:=blk_frozen BK114.out 0;have hfz14_1:=blk_frozen BK114.out 1;have hfz14_2:=blk_frozen BK114.out 2))
       go_roundg k1
       case measure=>have:=HK1.out;omega
       case rel=>exact ⟨(wrap64 (x10_1+1)),(x113000_1),(x113001_1),(x113002_1),rd_,H',⟨by have:=HK1.out;omega⟩,⟨by (with_reducible repeat (first|refine blk_drewN ?_ _|refine blk_drew ?_|refine blk_alloc ?_ _));refine blk_far ?_ NB112_114.out _;(with_reducible repeat (first|refine blk_drewN ?_ _|refine blk_drew ?_|refine blk_alloc ?_ _));refine blk_far ?_ NB112_114.out _;(with_reducible repeat (first|refine blk_drewN ?_ _|refine blk_drew ?_|refine blk_alloc ?_ _));refine blk_far ?_ NB112_114.out _;(with_reducible repeat (first|refine blk_drewN ?_ _|refine blk_drew ?_|refine blk_alloc ?_ _));exact BK112.out⟩,⟨be⟩⟩
     ·rw [if_neg c6] at H
      exact absurd H (by simp)
    ·rw [if_neg c5] at H
     exact absurd H (by simp)
   ·rw [if_neg c4] at H
    have c4b0:decide (x10_1 < (l0.length:Int))=false:=decide_eq_false c4
    clear c4
    simp only [Option.some.injEq,Prod.mk.injEq] at H
    obtain ⟨rfl,rfl,rfl,rfl⟩:=H
    have hcz15_0:wr.cell? ⟨gb112,0,none⟩=some (.int .i64 x113000_1):=(blk_cell BK112.out 0).trans rfl
    have hcz15_1:wr.cell? ⟨gb112,1,none⟩=some (.int .i64 x113001_1):=(blk_cell BK112.out 1).trans rfl
    have hcz15_2:wr.cell? ⟨gb112,2,none⟩=some (.int .i64 x113002_1):=(blk_cell BK112.out 2).trans rfl
    have hfz15_0:=blk_frozen BK112.out 0
    have hfz15_1:=blk_frozen BK112.out 1
    have hfz15_2:=blk_frozen BK112.out 2
    go_wp2
    refine bodyPost_ret (results_ct rfl _ _ gb112 61 #[.int .i64 0,.int .i64 0,.int .i64 0] (0,0) _ rfl (by (with_reducible repeat (first|refine blk_drewN ?_ _|refine blk_drew ?_|refine blk_alloc ?_ _));refine blk_put (cs:=#[.int .i64 0,.int .i64 0,.int .i64 x113002_1]) ?_ 2 _ rfl;(with_reducible repeat (first|refine blk_drewN ?_ _|refine blk_drew ?_|refine blk_alloc ?_ _));refine blk_put (cs:=#[.int .i64 0,.int .i64 x113001_1,.int .i64 x113002_1]) ?_ 1 _ rfl;(with_reducible repeat (first|refine blk_drewN ?_ _|refine blk_drew ?_|refine blk_alloc ?_ _));refine blk_put (cs:=#[.int .i64 x113000_1,.int .i64 x113001_1,.int .i64 x113002_1]) ?_ 0 _ rfl;(with_reducible repeat (first|refine blk_drewN ?_ _|refine blk_drew ?_|refine blk_alloc ?_ _));exact BK112.out) Try.underlying61 rfl (by kernel_rfl)) rfl ?_
    exact ⟨rz,be⟩
mutual
def impl_RingOk.j0:Nat→List (S61)→Bool→Int→List (S35)→Option (Bool)
 | 0,_,_,_,_=>none
 | k+1,x1,x26,x116000,x116001=>if x26=true then (some false) else (impl_RingOk.l0 k x1 x116001 (x116001.length:Int) 0 x116000 x116001)
def impl_RingOk.l0:Nat→List (S61)→List (S35)→Int→Int→Int→List (S35)→Option (Bool)
 | 0,_,_,_,_,_,_=>none
 | k+1,x1,x28,x29,x30,x116000,x116001=>if x30 < x29 then (if 0≤x30 then (if x30 < (x28.length:Int) then (if (((rd_T35 x28 x30).f0).length:Int)=x116000 then ((impl_apart.f k ((rd_T35 x28 x30).f0)).bind fun t121=>(impl_RingOk.j2 k x1 x28 x29 x30 (!t121) x116000 x116001 ((rd_T35 x28 x30).f0))) else (impl_RingOk.j2 k x1 x28 x29 x30 true x116000 x116001 ((rd_T35 x28 x30).f0))) else (none)) else (none)) else (some true)
def impl_RingOk.j2:Nat→List (S61)→List (S35)→Int→Int→Bool→Int→List (S35)→List Int→Option (Bool)
 | 0,_,_,_,_,_,_,_,_=>none
 | k+1,x1,x28,x29,x30,x45,x116000,x116001,x121000=>if x45=true then (some false) else (impl_RingOk.l1 k x1 x28 x29 x30 x121000 (x121000.length:Int) 0 x116000 x116001)
def impl_RingOk.l1:Nat→List (S61)→List (S35)→Int→Int→List Int→Int→Int→Int→List (S35)→Option (Bool)
 | 0,_,_,_,_,_,_,_,_,_=>none
 | k+1,x1,x28,x29,x30,x47,x48,x49,x116000,x116001=>if x49 < x48 then (if 0≤x49 then (if x49 < (x47.length:Int) then ((impl_DevAt.f k x1 (rd x47 x49)).bind fun bt123=>(if bt123.2.2.2=true then (impl_RingOk.l1 k x1 x28 x29 x30 x47 x48 (wrap64 (x49+1)) x116000 x116001) else (some false))) else (none)) else (none)) else (impl_RingOk.l0 k x1 x28 x29 (wrap64 (x30+1)) x116000 x116001)
end
def impl_RingOk.f (k:Nat) (a0_0:Int) (l0_1:List (S35)) (l1:List (S61)):Option (Bool):=(impl_DevsOk.f k l1).bind fun t116=>(if t116=true then ((impl_in.f a0_0 1 5).bind fun t117=>(if t117=true then ((impl_in.f (l0_1.length:Int) 1 64).bind fun t118=>(impl_RingOk.j0 k l1 (!t118) a0_0 l0_1)) else (impl_RingOk.j0 k l1 true a0_0 l0_1))) else (impl_RingOk.j0 k l1 true a0_0 l0_1))
set_option maxHeartbeats 8000000 in
set_option maxRecDepth 100000 in
theorem impl_RingOk.calls (k:Nat) (a0_0:Int) (A0_1:Option Addr) (c0_1:Nat) (l0_1:List (S35)) (A1:Option Addr) (c1:Nat) (l1:List (S61)) (r:Bool) (w:World) (hr0_1:Kd.C k35 w A0_1 l0_1.length l0_1) (hc0_1:l0_1.length≤c0_1) (hr1:Kd.C k61 w A1 l1.length l1) (hc1:l1.length≤c1) (h:impl_RingOk.f k a0_0 l0_1 l1=some r) :
  Calls Try.prog 15 #[.agg #[.int .i64 a0_0,.slice A0_1 l0_1.length c0_1],.slice A1 l1.length c1] w fun e w'=>e = .returned (.bool r)∧Below w.heap.size w w':=by
 have hu26:=Try.underlying26
 have hu35:=Try.underlying35
 have hu61:=Try.underlying61
 have HR0_1:=Aside0.mk hr0_1
 have HC0_1:=Aside0.mk hc0_1
 clear hr0_1 hc0_1
 have HR1:=Aside0.mk hr1
 have HC1:=Aside0.mk hc1
 clear hr1 hc1
 have HB:=Aside0.mk (Below.refl w.heap.size w)
 have H:((impl_DevsOk.f k l1).bind fun t116=>(if t116=true then ((impl_in.f a0_0 1 5).bind fun t117=>(if t117=true then ((impl_in.f (l0_1.length:Int) 1 64).bind fun t118=>(impl_RingOk.j0 k l1 (!t118) a0_0 l0_1)) else (impl_RingOk.j0 k l1 true a0_0 l0_1))) else (impl_RingOk.j0 k l1 true a0_0 l0_1)))=some r:=h
 clear h
 have HC3:=Aside0.mk H
 clear H
 go_enter Try.func15,Try.ntmps15
 go_upto_region 1 with (first|((with_reducible refine gate_dst (N:=2) rfl ?_);(try (refine gate_guard (by rfl) ?_;dsimp only));refine box_event ?hg (N:=2) ?hd (cs:=#[.int .i64 a0_0,.slice A0_1 l0_1.length c0_1]) (t:=26) ?hr ?_;(case hd=>rfl);(case hg=>rfl);(case hr=>first|(go_simp;done)|(go_simp;rfl));intro gb115 hg w4 hbox hb;have n0_:=bs hb;have n1_:=Aside0.mk (hbox);have n2_:=Aside0.mk ((by rw [hg];exact (below_size be):w.heap.size≤gb115));have n3_:=Aside0.mk ((by rw [hg];exact (below_size be):w.heap.size≤gb115));clear HB;have HB:=n0_;have BK115:=n1_;have GW115:=n2_;have GE115:=n3_;clear n0_ n1_ n2_ n3_;clear hb hbox hg))
 (try simp only [Act.put,List.setIfInBounds_toArray,List.set_cons_zero,List.set_cons_succ])
 go_cut [26] (fun v26 wc=>∃ (kq:Nat) (x26_2:Bool),v26 = .bool x26_2∧Aside0 (impl_RingOk.j0 kq l1 x26_2 a0_0 l0_1=some r)∧Aside0 (kq≤k)∧Aside0 (wc.heap[gb115]?=some (.cells #[.int .i64 a0_0,(.slice A0_1 l0_1.length c0_1)] 26 (0,0)))∧Aside0 (Below w.heap.size w wc))
 case first=>
  have H:=HC3.out
  clear HC3
  replace H:=Option.bind_eq_some_iff.mp H
  obtain ⟨t116,A50,H⟩:=H
  try dsimp only at H
  have A5:=Aside0.mk A50
  clear A50
  by_cases c6:t116=true
  ·subst c6
   rw [if_pos rfl] at H
   replace H:=Option.bind_eq_some_iff.mp H
   obtain ⟨t117,A70,H⟩:=H
   try dsimp only at H
   have A7:=Aside0.mk A70
   clear A70
   by_cases c8:t117=true
   ·subst c8
    rw [if_pos rfl] at H
    replace H:=Option.bind_eq_some_iff.mp H
    obtain ⟨t118,A90,H⟩:=H
    try dsimp only at H
    have A9:=Aside0.mk A90
    clear A90
    have H':=Aside0.mk H
    clear H
    go_wp2_with (first|((with_reducible refine gate_callee (f:=57) rfl ?_);refine goesL_ (some 12) rfl rfl Try.func57 (by kernel_rfl) rfl #[.slice A1 l1.length c1] rfl (by (try simp only [List.map_toArray,List.map_cons,List.map_nil]);first|done|rfl|(simp only [List.length_drop,List.length_take];rfl)) ?_;(with_reducible refine (impl_DevsOk.calls k _ _ l1 true _ ?side1 ?side2 A5.out).mono ?_);(case side1=>exact rC HR1);(case side2=>exact HC1.out);rintro e w10 ⟨rfl,hb⟩;refine ⟨_,rfl,?_⟩;have n0_:=Aside0.mk (blk_below (g:=gb115) (o:=.cells #[.int .i64 a0_0,.slice A0_1 l0_1.length c0_1] 26 (0,0)) (bk BK115) hb);have n1_:=bs hb;clear BK115;clear HB;have BK115:=n0_;have HB:=n1_;clear n0_ n1_;(try clear hb);(try clear hb2);(try clear hk);(try clear hi);have hcz11_0:w10.cell? ⟨gb115,0,none⟩=some (.int .i64 a0_0):=(blk_cell BK115.out 0).trans rfl;have hcz11_1:w10.cell? ⟨gb115,1,none⟩=some (.slice A0_1 l0_1.length c0_1):=(blk_cell BK115.out 1).trans rfl;have hfz11_0:=blk_frozen BK115.out 0;have hfz11_1:=blk_frozen BK115.out 1)|(go_at_call 58;(with_reducible refine (impl_in.calls a0_0 1 5 true _ A7.out).mono ?_);rintro e w' ⟨rfl,⟨nd,rfl⟩⟩)|(go_at_call 58;(with_reducible refine (impl_in.calls (l0_1.length:Int) 1 64 t118 _ A9.out).mono ?_);rintro e w' ⟨rfl,⟨nd,rfl⟩⟩))
    go_meet
    case rel=>exact ⟨_,(!t118),rd_,H',⟨by first|omega|exact Nat.le_refl _⟩,⟨bk BK115⟩,⟨be⟩⟩
   ·replace c8:=Bool.eq_false_iff.mpr c8
    subst c8
    have H1:(impl_RingOk.j0 k l1 true a0_0 l0_1)=some r:=by rw [if_neg (show ¬ (false=true) by decide)] at H;exact H
    clear H
    have H:=H1
    clear H1
    have H':=Aside0.mk H
    clear H
    go_wp2_with (first|((with_reducible refine gate_callee (f:=57) rfl ?_);refine goesL_ (some 12) rfl rfl Try.func57 (by kernel_rfl) rfl #[.slice A1 l1.length c1] rfl (by (try simp only [List.map_toArray,List.map_cons,List.map_nil]);first|done|rfl|(simp only [List.length_drop,List.length_take];rfl)) ?_;(with_reducible refine (impl_DevsOk.calls k _ _ l1 true _ ?side1 ?side2 A5.out).mono ?_);(case side1=>exact rC HR1);(case side2=>exact HC1.out);rintro e w12 ⟨rfl,hb⟩;refine ⟨_,rfl,?_⟩;have n0_:=Aside0.mk (blk_below (g:=gb115) (o:=.cells #[.int .i64 a0_0,.slice A0_1 l0_1.length c0_1] 26 (0,0)) (bk BK115) hb);have n1_:=bs hb;clear BK115;clear HB;have BK115:=n0_;have HB:=n1_;clear n0_ n1_;(try clear hb);(try clear hb2);(try clear hk);(try clear hi);have hcz13_0:w12.cell? ⟨gb115,0,none⟩=some (.int .i64 a0_0):=(blk_cell BK115.out 0).trans rfl;have hcz13_1:w12.cell? ⟨gb115,1,none⟩=some (.slice A0_1 l0_1.length c0_1):=(blk_cell BK115.out 1).trans rfl;have hfz13_0:=blk_frozen BK115.out 0;have hfz13_1:=blk_frozen BK115.out 1)|(go_at_call 58;(with_reducible refine (impl_in.calls a0_0 1 5 false _ A7.out).mono ?_);rintro e w' ⟨rfl,⟨nd,rfl⟩⟩))
    go_meet
    case rel=>exact ⟨_,(true),rd_,H',⟨by first|omega|exact Nat.le_refl _⟩,⟨bk BK115⟩,⟨be⟩⟩
  ·replace c6:=Bool.eq_false_iff.mpr c6
   subst c6
   have H1:(impl_RingOk.j0 k l1 true a0_0 l0_1)=some r:=by rw [if_neg (show ¬ (false=true) by decide)] at H;exact H
   clear H
   have H:=H1
   clear H1
   have H':=Aside0.mk H
   clear H
   go_wp2_with (first|((with_reducible refine gate_callee (f:=57) rfl ?_);refine goesL_ (some 12) rfl rfl Try.func57 (by kernel_rfl) rfl #[.slice A1 l1.length c1] rfl (by (try simp only [List.map_toArray,List.map_cons,List.map_nil]);first|done|rfl|(simp only [List.length_drop,List.length_take];rfl)) ?_;(with_reducible refine (impl_DevsOk.calls k _ _ l1 false _ ?side1 ?side2 A5.out).mono ?_);(case side1=>exact rC HR1);(case side2=>exact HC1.out);rintro e w14 ⟨rfl,hb⟩;refine ⟨_,rfl,?_⟩;have n0_:=Aside0.mk (blk_below (g:=gb115) (o:=.cells #[.int .i64 a0_0,.slice A0_1 l0_1.length c0_1] 26 (0,0)) (bk BK115) hb);have n1_:=bs hb;clear BK115;clear HB;have BK115:=n0_;have HB:=n1_;clear n0_ n1_;(try clear hb);(try clear hb2);(try clear hk);(try clear hi)))
   go_meet
   case rel=>exact ⟨_,(true),rd_,H',⟨by first|omega|exact Nat.le_refl _⟩,⟨bk BK115⟩,⟨be⟩⟩
 case rest=>
  clear HC3
  try clear c1
  try clear p2
  try clear c5
  try clear c6
  try clear c8
  try clear hcz11_0
  try clear hcz11_1
  try clear hcz13_0
  try clear hcz13_1
  try clear hfz11_0
  try clear hfz11_1
  try clear hfz13_0
  try clear hfz13_1
  obtain ⟨kq,x26_2,rfl,HA,HJ2,BK115,HB⟩:=hcut
  cases kq with
  | zero=>exact absurd HA.out (by simp [impl_RingOk.j0])
  | succ kj2=>
   have H:=HA.out
   clear HA
   simp only [impl_RingOk.j0] at H
   by_cases c15:x26_2=true
   ·subst c15
    rw [if_pos rfl] at H
    obtain rfl:=Option.some.inj H
    go_wp2
    go_ret
    exact ⟨rz,be⟩
   ·replace c15:=Bool.eq_false_iff.mpr c15
    subst c15
    have H1:(impl_RingOk.l0 kj2 l1 l0_1 (l0_1.length:Int) 0 a0_0 l0_1)=some r:=by rw [if_neg (show ¬ (false=true) by decide)] at H;exact H
    clear H
    have H:=H1
    clear H1
    have H':=Aside0.mk H
    clear H
    have hcz16_0:wc.cell? ⟨gb115,0,none⟩=some (.int .i64 a0_0):=(blk_cell BK115.out 0).trans rfl
    have hcz16_1:wc.cell? ⟨gb115,1,none⟩=some (.slice A0_1 l0_1.length c0_1):=(blk_cell BK115.out 1).trans rfl
    have hfz16_0:=blk_frozen BK115.out 0
    have hfz16_1:=blk_frozen BK115.out 1
    go_wp2
    go_loopg [30] kj2 (fun kq v30 w'=>∃ (x30_2:Int),v30 = .int .i64 x30_2∧Aside0 (impl_RingOk.l0 kq l1 l0_1 (l0_1.length:Int) x30_2 a0_0 l0_1=some r)∧Aside0 (kq≤kj2)∧Aside0 (w'.heap[gb115]?=some (.cells #[.int .i64 a0_0,(.slice A0_1 l0_1.length c0_1)] 26 (0,0)))∧Aside0 (Below w.heap.size w w'))
    case atStart=>exact ⟨(0),rd_,H',⟨Nat.le_refl _⟩,⟨bk BK115⟩,⟨be⟩⟩
    case round=>
     clear H'
     try clear c1
     try clear p2
     try clear c5
     try clear c6
     try clear c8
     try clear c15
     try clear hcz11_0
     try clear hcz11_1
     try clear hcz13_0
     try clear hcz13_1
     try clear hcz16_0
     try clear hcz16_1
     try clear hfz11_0
     try clear hfz11_1
     try clear hfz13_0
     try clear hfz13_1
     try clear hfz16_0
     try clear hfz16_1
     try clear p2
     obtain ⟨x30_2,rfl,HA,HK2,BK115,HB⟩:=hrel
     cases gk with
     | zero=>exact absurd HA.out (by simp [impl_RingOk.l0])
     | succ k2=>
      have H:=HA.out
      clear HA
      simp only [impl_RingOk.l0] at H
      by_cases c17:x30_2 < (l0_1.length:Int)
      ·rw [if_pos c17] at H
       have c17b0:decide (x30_2 < (l0_1.length:Int))=true:=decide_eq_true c17
       clear c17
       by_cases c18:0≤x30_2
       ·rw [if_pos c18] at H
        have c18b0:decide (0≤x30_2)=true:=decide_eq_true c18
        clear c18
        by_cases c19:x30_2 < (l0_1.length:Int)
        ·rw [if_pos c19] at H
         have c19b0:decide (x30_2 < (l0_1.length:Int))=true:=decide_eq_true c19
         clear c19
         have HC20:=Aside0.mk H
         clear H
         have p119:0≤(x30_2:Int):=of_decide_eq_true (by first|(with_reducible assumption)|assumption)
         have q119:x30_2 < (l0_1.length:Int):=of_decide_eq_true (by first|(with_reducible assumption)|assumption)
         obtain ⟨ad119,A119_0,c119_0,e119,hx119_0,hl119_0,hi119_0⟩:=at_T35 HR0_1.out x30_2 p119 q119
         cases e119
         replace hx119_0:=(HB.out.cell (World.block_lt_of_cell? w _ hx119_0)).trans hx119_0
         have HR119_0:=Aside0.mk hi119_0
         have HC119_0:=Aside0.mk hl119_0
         clear hi119_0 hl119_0
         replace p119:=eq_true p119
         replace q119:=eq_true q119
         go_upto_region 6 with (first|((with_reducible refine gate_dst (N:=6) rfl ?_);(try (refine gate_guard (by rfl) ?_;dsimp only));refine box_event ?hg (N:=6) ?hd (cs:=#[.slice none 0 0]) (t:=35) ?hr ?_;(case hd=>rfl);(case hg=>rfl);(case hr=>first|(go_simp;done)|(go_simp;rfl));intro gb120 hg w21 hbox hb;have n0_:=Aside0.mk (blk_below (g:=gb115) (o:=.cells #[.int .i64 a0_0,.slice (some ad119) l0_1.length c0_1] 26 (0,0)) (bk BK115) hb);have n1_:=bs hb;have n2_:=Aside0.mk (hbox);have n3_:=Aside0.mk ((by rw [hg];exact (below_size be):w.heap.size≤gb120));have n4_:=Aside0.mk ((by rw [hg];exact (below_size be):w.heap.size≤gb120));have n5_:=Aside0.mk ((by rw [hg];exact Nat.ne_of_lt (blk_lt (g:=gb115) (o:=.cells #[.int .i64 a0_0,.slice (some ad119) l0_1.length c0_1] 26 (0,0)) (bk BK115)):gb115 ≠ gb120));have n6_:=Aside0.mk ((by rw [hg];exact Nat.ne_of_gt (blk_lt (g:=gb115) (o:=.cells #[.int .i64 a0_0,.slice (some ad119) l0_1.length c0_1] 26 (0,0)) (bk BK115)):gb120 ≠ gb115));clear BK115;clear HB;have BK115:=n0_;have HB:=n1_;have BK120:=n2_;have GW120:=n3_;have GE120:=n4_;have NB115_120:=n5_;have NB120_115:=n6_;clear n0_ n1_ n2_ n3_ n4_ n5_ n6_;clear hb hbox hg;have hnb22:=NB120_115.out;have hnc22:=NB115_120.out;have hcz23_0:w21.cell? ⟨gb120,0,none⟩=some (.slice none 0 0):=(blk_cell BK120.out 0).trans rfl;have hfz23_0:=blk_frozen BK120.out 0))
         (try simp only [Act.put,List.setIfInBounds_toArray,List.set_cons_zero,List.set_cons_succ])
         go_cut [45] (fun v45 wc=>∃ (kq:Nat) (x45_19:Bool),v45 = .bool x45_19∧Aside0 (impl_RingOk.j2 kq l1 l0_1 (l0_1.length:Int) x30_2 x45_19 a0_0 l0_1 ((rd_T35 l0_1 x30_2).f0)=some r)∧Aside0 (kq≤k2)∧Aside0 (wc.heap[gb115]?=some (.cells #[.int .i64 a0_0,(.slice (some ad119) l0_1.length c0_1)] 26 (0,0)))∧Aside0 (wc.heap[gb120]?=some (.cells #[(.slice A119_0 ((rd_T35 l0_1 x30_2).f0).length c119_0)] 35 (0,0)))∧Aside0 (Below w.heap.size w wc))
         case first=>
          have H:=HC20.out
          clear HC20
          by_cases c24:(((rd_T35 l0_1 x30_2).f0).length:Int)=a0_0
          ·rw [if_pos c24] at H
           have c24b0:((((rd_T35 l0_1 x30_2).f0).length:Int) == a0_0)=true:=beq_iff_eq.mpr c24
           have c24b1:((((rd_T35 l0_1 x30_2).f0).length:Int) != a0_0)=false:=bne_eq_false_iff_eq.mpr c24
           clear c24
           (first|rw [c24b0]|(simp only [i64_w,i32_w];rw [c24b0])|skip)
           replace H:=Option.bind_eq_some_iff.mp H
           obtain ⟨t121,A250,H⟩:=H
           try dsimp only at H
           have A25:=Aside0.mk A250
           clear A250
           have H':=Aside0.mk H
           clear H
           have hnb26:=NB120_115.out
           have hnc26:=NB115_120.out
           have hcz27_0:w21.cell? ⟨gb120,0,none⟩=some (.slice none 0 0):=(blk_cell BK120.out 0).trans rfl
           have hfz27_0:=blk_frozen BK120.out 0
           have hcz28_0:w21.cell? ⟨gb115,0,none⟩=some (.int .i64 a0_0):=(blk_cell BK115.out 0).trans rfl
           have hcz28_1:w21.cell? ⟨gb115,1,none⟩=some (.slice (some ad119) l0_1.length c0_1):=(blk_cell BK115.out 1).trans rfl
           have hfz28_0:=blk_frozen BK115.out 0
           have hfz28_1:=blk_frozen BK115.out 1
           go_wp2_with (first|(go_at_call 59;(with_reducible refine (impl_apart.calls k2 _ _ ((rd_T35 l0_1 x30_2).f0) t121 _ ?side1 ?side2 A25.out).mono ?_);(case side1=>exact Kd.C_below HR119_0.out be);(case side2=>exact HC119_0.out);rintro e w' ⟨rfl,⟨nd,rfl⟩⟩))
           go_meet
           case rel=>exact ⟨_,(!t121),rd_,H',⟨by have:=HJ2.out;have:=HK2.out;first|omega|exact Nat.le_refl _⟩,⟨by (with_reducible repeat (first|refine blk_drewN ?_ _|refine blk_drew ?_|refine blk_alloc ?_ _));refine blk_far ?_ NB115_120.out _;(with_reducible repeat (first|refine blk_drewN ?_ _|refine blk_drew ?_|refine blk_alloc ?_ _));exact BK115.out⟩,⟨by (with_reducible repeat (first|refine blk_drewN ?_ _|refine blk_drew ?_|refine blk_alloc ?_ _));refine blk_put (cs:=#[.slice none 0 0]) ?_ 0 _ rfl;(with_reducible repeat (first|refine blk_drewN ?_ _|refine blk_drew ?_|refine blk_alloc ?_ _));exact BK120.out⟩,⟨be⟩⟩
          ·rw [if_neg c24] at H
           have c24b0:((((rd_T35 l0_1 x30_2).f0).length:Int) == a0_0)=false:=beq_eq_false_iff_ne.mpr c24
           have c24b1:((((rd_T35 l0_1 x30_2).f0).length:Int) != a0_0)=true:=bne_iff_ne.mpr c24
           (first|rw [c24b0]|(simp only [i64_w,i32_w];rw [c24b0])|skip)
           have H':=Aside0.mk H
           clear H
           have hnb29:=NB120_115.out
           have hnc29:=NB115_120.out
           have hcz30_0:w21.cell? ⟨gb120,0,none⟩=some (.slice none 0 0):=(blk_cell BK120.out 0).trans rfl
           have hfz30_0:=blk_frozen BK120.out 0
           have hcz31_0:w21.cell? ⟨gb115,0,none⟩=some (.int .i64 a0_0):=(blk_cell BK115.out 0).trans rfl
           have hcz31_1:w21.cell? ⟨gb115,1,none⟩=some (.slice (some ad119) l0_1.length c0_1):=(blk_cell BK115.out 1).trans rfl
           have hfz31_0:=blk_frozen BK115.out 0
           have hfz31_1:=blk_frozen BK115.out 1
           go_wp2
           go_meet
           case rel=>exact ⟨_,(true),rd_,H',⟨by have:=HJ2.out;have:=HK2.out;first|omega|exact Nat.le_refl _⟩,⟨by (with_reducible repeat (first|refine blk_drewN ?_ _|refine blk_drew ?_|refine blk_alloc ?_ _));refine blk_far ?_ NB115_120.out _;(with_reducible repeat (first|refine blk_drewN ?_ _|refine blk_drew ?_|refine blk_alloc ?_ _));exact BK115.out⟩,⟨by (with_reducible repeat (first|refine blk_drewN ?_ _|refine blk_drew ?_|refine blk_alloc ?_ _));refine blk_put (cs:=#[.slice none 0 0]) ?_ 0 _ rfl;(with_reducible repeat (first|refine blk_drewN ?_ _|refine blk_drew ?_|refine blk_alloc ?_ _));exact BK120.out⟩,⟨be⟩⟩
         case rest=>
          clear HC20
          try clear c1
          try clear p1
          try clear q1
          try clear hx1
          try clear c2
          try clear p2
          try clear c5
          try clear c6
          try clear c8
          try clear c11
          try clear p11
          try clear q11
          try clear hx11
          try clear c15
          try clear c17
          try clear c17b0
          try clear c18
          try clear c18b0
          try clear c19
          try clear c19b0
          try clear c22
          try clear c24
          try clear c24b0
          try clear c24b1
          try clear c26
          try clear c29
          try clear hcz11_0
          try clear hcz11_1
          try clear hcz13_0
          try clear hcz13_1
          try clear hcz16_0
          try clear hcz16_1
          try clear hcz23_0
          try clear hcz27_0
          try clear hcz28_0
          try clear hcz28_1
          try clear hcz30_0
          try clear hcz31_0
          try clear hcz31_1
          try clear hfz11_0
          try clear hfz11_1
          try clear hfz13_0
          try clear hfz13_1
          try clear hfz16_0
          try clear hfz16_1
          try clear hfz23_0
          try clear hfz27_0
          try clear hfz28_0
          try clear hfz28_1
          try clear hfz30_0
          try clear hfz31_0
          try clear hfz31_1
          try clear hx119_0
          try clear p119
          try clear p2
          try clear q119
          obtain ⟨kq,x45_19,rfl,HA,HJ19,BK115,BK120,HB⟩:=hcut
          cases kq with
          | zero=>exact absurd HA.out (by simp [impl_RingOk.j2])
          | succ kj19=>
           have H:=HA.out
           clear HA
           simp only [impl_RingOk.j2] at H
           by_cases c32:x45_19=true
           ·subst c32
            rw [if_pos rfl] at H
            obtain rfl:=Option.some.inj H
            go_wp2
            go_ret
            exact ⟨rz,be⟩
           ·replace c32:=Bool.eq_false_iff.mpr c32
            subst c32
            have H1:(impl_RingOk.l1 kj19 l1 l0_1 (l0_1.length:Int) x30_2 ((rd_T35 l0_1 x30_2).f0) (((rd_T35 l0_1 x30_2).f0).length:Int) 0 a0_0 l0_1)=some r:=by rw [if_neg (show ¬ (false=true) by decide)] at H;exact H
            clear H
            have H:=H1
            clear H1
            have H':=Aside0.mk H
            clear H
            have hnb33:=NB120_115.out
            have hnc33:=NB115_120.out
            have hcz34_0:wc.cell? ⟨gb120,0,none⟩=some (.slice A119_0 ((rd_T35 l0_1 x30_2).f0).length c119_0):=(blk_cell BK120.out 0).trans rfl
            have hfz34_0:=blk_frozen BK120.out 0
            go_wp2
            go_loopg [49] kj19 (fun kq v49 w'=>∃ (x49_4:Int),v49 = .int .i64 x49_4∧Aside0 (impl_RingOk.l1 kq l1 l0_1 (l0_1.length:Int) x30_2 ((rd_T35 l0_1 x30_2).f0) (((rd_T35 l0_1 x30_2).f0).length:Int) x49_4 a0_0 l0_1=some r)∧Aside0 (kq≤kj19)∧Aside0 (w'.heap[gb115]?=some (.cells #[.int .i64 a0_0,(.slice (some ad119) l0_1.length c0_1)] 26 (0,0)))∧Aside0 (w'.heap[gb120]?=some (.cells #[(.slice A119_0 ((rd_T35 l0_1 x30_2).f0).length c119_0)] 35 (0,0)))∧Aside0 (Below w.heap.size w w'))
            case atStart=>exact ⟨(0),rd_,H',⟨Nat.le_refl _⟩,⟨bk BK115⟩,⟨bk BK120⟩,⟨be⟩⟩
            case round=>
             clear H'
             try clear c1
             try clear p1
             try clear q1
             try clear hx1
             try clear c2
             try clear p2
             try clear c3
             try clear c5
             try clear c6
             try clear c8
             try clear c11
             try clear p11
             try clear q11
             try clear hx11
             try clear c15
             try clear c17
             try clear c17b0
             try clear c18
             try clear c18b0
             try clear c19
             try clear c19b0
             try clear c22
             try clear c24
             try clear c24b0
             try clear c24b1
             try clear c26
             try clear c29
             try clear c32
             try clear c33
             try clear hcz11_0
             try clear hcz11_1
             try clear hcz13_0
             try clear hcz13_1
             try clear hcz16_0
             try clear hcz16_1
             try clear hcz23_0
             try clear hcz27_0
             try clear hcz28_0
             try clear hcz28_1
             try clear hcz30_0
             try clear hcz31_0
             try clear hcz31_1
             try clear hcz34_0
             try clear hfz11_0
             try clear hfz11_1
             try clear hfz13_0
             try clear hfz13_1
             try clear hfz16_0
             try clear hfz16_1
             try clear hfz23_0
             try clear hfz27_0
             try clear hfz28_0
             try clear hfz28_1
             try clear hfz30_0
             try clear hfz31_0
             try clear hfz31_1
             try clear hfz34_0
             try clear hx119_0
             try clear p1
             try clear p11
             try clear p119
             try clear p2
             try clear q1
             try clear q11
             try clear q119
             obtain ⟨x49_4,rfl,HA,HK4,BK115,BK120,HB⟩:=hrel
             cases gk with
             | zero=>exact absurd HA.out (by simp [impl_RingOk.l1])
             | succ k4=>
              have H:=HA.out
              clear HA
              simp only [impl_RingOk.l1] at H
              by_cases c35:x49_4 < (((rd_T35 l0_1 x30_2).f0).length:Int)
              ·rw [if_pos c35] at H
               have c35b0:decide (x49_4 < (((rd_T35 l0_1 x30_2).f0).length:Int))=true:=decide_eq_true c35
               clear c35
               by_cases c36:0≤x49_4
               ·rw [if_pos c36] at H
                have c36b0:decide (0≤x49_4)=true:=decide_eq_true c36
                clear c36
                by_cases c37:x49_4 < (((rd_T35 l0_1 x30_2).f0).length:Int)
                ·rw [if_pos c37] at H
                 have c37b0:decide (x49_4 < (((rd_T35 l0_1 x30_2).f0).length:Int))=true:=decide_eq_true c37
                 clear c37
                 replace H:=Option.bind_eq_some_iff.mp H
                 obtain ⟨⟨t123,t124,t125,t126⟩,A380,H⟩:=H
                 try dsimp only at H
                 have A38:=Aside0.mk A380
                 clear A380
                 by_cases c39:t126=true
                 ·subst c39
                  rw [if_pos rfl] at H
                  have H':=Aside0.mk H
                  clear H
                  have p122:0≤(x49_4:Int):=of_decide_eq_true (by first|(with_reducible assumption)|assumption)
                  have q122:x49_4 < (((rd_T35 l0_1 x30_2).f0).length:Int):=of_decide_eq_true (by first|(with_reducible assumption)|assumption)
                  obtain ⟨ad122,e122,hx122_0⟩:=Kd.at_int HR119_0.out x49_4 p122 q122
                  cases e122
                  replace hx122_0:=(HB.out.cell (World.block_lt_of_cell? w _ hx122_0)).trans hx122_0
                  replace p122:=eq_true p122
                  replace q122:=eq_true q122
                  go_wp2_with (first|((with_reducible refine gate_callee (f:=60) rfl ?_);refine goesL_ (some 56) rfl rfl Try.func60 (by kernel_rfl) rfl #[.slice A1 l1.length c1,.int .i64 (rd ((rd_T35 l0_1 x30_2).f0) x49_4)] rfl (by (try simp only [List.map_toArray,List.map_cons,List.map_nil]);first|done|rfl|(simp only [List.length_drop,List.length_take];rfl)) ?_;(with_reducible refine (impl_DevAt.calls k4 _ _ l1 (rd ((rd_T35 l0_1 x30_2).f0) x49_4) t123 t124 t125 true _ ?side1 ?side2 A38.out).mono ?_);(case side1=>exact rC HR1);(case side2=>exact HC1.out);rintro e w40 ⟨rfl,hb⟩;refine ⟨_,rfl,?_⟩;have n0_:=Aside0.mk (blk_below (g:=gb115) (o:=.cells #[.int .i64 a0_0,.slice (some ad119) l0_1.length c0_1] 26 (0,0)) (bk BK115) hb);have n1_:=Aside0.mk (blk_below (g:=gb120) (o:=.cells #[.slice (some ad122) ((rd_T35 l0_1 x30_2).f0).length c119_0] 35 (0,0)) (bk BK120) hb);have n2_:=bs hb;clear BK115;clear BK120;clear HB;have BK115:=n0_;have BK120:=n1_;have HB:=n2_;clear n0_ n1_ n2_;(try clear hb);(try clear hb2);(try clear hk);(try clear hi))|((with_reducible refine gate_dst (N:=9) rfl ?_);(try (refine gate_guard (by rfl) ?_;dsimp only));refine box_event ?hg (N:=9) ?hd (cs:=#[.int .i64 0,.int .i64 0,.int .i64 0]) (t:=61) ?hr ?_;(case hd=>rfl);(case hg=>rfl);(case hr=>first|(go_simp;done)|(go_simp;rfl));intro gb127 hg w41 hbox hb;have n0_:=Aside0.mk (blk_below (g:=gb115) (o:=.cells #[.int .i64 a0_0,.slice (some ad119) l0_1.length c0_1] 26 (0,0)) (bk BK115) hb);have n1_:=Aside0.mk (blk_below (g:=gb120) (o:=.cells #[.slice (some ad122) ((rd_T35 l0_1 x30_2).f0).length c119_0] 35 (0,0)) (bk BK120) hb);have n2_:=bs hb;have n3_:=Aside0.mk (hbox);have n4_:=Aside0.mk ((by rw [hg];exact (below_size be):w.heap.size≤gb127));have n5_:=Aside0.mk ((by rw [hg];exact (below_size be):w.heap.size≤gb127));have n6_:=Aside0.mk ((by rw [hg];exact Nat.ne_of_lt (blk_lt (g:=gb115) (o:=.cells #[.int .i64 a0_0,.slice (some ad119) l0_1.length c0_1] 26 (0,0)) (bk BK115)):gb115 ≠ gb127));have n7_:=Aside0.mk ((by rw [hg];exact Nat.ne_of_gt (blk_lt (g:=gb115) (o:=.cells #[.int .i64 a0_0,.slice (some ad119) l0_1.length c0_1] 26 (0,0)) (bk BK115)):gb127 ≠ gb115));have n8_:=Aside0.mk ((by rw [hg];exact Nat.ne_of_lt (blk_lt (g:=gb120) (o:=.cells #[.slice (some ad122) ((rd_T35 l0_1 x30_2).f0).length c119_0] 35 (0,0)) (bk BK120)):gb120 ≠ gb127));have n9_:=Aside0.mk ((by rw [hg];exact Nat.ne_of_gt (blk_lt (g:=gb120) (o:=.cells #[.slice (some ad122) ((rd_T35 l0_1 x30_2).f0).length c119_0] 35 (0,0)) (bk BK120)):gb127 ≠ gb120));clear BK115;clear BK120;clear HB;have BK115:=n0_;have BK120:=n1_;have HB:=n2_;have BK127:=n3_;have GW127:=n4_;have GE127:=n5_;have NB115_127:=n6_;have NB127_115:=n7_;have NB120_127:=n8_;have NB127_120:=n9_;clear n0_ n1_ n2_ n3_ n4_ n5_ n6_ n7_ n8_ n9_;clear hb hbox hg;have hnb42:=NB127_115.out;have hnc42:=NB115_127.out;have hnb43:=NB127_120.out;have hnc43:=NB120_127.out;have hcz44_0:w41.cell? ⟨gb127,0,none⟩=some (.int .i64 0):=(blk_cell BK127.out 0).trans rfl;have hcz44_1:w41.cell? ⟨gb127,1,none⟩=some (.int .i64 0):=(blk_cell BK127.out 1).trans rfl;have hcz44_2:w41.cell? ⟨gb127,2,none⟩=some (.int .i64 0):=(blk_cell BK127.out 2).trans rfl;have hfz44_0:=blk_frozen BK127.out 0;have hfz44_1:=blk_frozen BK127.out 1;have hfz44_2:=blk_frozen BK127.out 2))
                  go_roundg k4
                  case measure=>have:=HJ2.out;have:=HK2.out;have:=HJ19.out;have:=HK4.out;omega
                  case rel=>exact ⟨(wrap64 (x49_4+1)),rd_,H',⟨by have:=HJ2.out;have:=HK2.out;have:=HJ19.out;have:=HK4.out;omega⟩,⟨by (with_reducible repeat (first|refine blk_drewN ?_ _|refine blk_drew ?_|refine blk_alloc ?_ _));refine blk_far ?_ NB115_127.out _;(with_reducible repeat (first|refine blk_drewN ?_ _|refine blk_drew ?_|refine blk_alloc ?_ _));refine blk_far ?_ NB115_127.out _;(with_reducible repeat (first|refine blk_drewN ?_ _|refine blk_drew ?_|refine blk_alloc ?_ _));refine blk_far ?_ NB115_127.out _;(with_reducible repeat (first|refine blk_drewN ?_ _|refine blk_drew ?_|refine blk_alloc ?_ _));exact BK115.out⟩,⟨by (with_reducible repeat (first|refine blk_drewN ?_ _|refine blk_drew ?_|refine blk_alloc ?_ _));refine blk_far ?_ NB120_127.out _;(with_reducible repeat (first|refine blk_drewN ?_ _|refine blk_drew ?_|refine blk_alloc ?_ _));refine blk_far ?_ NB120_127.out _;(with_reducible repeat (first|refine blk_drewN ?_ _|refine blk_drew ?_|refine blk_alloc ?_ _));refine blk_far ?_ NB120_127.out _;(with_reducible repeat (first|refine blk_drewN ?_ _|refine blk_drew ?_|refine blk_alloc ?_ _));exact BK120.out⟩,⟨be⟩⟩
                 ·replace c39:=Bool.eq_false_iff.mpr c39
                  subst c39
                  have H1:(some false)=some r:=by rw [if_neg (show ¬ (false=true) by decide)] at H;exact H
                  clear H
                  have H:=H1
                  clear H1
                  obtain rfl:=Option.some.inj H
                  have p122:0≤(x49_4:Int):=of_decide_eq_true (by first|(with_reducible assumption)|assumption)
                  have q122:x49_4 < (((rd_T35 l0_1 x30_2).f0).length:Int):=of_decide_eq_true (by first|(with_reducible assumption)|assumption)
                  obtain ⟨ad122,e122,hx122_0⟩:=Kd.at_int HR119_0.out x49_4 p122 q122
                  cases e122
                  replace hx122_0:=(HB.out.cell (World.block_lt_of_cell? w _ hx122_0)).trans hx122_0
                  replace p122:=eq_true p122
                  replace q122:=eq_true q122
                  go_wp2_with (first|((with_reducible refine gate_callee (f:=60) rfl ?_);refine goesL_ (some 56) rfl rfl Try.func60 (by kernel_rfl) rfl #[.slice A1 l1.length c1,.int .i64 (rd ((rd_T35 l0_1 x30_2).f0) x49_4)] rfl (by (try simp only [List.map_toArray,List.map_cons,List.map_nil]);first|done|rfl|(simp only [List.length_drop,List.length_take];rfl)) ?_;(with_reducible refine (impl_DevAt.calls k4 _ _ l1 (rd ((rd_T35 l0_1 x30_2).f0) x49_4) t123 t124 t125 false _ ?side1 ?side2 A38.out).mono ?_);(case side1=>exact rC HR1);(case side2=>exact HC1.out);rintro e w45 ⟨rfl,hb⟩;refine ⟨_,rfl,?_⟩;have n0_:=Aside0.mk (blk_below (g:=gb115) (o:=.cells #[.int .i64 a0_0,.slice (some ad119) l0_1.length c0_1] 26 (0,0)) (bk BK115) hb);have n1_:=Aside0.mk (blk_below (g:=gb120) (o:=.cells #[.slice (some ad122) ((rd_T35 l0_1 x30_2).f0).length c119_0] 35 (0,0)) (bk BK120) hb);have n2_:=bs hb;clear BK115;clear BK120;clear HB;have BK115:=n0_;have BK120:=n1_;have HB:=n2_;clear n0_ n1_ n2_;(try clear hb);(try clear hb2);(try clear hk);(try clear hi))|((with_reducible refine gate_dst (N:=9) rfl ?_);(try (refine gate_guard (by rfl) ?_;dsimp only));refine box_event ?hg (N:=9) ?hd (cs:=#[.int .i64 0,.int .i64 0,.int .i64 0]) (t:=61) ?hr ?_;(case hd=>rfl);(case hg=>rfl);(case hr=>first|(go_simp;done)|(go_simp;rfl));intro gb127 hg w46 hbox hb;have n0_:=Aside0.mk (blk_below (g:=gb115) (o:=.cells #[.int .i64 a0_0,.slice (some ad119) l0_1.length c0_1] 26 (0,0)) (bk BK115) hb);have n1_:=Aside0.mk (blk_below (g:=gb120) (o:=.cells #[.slice (some ad122) ((rd_T35 l0_1 x30_2).f0).length c119_0] 35 (0,0)) (bk BK120) hb);have n2_:=bs hb;have n3_:=Aside0.mk (hbox);have n4_:=Aside0.mk ((by rw [hg];exact (below_size be):w.heap.size≤gb127));have n5_:=Aside0.mk ((by rw [hg];exact (below_size be):w.heap.size≤gb127));have n6_:=Aside0.mk ((by rw [hg];exact Nat.ne_of_lt (blk_lt (g:=gb115) (o:=.cells #[.int .i64 a0_0,.slice (some ad119) l0_1.length c0_1] 26 (0,0)) (bk BK115)):gb115 ≠ gb127));have n7_:=Aside0.mk ((by rw [hg];exact Nat.ne_of_gt (blk_lt (g:=gb115) (o:=.cells #[.int .i64 a0_0,.slice (some ad119) l0_1.length c0_1] 26 (0,0)) (bk BK115)):gb127 ≠ gb115));have n8_:=Aside0.mk ((by rw [hg];exact Nat.ne_of_lt (blk_lt (g:=gb120) (o:=.cells #[.slice (some ad122) ((rd_T35 l0_1 x30_2).f0).length c119_0] 35 (0,0)) (bk BK120)):gb120 ≠ gb127));have n9_:=Aside0.mk ((by rw [hg];exact Nat.ne_of_gt (blk_lt (g:=gb120) (o:=.cells #[.slice (some ad122) ((rd_T35 l0_1 x30_2).f0).length c119_0] 35 (0,0)) (bk BK120)):gb127 ≠ gb120));clear BK115;clear BK120;clear HB;have BK115:=n0_;have BK120:=n1_;have HB:=n2_;have BK127:=n3_;have GW127:=n4_;have GE127:=n5_;have NB115_127:=n6_;have NB127_115:=n7_;have NB120_127:=n8_;have NB127_120:=n9_;clear n0_ n1_ n2_ n3_ n4_ n5_ n6_ n7_ n8_ n9_;clear hb hbox hg;have hnb47:=NB127_115.out;have hnc47:=NB115_127.out;have hnb48:=NB127_120.out;have hnc48:=NB120_127.out;have hcz49_0:w46.cell? ⟨gb127,0,none⟩=some (.int .i64 0):=(blk_cell BK127.out 0).trans rfl;have hcz49_1:w46.cell? ⟨gb127,1,none⟩=some (.int .i64 0):=(blk_cell BK127.out 1).trans rfl;have hcz49_2:w46.cell? ⟨gb127,2,none⟩=some (.int .i64 0):=(blk_cell BK127.out 2).trans rfl;have hfz49_0:=blk_frozen BK127.out 0;have hfz49_1:=blk_frozen BK127.out 1;have hfz49_2:=blk_frozen BK127.out 2))
                  go_ret
                  exact ⟨rz,be⟩
                ·rw [if_neg c37] at H
                 exact absurd H (by simp)
               ·rw [if_neg c36] at H
                exact absurd H (by simp)
              ·rw [if_neg c35] at H
               have c35b0:decide (x49_4 < (((rd_T35 l0_1 x30_2).f0).length:Int))=false:=decide_eq_false c35
               clear c35
               have H':=Aside0.mk H
               clear H
               go_wp2
               go_roundg k4
               case measure=>have:=HJ2.out;have:=HK2.out;have:=HJ19.out;have:=HK4.out;omega
               case rel=>exact ⟨(wrap64 (x30_2+1)),rd_,H',⟨by have:=HJ2.out;have:=HK2.out;have:=HJ19.out;have:=HK4.out;omega⟩,⟨bk BK115⟩,⟨be⟩⟩
        ·rw [if_neg c19] at H
         exact absurd H (by simp)
       ·rw [if_neg c18] at H
        exact absurd H (by simp)
      ·rw [if_neg c17] at H
       have c17b0:decide (x30_2 < (l0_1.length:Int))=false:=decide_eq_false c17
       clear c17
       obtain rfl:=Option.some.inj H
       go_wp2
       go_ret
       exact ⟨rz,be⟩
def sort_Ints.f (l0:List Int):Option (List Int):=if l0.length < 4611686018427387904 then (some (l0.mergeSort fun x y=>decide (x≤y))) else (none)
set_option maxHeartbeats 4000000 in
theorem sort_Ints.calls (P0_:Nat→Prop) (u9000_:Value) (l0:List Int) (r:List Int) (w0 w:World) (hB:Below w0.heap.size w0 w) (ho0:Kd.R (Kd.int .i64) 3 w w0.heap.size P0_ u9000_ l0) (h:sort_Ints.f l0=some r) :
  Calls Try.prog 69 #[u9000_] w fun e w'=>e = .returned (.tuple #[])∧Kd.R (Kd.int .i64) 3 w' w0.heap.size (fun k_=>(P0_ k_ ∨ w.heap.size≤k_)) u9000_ r∧Below w0.heap.size w0 w' ∧ Kept w w' (fun k_=>P0_ k_):=by
 unfold sort_Ints.f at h
 by_cases hl:l0.length < 4611686018427387904
 ·rw [if_pos hl] at h
  obtain rfl:=Option.some.inj h
  have ho:=Kd.own_of_R ho0
  rcases ho.2 with ⟨hu,hz⟩|⟨g,cap,cur,hu,hg,hh,h1,h2,h3,h4⟩
  ·subst hu
   have hz0:l0=[]:=by
    cases l0 with
    | nil=>rfl
    | cons a t=>exact absurd hz (by simp)
   subst hz0
   refine (Try.sort_Ints_none none 0 w).mono fun e w' he=>?_
   obtain ⟨rfl,rfl⟩:=he
   refine ⟨rfl,Kd.R_mono (by simpa using ho0) (fun _ hk=>.inl hk),hB,Kept.refl _ _⟩
  ·subst hu
   have hlt:g < w.heap.size:=(Array.getElem?_eq_some_iff.1 hh).1
   have ht:cur.toList.take l0.length=l0.map (Value.int .i64):=by simpa [encs] using h4
   refine (Try.sort_Ints g 0 cap l0 w (holds_of_blockI hh ht) hlt hl).mono fun e w' he=>?_
   obtain ⟨rfl,n,os,rfl⟩:=he
   have hlen:(l0.mergeSort fun x y=>decide (x≤y)).length=l0.length:=List.length_mergeSort _
   have hgr:=grownBy_sortedI (w:=w) (g:=g) (n:=n) (os:=os) (l0.mergeSort fun x y=>decide (x≤y)).toArray
   have hown:=ownsRow_sortedI (base:=w0.heap.size) (n:=n) (os:=os) hlen hg hh h1 h2 (by simpa using h3)
   have hP:P0_ g:=ho0.1 g (by simp [Value.ownBlock])
   refine ⟨rfl,?_,hB.grown hgr hB.size (fun k hk=>by injection hk with hk;subst hk;exact hg),⟨hgr.size,fun i hi hn=>hgr.block i hi (fun he=>by injection he with he;subst he;exact hn hP)⟩⟩
   refine Kd.R_of_own ?_ (fun k hk=>.inl ?_)
   ·rw [hlen];exact hown
   ·exact ho0.1 k hk
 ·rw [if_neg hl] at h
  cases h
end Go.Proofs.Ytpbjbfimnfghkaa.PFnRings
