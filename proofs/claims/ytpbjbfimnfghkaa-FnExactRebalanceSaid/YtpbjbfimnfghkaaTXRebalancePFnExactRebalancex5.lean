/- Trimmed by a program of this session (trim.py). Not trusted: Lean checks it. -/
import Derived.Test.YtpbjbfimnfghkaaTXRebalancePFnExactRebalancex0
import Derived.Test.YtpbjbfimnfghkaaTXRebalancePFnExactRebalancex2
import Derived.Test.YtpbjbfimnfghkaaTXRebalancePFnExactRebalancex3
import Derived.Test.YtpbjbfimnfghkaaTXRebalancePFnExactRebalancex4
namespace Go.Proofs.Ytpbjbfimnfghkaa.PFnExactRebalance
open Go.RowKit Go.Proofs.YtpbjbfimnfghkaaW.PrintWords Go.Proofs.YtpbjbfimnfghkaaW.PrintLast Go.Proofs.YtpbjbfimnfghkaaW.PrintMore Go.Proofs.Ytpbjbfimnfghkaa.St
attribute [local go_sem] max2_int min2_int max_two min_two max_three min_three max_four min_four
set_option linter.unusedVariables false
set_option linter.unusedSimpArgs false
def impl_heavy.l0:Nat→List (S61)→Int→Bool→List Int→Int→Int→Int→List (S35)→Int→Int→Int→Option (Int × Int)
 | 0,_,_,_,_,_,_,_,_,_,_,_=>none
 | k+1,x2,x8,x10,x26,x27,x28,x170000,x170001,x177000,x177001,x177002=>if x28 < x27 then (if 0≤x28 then (if x28 < (x26.length:Int) then ((impl_DevAt.f k x2 (rd x26 x28)).bind fun bt178=>(if x10=true then (if bt178.2.1=x177001 then ((impl_LoadOf.f k x170000 x170001 (rd x26 x28)).bind fun t183=>((impl_LoadOf.f k x170000 x170001 x8).bind fun t184=>(if (wrap64 (t183 - t184)) ≥ 2 then (some (x28,x8)) else (impl_heavy.l0 k x2 x8 x10 x26 x27 (wrap64 (x28+1)) x170000 x170001 x177000 x177001 x177002)))) else (impl_heavy.l0 k x2 x8 x10 x26 x27 (wrap64 (x28+1)) x170000 x170001 x177000 x177001 x177002)) else (impl_heavy.l0 k x2 x8 x10 x26 x27 (wrap64 (x28+1)) x170000 x170001 x177000 x177001 x177002))) else (none)) else (none)) else (some ((-1),(-1)))
def impl_heavy.f (k:Nat) (a0_0:Int) (l0_1:List (S35)) (l1_0:List Int) (l2:List (S61)):Option (Int × Int):=(impl_Best.f k a0_0 l0_1 l1_0 l2).bind fun t171=>((impl_DevAt.f k l2 t171).bind fun bt172=>(impl_heavy.l0 k l2 t171 bt172.2.2.2 l1_0 (l1_0.length:Int) 0 a0_0 l0_1 bt172.1 bt172.2.1 bt172.2.2.1))
def impl_heavy.T7:Bool × List (List Nat × List Nat):=(true,[([],[]),([0],[0]),([1],[1]),([2,1],[1,2]),([1],[1]),([4,1],[1,4]),([3,5,1],[1,3,5]),([1,6],[1,6]),([7,1],[7]),([8],[8]),([8],[8]),([9,10,8,8],[8,9,10]),([8],[8]),([8],[8]),([12,13,11,8],[8,12,13]),([11,14,8],[8,11,14]),([15,8],[8,15]),([8,16],[8,16])])
def impl_heavy.B7:List Nat:=[0,1,3,7,3,19,63,127,255,511,511,2047,511,511,16383,32767,65535,131071]
theorem impl_heavy.tab7:rtab .any (opsOf Try.f46 7)=impl_heavy.T7:=by kernel_rfl
theorem impl_heavy.bits7:waitsOk impl_heavy.T7.2 impl_heavy.B7=true:=by kernel_rfl
set_option maxHeartbeats 8000000 in
set_option maxRecDepth 100000 in
theorem impl_heavy.calls (k:Nat) (a0_0:Int) (A0_1:Option Addr) (c0_1:Nat) (l0_1:List (S35)) (A1_0:Option Addr) (c1_0:Nat) (l1_0:List Int) (A2:Option Addr) (c2:Nat) (l2:List (S61)) (r1:Int) (r2:Int) (w:World) (hr0_1:Kd.C k35 w A0_1 l0_1.length l0_1) (hc0_1:l0_1.length≤c0_1) (hr1_0:Kd.C (Kd.int .i64) w A1_0 l1_0.length l1_0) (hc1_0:l1_0.length≤c1_0) (hr2:Kd.C k61 w A2 l2.length l2) (hc2:l2.length≤c2) (h:impl_heavy.f k a0_0 l0_1 l1_0 l2=some (r1,r2)) :
  Calls Try.prog 46 #[.agg #[.int .i64 a0_0,.slice A0_1 l0_1.length c0_1],.agg #[.slice A1_0 l1_0.length c1_0],.slice A2 l2.length c2] w fun e w'=>e = .returned (.tuple #[.int .i64 r1,.int .i64 r2])∧Below w.heap.size w w':=by
 have hu26:=Try.underlying26
 have hu35:=Try.underlying35
 have hu61:=Try.underlying61
 have HR0_1:=aM hr0_1
 have HC0_1:=aM hc0_1
 clear hr0_1 hc0_1
 have HR1_0:=aM hr1_0
 have HC1_0:=aM hc1_0
 clear hr1_0 hc1_0
 have HR2:=aM hr2
 have HC2:=aM hc2
 clear hr2 hc2
 have HB:=aM (Below.refl w.heap.size w)
 have H:((impl_Best.f k a0_0 l0_1 l1_0 l2).bind fun t171=>((impl_DevAt.f k l2 t171).bind fun bt172=>(impl_heavy.l0 k l2 t171 bt172.2.2.2 l1_0 (l1_0.length:Int) 0 a0_0 l0_1 bt172.1 bt172.2.1 bt172.2.2.1)))=some (r1,r2):=h
 clear h
 replace H:=Option.bind_eq_some_iff.mp H
 obtain ⟨t171,A40,H⟩:=H
 try dsimp only at H
 have A4:=aM A40
 clear A40
 replace H:=Option.bind_eq_some_iff.mp H
 obtain ⟨⟨t172,t173,t174,t175⟩,A50,H⟩:=H
 try dsimp only at H
 have A5:=aM A50
 clear A50
 have H':=Aside0.mk H
 clear H
 go_enter Try.func46,Try.ntmps46
 go_wp2_with (first|((with_reducible refine gate_dst (N:=3) rfl ?_);refine box_event ?hg (N:=3) ?hd (cs:=#[.int .i64 a0_0,.slice A0_1 l0_1.length c0_1]) (t:=26) ?hr ?_;(case hd=>rfl);(case hg=>rfl);(case hr=>first|(go_simp;done)|(go_simp;rfl));intro gb169 hg w6 hbox hb;have BK169:=aM (hbox);have GW169:=gS w hg;have GE169:=gS w hg;replace HB:=bs hb;clear hb hbox hg)|((with_reducible refine gate_dst (N:=4) rfl ?_);refine box_event ?hg (N:=4) ?hd (cs:=#[.slice A1_0 l1_0.length c1_0]) (t:=35) ?hr ?_;(case hd=>rfl);(case hg=>rfl);(case hr=>first|(go_simp;done)|(go_simp;rfl));intro gb170 hg w7 hbox hb;have BK170:=aM (hbox);have GW170:=gS w hg;have GE170:=gS w hg;replace HB:=bs hb;have NB169_170:=nL hg BK169;have NB170_169:=nG hg BK169;replace BK169:=bB BK169 hb;clear hb hbox hg;have hnb8:=NB169_170.out;have hnc8:=NB170_169.out;have hcz9_0:w7.cell? ⟨gb169,0,none⟩=some (.int .i64 a0_0):=(blk_cell BK169.out 0).trans rfl;have hcz9_1:w7.cell? ⟨gb169,1,none⟩=some (.slice A0_1 l0_1.length c0_1):=(blk_cell BK169.out 1).trans rfl;have hfz9_0:=blk_frozen BK169.out 0;have hfz9_1:=blk_frozen BK169.out 1;have hcz10_0:w7.cell? ⟨gb170,0,none⟩=some (.slice A1_0 l1_0.length c1_0):=(blk_cell BK170.out 0).trans rfl;have hfz10_0:=blk_frozen BK170.out 0)|((with_reducible refine gate_callee (f:=45) rfl ?_);refine goesL_ (some 18) rfl rfl Try.func45 (by kernel_rfl) rfl #[.agg #[.int .i64 a0_0,.slice A0_1 l0_1.length c0_1],.agg #[.slice A1_0 l1_0.length c1_0],.slice A2 l2.length c2] rfl (by (try simp only [List.map_toArray,List.map_cons,List.map_nil]);first|done|rfl|(simp only [List.length_drop,List.length_take];rfl)) ?_;(with_reducible refine (impl_Best.calls k a0_0 _ _ l0_1 _ _ l1_0 _ _ l2 t171 _ ?side1 ?side2 ?side3 ?side4 ?side5 ?side6 A4.out).mono ?_);(case side1=>exact rC HR0_1);(case side2=>exact HC0_1.out);(case side3=>exact rC HR1_0);(case side4=>exact HC1_0.out);(case side5=>exact rC HR2);(case side6=>exact HC2.out);rintro e w11 ⟨rfl,hb⟩;refine ⟨_,rfl,?_⟩;replace BK169:=bB BK169 hb;replace BK170:=bB BK170 hb;replace HB:=bs hb;(try clear hb))|((with_reducible refine gate_callee (f:=60) rfl ?_);refine goesL_ (some 22) rfl rfl Try.func60 (by kernel_rfl) rfl #[.slice A2 l2.length c2,.int .i64 t171] rfl (by (try simp only [List.map_toArray,List.map_cons,List.map_nil]);first|done|rfl|(simp only [List.length_drop,List.length_take];rfl)) ?_;(with_reducible refine (impl_DevAt.calls k _ _ l2 t171 t172 t173 t174 t175 _ ?side1 ?side2 A5.out).mono ?_);(case side1=>exact rC HR2);(case side2=>exact HC2.out);rintro e w12 ⟨rfl,hb⟩;refine ⟨_,rfl,?_⟩;replace BK169:=bB BK169 hb;replace BK170:=bB BK170 hb;replace HB:=bs hb;(try clear hb))|((with_reducible refine gate_dst (N:=9) rfl ?_);refine box_event ?hg (N:=9) ?hd (cs:=#[.int .i64 0,.int .i64 0,.int .i64 0]) (t:=61) ?hr ?_;(case hd=>rfl);(case hg=>rfl);(case hr=>first|(go_simp;done)|(go_simp;rfl));intro gb176 hg w13 hbox hb;have BK176:=aM (hbox);have GW176:=gS w hg;have GE176:=gS w hg;replace HB:=bs hb;have NB169_176:=nL hg BK169;have NB176_169:=nG hg BK169;replace BK169:=bB BK169 hb;have NB170_176:=nL hg BK170;have NB176_170:=nG hg BK170;replace BK170:=bB BK170 hb;clear hb hbox hg;have hnb14:=NB176_169.out;have hnc14:=NB169_176.out;have hnb15:=NB176_170.out;have hnc15:=NB170_176.out;have hcz16_0:w13.cell? ⟨gb176,0,none⟩=some (.int .i64 0):=(blk_cell BK176.out 0).trans rfl;have hcz16_1:w13.cell? ⟨gb176,1,none⟩=some (.int .i64 0):=(blk_cell BK176.out 1).trans rfl;have hcz16_2:w13.cell? ⟨gb176,2,none⟩=some (.int .i64 0):=(blk_cell BK176.out 2).trans rfl;have hfz16_0:=blk_frozen BK176.out 0;have hfz16_1:=blk_frozen BK176.out 1;have hfz16_2:=blk_frozen BK176.out 2;have hcz17_0:w13.cell? ⟨gb170,0,none⟩=some (.slice A1_0 l1_0.length c1_0):=(blk_cell BK170.out 0).trans rfl;have hfz17_0:=blk_frozen BK170.out 0))
 go_loopg [28] k (fun kq v28 w'=>∃ (x28_1:Int),v28 = .int .i64 x28_1∧Aside0 (impl_heavy.l0 kq l2 t171 t175 l1_0 (l1_0.length:Int) x28_1 a0_0 l0_1 t172 t173 t174=some (r1,r2))∧Aside0 (kq≤k)∧Aside0 (w'.heap[gb169]?=some (.cells #[.int .i64 a0_0,(.slice A0_1 l0_1.length c0_1)] 26 (0,0)))∧Aside0 (w'.heap[gb170]?=some (.cells #[(.slice A1_0 l1_0.length c1_0)] 35 (0,0)))∧Aside0 (w'.heap[gb176]?=some (.cells #[.int .i64 t172,.int .i64 t173,.int .i64 t174] 61 (0,0)))∧Aside0 (Below w.heap.size w w'))
 case atStart=>exact ⟨(0),rd_,H',⟨Nat.le_refl _⟩,⟨by (with_reducible repeat (first|refine blk_drewN ?_ _|refine blk_drew ?_|refine blk_alloc ?_ _));refine blk_far ?_ NB169_176.out _;(with_reducible repeat (first|refine blk_drewN ?_ _|refine blk_drew ?_|refine blk_alloc ?_ _));refine blk_far ?_ NB169_176.out _;(with_reducible repeat (first|refine blk_drewN ?_ _|refine blk_drew ?_|refine blk_alloc ?_ _));refine blk_far ?_ NB169_176.out _;(with_reducible repeat (first|refine blk_drewN ?_ _|refine blk_drew ?_|refine blk_alloc ?_ _));exact BK169.out⟩,⟨by (with_reducible repeat (first|refine blk_drewN ?_ _|refine blk_drew ?_|refine blk_alloc ?_ _));refine blk_far ?_ NB170_176.out _;(with_reducible repeat (first|refine blk_drewN ?_ _|refine blk_drew ?_|refine blk_alloc ?_ _));refine blk_far ?_ NB170_176.out _;(with_reducible repeat (first|refine blk_drewN ?_ _|refine blk_drew ?_|refine blk_alloc ?_ _));refine blk_far ?_ NB170_176.out _;(with_reducible repeat (first|refine blk_drewN ?_ _|refine blk_drew ?_|refine blk_alloc ?_ _));exact BK170.out⟩,⟨by (with_reducible repeat (first|refine blk_drewN ?_ _|refine blk_drew ?_|refine blk_alloc ?_ _));refine blk_put (cs:=#[.int .i64 t172,.int .i64 t173,.int .i64 0]) ?_ 2 _ rfl;(with_reducible repeat (first|refine blk_drewN ?_ _|refine blk_drew ?_|refine blk_alloc ?_ _));refine blk_put (cs:=#[.int .i64 t172,.int .i64 0,.int .i64 0]) ?_ 1 _ rfl;(with_reducible repeat (first|refine blk_drewN ?_ _|refine blk_drew ?_|refine blk_alloc ?_ _));refine blk_put (cs:=#[.int .i64 0,.int .i64 0,.int .i64 0]) ?_ 0 _ rfl;(with_reducible repeat (first|refine blk_drewN ?_ _|refine blk_drew ?_|refine blk_alloc ?_ _));exact BK176.out⟩,⟨be⟩⟩
 case round=>
  clear H'
  try clear hcz10_0
  try clear hcz16_0
  try clear hcz16_1
  try clear hcz16_2
  try clear hcz17_0
  try clear hcz9_0
  try clear hcz9_1
  try clear hfz10_0
  try clear hfz16_0
  try clear hfz16_1
  try clear hfz16_2
  try clear hfz17_0
  try clear hfz9_0
  try clear hfz9_1
  obtain ⟨x28_1,rfl,HA,HK1,BK169,BK170,BK176,HB⟩:=hrel
  cases gk with
  | zero=>exact absurd HA.out (by simp [impl_heavy.l0])
  | succ k1=>
   have H:=HA.out
   clear HA
   simp only [impl_heavy.l0] at H
   by_cases c18:x28_1 < (l1_0.length:Int)
   ·rw [if_pos c18] at H
    have c18b0:decide (x28_1 < (l1_0.length:Int))=true:=decide_eq_true c18
    clear c18
    by_cases c19:0≤x28_1
    ·rw [if_pos c19] at H
     have c19b0:decide (0≤x28_1)=true:=decide_eq_true c19
     clear c19
     by_cases c20:x28_1 < (l1_0.length:Int)
     ·rw [if_pos c20] at H
      have c20b0:decide (x28_1 < (l1_0.length:Int))=true:=decide_eq_true c20
      clear c20
      replace H:=Option.bind_eq_some_iff.mp H
      obtain ⟨⟨t178,t179,t180,t181⟩,A210,H⟩:=H
      try dsimp only at H
      have A21:=aM A210
      clear A210
      by_cases c22:t175=true
      ·subst c22
       rw [if_pos rfl] at H
       by_cases c23:t179=t173
       ·rw [if_pos c23] at H
        have c23b0:(t179 == t173)=true:=beq_iff_eq.mpr c23
        have c23b1:(t179 != t173)=false:=bne_eq_false_iff_eq.mpr c23
        clear c23
        replace H:=Option.bind_eq_some_iff.mp H
        obtain ⟨t183,A240,H⟩:=H
        try dsimp only at H
        have A24:=aM A240
        clear A240
        replace H:=Option.bind_eq_some_iff.mp H
        obtain ⟨t184,A250,H⟩:=H
        try dsimp only at H
        have A25:=aM A250
        clear A250
        by_cases c26:(wrap64 (t183 - t184)) ≥ 2
        ·rw [if_pos c26] at H
         have c26b0:decide (2≤(wrap64 (t183 - t184)))=true:=decide_eq_true c26
         clear c26
         simp only [Option.some.injEq,Prod.mk.injEq] at H
         obtain ⟨rfl,rfl⟩:=H
         have p177:0≤(x28_1:Int):=of_decide_eq_true (by first|(with_reducible assumption)|assumption)
         have q177:x28_1 < (l1_0.length:Int):=of_decide_eq_true (by first|(with_reducible assumption)|assumption)
         obtain ⟨ad177,e177,hx177_0⟩:=Kd.at_int HR1_0.out x28_1 p177 q177
         cases e177
         replace hx177_0:=(HB.out.cell (World.block_lt_of_cell? w _ hx177_0)).trans hx177_0
         replace p177:=eq_true p177
         replace q177:=eq_true q177
         try go_wp2_with (first|((with_reducible refine gate_callee (f:=60) rfl ?_);refine goesL_ (some 36) rfl rfl Try.func60 (by kernel_rfl) rfl #[.slice A2 l2.length c2,.int .i64 (rd l1_0 x28_1)] rfl (by (try simp only [List.map_toArray,List.map_cons,List.map_nil]);first|done|rfl|(simp only [List.length_drop,List.length_take];rfl)) ?_;(with_reducible refine (impl_DevAt.calls k1 _ _ l2 (rd l1_0 x28_1) t178 t179 t180 t181 _ ?side1 ?side2 A21.out).mono ?_);(case side1=>exact rC HR2);(case side2=>exact HC2.out);rintro e w27 ⟨rfl,hb⟩;refine ⟨_,rfl,?_⟩;replace BK169:=bB BK169 hb;replace BK170:=bB BK170 hb;replace BK176:=bB BK176 hb;replace HB:=bs hb;(try clear hb))|((with_reducible refine gate_dst (N:=13) rfl ?_);refine box_event ?hg (N:=13) ?hd (cs:=#[.int .i64 0,.int .i64 0,.int .i64 0]) (t:=61) ?hr ?_;(case hd=>rfl);(case hg=>rfl);(case hr=>first|(go_simp;done)|(go_simp;rfl));intro gb182 hg w28 hbox hb;have BK182:=aM (hbox);have GW182:=gS w hg;have GE182:=gS w hg;replace HB:=bs hb;have NB169_182:=nL hg BK169;have NB182_169:=nG hg BK169;replace BK169:=bB BK169 hb;have NB170_182:=nL hg BK170;have NB182_170:=nG hg BK170;replace BK170:=bB BK170 hb;have NB176_182:=nL hg BK176;have NB182_176:=nG hg BK176;replace BK176:=bB BK176 hb;clear hb hbox hg;have hnb29:=NB182_169.out;have hnc29:=NB169_182.out;have hnb30:=NB182_170.out;have hnc30:=NB170_182.out;have hnb31:=NB182_176.out;have hnc31:=NB176_182.out;have hcz32_0:w28.cell? ⟨gb182,0,none⟩=some (.int .i64 0):=(blk_cell BK182.out 0).trans rfl;have hcz32_1:w28.cell? ⟨gb182,1,none⟩=some (.int .i64 0):=(blk_cell BK182.out 1).trans rfl;have hcz32_2:w28.cell? ⟨gb182,2,none⟩=some (.int .i64 0):=(blk_cell BK182.out 2).trans rfl;have hfz32_0:=blk_frozen BK182.out 0;have hfz32_1:=blk_frozen BK182.out 1;have hfz32_2:=blk_frozen BK182.out 2))
         have n0_:Aside0 ((((w28.setCell ⟨gb182,0,none⟩ (.int .i64 t178)).setCell ⟨gb182,1,none⟩ (.int .i64 t179)).setCell ⟨gb182,2,none⟩ (.int .i64 t180)).heap[gb169]?=some (.cells #[.int .i64 a0_0,.slice A0_1 l0_1.length c0_1] 26 (0,0))):=⟨by (with_reducible repeat (first|refine blk_drewN ?_ _|refine blk_drew ?_|refine blk_alloc ?_ _));refine blk_far ?_ NB169_182.out _;(with_reducible repeat (first|refine blk_drewN ?_ _|refine blk_drew ?_|refine blk_alloc ?_ _));refine blk_far ?_ NB169_182.out _;(with_reducible repeat (first|refine blk_drewN ?_ _|refine blk_drew ?_|refine blk_alloc ?_ _));refine blk_far ?_ NB169_182.out _;(with_reducible repeat (first|refine blk_drewN ?_ _|refine blk_drew ?_|refine blk_alloc ?_ _));exact BK169.out⟩
         have n1_:Aside0 ((((w28.setCell ⟨gb182,0,none⟩ (.int .i64 t178)).setCell ⟨gb182,1,none⟩ (.int .i64 t179)).setCell ⟨gb182,2,none⟩ (.int .i64 t180)).heap[gb170]?=some (.cells #[.slice (some ad177) l1_0.length c1_0] 35 (0,0))):=⟨by (with_reducible repeat (first|refine blk_drewN ?_ _|refine blk_drew ?_|refine blk_alloc ?_ _));refine blk_far ?_ NB170_182.out _;(with_reducible repeat (first|refine blk_drewN ?_ _|refine blk_drew ?_|refine blk_alloc ?_ _));refine blk_far ?_ NB170_182.out _;(with_reducible repeat (first|refine blk_drewN ?_ _|refine blk_drew ?_|refine blk_alloc ?_ _));refine blk_far ?_ NB170_182.out _;(with_reducible repeat (first|refine blk_drewN ?_ _|refine blk_drew ?_|refine blk_alloc ?_ _));exact BK170.out⟩
         have n2_:Aside0 ((((w28.setCell ⟨gb182,0,none⟩ (.int .i64 t178)).setCell ⟨gb182,1,none⟩ (.int .i64 t179)).setCell ⟨gb182,2,none⟩ (.int .i64 t180)).heap[gb176]?=some (.cells #[.int .i64 t172,.int .i64 t173,.int .i64 t174] 61 (0,0))):=⟨by (with_reducible repeat (first|refine blk_drewN ?_ _|refine blk_drew ?_|refine blk_alloc ?_ _));refine blk_far ?_ NB176_182.out _;(with_reducible repeat (first|refine blk_drewN ?_ _|refine blk_drew ?_|refine blk_alloc ?_ _));refine blk_far ?_ NB176_182.out _;(with_reducible repeat (first|refine blk_drewN ?_ _|refine blk_drew ?_|refine blk_alloc ?_ _));refine blk_far ?_ NB176_182.out _;(with_reducible repeat (first|refine blk_drewN ?_ _|refine blk_drew ?_|refine blk_alloc ?_ _));exact BK176.out⟩
         have n3_:Aside0 ((((w28.setCell ⟨gb182,0,none⟩ (.int .i64 t178)).setCell ⟨gb182,1,none⟩ (.int .i64 t179)).setCell ⟨gb182,2,none⟩ (.int .i64 t180)).heap[gb182]?=some (.cells #[.int .i64 t178,.int .i64 t179,.int .i64 t180] 61 (0,0))):=⟨by (with_reducible repeat (first|refine blk_drewN ?_ _|refine blk_drew ?_|refine blk_alloc ?_ _));refine blk_put (cs:=#[.int .i64 t178,.int .i64 t179,.int .i64 0]) ?_ 2 _ rfl;(with_reducible repeat (first|refine blk_drewN ?_ _|refine blk_drew ?_|refine blk_alloc ?_ _));refine blk_put (cs:=#[.int .i64 t178,.int .i64 0,.int .i64 0]) ?_ 1 _ rfl;(with_reducible repeat (first|refine blk_drewN ?_ _|refine blk_drew ?_|refine blk_alloc ?_ _));refine blk_put (cs:=#[.int .i64 0,.int .i64 0,.int .i64 0]) ?_ 0 _ rfl;(with_reducible repeat (first|refine blk_drewN ?_ _|refine blk_drew ?_|refine blk_alloc ?_ _));exact BK182.out⟩
         have n4_:Aside0 (Below w.heap.size w (((w28.setCell ⟨gb182,0,none⟩ (.int .i64 t178)).setCell ⟨gb182,1,none⟩ (.int .i64 t179)).setCell ⟨gb182,2,none⟩ (.int .i64 t180))):=⟨be⟩
         (try clear BK169);(try clear BK170);(try clear BK176);(try clear BK182);(try clear HB)
         generalize (((w28.setCell ⟨gb182,0,none⟩ (.int .i64 t178)).setCell ⟨gb182,1,none⟩ (.int .i64 t179)).setCell ⟨gb182,2,none⟩ (.int .i64 t180))=w33 at n0_ n1_ n2_ n3_ n4_ ⊢
         have BK169:=n0_;have BK170:=n1_;have BK176:=n2_;have BK182:=n3_;have HB:=n4_;clear n0_ n1_ n2_ n3_ n4_;replace BK169:=aM (blk_drew BK169.out);replace BK170:=aM (blk_drew BK170.out);replace BK176:=aM (blk_drew BK176.out);replace BK182:=aM (blk_drew BK182.out);replace HB:=aM (below_drew1 HB.out)
         refine start_ (n:=18) (S:=fun w'=>w'.cell? ⟨gb182,0,none⟩=some (.int .i64 t178)∧w'.cell? ⟨gb182,1,none⟩=some (.int .i64 t179)∧w'.cell? ⟨gb182,2,none⟩=some (.int .i64 t180)∧w'.cell? ⟨gb176,0,none⟩=some (.int .i64 t172)∧w'.cell? ⟨gb176,1,none⟩=some (.int .i64 t173)∧w'.cell? ⟨gb176,2,none⟩=some (.int .i64 t174)∧w'.cell? ⟨gb169,0,none⟩=some (.int .i64 a0_0)∧w'.cell? ⟨gb169,1,none⟩=some (.slice A0_1 l0_1.length c0_1)) (ds:=[]) (fl 18 0) (by kernel_rfl) rfl rfl ⟨(blk_cell BK182.out 0).trans rfl,(blk_cell BK182.out 1).trans rfl,(blk_cell BK182.out 2).trans rfl,(blk_cell BK176.out 0).trans rfl,(blk_cell BK176.out 1).trans rfl,(blk_cell BK176.out 2).trans rfl,(blk_cell BK169.out 0).trans rfl,(blk_cell BK169.out 1).trans rfl⟩ (fun hHeld=>?_);refine with_tabW impl_heavy.tab7 impl_heavy.bits7 (fun HT_ HW_=>?_)
         generalize w33.drew=w34 at BK169 BK170 BK176 BK182 HB hHeld ⊢
         refine pt 0 39 (fl 18 1) HT_ ?_
         refine pt 1 40 (fl 18 3) HT_ ?_
         refine pt 2 41 (fl 18 7) HT_ ?_
         refine pt 4 43 (fl 18 23) HT_ ?_
         refine tt 3 42 (fl 18 31) HT_ HW_ hHeld ?_
         refine tt 5 44 (fl 18 63) HT_ HW_ hHeld ?_
         refine pt 6 45 (fl 18 127) HT_ ?_
         refine pt 7 46 (fl 18 255) HT_ ?_
         refine pt 8 47 (fl 18 511) HT_ ?_
         refine pt 10 49 (fl 18 1535) HT_ ?_
         refine pt 13 52 (fl 18 9727) HT_ ?_
         refine tt 9 48 (fl 18 10239) HT_ HW_ hHeld ?_
         refine tt 12 51 (fl 18 14335) HT_ HW_ hHeld ?_
         refine ot 11 (some 50) (fl 18 16383) HT_ (fun K hK=>?_)
         refine goes_ Try.func35 (by kernel_rfl) rfl #[.agg #[.int .i64 a0_0,.slice A0_1 l0_1.length c0_1],.int .i64 (rd l1_0 x28_1)] (by rfl) rfl rfl (by (try simp only [List.map_toArray,List.map_cons,List.map_nil]);first|done|rfl|(simp only [List.length_drop,List.length_take];rfl)) ?_
         with_reducible refine (impl_LoadOf.calls k1 a0_0 _ _ l0_1 (rd l1_0 x28_1) t183 _ ?side1 ?side2 A24.out).mono ?_
         (case side1=>exact rC HR0_1)
         (case side2=>exact HC0_1.out)
         rintro e w35 ⟨rfl,hb⟩
         refine ⟨_,rfl,?_⟩
         replace BK169:=bB BK169 hb;replace BK176:=bB BK176 hb;replace BK182:=bB BK182 hb;replace HB:=bs hb;clear BK170;(try clear hb);skip
         refine hK.out _ _ ⟨(blk_cell BK182.out 0).trans rfl,(blk_cell BK182.out 1).trans rfl,(blk_cell BK182.out 2).trans rfl,(blk_cell BK176.out 0).trans rfl,(blk_cell BK176.out 1).trans rfl,(blk_cell BK176.out 2).trans rfl,(blk_cell BK169.out 0).trans rfl,(blk_cell BK169.out 1).trans rfl⟩ (fun hHeld=>?_)
         clear hK K
         refine no 50 ?_
         refine ot 14 (some 53) (fl 18 32767) HT_ (fun K hK=>?_)
         refine goes_ Try.func35 (by kernel_rfl) rfl #[.agg #[.int .i64 a0_0,.slice A0_1 l0_1.length c0_1],.int .i64 t171] (by rfl) rfl rfl (by (try simp only [List.map_toArray,List.map_cons,List.map_nil]);first|done|rfl|(simp only [List.length_drop,List.length_take];rfl)) ?_
         with_reducible refine (impl_LoadOf.calls k1 a0_0 _ _ l0_1 t171 t184 _ ?side1 ?side2 A25.out).mono ?_
         (case side1=>exact rC HR0_1)
         (case side2=>exact HC0_1.out)
         rintro e w36 ⟨rfl,hb⟩
         refine ⟨_,rfl,?_⟩
         replace BK169:=bB BK169 hb;replace BK176:=bB BK176 hb;replace BK182:=bB BK182 hb;replace HB:=bs hb;(try clear hb);skip
         refine hK.out _ _ ⟨(blk_cell BK182.out 0).trans rfl,(blk_cell BK182.out 1).trans rfl,(blk_cell BK182.out 2).trans rfl,(blk_cell BK176.out 0).trans rfl,(blk_cell BK176.out 1).trans rfl,(blk_cell BK176.out 2).trans rfl,(blk_cell BK169.out 0).trans rfl,(blk_cell BK169.out 1).trans rfl⟩ (fun hHeld=>?_)
         clear hK K
         refine no 53 ?_
         refine pt 15 54 (fl 18 65535) HT_ ?_
         refine pt 16 55 (fl 18 131071) HT_ ?_
         refine pt 17 56 (fl 18 262143) HT_ ?_
         refine done_ (done_of HT_.out (by kernel_rfl)) ?_
         try go_wp2
         go_ret2
         exact ⟨rz,be⟩
        ·rw [if_neg c26] at H
         have c26b0:decide (2≤(wrap64 (t183 - t184)))=false:=decide_eq_false c26
         clear c26
         have H':=Aside0.mk H
         clear H
         have p177:0≤(x28_1:Int):=of_decide_eq_true (by first|(with_reducible assumption)|assumption)
         have q177:x28_1 < (l1_0.length:Int):=of_decide_eq_true (by first|(with_reducible assumption)|assumption)
         obtain ⟨ad177,e177,hx177_0⟩:=Kd.at_int HR1_0.out x28_1 p177 q177
         cases e177
         replace hx177_0:=(HB.out.cell (World.block_lt_of_cell? w _ hx177_0)).trans hx177_0
         replace p177:=eq_true p177
         replace q177:=eq_true q177
         try go_wp2_with (first|((with_reducible refine gate_callee (f:=60) rfl ?_);refine goesL_ (some 36) rfl rfl Try.func60 (by kernel_rfl) rfl #[.slice A2 l2.length c2,.int .i64 (rd l1_0 x28_1)] rfl (by (try simp only [List.map_toArray,List.map_cons,List.map_nil]);first|done|rfl|(simp only [List.length_drop,List.length_take];rfl)) ?_;(with_reducible refine (impl_DevAt.calls k1 _ _ l2 (rd l1_0 x28_1) t178 t179 t180 t181 _ ?side1 ?side2 A21.out).mono ?_);(case side1=>exact rC HR2);(case side2=>exact HC2.out);rintro e w37 ⟨rfl,hb⟩;refine ⟨_,rfl,?_⟩;replace BK169:=bB BK169 hb;replace BK170:=bB BK170 hb;replace BK176:=bB BK176 hb;replace HB:=bs hb;(try clear hb))|((with_reducible refine gate_dst (N:=13) rfl ?_);refine box_event ?hg (N:=13) ?hd (cs:=#[.int .i64 0,.int .i64 0,.int .i64 0]) (t:=61) ?hr ?_;(case hd=>rfl);(case hg=>rfl);(case hr=>first|(go_simp;done)|(go_simp;rfl));intro gb182 hg w38 hbox hb;have BK182:=aM (hbox);have GW182:=gS w hg;have GE182:=gS w hg;replace HB:=bs hb;have NB169_182:=nL hg BK169;have NB182_169:=nG hg BK169;replace BK169:=bB BK169 hb;have NB170_182:=nL hg BK170;have NB182_170:=nG hg BK170;replace BK170:=bB BK170 hb;have NB176_182:=nL hg BK176;have NB182_176:=nG hg BK176;replace BK176:=bB BK176 hb;clear hb hbox hg;have hnb39:=NB182_169.out;have hnc39:=NB169_182.out;have hnb40:=NB182_170.out;have hnc40:=NB170_182.out;have hnb41:=NB182_176.out;have hnc41:=NB176_182.out;have hcz42_0:w38.cell? ⟨gb182,0,none⟩=some (.int .i64 0):=(blk_cell BK182.out 0).trans rfl;have hcz42_1:w38.cell? ⟨gb182,1,none⟩=some (.int .i64 0):=(blk_cell BK182.out 1).trans rfl;have hcz42_2:w38.cell? ⟨gb182,2,none⟩=some (.int .i64 0):=(blk_cell BK182.out 2).trans rfl;have hfz42_0:=blk_frozen BK182.out 0;have hfz42_1:=blk_frozen BK182.out 1;have hfz42_2:=blk_frozen BK182.out 2))
         have n0_:Aside0 ((((w38.setCell ⟨gb182,0,none⟩ (.int .i64 t178)).setCell ⟨gb182,1,none⟩ (.int .i64 t179)).setCell ⟨gb182,2,none⟩ (.int .i64 t180)).heap[gb169]?=some (.cells #[.int .i64 a0_0,.slice A0_1 l0_1.length c0_1] 26 (0,0))):=⟨by (with_reducible repeat (first|refine blk_drewN ?_ _|refine blk_drew ?_|refine blk_alloc ?_ _));refine blk_far ?_ NB169_182.out _;(with_reducible repeat (first|refine blk_drewN ?_ _|refine blk_drew ?_|refine blk_alloc ?_ _));refine blk_far ?_ NB169_182.out _;(with_reducible repeat (first|refine blk_drewN ?_ _|refine blk_drew ?_|refine blk_alloc ?_ _));refine blk_far ?_ NB169_182.out _;(with_reducible repeat (first|refine blk_drewN ?_ _|refine blk_drew ?_|refine blk_alloc ?_ _));exact BK169.out⟩
         have n1_:Aside0 ((((w38.setCell ⟨gb182,0,none⟩ (.int .i64 t178)).setCell ⟨gb182,1,none⟩ (.int .i64 t179)).setCell ⟨gb182,2,none⟩ (.int .i64 t180)).heap[gb170]?=some (.cells #[.slice (some ad177) l1_0.length c1_0] 35 (0,0))):=⟨by (with_reducible repeat (first|refine blk_drewN ?_ _|refine blk_drew ?_|refine blk_alloc ?_ _));refine blk_far ?_ NB170_182.out _;(with_reducible repeat (first|refine blk_drewN ?_ _|refine blk_drew ?_|refine blk_alloc ?_ _));refine blk_far ?_ NB170_182.out _;(with_reducible repeat (first|refine blk_drewN ?_ _|refine blk_drew ?_|refine blk_alloc ?_ _));refine blk_far ?_ NB170_182.out _;(with_reducible repeat (first|refine blk_drewN ?_ _|refine blk_drew ?_|refine blk_alloc ?_ _));exact BK170.out⟩
         have n2_:Aside0 ((((w38.setCell ⟨gb182,0,none⟩ (.int .i64 t178)).setCell ⟨gb182,1,none⟩ (.int .i64 t179)).setCell ⟨gb182,2,none⟩ (.int .i64 t180)).heap[gb176]?=some (.cells #[.int .i64 t172,.int .i64 t173,.int .i64 t174] 61 (0,0))):=⟨by (with_reducible repeat (first|refine blk_drewN ?_ _|refine blk_drew ?_|refine blk_alloc ?_ _));refine blk_far ?_ NB176_182.out _;(with_reducible repeat (first|refine blk_drewN ?_ _|refine blk_drew ?_|refine blk_alloc ?_ _));refine blk_far ?_ NB176_182.out _;(with_reducible repeat (first|refine blk_drewN ?_ _|refine blk_drew ?_|refine blk_alloc ?_ _));refine blk_far ?_ NB176_182.out _;(with_reducible repeat (first|refine blk_drewN ?_ _|refine blk_drew ?_|refine blk_alloc ?_ _));exact BK176.out⟩
         have n3_:Aside0 ((((w38.setCell ⟨gb182,0,none⟩ (.int .i64 t178)).setCell ⟨gb182,1,none⟩ (.int .i64 t179)).setCell ⟨gb182,2,none⟩ (.int .i64 t180)).heap[gb182]?=some (.cells #[.int .i64 t178,.int .i64 t179,.int .i64 t180] 61 (0,0))):=⟨by (with_reducible repeat (first|refine blk_drewN ?_ _|refine blk_drew ?_|refine blk_alloc ?_ _));refine blk_put (cs:=#[.int .i64 t178,.int .i64 t179,.int .i64 0]) ?_ 2 _ rfl;(with_reducible repeat (first|refine blk_drewN ?_ _|refine blk_drew ?_|refine blk_alloc ?_ _));refine blk_put (cs:=#[.int .i64 t178,.int .i64 0,.int .i64 0]) ?_ 1 _ rfl;(with_reducible repeat (first|refine blk_drewN ?_ _|refine blk_drew ?_|refine blk_alloc ?_ _));refine blk_put (cs:=#[.int .i64 0,.int .i64 0,.int .i64 0]) ?_ 0 _ rfl;(with_reducible repeat (first|refine blk_drewN ?_ _|refine blk_drew ?_|refine blk_alloc ?_ _));exact BK182.out⟩
         have n4_:Aside0 (Below w.heap.size w (((w38.setCell ⟨gb182,0,none⟩ (.int .i64 t178)).setCell ⟨gb182,1,none⟩ (.int .i64 t179)).setCell ⟨gb182,2,none⟩ (.int .i64 t180))):=⟨be⟩
         (try clear BK169);(try clear BK170);(try clear BK176);(try clear BK182);(try clear HB)
         generalize (((w38.setCell ⟨gb182,0,none⟩ (.int .i64 t178)).setCell ⟨gb182,1,none⟩ (.int .i64 t179)).setCell ⟨gb182,2,none⟩ (.int .i64 t180))=w43 at n0_ n1_ n2_ n3_ n4_ ⊢
         have BK169:=n0_;have BK170:=n1_;have BK176:=n2_;have BK182:=n3_;have HB:=n4_;clear n0_ n1_ n2_ n3_ n4_;replace BK169:=aM (blk_drew BK169.out);replace BK170:=aM (blk_drew BK170.out);replace BK176:=aM (blk_drew BK176.out);replace BK182:=aM (blk_drew BK182.out);replace HB:=aM (below_drew1 HB.out)
         refine start_ (n:=18) (S:=fun w'=>w'.cell? ⟨gb182,0,none⟩=some (.int .i64 t178)∧w'.cell? ⟨gb182,1,none⟩=some (.int .i64 t179)∧w'.cell? ⟨gb182,2,none⟩=some (.int .i64 t180)∧w'.cell? ⟨gb176,0,none⟩=some (.int .i64 t172)∧w'.cell? ⟨gb176,1,none⟩=some (.int .i64 t173)∧w'.cell? ⟨gb176,2,none⟩=some (.int .i64 t174)∧w'.cell? ⟨gb169,0,none⟩=some (.int .i64 a0_0)∧w'.cell? ⟨gb169,1,none⟩=some (.slice A0_1 l0_1.length c0_1)) (ds:=[]) (fl 18 0) (by kernel_rfl) rfl rfl ⟨(blk_cell BK182.out 0).trans rfl,(blk_cell BK182.out 1).trans rfl,(blk_cell BK182.out 2).trans rfl,(blk_cell BK176.out 0).trans rfl,(blk_cell BK176.out 1).trans rfl,(blk_cell BK176.out 2).trans rfl,(blk_cell BK169.out 0).trans rfl,(blk_cell BK169.out 1).trans rfl⟩ (fun hHeld=>?_);refine with_tabW impl_heavy.tab7 impl_heavy.bits7 (fun HT_ HW_=>?_)
         generalize w43.drew=w44 at BK169 BK170 BK176 BK182 HB hHeld ⊢
         refine pt 0 39 (fl 18 1) HT_ ?_
         refine pt 1 40 (fl 18 3) HT_ ?_
         refine pt 2 41 (fl 18 7) HT_ ?_
         refine pt 4 43 (fl 18 23) HT_ ?_
         refine tt 3 42 (fl 18 31) HT_ HW_ hHeld ?_
         refine tt 5 44 (fl 18 63) HT_ HW_ hHeld ?_
         refine pt 6 45 (fl 18 127) HT_ ?_
         refine pt 7 46 (fl 18 255) HT_ ?_
         refine pt 8 47 (fl 18 511) HT_ ?_
         refine pt 10 49 (fl 18 1535) HT_ ?_
         refine pt 13 52 (fl 18 9727) HT_ ?_
         refine tt 9 48 (fl 18 10239) HT_ HW_ hHeld ?_
         refine tt 12 51 (fl 18 14335) HT_ HW_ hHeld ?_
         refine ot 11 (some 50) (fl 18 16383) HT_ (fun K hK=>?_)
         refine goes_ Try.func35 (by kernel_rfl) rfl #[.agg #[.int .i64 a0_0,.slice A0_1 l0_1.length c0_1],.int .i64 (rd l1_0 x28_1)] (by rfl) rfl rfl (by (try simp only [List.map_toArray,List.map_cons,List.map_nil]);first|done|rfl|(simp only [List.length_drop,List.length_take];rfl)) ?_
         with_reducible refine (impl_LoadOf.calls k1 a0_0 _ _ l0_1 (rd l1_0 x28_1) t183 _ ?side1 ?side2 A24.out).mono ?_
         (case side1=>exact rC HR0_1)
         (case side2=>exact HC0_1.out)
         rintro e w45 ⟨rfl,hb⟩
         refine ⟨_,rfl,?_⟩
         replace BK169:=bB BK169 hb;replace BK170:=bB BK170 hb;replace BK176:=bB BK176 hb;replace BK182:=bB BK182 hb;replace HB:=bs hb;(try clear hb);skip
         refine hK.out _ _ ⟨(blk_cell BK182.out 0).trans rfl,(blk_cell BK182.out 1).trans rfl,(blk_cell BK182.out 2).trans rfl,(blk_cell BK176.out 0).trans rfl,(blk_cell BK176.out 1).trans rfl,(blk_cell BK176.out 2).trans rfl,(blk_cell BK169.out 0).trans rfl,(blk_cell BK169.out 1).trans rfl⟩ (fun hHeld=>?_)
         clear hK K
         refine no 50 ?_
         refine ot 14 (some 53) (fl 18 32767) HT_ (fun K hK=>?_)
         refine goes_ Try.func35 (by kernel_rfl) rfl #[.agg #[.int .i64 a0_0,.slice A0_1 l0_1.length c0_1],.int .i64 t171] (by rfl) rfl rfl (by (try simp only [List.map_toArray,List.map_cons,List.map_nil]);first|done|rfl|(simp only [List.length_drop,List.length_take];rfl)) ?_
         with_reducible refine (impl_LoadOf.calls k1 a0_0 _ _ l0_1 t171 t184 _ ?side1 ?side2 A25.out).mono ?_
         (case side1=>exact rC HR0_1)
         (case side2=>exact HC0_1.out)
         rintro e w46 ⟨rfl,hb⟩
         refine ⟨_,rfl,?_⟩
         replace BK169:=bB BK169 hb;replace BK170:=bB BK170 hb;replace BK176:=bB BK176 hb;replace BK182:=bB BK182 hb;replace HB:=bs hb;(try clear hb);skip
         refine hK.out _ _ ⟨(blk_cell BK182.out 0).trans rfl,(blk_cell BK182.out 1).trans rfl,(blk_cell BK182.out 2).trans rfl,(blk_cell BK176.out 0).trans rfl,(blk_cell BK176.out 1).trans rfl,(blk_cell BK176.out 2).trans rfl,(blk_cell BK169.out 0).trans rfl,(blk_cell BK169.out 1).trans rfl⟩ (fun hHeld=>?_)
         clear hK K
         refine no 53 ?_
         refine pt 15 54 (fl 18 65535) HT_ ?_
         refine pt 16 55 (fl 18 131071) HT_ ?_
         refine pt 17 56 (fl 18 262143) HT_ ?_
         refine done_ (done_of HT_.out (by kernel_rfl)) ?_
         try go_wp2
         go_roundg k1
         case measure=>have:=HK1.out;omega
         case rel=>exact ⟨(wrap64 (x28_1+1)),rd_,H',⟨by have:=HK1.out;omega⟩,⟨bk BK169⟩,⟨bk BK170⟩,⟨bk BK176⟩,⟨be⟩⟩
       ·rw [if_neg c23] at H
        have c23b0:(t179 == t173)=false:=beq_eq_false_iff_ne.mpr c23
        have c23b1:(t179 != t173)=true:=bne_iff_ne.mpr c23
        have H':=Aside0.mk H
        clear H
        have p177:0≤(x28_1:Int):=of_decide_eq_true (by first|(with_reducible assumption)|assumption)
        have q177:x28_1 < (l1_0.length:Int):=of_decide_eq_true (by first|(with_reducible assumption)|assumption)
        obtain ⟨ad177,e177,hx177_0⟩:=Kd.at_int HR1_0.out x28_1 p177 q177
        cases e177
        replace hx177_0:=(HB.out.cell (World.block_lt_of_cell? w _ hx177_0)).trans hx177_0
        replace p177:=eq_true p177
        replace q177:=eq_true q177
        try go_wp2_with (first|((with_reducible refine gate_callee (f:=60) rfl ?_);refine goesL_ (some 36) rfl rfl Try.func60 (by kernel_rfl) rfl #[.slice A2 l2.length c2,.int .i64 (rd l1_0 x28_1)] rfl (by (try simp only [List.map_toArray,List.map_cons,List.map_nil]);first|done|rfl|(simp only [List.length_drop,List.length_take];rfl)) ?_;(with_reducible refine (impl_DevAt.calls k1 _ _ l2 (rd l1_0 x28_1) t178 t179 t180 t181 _ ?side1 ?side2 A21.out).mono ?_);(case side1=>exact rC HR2);(case side2=>exact HC2.out);rintro e w47 ⟨rfl,hb⟩;refine ⟨_,rfl,?_⟩;replace BK169:=bB BK169 hb;replace BK170:=bB BK170 hb;replace BK176:=bB BK176 hb;replace HB:=bs hb;(try clear hb))|((with_reducible refine gate_dst (N:=13) rfl ?_);refine box_event ?hg (N:=13) ?hd (cs:=#[.int .i64 0,.int .i64 0,.int .i64 0]) (t:=61) ?hr ?_;(case hd=>rfl);(case hg=>rfl);(case hr=>first|(go_simp;done)|(go_simp;rfl));intro gb182 hg w48 hbox hb;have BK182:=aM (hbox);have GW182:=gS w hg;have GE182:=gS w hg;replace HB:=bs hb;have NB169_182:=nL hg BK169;have NB182_169:=nG hg BK169;replace BK169:=bB BK169 hb;have NB170_182:=nL hg BK170;have NB182_170:=nG hg BK170;replace BK170:=bB BK170 hb;have NB176_182:=nL hg BK176;have NB182_176:=nG hg BK176;replace BK176:=bB BK176 hb;clear hb hbox hg;have hnb49:=NB182_169.out;have hnc49:=NB169_182.out;have hnb50:=NB182_170.out;have hnc50:=NB170_182.out;have hnb51:=NB182_176.out;have hnc51:=NB176_182.out;have hcz52_0:w48.cell? ⟨gb182,0,none⟩=some (.int .i64 0):=(blk_cell BK182.out 0).trans rfl;have hcz52_1:w48.cell? ⟨gb182,1,none⟩=some (.int .i64 0):=(blk_cell BK182.out 1).trans rfl;have hcz52_2:w48.cell? ⟨gb182,2,none⟩=some (.int .i64 0):=(blk_cell BK182.out 2).trans rfl;have hfz52_0:=blk_frozen BK182.out 0;have hfz52_1:=blk_frozen BK182.out 1;have hfz52_2:=blk_frozen BK182.out 2))
        have n0_:Aside0 ((((w48.setCell ⟨gb182,0,none⟩ (.int .i64 t178)).setCell ⟨gb182,1,none⟩ (.int .i64 t179)).setCell ⟨gb182,2,none⟩ (.int .i64 t180)).heap[gb169]?=some (.cells #[.int .i64 a0_0,.slice A0_1 l0_1.length c0_1] 26 (0,0))):=⟨by (with_reducible repeat (first|refine blk_drewN ?_ _|refine blk_drew ?_|refine blk_alloc ?_ _));refine blk_far ?_ NB169_182.out _;(with_reducible repeat (first|refine blk_drewN ?_ _|refine blk_drew ?_|refine blk_alloc ?_ _));refine blk_far ?_ NB169_182.out _;(with_reducible repeat (first|refine blk_drewN ?_ _|refine blk_drew ?_|refine blk_alloc ?_ _));refine blk_far ?_ NB169_182.out _;(with_reducible repeat (first|refine blk_drewN ?_ _|refine blk_drew ?_|refine blk_alloc ?_ _));exact BK169.out⟩
        have n1_:Aside0 ((((w48.setCell ⟨gb182,0,none⟩ (.int .i64 t178)).setCell ⟨gb182,1,none⟩ (.int .i64 t179)).setCell ⟨gb182,2,none⟩ (.int .i64 t180)).heap[gb170]?=some (.cells #[.slice (some ad177) l1_0.length c1_0] 35 (0,0))):=⟨by (with_reducible repeat (first|refine blk_drewN ?_ _|refine blk_drew ?_|refine blk_alloc ?_ _));refine blk_far ?_ NB170_182.out _;(with_reducible repeat (first|refine blk_drewN ?_ _|refine blk_drew ?_|refine blk_alloc ?_ _));refine blk_far ?_ NB170_182.out _;(with_reducible repeat (first|refine blk_drewN ?_ _|refine blk_drew ?_|refine blk_alloc ?_ _));refine blk_far ?_ NB170_182.out _;(with_reducible repeat (first|refine blk_drewN ?_ _|refine blk_drew ?_|refine blk_alloc ?_ _));exact BK170.out⟩
        have n2_:Aside0 ((((w48.setCell ⟨gb182,0,none⟩ (.int .i64 t178)).setCell ⟨gb182,1,none⟩ (.int .i64 t179)).setCell ⟨gb182,2,none⟩ (.int .i64 t180)).heap[gb176]?=some (.cells #[.int .i64 t172,.int .i64 t173,.int .i64 t174] 61 (0,0))):=⟨by (with_reducible repeat (first|refine blk_drewN ?_ _|refine blk_drew ?_|refine blk_alloc ?_ _));refine blk_far ?_ NB176_182.out _;(with_reducible repeat (first|refine blk_drewN ?_ _|refine blk_drew ?_|refine blk_alloc ?_ _));refine blk_far ?_ NB176_182.out _;(with_reducible repeat (first|refine blk_drewN ?_ _|refine blk_drew ?_|refine blk_alloc ?_ _));refine blk_far ?_ NB176_182.out _;(with_reducible repeat (first|refine blk_drewN ?_ _|refine blk_drew ?_|refine blk_alloc ?_ _));exact BK176.out⟩
        have n3_:Aside0 ((((w48.setCell ⟨gb182,0,none⟩ (.int .i64 t178)).setCell ⟨gb182,1,none⟩ (.int .i64 t179)).setCell ⟨gb182,2,none⟩ (.int .i64 t180)).heap[gb182]?=some (.cells #[.int .i64 t178,.int .i64 t179,.int .i64 t180] 61 (0,0))):=⟨by (with_reducible repeat (first|refine blk_drewN ?_ _|refine blk_drew ?_|refine blk_alloc ?_ _));refine blk_put (cs:=#[.int .i64 t178,.int .i64 t179,.int .i64 0]) ?_ 2 _ rfl;(with_reducible repeat (first|refine blk_drewN ?_ _|refine blk_drew ?_|refine blk_alloc ?_ _));refine blk_put (cs:=#[.int .i64 t178,.int .i64 0,.int .i64 0]) ?_ 1 _ rfl;(with_reducible repeat (first|refine blk_drewN ?_ _|refine blk_drew ?_|refine blk_alloc ?_ _));refine blk_put (cs:=#[.int .i64 0,.int .i64 0,.int .i64 0]) ?_ 0 _ rfl;(with_reducible repeat (first|refine blk_drewN ?_ _|refine blk_drew ?_|refine blk_alloc ?_ _));exact BK182.out⟩
        have n4_:Aside0 (Below w.heap.size w (((w48.setCell ⟨gb182,0,none⟩ (.int .i64 t178)).setCell ⟨gb182,1,none⟩ (.int .i64 t179)).setCell ⟨gb182,2,none⟩ (.int .i64 t180))):=⟨be⟩
        (try clear BK169);(try clear BK170);(try clear BK176);(try clear BK182);(try clear HB)
        generalize (((w48.setCell ⟨gb182,0,none⟩ (.int .i64 t178)).setCell ⟨gb182,1,none⟩ (.int .i64 t179)).setCell ⟨gb182,2,none⟩ (.int .i64 t180))=w53 at n0_ n1_ n2_ n3_ n4_ ⊢
        have BK169:=n0_;have BK170:=n1_;have BK176:=n2_;have BK182:=n3_;have HB:=n4_;clear n0_ n1_ n2_ n3_ n4_;replace BK169:=aM (blk_drew BK169.out);replace BK170:=aM (blk_drew BK170.out);replace BK176:=aM (blk_drew BK176.out);replace BK182:=aM (blk_drew BK182.out);replace HB:=aM (below_drew1 HB.out)
        refine start_ (n:=18) (S:=fun w'=>w'.cell? ⟨gb182,0,none⟩=some (.int .i64 t178)∧w'.cell? ⟨gb182,1,none⟩=some (.int .i64 t179)∧w'.cell? ⟨gb182,2,none⟩=some (.int .i64 t180)∧w'.cell? ⟨gb176,0,none⟩=some (.int .i64 t172)∧w'.cell? ⟨gb176,1,none⟩=some (.int .i64 t173)∧w'.cell? ⟨gb176,2,none⟩=some (.int .i64 t174)) (ds:=[]) (fl 18 0) (by kernel_rfl) rfl rfl ⟨(blk_cell BK182.out 0).trans rfl,(blk_cell BK182.out 1).trans rfl,(blk_cell BK182.out 2).trans rfl,(blk_cell BK176.out 0).trans rfl,(blk_cell BK176.out 1).trans rfl,(blk_cell BK176.out 2).trans rfl⟩ (fun hHeld=>?_);refine with_tabW impl_heavy.tab7 impl_heavy.bits7 (fun HT_ HW_=>?_)
        generalize w53.drew=w54 at BK169 BK170 BK176 BK182 HB hHeld ⊢
        refine pt 0 39 (fl 18 1) HT_ ?_
        refine pt 1 40 (fl 18 3) HT_ ?_
        refine pt 2 41 (fl 18 7) HT_ ?_
        refine pt 4 43 (fl 18 23) HT_ ?_
        refine tt 3 42 (fl 18 31) HT_ HW_ hHeld ?_
        refine tt 5 44 (fl 18 63) HT_ HW_ hHeld ?_
        refine pt 6 45 (fl 18 127) HT_ ?_
        refine pt 7 46 (fl 18 255) HT_ ?_
        refine pt 8 47 (fl 18 511) HT_ ?_
        refine ut 9 48 (fl 18 1023) HT_ ?_
        refine ut 10 49 (fl 18 2047) HT_ ?_
        refine ut 11 50 (fl 18 4095) HT_ ?_
        refine ut 12 51 (fl 18 8191) HT_ ?_
        refine ut 13 52 (fl 18 16383) HT_ ?_
        refine ut 14 53 (fl 18 32767) HT_ ?_
        refine ut 15 54 (fl 18 65535) HT_ ?_
        refine ut 16 55 (fl 18 131071) HT_ ?_
        refine pt 17 56 (fl 18 262143) HT_ ?_
        refine done_ (done_of HT_.out (by kernel_rfl)) ?_
        try go_wp2
        go_roundg k1
        case measure=>have:=HK1.out;omega
        case rel=>exact ⟨(wrap64 (x28_1+1)),rd_,H',⟨by have:=HK1.out;omega⟩,⟨bk BK169⟩,⟨bk BK170⟩,⟨bk BK176⟩,⟨be⟩⟩
      ·replace c22:=Bool.eq_false_iff.mpr c22
       subst c22
       replace H:=(if_neg (show ¬ (false=true) by decide)).symm.trans H
       have H':=Aside0.mk H
       clear H
       have p177:0≤(x28_1:Int):=of_decide_eq_true (by first|(with_reducible assumption)|assumption)
       have q177:x28_1 < (l1_0.length:Int):=of_decide_eq_true (by first|(with_reducible assumption)|assumption)
       obtain ⟨ad177,e177,hx177_0⟩:=Kd.at_int HR1_0.out x28_1 p177 q177
       cases e177
       replace hx177_0:=(HB.out.cell (World.block_lt_of_cell? w _ hx177_0)).trans hx177_0
       replace p177:=eq_true p177
       replace q177:=eq_true q177
       try go_wp2_with (first|((with_reducible refine gate_callee (f:=60) rfl ?_);refine goesL_ (some 36) rfl rfl Try.func60 (by kernel_rfl) rfl #[.slice A2 l2.length c2,.int .i64 (rd l1_0 x28_1)] rfl (by (try simp only [List.map_toArray,List.map_cons,List.map_nil]);first|done|rfl|(simp only [List.length_drop,List.length_take];rfl)) ?_;(with_reducible refine (impl_DevAt.calls k1 _ _ l2 (rd l1_0 x28_1) t178 t179 t180 t181 _ ?side1 ?side2 A21.out).mono ?_);(case side1=>exact rC HR2);(case side2=>exact HC2.out);rintro e w55 ⟨rfl,hb⟩;refine ⟨_,rfl,?_⟩;replace BK169:=bB BK169 hb;replace BK170:=bB BK170 hb;replace BK176:=bB BK176 hb;replace HB:=bs hb;(try clear hb))|((with_reducible refine gate_dst (N:=13) rfl ?_);refine box_event ?hg (N:=13) ?hd (cs:=#[.int .i64 0,.int .i64 0,.int .i64 0]) (t:=61) ?hr ?_;(case hd=>rfl);(case hg=>rfl);(case hr=>first|(go_simp;done)|(go_simp;rfl));intro gb182 hg w56 hbox hb;have BK182:=aM (hbox);have GW182:=gS w hg;have GE182:=gS w hg;replace HB:=bs hb;have NB169_182:=nL hg BK169;have NB182_169:=nG hg BK169;replace BK169:=bB BK169 hb;have NB170_182:=nL hg BK170;have NB182_170:=nG hg BK170;replace BK170:=bB BK170 hb;have NB176_182:=nL hg BK176;have NB182_176:=nG hg BK176;replace BK176:=bB BK176 hb;clear hb hbox hg;have hnb57:=NB182_169.out;have hnc57:=NB169_182.out;have hnb58:=NB182_170.out;have hnc58:=NB170_182.out;have hnb59:=NB182_176.out;have hnc59:=NB176_182.out;have hcz60_0:w56.cell? ⟨gb182,0,none⟩=some (.int .i64 0):=(blk_cell BK182.out 0).trans rfl;have hcz60_1:w56.cell? ⟨gb182,1,none⟩=some (.int .i64 0):=(blk_cell BK182.out 1).trans rfl;have hcz60_2:w56.cell? ⟨gb182,2,none⟩=some (.int .i64 0):=(blk_cell BK182.out 2).trans rfl;have hfz60_0:=blk_frozen BK182.out 0;have hfz60_1:=blk_frozen BK182.out 1;have hfz60_2:=blk_frozen BK182.out 2))
       have n0_:Aside0 ((((w56.setCell ⟨gb182,0,none⟩ (.int .i64 t178)).setCell ⟨gb182,1,none⟩ (.int .i64 t179)).setCell ⟨gb182,2,none⟩ (.int .i64 t180)).heap[gb169]?=some (.cells #[.int .i64 a0_0,.slice A0_1 l0_1.length c0_1] 26 (0,0))):=⟨by (with_reducible repeat (first|refine blk_drewN ?_ _|refine blk_drew ?_|refine blk_alloc ?_ _));refine blk_far ?_ NB169_182.out _;(with_reducible repeat (first|refine blk_drewN ?_ _|refine blk_drew ?_|refine blk_alloc ?_ _));refine blk_far ?_ NB169_182.out _;(with_reducible repeat (first|refine blk_drewN ?_ _|refine blk_drew ?_|refine blk_alloc ?_ _));refine blk_far ?_ NB169_182.out _;(with_reducible repeat (first|refine blk_drewN ?_ _|refine blk_drew ?_|refine blk_alloc ?_ _));exact BK169.out⟩
       have n1_:Aside0 ((((w56.setCell ⟨gb182,0,none⟩ (.int .i64 t178)).setCell ⟨gb182,1,none⟩ (.int .i64 t179)).setCell ⟨gb182,2,none⟩ (.int .i64 t180)).heap[gb170]?=some (.cells #[.slice (some ad177) l1_0.length c1_0] 35 (0,0))):=⟨by (with_reducible repeat (first|refine blk_drewN ?_ _|refine blk_drew ?_|refine blk_alloc ?_ _));refine blk_far ?_ NB170_182.out _;(with_reducible repeat (first|refine blk_drewN ?_ _|refine blk_drew ?_|refine blk_alloc ?_ _));refine blk_far ?_ NB170_182.out _;(with_reducible repeat (first|refine blk_drewN ?_ _|refine blk_drew ?_|refine blk_alloc ?_ _));refine blk_far ?_ NB170_182.out _;(with_reducible repeat (first|refine blk_drewN ?_ _|refine blk_drew ?_|refine blk_alloc ?_ _));exact BK170.out⟩
       have n2_:Aside0 ((((w56.setCell ⟨gb182,0,none⟩ (.int .i64 t178)).setCell ⟨gb182,1,none⟩ (.int .i64 t179)).setCell ⟨gb182,2,none⟩ (.int .i64 t180)).heap[gb176]?=some (.cells #[.int .i64 t172,.int .i64 t173,.int .i64 t174] 61 (0,0))):=⟨by (with_reducible repeat (first|refine blk_drewN ?_ _|refine blk_drew ?_|refine blk_alloc ?_ _));refine blk_far ?_ NB176_182.out _;(with_reducible repeat (first|refine blk_drewN ?_ _|refine blk_drew ?_|refine blk_alloc ?_ _));refine blk_far ?_ NB176_182.out _;(with_reducible repeat (first|refine blk_drewN ?_ _|refine blk_drew ?_|refine blk_alloc ?_ _));refine blk_far ?_ NB176_182.out _;(with_reducible repeat (first|refine blk_drewN ?_ _|refine blk_drew ?_|refine blk_alloc ?_ _));exact BK176.out⟩
       have n3_:Aside0 ((((w56.setCell ⟨gb182,0,none⟩ (.int .i64 t178)).setCell ⟨gb182,1,none⟩ (.int .i64 t179)).setCell ⟨gb182,2,none⟩ (.int .i64 t180)).heap[gb182]?=some (.cells #[.int .i64 t178,.int .i64 t179,.int .i64 t180] 61 (0,0))):=⟨by (with_reducible repeat (first|refine blk_drewN ?_ _|refine blk_drew ?_|refine blk_alloc ?_ _));refine blk_put (cs:=#[.int .i64 t178,.int .i64 t179,.int .i64 0]) ?_ 2 _ rfl;(with_reducible repeat (first|refine blk_drewN ?_ _|refine blk_drew ?_|refine blk_alloc ?_ _));refine blk_put (cs:=#[.int .i64 t178,.int .i64 0,.int .i64 0]) ?_ 1 _ rfl;(with_reducible repeat (first|refine blk_drewN ?_ _|refine blk_drew ?_|refine blk_alloc ?_ _));refine blk_put (cs:=#[.int .i64 0,.int .i64 0,.int .i64 0]) ?_ 0 _ rfl;(with_reducible repeat (first|refine blk_drewN ?_ _|refine blk_drew ?_|refine blk_alloc ?_ _));exact BK182.out⟩
       have n4_:Aside0 (Below w.heap.size w (((w56.setCell ⟨gb182,0,none⟩ (.int .i64 t178)).setCell ⟨gb182,1,none⟩ (.int .i64 t179)).setCell ⟨gb182,2,none⟩ (.int .i64 t180))):=⟨be⟩
       (try clear BK169);(try clear BK170);(try clear BK176);(try clear BK182);(try clear HB)
       generalize (((w56.setCell ⟨gb182,0,none⟩ (.int .i64 t178)).setCell ⟨gb182,1,none⟩ (.int .i64 t179)).setCell ⟨gb182,2,none⟩ (.int .i64 t180))=w61 at n0_ n1_ n2_ n3_ n4_ ⊢
       have BK169:=n0_;have BK170:=n1_;have BK176:=n2_;have BK182:=n3_;have HB:=n4_;clear n0_ n1_ n2_ n3_ n4_;replace BK169:=aM (blk_drew BK169.out);replace BK170:=aM (blk_drew BK170.out);replace BK176:=aM (blk_drew BK176.out);replace BK182:=aM (blk_drew BK182.out);replace HB:=aM (below_drew1 HB.out)
       refine start_ (n:=18) (S:=fun w'=>True) (ds:=[]) (fl 18 0) (by kernel_rfl) rfl rfl trivial (fun hHeld=>?_);refine with_tabW impl_heavy.tab7 impl_heavy.bits7 (fun HT_ HW_=>?_)
       generalize w61.drew=w62 at BK169 BK170 BK176 BK182 HB hHeld ⊢
       refine pt 0 39 (fl 18 1) HT_ ?_
       refine pt 1 40 (fl 18 3) HT_ ?_
       refine ut 2 41 (fl 18 7) HT_ ?_
       refine ut 3 42 (fl 18 15) HT_ ?_
       refine ut 4 43 (fl 18 31) HT_ ?_
       refine ut 5 44 (fl 18 63) HT_ ?_
       refine ut 6 45 (fl 18 127) HT_ ?_
       refine pt 7 46 (fl 18 255) HT_ ?_
       refine pt 8 47 (fl 18 511) HT_ ?_
       refine ut 9 48 (fl 18 1023) HT_ ?_
       refine ut 10 49 (fl 18 2047) HT_ ?_
       refine ut 11 50 (fl 18 4095) HT_ ?_
       refine ut 12 51 (fl 18 8191) HT_ ?_
       refine ut 13 52 (fl 18 16383) HT_ ?_
       refine ut 14 53 (fl 18 32767) HT_ ?_
       refine ut 15 54 (fl 18 65535) HT_ ?_
       refine ut 16 55 (fl 18 131071) HT_ ?_
       refine pt 17 56 (fl 18 262143) HT_ ?_
       refine done_ (done_of HT_.out (by kernel_rfl)) ?_
       try go_wp2
       go_roundg k1
       case measure=>have:=HK1.out;omega
       case rel=>exact ⟨(wrap64 (x28_1+1)),rd_,H',⟨by have:=HK1.out;omega⟩,⟨bk BK169⟩,⟨bk BK170⟩,⟨bk BK176⟩,⟨be⟩⟩
     ·rw [if_neg c20] at H
      exact absurd H (by simp)
    ·rw [if_neg c19] at H
     exact absurd H (by simp)
   ·rw [if_neg c18] at H
    have c18b0:decide (x28_1 < (l1_0.length:Int))=false:=decide_eq_false c18
    clear c18
    simp only [Option.some.injEq,Prod.mk.injEq] at H
    obtain ⟨rfl,rfl⟩:=H
    go_wp2
    go_ret2
    exact ⟨rz,be⟩
end Go.Proofs.Ytpbjbfimnfghkaa.PFnExactRebalance
