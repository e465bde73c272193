/- Trimmed by a program of this session (trim.py). Not trusted: Lean checks it. -/
import Derived.Test.YtnoglmdicdpabaaDoorTLStampsReadPFnStampsReadx0
import Derived.Test.YtnoglmdicdpabaaDoorTLStampsReadPFnStampsReadx1
import Derived.Test.YtnoglmdicdpabaaDoorTLStampsReadPFnStampsReadx2
namespace Go.Proofs.YtnoglmdicdpabaaDoor.PFnStampsRead
open Go.RowKit Go.Proofs.YtnoglmdicdpabaaDoorW.PrintWords Go.Proofs.YtnoglmdicdpabaaDoorW.PrintLast Go.Proofs.YtnoglmdicdpabaaDoorW.PrintMore Go.Proofs.YtnoglmdicdpabaaDoor.St
attribute [local go_sem] max2_int min2_int max_two min_two max_three min_three max_four min_four
set_option linter.unusedVariables false
set_option linter.unusedSimpArgs false
def impl_numbersOf.l0:Nat→Int→List Int→List ByteArray→Int→Int→Option (List Int × Bool)
 | 0,_,_,_,_,_=>none
 | k+1,x2,x8,x15,x16,x17=>if x17 < x16 then (if 0≤x17 then (if x17 < (x15.length:Int) then ((strconv_Atoi.f (rdOf ByteArray.empty x15 x17)).bind fun bt141=>(if bt141.2.isNone=true then (if (x8.length:Int) ≥ x2 then (some (([]:List Int),false)) else (if x8.length < 17592186044416 then (impl_numbersOf.l0 k x2 (x8 ++ [bt141.1]) x15 x16 (wrap64 (x17+1))) else (none))) else (some (([]:List Int),false)))) else (none)) else (none)) else (some (x8,((x8.length:Int) == x2)))
def impl_numbersOf.f (k:Nat) (a0:ByteArray) (a1:ByteArray) (a2:Int):Option (List Int × Bool):=(strings_Split.f a0 a1).bind fun t137=>(impl_numbersOf.l0 k a2 ([]:List Int) t137 (t137.length:Int) 0)
set_option maxHeartbeats 8000000 in
set_option maxRecDepth 100000 in
theorem impl_numbersOf.calls (k:Nat) (a0:ByteArray) (a1:ByteArray) (a2:Int) (r1:List Int) (r2:Bool) (w:World) (hL:Aside0 (Laid w)) (h:impl_numbersOf.f k a0 a1 a2=some (r1,r2)) :
  Calls Tryd.prog 48 #[.string a0,.string a1,.int .i64 a2] w fun e w'=>∃ v0_:Value,e = .returned (.tuple #[v0_,.bool r2])∧Kd.R (Kd.int .i64) 3 w' w.heap.size (fun _=>True) v0_ r1∧Below w.heap.size w w':=by
 have hu82:=Tryd.underlying82
 have HB:=Aside0.mk (Below.refl w.heap.size w)
 have H:((strings_Split.f a0 a1).bind fun t137=>(impl_numbersOf.l0 k a2 ([]:List Int) t137 (t137.length:Int) 0))=some (r1,r2):=h
 clear h
 replace H:=Option.bind_eq_some_iff.mp H
 obtain ⟨t137,A40,H⟩:=H
 try dsimp only at H
 have A4:=Aside0.mk A40
 clear A40
 have H':=Aside0.mk H
 clear H
 go_enter Tryd.func48,Tryd.ntmps48
 go_wp2_with (first|((with_reducible refine gate_callee (f:=56) rfl ?_);refine goesL_ (some 15) rfl rfl Tryd.func56 (by kernel_rfl) rfl #[.string a0,.string a1] rfl (by (try simp only [List.map_toArray,List.map_cons,List.map_nil]);first|done|rfl|(simp only [List.length_drop,List.length_take];rfl)) ?_;(with_reducible refine (strings_Split.calls a0 a1 t137 _ ?side1 A4.out).mono ?_);(case side1=>exact lb hL);rintro e w5 ⟨v138,rfl,ho0,hb⟩;refine ⟨_,rfl,?_⟩;have n0_:=Aside0.mk (Kd.R_lower ho0 (below_size be));have n1_:=bs hb;clear HB;have HO139:=n0_;have HB:=n1_;clear n0_ n1_;(try clear hb);(try clear hb2);(try clear hk);(try clear hi);(try clear ho0);obtain ⟨Ao6,co6,eo6⟩:=Kd.R_slice HO139.out;subst eo6))
 go_loopg [8,17] k (fun kq v8 v17 w'=>∃ (x8_1:List Int) (x17_1:Int),v17 = .int .i64 x17_1∧Aside0 (impl_numbersOf.l0 kq a2 x8_1 t137 (t137.length:Int) x17_1=some (r1,r2))∧Aside0 (kq≤k)∧Aside0 (Kd.R (Kd.int .i64) 3 w' w.heap.size (fun _=>True) v8 x8_1)∧Aside0 (Kd.R Kd.string 9 w' w.heap.size (fun _=>True) (.slice Ao6 t137.length co6) t137)∧Aside0 (Below w.heap.size w w'))
 case atStart=>exact ⟨(([]:List Int)),(0),rd_,H',⟨Nat.le_refl _⟩,⟨by first|exact Kd.R_nil _ _ _ _ _|exact Kd.N_nil _ _ _ _ _|exact Kd.V_nil _ _ _ _ _|exact Kd.Q_nil _ _ _ _ _|exact Kd.S_nil _ _ _ _ _⟩,⟨rR HO139⟩,⟨be⟩⟩
 case round=>
  clear H'
  try clear p2
  try clear c4
  try clear c5
  obtain ⟨x8_1,x17_1,rfl,HA,HK1,HO_8,HO_15,HB⟩:=hrel
  cases gk with
  | zero=>exact absurd HA.out (by simp [impl_numbersOf.l0])
  | succ k1=>
   have H:=HA.out
   clear HA
   simp only [impl_numbersOf.l0] at H
   by_cases c7:x17_1 < (t137.length:Int)
   ·rw [if_pos c7] at H
    have c7b0:decide (x17_1 < (t137.length:Int))=true:=decide_eq_true c7
    clear c7
    by_cases c8:0≤x17_1
    ·rw [if_pos c8] at H
     have c8b0:decide (0≤x17_1)=true:=decide_eq_true c8
     clear c8
     by_cases c9:x17_1 < (t137.length:Int)
     ·rw [if_pos c9] at H
      have c9b0:decide (x17_1 < (t137.length:Int))=true:=decide_eq_true c9
      clear c9
      replace H:=Option.bind_eq_some_iff.mp H
      obtain ⟨⟨t141,t142⟩,A100,H⟩:=H
      try dsimp only at H
      have A10:=Aside0.mk A100
      clear A100
      rcases t142 with _|q143
      ·have H1:(if (x8_1.length:Int) ≥ a2 then (some (([]:List Int),false)) else (if x8_1.length < 17592186044416 then (impl_numbersOf.l0 k1 a2 (x8_1 ++ [t141]) t137 (t137.length:Int) (wrap64 (x17_1+1))) else (none)))=some (r1,r2):=by rw [if_pos (show (none:Option Int).isNone=true by rfl)] at H;exact H
       clear H
       have H:=H1
       clear H1
       try simp only [errW_none,errW_some]
       by_cases c11:(x8_1.length:Int) ≥ a2
       ·rw [if_pos c11] at H
        have c11b0:decide (a2≤(x8_1.length:Int))=true:=decide_eq_true c11
        clear c11
        simp only [Option.some.injEq,Prod.mk.injEq] at H
        obtain ⟨rfl,rfl⟩:=H
        have p140:0≤(x17_1:Int):=of_decide_eq_true (by first|(with_reducible assumption)|assumption)
        have q140:x17_1 < (t137.length:Int):=of_decide_eq_true (by first|(with_reducible assumption)|assumption)
        obtain ⟨ad140,e140,hx140_0⟩:=Kd.at_string (Kd.R_reads' HO_15.out).2.2 x17_1 p140 q140
        cases e140
        replace p140:=eq_true p140
        replace q140:=eq_true q140
        go_wp2_with (first|((with_reducible refine gate_callee (f:=66) rfl ?_);refine goesL_ (some 23) rfl rfl Tryd.func66 (by kernel_rfl) rfl #[.string (rdOf ByteArray.empty t137 x17_1)] rfl (by (try simp only [List.map_toArray,List.map_cons,List.map_nil]);first|done|rfl|(simp only [List.length_drop,List.length_take];rfl)) ?_;(with_reducible refine (strconv_Atoi.calls (rdOf ByteArray.empty t137 x17_1) t141 none _ ?side1 A10.out).mono ?_);(case side1=>exact lb hL);rintro e w12 ⟨E_,N_,E0_,E1_,rfl,hb⟩;refine ⟨_,rfl,?_⟩;(try simp only [E0_,E1_]);have n0_:=Aside0.mk (Kd.R_below ((rR HO_8)) hb);have n1_:=Aside0.mk (Kd.R_below ((rR HO_15)) hb);have n2_:=bs hb;clear HO_8;clear HO_15;clear HB;have HO_8:=n0_;have HO_15:=n1_;have HB:=n2_;clear n0_ n1_ n2_;(try clear hb);(try clear hb2);(try clear hk);(try clear hi);(try simp only [errW_none,errW_some]);obtain ⟨Ao13,co13,eo13⟩:=Kd.R_slice HO_8.out;subst eo13))
        go_ret2
        exact ⟨_,by first|rfl|(simp [errW_none,errW_some] <;> rfl)|(simp [*,errW_none,errW_some] <;> rfl),by first|exact Kd.R_nil _ _ _ _ _|exact Kd.N_nil _ _ _ _ _|exact Kd.V_nil _ _ _ _ _|exact Kd.Q_nil _ _ _ _ _|exact Kd.S_nil _ _ _ _ _,be⟩
       ·rw [if_neg c11] at H
        have c11b0:decide (a2≤(x8_1.length:Int))=false:=decide_eq_false c11
        clear c11
        by_cases c14:x8_1.length < 17592186044416
        ·rw [if_pos c14] at H
         have LMc14:=Aside0.mk c14
         clear c14
         obtain ⟨y144,hy144⟩ : ∃ y_:List Int,y_=(x8_1 ++ [t141]):=⟨_,rfl⟩
         replace H:(impl_numbersOf.l0 k1 a2 y144 t137 (t137.length:Int) (wrap64 (x17_1+1)))=some (r1,r2):=by first|(rw [hy144];with_reducible exact H)|(have H2_:=(Option.bind_some _ _).symm.trans H;rw [hy144];with_reducible exact H2_)|(have H2_:=(Option.bind_some _ _).symm.trans H;with_reducible exact H2_)|with_reducible exact H|(rw [hy144];exact H)|exact H
         have Ny144:=Aside0.mk hy144
         clear hy144
         have H':=Aside0.mk H
         clear H
         have p140:0≤(x17_1:Int):=of_decide_eq_true (by first|(with_reducible assumption)|assumption)
         have q140:x17_1 < (t137.length:Int):=of_decide_eq_true (by first|(with_reducible assumption)|assumption)
         obtain ⟨ad140,e140,hx140_0⟩:=Kd.at_string (Kd.R_reads' HO_15.out).2.2 x17_1 p140 q140
         cases e140
         replace p140:=eq_true p140
         replace q140:=eq_true q140
         go_wp2_with (first|((with_reducible refine gate_callee (f:=66) rfl ?_);refine goesL_ (some 23) rfl rfl Tryd.func66 (by kernel_rfl) rfl #[.string (rdOf ByteArray.empty t137 x17_1)] rfl (by (try simp only [List.map_toArray,List.map_cons,List.map_nil]);first|done|rfl|(simp only [List.length_drop,List.length_take];rfl)) ?_;(with_reducible refine (strconv_Atoi.calls (rdOf ByteArray.empty t137 x17_1) t141 none _ ?side1 A10.out).mono ?_);(case side1=>exact lb hL);rintro e w15 ⟨E_,N_,E0_,E1_,rfl,hb⟩;refine ⟨_,rfl,?_⟩;(try simp only [E0_,E1_]);have n0_:=Aside0.mk (Kd.R_below ((rR HO_8)) hb);have n1_:=Aside0.mk (Kd.R_below ((rR HO_15)) hb);have n2_:=bs hb;clear HO_8;clear HO_15;clear HB;have HO_8:=n0_;have HO_15:=n1_;have HB:=n2_;clear n0_ n1_ n2_;(try clear hb);(try clear hb2);(try clear hk);(try clear hi);(try simp only [errW_none,errW_some]);obtain ⟨Ao16,co16,eo16⟩:=Kd.R_slice HO_8.out;subst eo16)|((with_reducible refine gate_builtin (b:=.append) (xs:=#[.tmp 34,.tmp 36]) rfl ?_);(try (refine gate_guard (by rfl) ?_;dsimp only));at_builtin;refine Kd.R_append (Kd.int .i64) (w0:=w) w.heap.size rfl (.tmp 34) (.tmp 36) 50 3 (.int .i64 0) 8 rfl Tryd.underlying50 info3 rfl (by decide) (by omega) (.slice Ao16 x8_1.length co16) x8_1 t141 [.int .i64 t141] (fun _=>True) (fun _=>False) rfl rfl ?aP (fun _ hk=>hk.elim) ?aF ?aO ?aB ?aS ?aL ?_;(case aP=>exact rfl);(case aB=>exact be);(case aF=>exact (fun _ _=>trivial));(case aO=>exact (rR HO_8));(case aS=>exact (below_size be));(case aL=>have:=LMc14.out;omega);intro v145 w17 ho hb hg hat;rw [← Ny144.out] at ho;have n0_:=Aside0.mk (Kd.R_over' (rR HO_15) (Kd.R_typed (rR HO_8)) (by decide) hg);have n1_:=Aside0.mk (hb);have n2_:=Aside0.mk (ho);clear HO_15;clear HB;clear HO_8;have HO_15:=n0_;have HB:=n1_;have HO146:=n2_;clear n0_ n1_ n2_;clear ho hb hg hat))
         go_roundg k1
         case measure=>have:=HK1.out;omega
         case rel=>exact ⟨(y144),(wrap64 (x17_1+1)),rd_,H',⟨by have:=HK1.out;omega⟩,⟨rR HO146⟩,⟨rR HO_15⟩,⟨be⟩⟩
        ·rw [if_neg c14] at H
         exact absurd H (by simp)
      ·have H1:(some (([]:List Int),false))=some (r1,r2):=by rw [if_neg (show ¬ (some q143).isNone=true by simp)] at H;exact H
       clear H
       have H:=H1
       clear H1
       try simp only [errW_none,errW_some]
       simp only [Option.some.injEq,Prod.mk.injEq] at H
       obtain ⟨rfl,rfl⟩:=H
       have p140:0≤(x17_1:Int):=of_decide_eq_true (by first|(with_reducible assumption)|assumption)
       have q140:x17_1 < (t137.length:Int):=of_decide_eq_true (by first|(with_reducible assumption)|assumption)
       obtain ⟨ad140,e140,hx140_0⟩:=Kd.at_string (Kd.R_reads' HO_15.out).2.2 x17_1 p140 q140
       cases e140
       replace p140:=eq_true p140
       replace q140:=eq_true q140
       go_wp2_with (first|((with_reducible refine gate_callee (f:=66) rfl ?_);refine goesL_ (some 23) rfl rfl Tryd.func66 (by kernel_rfl) rfl #[.string (rdOf ByteArray.empty t137 x17_1)] rfl (by (try simp only [List.map_toArray,List.map_cons,List.map_nil]);first|done|rfl|(simp only [List.length_drop,List.length_take];rfl)) ?_;(with_reducible refine (strconv_Atoi.calls (rdOf ByteArray.empty t137 x17_1) t141 (some q143) _ ?side1 A10.out).mono ?_);(case side1=>exact lb hL);rintro e w18 ⟨E_,N_,E0_,E1_,rfl,hb⟩;refine ⟨_,rfl,?_⟩;(try simp only [E0_,E1_]);have n0_:=Aside0.mk (Kd.R_below ((rR HO_8)) hb);have n1_:=Aside0.mk (Kd.R_below ((rR HO_15)) hb);have n2_:=bs hb;clear HO_8;clear HO_15;clear HB;have HO_8:=n0_;have HO_15:=n1_;have HB:=n2_;clear n0_ n1_ n2_;(try clear hb);(try clear hb2);(try clear hk);(try clear hi);(try simp only [errW_none,errW_some])))
       go_ret2
       exact ⟨_,by first|rfl|(simp [errW_none,errW_some] <;> rfl)|(simp [*,errW_none,errW_some] <;> rfl),by first|exact Kd.R_nil _ _ _ _ _|exact Kd.N_nil _ _ _ _ _|exact Kd.V_nil _ _ _ _ _|exact Kd.Q_nil _ _ _ _ _|exact Kd.S_nil _ _ _ _ _,be⟩
     ·rw [if_neg c9] at H
      exact absurd H (by simp)
    ·rw [if_neg c8] at H
     exact absurd H (by simp)
   ·rw [if_neg c7] at H
    have c7b0:decide (x17_1 < (t137.length:Int))=false:=decide_eq_false c7
    clear c7
    simp only [Option.some.injEq,Prod.mk.injEq] at H
    obtain ⟨rfl,rfl⟩:=H
    obtain ⟨Ao19,co19,eo19⟩:=Kd.R_slice HO_8.out
    subst eo19
    go_wp2
    go_ret2
    exact ⟨_,by first|rfl|(simp [errW_none,errW_some] <;> rfl)|(simp [*,errW_none,errW_some] <;> rfl),rR HO_8,be⟩
def impl_ParseStamp.f (k:Nat) (a0:ByteArray):Option (Int × Int × Int × Bool):=(impl_numbersOf.f k a0 (⟨#[46]⟩:ByteArray) 3).bind fun bt148=>(if bt148.2=true then (if 0 < (bt148.1.length:Int) then (if 1 < (bt148.1.length:Int) then (if 2 < (bt148.1.length:Int) then ((impl_StampOk.f (rd bt148.1 0) (rd bt148.1 1) (rd bt148.1 2)).bind fun t156=>(if t156=true then ((impl_StampText.f (rd bt148.1 0) (rd bt148.1 1) (rd bt148.1 2)).bind fun t157=>(if t157.toList=a0.toList then (some (rd bt148.1 0,rd bt148.1 1,rd bt148.1 2,true)) else (some (0,0,0,false)))) else (some (0,0,0,false)))) else (none)) else (none)) else (none)) else (some (0,0,0,false)))
def impl_ParseStamp.T4:Bool × List (List Nat × List Nat):=(true,[([],[]),([0],[0]),([1],[1]),([],[]),([3],[3]),([4],[4]),([],[]),([6],[6]),([7],[7]),([2,5,8],[2,5,8]),([],[]),([10,9,0,1,2,3,4,5,6,7,8,9,10],[9,10])])
def impl_ParseStamp.B4:List Nat:=[0,1,3,0,8,24,0,64,192,511,0,2047]
theorem impl_ParseStamp.tab4:rtab .any (opsOf Tryd.f20 4)=impl_ParseStamp.T4:=by kernel_rfl
theorem impl_ParseStamp.bits4:waitsOk impl_ParseStamp.T4.2 impl_ParseStamp.B4=true:=by kernel_rfl
set_option maxHeartbeats 8000000 in
set_option maxRecDepth 100000 in
theorem impl_ParseStamp.calls (k:Nat) (a0:ByteArray) (r1:Int) (r2:Int) (r3:Int) (r4:Bool) (w:World) (hL:Aside0 (Laid w)) (h:impl_ParseStamp.f k a0=some (r1,r2,r3,r4)) :
  Calls Tryd.prog 20 #[.string a0] w fun e w'=>e = .returned (.tuple #[.agg #[.int .i64 r1,.int .i64 r2,.int .i64 r3],.bool r4])∧Below w.heap.size w w':=by
 have hu25:=Tryd.underlying25
 have HB:=Aside0.mk (Below.refl w.heap.size w)
 have H:((impl_numbersOf.f k a0 (⟨#[46]⟩:ByteArray) 3).bind fun bt148=>(if bt148.2=true then (if 0 < (bt148.1.length:Int) then (if 1 < (bt148.1.length:Int) then (if 2 < (bt148.1.length:Int) then ((impl_StampOk.f (rd bt148.1 0) (rd bt148.1 1) (rd bt148.1 2)).bind fun t156=>(if t156=true then ((impl_StampText.f (rd bt148.1 0) (rd bt148.1 1) (rd bt148.1 2)).bind fun t157=>(if t157.toList=a0.toList then (some (rd bt148.1 0,rd bt148.1 1,rd bt148.1 2,true)) else (some (0,0,0,false)))) else (some (0,0,0,false)))) else (none)) else (none)) else (none)) else (some (0,0,0,false))))=some (r1,r2,r3,r4):=h
 clear h
 replace H:=Option.bind_eq_some_iff.mp H
 obtain ⟨⟨t148,t149⟩,A20,H⟩:=H
 try dsimp only at H
 have A2:=Aside0.mk A20
 clear A20
 by_cases c3:t149=true
 ·subst c3
  rw [if_pos rfl] at H
  by_cases c4:0 < (t148.length:Int)
  ·rw [if_pos c4] at H
   have c4b0:decide (0 < (t148.length:Int))=true:=decide_eq_true c4
   have c4b1:decide (0 < t148.length)=true:=decide_eq_true (by omega)
   clear c4
   by_cases c5:1 < (t148.length:Int)
   ·rw [if_pos c5] at H
    have c5b0:decide (1 < (t148.length:Int))=true:=decide_eq_true c5
    have c5b1:decide (1 < t148.length)=true:=decide_eq_true (by omega)
    clear c5
    by_cases c6:2 < (t148.length:Int)
    ·rw [if_pos c6] at H
     have c6b0:decide (2 < (t148.length:Int))=true:=decide_eq_true c6
     have c6b1:decide (2 < t148.length)=true:=decide_eq_true (by omega)
     clear c6
     replace H:=Option.bind_eq_some_iff.mp H
     obtain ⟨t156,A70,H⟩:=H
     try dsimp only at H
     have A7:=Aside0.mk A70
     clear A70
     by_cases c8:t156=true
     ·subst c8
      rw [if_pos rfl] at H
      replace H:=Option.bind_eq_some_iff.mp H
      obtain ⟨t157,A90,H⟩:=H
      try dsimp only at H
      have A9:=Aside0.mk A90
      clear A90
      by_cases c10:t157.toList=a0.toList
      ·rw [if_pos c10] at H
       have c10b0:(t157.toList == a0.toList)=true:=beq_iff_eq.mpr c10
       have c10b1:(t157.toList != a0.toList)=false:=bne_eq_false_iff_eq.mpr c10
       clear c10
       simp only [Option.some.injEq,Prod.mk.injEq] at H
       obtain ⟨rfl,rfl,rfl,rfl⟩:=H
       go_enter Tryd.func20,Tryd.ntmps20
       try go_wp2_with (first|((with_reducible refine gate_dst (N:=2) rfl ?_);refine box_event ?hg (N:=2) ?hd (cs:=#[.int .i64 0,.int .i64 0,.int .i64 0]) (t:=25) ?hr ?_;(case hd=>rfl);(case hg=>rfl);(case hr=>first|(go_simp;done)|(go_simp;rfl));intro gb147 hg w11 hbox hb;have n0_:=bs hb;have n1_:=Aside0.mk (hbox);have n2_:=Aside0.mk ((by rw [hg];exact (below_size be):w.heap.size≤gb147));have n3_:=Aside0.mk ((by rw [hg];exact (below_size be):w.heap.size≤gb147));clear HB;have HB:=n0_;have BK147:=n1_;have GW147:=n2_;have GE147:=n3_;clear n0_ n1_ n2_ n3_;clear hb hbox hg)|((with_reducible refine gate_callee (f:=48) rfl ?_);refine goesL_ (some 9) rfl rfl Tryd.func48 (by kernel_rfl) rfl #[.string a0,.string (⟨#[46]⟩:ByteArray),.int .i64 3] rfl (by (try simp only [List.map_toArray,List.map_cons,List.map_nil]);first|done|rfl|(simp only [List.length_drop,List.length_take];rfl)) ?_;(with_reducible refine (impl_numbersOf.calls k a0 (⟨#[46]⟩:ByteArray) 3 t148 true _ ?side1 A2.out).mono ?_);(case side1=>exact lb hL);rintro e w12 ⟨v150,rfl,ho0,hb⟩;refine ⟨_,rfl,?_⟩;have n0_:=Aside0.mk (Kd.R_lower ho0 (below_size be));have n1_:=Aside0.mk (blk_below (g:=gb147) (o:=.cells #[.int .i64 0,.int .i64 0,.int .i64 0] 25 (0,0)) (bk BK147) hb);have n2_:=bs hb;clear BK147;clear HB;have HO151:=n0_;have BK147:=n1_;have HB:=n2_;clear n0_ n1_ n2_;(try clear hb);(try clear hb2);(try clear hk);(try clear hi);(try clear ho0)))
       have n0_:=Aside0.mk (Kd.R_drew HO151.out)
       have n1_:=Aside0.mk (blk_drew BK147.out)
       have n2_:=Aside0.mk (below_drew1 HB.out)
       clear HO151
       clear BK147
       clear HB
       have HO151:=n0_
       have BK147:=n1_
       have HB:=n2_
       clear n0_ n1_ n2_
       obtain ⟨Ao14,co14,eo14⟩:=Kd.R_slice HO151.out
       (first|subst eo14|(injection eo14 with f1_ f2_ f3_;have f4_:=f1_.symm;have f5_:=f3_.symm;clear f1_ f2_ f3_;subst f4_;subst f5_))
       have p152:0≤(0:Int):=(by omega)
       have q152:0 < (t148.length:Int):=of_decide_eq_true (by first|(with_reducible assumption)|assumption)
       obtain ⟨ad152,e152,hx152_0⟩:=Kd.at_int (Kd.R_reads' HO151.out).2.2 0 p152 q152
       cases e152
       have qi152:(0 < t148.length)=True:=eq_true (by omega)
       (try rw [show ((0:Int)).toNat=0 from rfl] at hx152_0)
       (try rw [Addr.add_zero'] at hx152_0)
       replace p152:=eq_true p152
       replace q152:=eq_true q152
       have p153:0≤(1:Int):=(by omega)
       have q153:1 < (t148.length:Int):=of_decide_eq_true (by first|(with_reducible assumption)|assumption)
       obtain ⟨ad153,e153,hx153_0⟩:=Kd.at_int (Kd.R_reads' HO151.out).2.2 1 p153 q153
       obtain rfl:ad152=ad153:=(by injection e153)
       (try simp only [show (1:Int).toNat=1 from rfl,Nat.reduceMul,Nat.reduceEqDiff,Go.Addr.add,↓reduceIte] at hx153_0)
       have qi153:(1 < t148.length)=True:=eq_true (by omega)
       (try rw [show ((1:Int)).toNat=1 from rfl] at hx153_0)
       replace p153:=eq_true p153
       replace q153:=eq_true q153
       have p154:0≤(2:Int):=(by omega)
       have q154:2 < (t148.length:Int):=of_decide_eq_true (by first|(with_reducible assumption)|assumption)
       obtain ⟨ad154,e154,hx154_0⟩:=Kd.at_int (Kd.R_reads' HO151.out).2.2 2 p154 q154
       obtain rfl:ad152=ad154:=(by injection e154)
       (try simp only [show (2:Int).toNat=2 from rfl,Nat.reduceMul,Nat.reduceEqDiff,Go.Addr.add,↓reduceIte] at hx154_0)
       have qi154:(2 < t148.length)=True:=eq_true (by omega)
       (try rw [show ((2:Int)).toNat=2 from rfl] at hx154_0)
       replace p154:=eq_true p154
       replace q154:=eq_true q154
       refine start_ (n:=12) (S:=fun w'=>w'.cell? ad152=some (.int .i64 (rd t148 0))∧w'.cell? ⟨ad152.block,ad152.off+1,none⟩=some (.int .i64 (rd t148 1))∧w'.cell? ⟨ad152.block,ad152.off+2,none⟩=some (.int .i64 (rd t148 2))) (ds:=[]) (fl 12 0) (by kernel_rfl) rfl rfl ⟨hx152_0,hx153_0,hx154_0⟩ (fun hHeld=>?_);refine with_tabW impl_ParseStamp.tab4 impl_ParseStamp.bits4 (fun HT_ HW_=>?_)
       generalize w12.drew=w13 at HO151 BK147 HB hx152_0 hx153_0 hx154_0 hHeld ⊢
       refine pt 0 15 (fl 12 1) HT_ ?_
       refine pt 1 16 (fl 12 3) HT_ ?_
       refine pt 3 18 (fl 12 11) HT_ ?_
       refine pt 4 19 (fl 12 27) HT_ ?_
       refine pt 6 21 (fl 12 91) HT_ ?_
       refine pt 7 22 (fl 12 219) HT_ ?_
       refine tt 2 17 (fl 12 223) HT_ HW_ hHeld ?_
       refine tt 5 20 (fl 12 255) HT_ HW_ hHeld ?_
       refine tt 8 23 (fl 12 511) HT_ HW_ hHeld ?_
       refine pt 9 24 (fl 12 1023) HT_ ?_
       refine ot 10 (some 6) (fl 12 2047) HT_ (fun K hK=>?_)
       refine box_step ?hg (N:=6) ?hd (cs:=#[.int .i64 0,.int .i64 0,.int .i64 0]) (t:=25) ?hr ?_;(case hd=>rfl);(case hg=>rfl);(case hr=>first|(go_simp;done)|(go_simp;rfl))
       intro gb155 hg w15 hbox hb
       have HS0_:=(hb.cell (World.block_lt_of_cell? _ _ (hHeld.1))).trans (hHeld.1)
       have HS1_:=(hb.cell (World.block_lt_of_cell? _ _ (hHeld.2.1))).trans (hHeld.2.1)
       have HS2_:=(hb.cell (World.block_lt_of_cell? _ _ (hHeld.2.2))).trans (hHeld.2.2)
       have n0_:=Aside0.mk (Kd.R_below (rR HO151) hb)
       have n1_:=Aside0.mk (blk_below (g:=gb147) (o:=.cells #[.int .i64 0,.int .i64 0,.int .i64 0] 25 (0,0)) (bk BK147) hb)
       have n2_:=bs hb
       have n3_:=Aside0.mk (hbox)
       have n4_:=Aside0.mk ((by rw [hg];exact (below_size be):w.heap.size≤gb155))
       have n5_:=Aside0.mk ((by rw [hg];exact (below_size be):w.heap.size≤gb155))
       have n6_:=Aside0.mk ((by rw [hg];exact Nat.ne_of_lt (blk_lt (g:=gb147) (o:=.cells #[.int .i64 0,.int .i64 0,.int .i64 0] 25 (0,0)) (bk BK147)):gb147 ≠ gb155))
       have n7_:=Aside0.mk ((by rw [hg];exact Nat.ne_of_gt (blk_lt (g:=gb147) (o:=.cells #[.int .i64 0,.int .i64 0,.int .i64 0] 25 (0,0)) (bk BK147)):gb155 ≠ gb147))
       clear HO151
       clear BK147
       clear HB
       have HO151:=n0_
       have BK147:=n1_
       have HB:=n2_
       have BK155:=n3_
       have GW155:=n4_
       have GE155:=n5_
       have NB147_155:=n6_
       have NB155_147:=n7_
       clear n0_ n1_ n2_ n3_ n4_ n5_ n6_ n7_
       clear hb hbox hg
       refine hK.out _ _ ⟨HS0_,HS1_,HS2_⟩ (fun hHeld=>?_)
       clear hK K
       refine no 6 ?_
       refine ot 11 none (fl 12 4095) HT_ (fun K hK=>?_)
       have hs16:w15.cell? ⟨gb155,0,none⟩=some (.int .i64 0):=(blk_cell BK155.out 0).trans rfl
       have hfs16:=blk_frozen BK155.out 0
       have hns16_0:=NB147_155.out
       have hms16_0:=NB155_147.out
       have hs17:w15.cell? ⟨gb155,1,none⟩=some (.int .i64 0):=(blk_cell BK155.out 1).trans rfl
       have hfs17:=blk_frozen BK155.out 1
       have hns17_0:=NB147_155.out
       have hms17_0:=NB155_147.out
       have hs18:w15.cell? ⟨gb155,2,none⟩=some (.int .i64 0):=(blk_cell BK155.out 2).trans rfl
       have hfs18:=blk_frozen BK155.out 2
       have hns18_0:=NB147_155.out
       have hms18_0:=NB155_147.out
       refine skip_ (w1:=?_) (by rfl) rfl ?_ ?_
       rotate_left
       ·go_simp
        rfl
       refine hK.out _ _ ⟨((cell_far (p:=⟨gb155,_,none⟩) (by first|exact Kd.own_blk (Kd.R_ne HO151.out BK155.out (by decide))|(rw [add_block];exact Kd.own_blk (Kd.R_ne HO151.out BK155.out (by decide)))|(show (Addr.add _ _).block ≠ _;rw [add_block];exact Kd.own_blk (Kd.R_ne HO151.out BK155.out (by decide)))|(dsimp only;exact Kd.own_blk (Kd.R_ne HO151.out BK155.out (by decide)))) _).trans (((cell_far (p:=⟨gb155,_,none⟩) (by first|exact Kd.own_blk (Kd.R_ne HO151.out BK155.out (by decide))|(rw [add_block];exact Kd.own_blk (Kd.R_ne HO151.out BK155.out (by decide)))|(show (Addr.add _ _).block ≠ _;rw [add_block];exact Kd.own_blk (Kd.R_ne HO151.out BK155.out (by decide)))|(dsimp only;exact Kd.own_blk (Kd.R_ne HO151.out BK155.out (by decide)))) _).trans (((cell_far (p:=⟨gb155,_,none⟩) (by first|exact Kd.own_blk (Kd.R_ne HO151.out BK155.out (by decide))|(rw [add_block];exact Kd.own_blk (Kd.R_ne HO151.out BK155.out (by decide)))|(show (Addr.add _ _).block ≠ _;rw [add_block];exact Kd.own_blk (Kd.R_ne HO151.out BK155.out (by decide)))|(dsimp only;exact Kd.own_blk (Kd.R_ne HO151.out BK155.out (by decide)))) _).trans (hHeld.1)))))),((cell_far (p:=⟨gb155,_,none⟩) (by first|exact Kd.own_blk (Kd.R_ne HO151.out BK155.out (by decide))|(rw [add_block];exact Kd.own_blk (Kd.R_ne HO151.out BK155.out (by decide)))|(show (Addr.add _ _).block ≠ _;rw [add_block];exact Kd.own_blk (Kd.R_ne HO151.out BK155.out (by decide)))|(dsimp only;exact Kd.own_blk (Kd.R_ne HO151.out BK155.out (by decide)))) _).trans (((cell_far (p:=⟨gb155,_,none⟩) (by first|exact Kd.own_blk (Kd.R_ne HO151.out BK155.out (by decide))|(rw [add_block];exact Kd.own_blk (Kd.R_ne HO151.out BK155.out (by decide)))|(show (Addr.add _ _).block ≠ _;rw [add_block];exact Kd.own_blk (Kd.R_ne HO151.out BK155.out (by decide)))|(dsimp only;exact Kd.own_blk (Kd.R_ne HO151.out BK155.out (by decide)))) _).trans (((cell_far (p:=⟨gb155,_,none⟩) (by first|exact Kd.own_blk (Kd.R_ne HO151.out BK155.out (by decide))|(rw [add_block];exact Kd.own_blk (Kd.R_ne HO151.out BK155.out (by decide)))|(show (Addr.add _ _).block ≠ _;rw [add_block];exact Kd.own_blk (Kd.R_ne HO151.out BK155.out (by decide)))|(dsimp only;exact Kd.own_blk (Kd.R_ne HO151.out BK155.out (by decide)))) _).trans (hHeld.2.1)))))),((cell_far (p:=⟨gb155,_,none⟩) (by first|exact Kd.own_blk (Kd.R_ne HO151.out BK155.out (by decide))|(rw [add_block];exact Kd.own_blk (Kd.R_ne HO151.out BK155.out (by decide)))|(show (Addr.add _ _).block ≠ _;rw [add_block];exact Kd.own_blk (Kd.R_ne HO151.out BK155.out (by decide)))|(dsimp only;exact Kd.own_blk (Kd.R_ne HO151.out BK155.out (by decide)))) _).trans (((cell_far (p:=⟨gb155,_,none⟩) (by first|exact Kd.own_blk (Kd.R_ne HO151.out BK155.out (by decide))|(rw [add_block];exact Kd.own_blk (Kd.R_ne HO151.out BK155.out (by decide)))|(show (Addr.add _ _).block ≠ _;rw [add_block];exact Kd.own_blk (Kd.R_ne HO151.out BK155.out (by decide)))|(dsimp only;exact Kd.own_blk (Kd.R_ne HO151.out BK155.out (by decide)))) _).trans (((cell_far (p:=⟨gb155,_,none⟩) (by first|exact Kd.own_blk (Kd.R_ne HO151.out BK155.out (by decide))|(rw [add_block];exact Kd.own_blk (Kd.R_ne HO151.out BK155.out (by decide)))|(show (Addr.add _ _).block ≠ _;rw [add_block];exact Kd.own_blk (Kd.R_ne HO151.out BK155.out (by decide)))|(dsimp only;exact Kd.own_blk (Kd.R_ne HO151.out BK155.out (by decide)))) _).trans (hHeld.2.2))))))⟩ (fun hHeld=>?_)
       clear hK K
       refine done_ (done_of HT_.out (by kernel_rfl)) ?_
       have hnb19:=NB155_147.out
       have hnc19:=NB147_155.out
       have hcz20_0:w15.cell? ⟨gb155,0,none⟩=some (.int .i64 0):=(blk_cell BK155.out 0).trans rfl
       have hcz20_1:w15.cell? ⟨gb155,1,none⟩=some (.int .i64 0):=(blk_cell BK155.out 1).trans rfl
       have hcz20_2:w15.cell? ⟨gb155,2,none⟩=some (.int .i64 0):=(blk_cell BK155.out 2).trans rfl
       have hfz20_0:=blk_frozen BK155.out 0
       have hfz20_1:=blk_frozen BK155.out 1
       have hfz20_2:=blk_frozen BK155.out 2
       try go_wp2_with (first|((with_reducible refine gate_callee (f:=27) rfl ?_);refine goesL_ (some 26) rfl rfl Tryd.func27 (by kernel_rfl) rfl #[.agg #[.int .i64 (rd t148 0),.int .i64 (rd t148 1),.int .i64 (rd t148 2)]] rfl (by (try simp only [List.map_toArray,List.map_cons,List.map_nil]);first|done|rfl|(simp only [List.length_drop,List.length_take];rfl)) ?_;(with_reducible refine (impl_StampOk.calls (rd t148 0) (rd t148 1) (rd t148 2) true _ A7.out).mono ?_);rintro e w21 ⟨rfl,hb⟩;refine ⟨_,rfl,?_⟩;have n0_:=Aside0.mk (Kd.R_below ((by (with_reducible repeat (first|apply Kd.R_alloc|apply Kd.R_drewN|apply Kd.R_drew));exact (Kd.R_mono (Kd.R_far (p:=⟨gb155,2,none⟩) (Kd.R_far (p:=⟨gb155,1,none⟩) (Kd.R_far (p:=⟨gb155,0,none⟩) (Kd.R_types HO151.out BK155.out (by decide)) (fun _ hk=>hk.2) (.int .i64 (rd t148 0))) (fun _ hk=>hk.2) (.int .i64 (rd t148 1))) (fun _ hk=>hk.2) (.int .i64 (rd t148 2))) (fun _ h_=>h_.1)))) hb);have n1_:=Aside0.mk (blk_below (g:=gb147) (o:=.cells #[.int .i64 0,.int .i64 0,.int .i64 0] 25 (0,0)) (by (with_reducible repeat (first|refine blk_drewN ?_ _|refine blk_drew ?_|refine blk_alloc ?_ _));refine blk_far ?_ NB147_155.out _;(with_reducible repeat (first|refine blk_drewN ?_ _|refine blk_drew ?_|refine blk_alloc ?_ _));refine blk_far ?_ NB147_155.out _;(with_reducible repeat (first|refine blk_drewN ?_ _|refine blk_drew ?_|refine blk_alloc ?_ _));refine blk_far ?_ NB147_155.out _;(with_reducible repeat (first|refine blk_drewN ?_ _|refine blk_drew ?_|refine blk_alloc ?_ _));exact BK147.out) hb);have n2_:=Aside0.mk (blk_below (g:=gb155) (o:=.cells #[.int .i64 (rd t148 0),.int .i64 (rd t148 1),.int .i64 (rd t148 2)] 25 (0,0)) (by (with_reducible repeat (first|refine blk_drewN ?_ _|refine blk_drew ?_|refine blk_alloc ?_ _));refine blk_put (cs:=#[.int .i64 (rd t148 0),.int .i64 (rd t148 1),.int .i64 0]) ?_ 2 _ rfl;(with_reducible repeat (first|refine blk_drewN ?_ _|refine blk_drew ?_|refine blk_alloc ?_ _));refine blk_put (cs:=#[.int .i64 (rd t148 0),.int .i64 0,.int .i64 0]) ?_ 1 _ rfl;(with_reducible repeat (first|refine blk_drewN ?_ _|refine blk_drew ?_|refine blk_alloc ?_ _));refine blk_put (cs:=#[.int .i64 0,.int .i64 0,.int .i64 0]) ?_ 0 _ rfl;(with_reducible repeat (first|refine blk_drewN ?_ _|refine blk_drew ?_|refine blk_alloc ?_ _));exact BK155.out) hb);have n3_:=bs hb;clear HO151;clear BK147;clear BK155;clear HB;have HO151:=n0_;have BK147:=n1_;have BK155:=n2_;have HB:=n3_;clear n0_ n1_ n2_ n3_;(try clear hb);(try clear hb2);(try clear hk);(try clear hi);have hcz22_0:w21.cell? ⟨gb155,0,none⟩=some (.int .i64 (rd t148 0)):=(blk_cell BK155.out 0).trans rfl;have hcz22_1:w21.cell? ⟨gb155,1,none⟩=some (.int .i64 (rd t148 1)):=(blk_cell BK155.out 1).trans rfl;have hcz22_2:w21.cell? ⟨gb155,2,none⟩=some (.int .i64 (rd t148 2)):=(blk_cell BK155.out 2).trans rfl;have hfz22_0:=blk_frozen BK155.out 0;have hfz22_1:=blk_frozen BK155.out 1;have hfz22_2:=blk_frozen BK155.out 2)|(go_at_call 13;(with_reducible refine (impl_StampText.calls (rd t148 0) (rd t148 1) (rd t148 2) t157 _ ?side1 A9.out).mono ?_);(case side1=>exact lb hL);rintro e w23 ⟨rfl,hb⟩;have n0_:=Aside0.mk (Kd.R_below ((rR HO151)) hb);have n1_:=Aside0.mk (blk_below (g:=gb147) (o:=.cells #[.int .i64 0,.int .i64 0,.int .i64 0] 25 (0,0)) (bk BK147) hb);have n2_:=Aside0.mk (blk_below (g:=gb155) (o:=.cells #[.int .i64 (rd t148 0),.int .i64 (rd t148 1),.int .i64 (rd t148 2)] 25 (0,0)) (bk BK155) hb);have n3_:=bs hb;clear HO151;clear BK147;clear BK155;clear HB;have HO151:=n0_;have BK147:=n1_;have BK155:=n2_;have HB:=n3_;clear n0_ n1_ n2_ n3_;(try clear hb);(try clear hb2);(try clear hk);(try clear hi);have hcz24_0:w23.cell? ⟨gb155,0,none⟩=some (.int .i64 (rd t148 0)):=(blk_cell BK155.out 0).trans rfl;have hcz24_1:w23.cell? ⟨gb155,1,none⟩=some (.int .i64 (rd t148 1)):=(blk_cell BK155.out 1).trans rfl;have hcz24_2:w23.cell? ⟨gb155,2,none⟩=some (.int .i64 (rd t148 2)):=(blk_cell BK155.out 2).trans rfl;have hfz24_0:=blk_frozen BK155.out 0;have hfz24_1:=blk_frozen BK155.out 1;have hfz24_2:=blk_frozen BK155.out 2;have hcz25_0:w23.cell? ⟨gb147,0,none⟩=some (.int .i64 0):=(blk_cell BK147.out 0).trans rfl;have hcz25_1:w23.cell? ⟨gb147,1,none⟩=some (.int .i64 0):=(blk_cell BK147.out 1).trans rfl;have hcz25_2:w23.cell? ⟨gb147,2,none⟩=some (.int .i64 0):=(blk_cell BK147.out 2).trans rfl;have hfz25_0:=blk_frozen BK147.out 0;have hfz25_1:=blk_frozen BK147.out 1;have hfz25_2:=blk_frozen BK147.out 2))
       refine bodyPost_ret (results_ct rfl _ _ gb147 25 #[.int .i64 (rd t148 0),.int .i64 (rd t148 1),.int .i64 (rd t148 2)] (0,0) _ rfl (by (with_reducible repeat (first|refine blk_drewN ?_ _|refine blk_drew ?_|refine blk_alloc ?_ _));refine blk_put (cs:=#[.int .i64 (rd t148 0),.int .i64 (rd t148 1),.int .i64 0]) ?_ 2 _ rfl;(with_reducible repeat (first|refine blk_drewN ?_ _|refine blk_drew ?_|refine blk_alloc ?_ _));refine blk_put (cs:=#[.int .i64 (rd t148 0),.int .i64 0,.int .i64 0]) ?_ 1 _ rfl;(with_reducible repeat (first|refine blk_drewN ?_ _|refine blk_drew ?_|refine blk_alloc ?_ _));refine blk_put (cs:=#[.int .i64 0,.int .i64 0,.int .i64 0]) ?_ 0 _ rfl;(with_reducible repeat (first|refine blk_drewN ?_ _|refine blk_drew ?_|refine blk_alloc ?_ _));exact BK147.out) Tryd.underlying25 rfl (by kernel_rfl)) rfl ?_
       exact ⟨rz,be⟩
      ·rw [if_neg c10] at H
       have c10b0:(t157.toList == a0.toList)=false:=beq_eq_false_iff_ne.mpr c10
       have c10b1:(t157.toList != a0.toList)=true:=bne_iff_ne.mpr c10
       simp only [Option.some.injEq,Prod.mk.injEq] at H
       obtain ⟨rfl,rfl,rfl,rfl⟩:=H
       go_enter Tryd.func20,Tryd.ntmps20
       try go_wp2_with (first|((with_reducible refine gate_dst (N:=2) rfl ?_);refine box_event ?hg (N:=2) ?hd (cs:=#[.int .i64 0,.int .i64 0,.int .i64 0]) (t:=25) ?hr ?_;(case hd=>rfl);(case hg=>rfl);(case hr=>first|(go_simp;done)|(go_simp;rfl));intro gb147 hg w26 hbox hb;have n0_:=bs hb;have n1_:=Aside0.mk (hbox);have n2_:=Aside0.mk ((by rw [hg];exact (below_size be):w.heap.size≤gb147));have n3_:=Aside0.mk ((by rw [hg];exact (below_size be):w.heap.size≤gb147));clear HB;have HB:=n0_;have BK147:=n1_;have GW147:=n2_;have GE147:=n3_;clear n0_ n1_ n2_ n3_;clear hb hbox hg)|((with_reducible refine gate_callee (f:=48) rfl ?_);refine goesL_ (some 9) rfl rfl Tryd.func48 (by kernel_rfl) rfl #[.string a0,.string (⟨#[46]⟩:ByteArray),.int .i64 3] rfl (by (try simp only [List.map_toArray,List.map_cons,List.map_nil]);first|done|rfl|(simp only [List.length_drop,List.length_take];rfl)) ?_;(with_reducible refine (impl_numbersOf.calls k a0 (⟨#[46]⟩:ByteArray) 3 t148 true _ ?side1 A2.out).mono ?_);(case side1=>exact lb hL);rintro e w27 ⟨v150,rfl,ho0,hb⟩;refine ⟨_,rfl,?_⟩;have n0_:=Aside0.mk (Kd.R_lower ho0 (below_size be));have n1_:=Aside0.mk (blk_below (g:=gb147) (o:=.cells #[.int .i64 0,.int .i64 0,.int .i64 0] 25 (0,0)) (bk BK147) hb);have n2_:=bs hb;clear BK147;clear HB;have HO151:=n0_;have BK147:=n1_;have HB:=n2_;clear n0_ n1_ n2_;(try clear hb);(try clear hb2);(try clear hk);(try clear hi);(try clear ho0)))
       have n0_:=Aside0.mk (Kd.R_drew HO151.out)
       have n1_:=Aside0.mk (blk_drew BK147.out)
       have n2_:=Aside0.mk (below_drew1 HB.out)
       clear HO151
       clear BK147
       clear HB
       have HO151:=n0_
       have BK147:=n1_
       have HB:=n2_
       clear n0_ n1_ n2_
       obtain ⟨Ao29,co29,eo29⟩:=Kd.R_slice HO151.out
       (first|subst eo29|(injection eo29 with f1_ f2_ f3_;have f4_:=f1_.symm;have f5_:=f3_.symm;clear f1_ f2_ f3_;subst f4_;subst f5_))
       have p152:0≤(0:Int):=(by omega)
       have q152:0 < (t148.length:Int):=of_decide_eq_true (by first|(with_reducible assumption)|assumption)
       obtain ⟨ad152,e152,hx152_0⟩:=Kd.at_int (Kd.R_reads' HO151.out).2.2 0 p152 q152
       cases e152
       have qi152:(0 < t148.length)=True:=eq_true (by omega)
       (try rw [show ((0:Int)).toNat=0 from rfl] at hx152_0)
       (try rw [Addr.add_zero'] at hx152_0)
       replace p152:=eq_true p152
       replace q152:=eq_true q152
       have p153:0≤(1:Int):=(by omega)
       have q153:1 < (t148.length:Int):=of_decide_eq_true (by first|(with_reducible assumption)|assumption)
       obtain ⟨ad153,e153,hx153_0⟩:=Kd.at_int (Kd.R_reads' HO151.out).2.2 1 p153 q153
       obtain rfl:ad152=ad153:=(by injection e153)
       (try simp only [show (1:Int).toNat=1 from rfl,Nat.reduceMul,Nat.reduceEqDiff,Go.Addr.add,↓reduceIte] at hx153_0)
       have qi153:(1 < t148.length)=True:=eq_true (by omega)
       (try rw [show ((1:Int)).toNat=1 from rfl] at hx153_0)
       replace p153:=eq_true p153
       replace q153:=eq_true q153
       have p154:0≤(2:Int):=(by omega)
       have q154:2 < (t148.length:Int):=of_decide_eq_true (by first|(with_reducible assumption)|assumption)
       obtain ⟨ad154,e154,hx154_0⟩:=Kd.at_int (Kd.R_reads' HO151.out).2.2 2 p154 q154
       obtain rfl:ad152=ad154:=(by injection e154)
       (try simp only [show (2:Int).toNat=2 from rfl,Nat.reduceMul,Nat.reduceEqDiff,Go.Addr.add,↓reduceIte] at hx154_0)
       have qi154:(2 < t148.length)=True:=eq_true (by omega)
       (try rw [show ((2:Int)).toNat=2 from rfl] at hx154_0)
       replace p154:=eq_true p154
       replace q154:=eq_true q154
       refine start_ (n:=12) (S:=fun w'=>w'.cell? ad152=some (.int .i64 (rd t148 0))∧w'.cell? ⟨ad152.block,ad152.off+1,none⟩=some (.int .i64 (rd t148 1))∧w'.cell? ⟨ad152.block,ad152.off+2,none⟩=some (.int .i64 (rd t148 2))) (ds:=[]) (fl 12 0) (by kernel_rfl) rfl rfl ⟨hx152_0,hx153_0,hx154_0⟩ (fun hHeld=>?_);refine with_tabW impl_ParseStamp.tab4 impl_ParseStamp.bits4 (fun HT_ HW_=>?_)
       generalize w27.drew=w28 at HO151 BK147 HB hx152_0 hx153_0 hx154_0 hHeld ⊢
       refine pt 0 15 (fl 12 1) HT_ ?_
       refine pt 1 16 (fl 12 3) HT_ ?_
       refine pt 3 18 (fl 12 11) HT_ ?_
       refine pt 4 19 (fl 12 27) HT_ ?_
       refine pt 6 21 (fl 12 91) HT_ ?_
       refine pt 7 22 (fl 12 219) HT_ ?_
       refine tt 2 17 (fl 12 223) HT_ HW_ hHeld ?_
       refine tt 5 20 (fl 12 255) HT_ HW_ hHeld ?_
       refine tt 8 23 (fl 12 511) HT_ HW_ hHeld ?_
       refine pt 9 24 (fl 12 1023) HT_ ?_
       refine ot 10 (some 6) (fl 12 2047) HT_ (fun K hK=>?_)
       refine box_step ?hg (N:=6) ?hd (cs:=#[.int .i64 0,.int .i64 0,.int .i64 0]) (t:=25) ?hr ?_;(case hd=>rfl);(case hg=>rfl);(case hr=>first|(go_simp;done)|(go_simp;rfl))
       intro gb155 hg w30 hbox hb
       have HS0_:=(hb.cell (World.block_lt_of_cell? _ _ (hHeld.1))).trans (hHeld.1)
       have HS1_:=(hb.cell (World.block_lt_of_cell? _ _ (hHeld.2.1))).trans (hHeld.2.1)
       have HS2_:=(hb.cell (World.block_lt_of_cell? _ _ (hHeld.2.2))).trans (hHeld.2.2)
       have n0_:=Aside0.mk (Kd.R_below (rR HO151) hb)
       have n1_:=Aside0.mk (blk_below (g:=gb147) (o:=.cells #[.int .i64 0,.int .i64 0,.int .i64 0] 25 (0,0)) (bk BK147) hb)
       have n2_:=bs hb
       have n3_:=Aside0.mk (hbox)
       have n4_:=Aside0.mk ((by rw [hg];exact (below_size be):w.heap.size≤gb155))
       have n5_:=Aside0.mk ((by rw [hg];exact (below_size be):w.heap.size≤gb155))
       have n6_:=Aside0.mk ((by rw [hg];exact Nat.ne_of_lt (blk_lt (g:=gb147) (o:=.cells #[.int .i64 0,.int .i64 0,.int .i64 0] 25 (0,0)) (bk BK147)):gb147 ≠ gb155))
       have n7_:=Aside0.mk ((by rw [hg];exact Nat.ne_of_gt (blk_lt (g:=gb147) (o:=.cells #[.int .i64 0,.int .i64 0,.int .i64 0] 25 (0,0)) (bk BK147)):gb155 ≠ gb147))
       clear HO151
       clear BK147
       clear HB
       have HO151:=n0_
       have BK147:=n1_
       have HB:=n2_
       have BK155:=n3_
       have GW155:=n4_
       have GE155:=n5_
       have NB147_155:=n6_
       have NB155_147:=n7_
       clear n0_ n1_ n2_ n3_ n4_ n5_ n6_ n7_
       clear hb hbox hg
       refine hK.out _ _ ⟨HS0_,HS1_,HS2_⟩ (fun hHeld=>?_)
       clear hK K
       refine no 6 ?_
       refine ot 11 none (fl 12 4095) HT_ (fun K hK=>?_)
       have hs31:w30.cell? ⟨gb155,0,none⟩=some (.int .i64 0):=(blk_cell BK155.out 0).trans rfl
       have hfs31:=blk_frozen BK155.out 0
       have hns31_0:=NB147_155.out
       have hms31_0:=NB155_147.out
       have hs32:w30.cell? ⟨gb155,1,none⟩=some (.int .i64 0):=(blk_cell BK155.out 1).trans rfl
       have hfs32:=blk_frozen BK155.out 1
       have hns32_0:=NB147_155.out
       have hms32_0:=NB155_147.out
       have hs33:w30.cell? ⟨gb155,2,none⟩=some (.int .i64 0):=(blk_cell BK155.out 2).trans rfl
       have hfs33:=blk_frozen BK155.out 2
       have hns33_0:=NB147_155.out
       have hms33_0:=NB155_147.out
       refine skip_ (w1:=?_) (by rfl) rfl ?_ ?_
       rotate_left
       ·go_simp
        rfl
       refine hK.out _ _ ⟨((cell_far (p:=⟨gb155,_,none⟩) (by first|exact Kd.own_blk (Kd.R_ne HO151.out BK155.out (by decide))|(rw [add_block];exact Kd.own_blk (Kd.R_ne HO151.out BK155.out (by decide)))|(show (Addr.add _ _).block ≠ _;rw [add_block];exact Kd.own_blk (Kd.R_ne HO151.out BK155.out (by decide)))|(dsimp only;exact Kd.own_blk (Kd.R_ne HO151.out BK155.out (by decide)))) _).trans (((cell_far (p:=⟨gb155,_,none⟩) (by first|exact Kd.own_blk (Kd.R_ne HO151.out BK155.out (by decide))|(rw [add_block];exact Kd.own_blk (Kd.R_ne HO151.out BK155.out (by decide)))|(show (Addr.add _ _).block ≠ _;rw [add_block];exact Kd.own_blk (Kd.R_ne HO151.out BK155.out (by decide)))|(dsimp only;exact Kd.own_blk (Kd.R_ne HO151.out BK155.out (by decide)))) _).trans (((cell_far (p:=⟨gb155,_,none⟩) (by first|exact Kd.own_blk (Kd.R_ne HO151.out BK155.out (by decide))|(rw [add_block];exact Kd.own_blk (Kd.R_ne HO151.out BK155.out (by decide)))|(show (Addr.add _ _).block ≠ _;rw [add_block];exact Kd.own_blk (Kd.R_ne HO151.out BK155.out (by decide)))|(dsimp only;exact Kd.own_blk (Kd.R_ne HO151.out BK155.out (by decide)))) _).trans (hHeld.1)))))),((cell_far (p:=⟨gb155,_,none⟩) (by first|exact Kd.own_blk (Kd.R_ne HO151.out BK155.out (by decide))|(rw [add_block];exact Kd.own_blk (Kd.R_ne HO151.out BK155.out (by decide)))|(show (Addr.add _ _).block ≠ _;rw [add_block];exact Kd.own_blk (Kd.R_ne HO151.out BK155.out (by decide)))|(dsimp only;exact Kd.own_blk (Kd.R_ne HO151.out BK155.out (by decide)))) _).trans (((cell_far (p:=⟨gb155,_,none⟩) (by first|exact Kd.own_blk (Kd.R_ne HO151.out BK155.out (by decide))|(rw [add_block];exact Kd.own_blk (Kd.R_ne HO151.out BK155.out (by decide)))|(show (Addr.add _ _).block ≠ _;rw [add_block];exact Kd.own_blk (Kd.R_ne HO151.out BK155.out (by decide)))|(dsimp only;exact Kd.own_blk (Kd.R_ne HO151.out BK155.out (by decide)))) _).trans (((cell_far (p:=⟨gb155,_,none⟩) (by first|exact Kd.own_blk (Kd.R_ne HO151.out BK155.out (by decide))|(rw [add_block];exact Kd.own_blk (Kd.R_ne HO151.out BK155.out (by decide)))|(show (Addr.add _ _).block ≠ _;rw [add_block];exact Kd.own_blk (Kd.R_ne HO151.out BK155.out (by decide)))|(dsimp only;exact Kd.own_blk (Kd.R_ne HO151.out BK155.out (by decide)))) _).trans (hHeld.2.1)))))),((cell_far (p:=⟨gb155,_,none⟩) (by first|exact Kd.own_blk (Kd.R_ne HO151.out BK155.out (by decide))|(rw [add_block];exact Kd.own_blk (Kd.R_ne HO151.out BK155.out (by decide)))|(show (Addr.add _ _).block ≠ _;rw [add_block];exact Kd.own_blk (Kd.R_ne HO151.out BK155.out (by decide)))|(dsimp only;exact Kd.own_blk (Kd.R_ne HO151.out BK155.out (by decide)))) _).trans (((cell_far (p:=⟨gb155,_,none⟩) (by first|exact Kd.own_blk (Kd.R_ne HO151.out BK155.out (by decide))|(rw [add_block];exact Kd.own_blk (Kd.R_ne HO151.out BK155.out (by decide)))|(show (Addr.add _ _).block ≠ _;rw [add_block];exact Kd.own_blk (Kd.R_ne HO151.out BK155.out (by decide)))|(dsimp only;exact Kd.own_blk (Kd.R_ne HO151.out BK155.out (by decide)))) _).trans (((cell_far (p:=⟨gb155,_,none⟩) (by first|exact Kd.own_blk (Kd.R_ne HO151.out BK155.out (by decide))|(rw [add_block];exact Kd.own_blk (Kd.R_ne HO151.out BK155.out (by decide)))|(show (Addr.add _ _).block ≠ _;rw [add_block];exact Kd.own_blk (Kd.R_ne HO151.out BK155.out (by decide)))|(dsimp only;exact Kd.own_blk (Kd.R_ne HO151.out BK155.out (by decide)))) _).trans (hHeld.2.2))))))⟩ (fun hHeld=>?_)
       clear hK K
       refine done_ (done_of HT_.out (by kernel_rfl)) ?_
       have hnb34:=NB155_147.out
       have hnc34:=NB147_155.out
       have hcz35_0:w30.cell? ⟨gb155,0,none⟩=some (.int .i64 0):=(blk_cell BK155.out 0).trans rfl
       have hcz35_1:w30.cell? ⟨gb155,1,none⟩=some (.int .i64 0):=(blk_cell BK155.out 1).trans rfl
       have hcz35_2:w30.cell? ⟨gb155,2,none⟩=some (.int .i64 0):=(blk_cell BK155.out 2).trans rfl
       have hfz35_0:=blk_frozen BK155.out 0
       have hfz35_1:=blk_frozen BK155.out 1
       have hfz35_2:=blk_frozen BK155.out 2
       try go_wp2_with (first|((with_reducible refine gate_callee (f:=27) rfl ?_);refine goesL_ (some 26) rfl rfl Tryd.func27 (by kernel_rfl) rfl #[.agg #[.int .i64 (rd t148 0),.int .i64 (rd t148 1),.int .i64 (rd t148 2)]] rfl (by (try simp only [List.map_toArray,List.map_cons,List.map_nil]);first|done|rfl|(simp only [List.length_drop,List.length_take];rfl)) ?_;(with_reducible refine (impl_StampOk.calls (rd t148 0) (rd t148 1) (rd t148 2) true _ A7.out).mono ?_);rintro e w36 ⟨rfl,hb⟩;refine ⟨_,rfl,?_⟩;have n0_:=Aside0.mk (Kd.R_below ((by (with_reducible repeat (first|apply Kd.R_alloc|apply Kd.R_drewN|apply Kd.R_drew));exact (Kd.R_mono (Kd.R_far (p:=⟨gb155,2,none⟩) (Kd.R_far (p:=⟨gb155,1,none⟩) (Kd.R_far (p:=⟨gb155,0,none⟩) (Kd.R_types HO151.out BK155.out (by decide)) (fun _ hk=>hk.2) (.int .i64 (rd t148 0))) (fun _ hk=>hk.2) (.int .i64 (rd t148 1))) (fun _ hk=>hk.2) (.int .i64 (rd t148 2))) (fun _ h_=>h_.1)))) hb);have n1_:=Aside0.mk (blk_below (g:=gb147) (o:=.cells #[.int .i64 0,.int .i64 0,.int .i64 0] 25 (0,0)) (by (with_reducible repeat (first|refine blk_drewN ?_ _|refine blk_drew ?_|refine blk_alloc ?_ _));refine blk_far ?_ NB147_155.out _;(with_reducible repeat (first|refine blk_drewN ?_ _|refine blk_drew ?_|refine blk_alloc ?_ _));refine blk_far ?_ NB147_155.out _;(with_reducible repeat (first|refine blk_drewN ?_ _|refine blk_drew ?_|refine blk_alloc ?_ _));refine blk_far ?_ NB147_155.out _;(with_reducible repeat (first|refine blk_drewN ?_ _|refine blk_drew ?_|refine blk_alloc ?_ _));exact BK147.out) hb);have n2_:=Aside0.mk (blk_below (g:=gb155) (o:=.cells #[.int .i64 (rd t148 0),.int .i64 (rd t148 1),.int .i64 (rd t148 2)] 25 (0,0)) (by (with_reducible repeat (first|refine blk_drewN ?_ _|refine blk_drew ?_|refine blk_alloc ?_ _));refine blk_put (cs:=#[.int .i64 (rd t148 0),.int .i64 (rd t148 1),.int .i64 0]) ?_ 2 _ rfl;(with_reducible repeat (first|refine blk_drewN ?_ _|refine blk_drew ?_|refine blk_alloc ?_ _));refine blk_put (cs:=#[.int .i64 (rd t148 0),.int .i64 0,.int .i64 0]) ?_ 1 _ rfl;(with_reducible repeat (first|refine blk_drewN ?_ _|refine blk_drew ?_|refine blk_alloc ?_ _));refine blk_put (cs:=#[.int .i64 0,.int .i64 0,.int .i64 0]) ?_ 0 _ rfl;(with_reducible repeat (first|refine blk_drewN ?_ _|refine blk_drew ?_|refine blk_alloc ?_ _));exact BK155.out) hb);have n3_:=bs hb;clear HO151;clear BK147;clear BK155;clear HB;have HO151:=n0_;have BK147:=n1_;have BK155:=n2_;have HB:=n3_;clear n0_ n1_ n2_ n3_;(try clear hb);(try clear hb2);(try clear hk);(try clear hi);have hcz37_0:w36.cell? ⟨gb155,0,none⟩=some (.int .i64 (rd t148 0)):=(blk_cell BK155.out 0).trans rfl;have hcz37_1:w36.cell? ⟨gb155,1,none⟩=some (.int .i64 (rd t148 1)):=(blk_cell BK155.out 1).trans rfl;have hcz37_2:w36.cell? ⟨gb155,2,none⟩=some (.int .i64 (rd t148 2)):=(blk_cell BK155.out 2).trans rfl;have hfz37_0:=blk_frozen BK155.out 0;have hfz37_1:=blk_frozen BK155.out 1;have hfz37_2:=blk_frozen BK155.out 2)|(go_at_call 13;(with_reducible refine (impl_StampText.calls (rd t148 0) (rd t148 1) (rd t148 2) t157 _ ?side1 A9.out).mono ?_);(case side1=>exact lb hL);rintro e w38 ⟨rfl,hb⟩;have n0_:=Aside0.mk (Kd.R_below ((rR HO151)) hb);have n1_:=Aside0.mk (blk_below (g:=gb147) (o:=.cells #[.int .i64 0,.int .i64 0,.int .i64 0] 25 (0,0)) (bk BK147) hb);have n2_:=Aside0.mk (blk_below (g:=gb155) (o:=.cells #[.int .i64 (rd t148 0),.int .i64 (rd t148 1),.int .i64 (rd t148 2)] 25 (0,0)) (bk BK155) hb);have n3_:=bs hb;clear HO151;clear BK147;clear BK155;clear HB;have HO151:=n0_;have BK147:=n1_;have BK155:=n2_;have HB:=n3_;clear n0_ n1_ n2_ n3_;(try clear hb);(try clear hb2);(try clear hk);(try clear hi);have hcz39_0:w38.cell? ⟨gb147,0,none⟩=some (.int .i64 0):=(blk_cell BK147.out 0).trans rfl;have hcz39_1:w38.cell? ⟨gb147,1,none⟩=some (.int .i64 0):=(blk_cell BK147.out 1).trans rfl;have hcz39_2:w38.cell? ⟨gb147,2,none⟩=some (.int .i64 0):=(blk_cell BK147.out 2).trans rfl;have hfz39_0:=blk_frozen BK147.out 0;have hfz39_1:=blk_frozen BK147.out 1;have hfz39_2:=blk_frozen BK147.out 2))
       refine bodyPost_ret (results_ct rfl _ _ gb147 25 #[.int .i64 0,.int .i64 0,.int .i64 0] (0,0) _ rfl (by (with_reducible repeat (first|refine blk_drewN ?_ _|refine blk_drew ?_|refine blk_alloc ?_ _));refine blk_put (cs:=#[.int .i64 0,.int .i64 0,.int .i64 0]) ?_ 2 _ rfl;(with_reducible repeat (first|refine blk_drewN ?_ _|refine blk_drew ?_|refine blk_alloc ?_ _));refine blk_put (cs:=#[.int .i64 0,.int .i64 0,.int .i64 0]) ?_ 1 _ rfl;(with_reducible repeat (first|refine blk_drewN ?_ _|refine blk_drew ?_|refine blk_alloc ?_ _));refine blk_put (cs:=#[.int .i64 0,.int .i64 0,.int .i64 0]) ?_ 0 _ rfl;(with_reducible repeat (first|refine blk_drewN ?_ _|refine blk_drew ?_|refine blk_alloc ?_ _));exact BK147.out) Tryd.underlying25 rfl (by kernel_rfl)) rfl ?_
       exact ⟨rz,be⟩
     ·replace c8:=Bool.eq_false_iff.mpr c8
      subst c8
      have H1:(some (0,0,0,false))=some (r1,r2,r3,r4):=by rw [if_neg (show ¬ (false=true) by decide)] at H;exact H
      clear H
      have H:=H1
      clear H1
      simp only [Option.some.injEq,Prod.mk.injEq] at H
      obtain ⟨rfl,rfl,rfl,rfl⟩:=H
      go_enter Tryd.func20,Tryd.ntmps20
      try go_wp2_with (first|((with_reducible refine gate_dst (N:=2) rfl ?_);refine box_event ?hg (N:=2) ?hd (cs:=#[.int .i64 0,.int .i64 0,.int .i64 0]) (t:=25) ?hr ?_;(case hd=>rfl);(case hg=>rfl);(case hr=>first|(go_simp;done)|(go_simp;rfl));intro gb147 hg w40 hbox hb;have n0_:=bs hb;have n1_:=Aside0.mk (hbox);have n2_:=Aside0.mk ((by rw [hg];exact (below_size be):w.heap.size≤gb147));have n3_:=Aside0.mk ((by rw [hg];exact (below_size be):w.heap.size≤gb147));clear HB;have HB:=n0_;have BK147:=n1_;have GW147:=n2_;have GE147:=n3_;clear n0_ n1_ n2_ n3_;clear hb hbox hg)|((with_reducible refine gate_callee (f:=48) rfl ?_);refine goesL_ (some 9) rfl rfl Tryd.func48 (by kernel_rfl) rfl #[.string a0,.string (⟨#[46]⟩:ByteArray),.int .i64 3] rfl (by (try simp only [List.map_toArray,List.map_cons,List.map_nil]);first|done|rfl|(simp only [List.length_drop,List.length_take];rfl)) ?_;(with_reducible refine (impl_numbersOf.calls k a0 (⟨#[46]⟩:ByteArray) 3 t148 true _ ?side1 A2.out).mono ?_);(case side1=>exact lb hL);rintro e w41 ⟨v150,rfl,ho0,hb⟩;refine ⟨_,rfl,?_⟩;have n0_:=Aside0.mk (Kd.R_lower ho0 (below_size be));have n1_:=Aside0.mk (blk_below (g:=gb147) (o:=.cells #[.int .i64 0,.int .i64 0,.int .i64 0] 25 (0,0)) (bk BK147) hb);have n2_:=bs hb;clear BK147;clear HB;have HO151:=n0_;have BK147:=n1_;have HB:=n2_;clear n0_ n1_ n2_;(try clear hb);(try clear hb2);(try clear hk);(try clear hi);(try clear ho0)))
      have n0_:=Aside0.mk (Kd.R_drew HO151.out)
      have n1_:=Aside0.mk (blk_drew BK147.out)
      have n2_:=Aside0.mk (below_drew1 HB.out)
      clear HO151
      clear BK147
      clear HB
      have HO151:=n0_
      have BK147:=n1_
      have HB:=n2_
      clear n0_ n1_ n2_
      obtain ⟨Ao43,co43,eo43⟩:=Kd.R_slice HO151.out
      (first|subst eo43|(injection eo43 with f1_ f2_ f3_;have f4_:=f1_.symm;have f5_:=f3_.symm;clear f1_ f2_ f3_;subst f4_;subst f5_))
      have p152:0≤(0:Int):=(by omega)
      have q152:0 < (t148.length:Int):=of_decide_eq_true (by first|(with_reducible assumption)|assumption)
      obtain ⟨ad152,e152,hx152_0⟩:=Kd.at_int (Kd.R_reads' HO151.out).2.2 0 p152 q152
      cases e152
      have qi152:(0 < t148.length)=True:=eq_true (by omega)
      (try rw [show ((0:Int)).toNat=0 from rfl] at hx152_0)
      (try rw [Addr.add_zero'] at hx152_0)
      replace p152:=eq_true p152
      replace q152:=eq_true q152
      have p153:0≤(1:Int):=(by omega)
      have q153:1 < (t148.length:Int):=of_decide_eq_true (by first|(with_reducible assumption)|assumption)
      obtain ⟨ad153,e153,hx153_0⟩:=Kd.at_int (Kd.R_reads' HO151.out).2.2 1 p153 q153
      obtain rfl:ad152=ad153:=(by injection e153)
      (try simp only [show (1:Int).toNat=1 from rfl,Nat.reduceMul,Nat.reduceEqDiff,Go.Addr.add,↓reduceIte] at hx153_0)
      have qi153:(1 < t148.length)=True:=eq_true (by omega)
      (try rw [show ((1:Int)).toNat=1 from rfl] at hx153_0)
      replace p153:=eq_true p153
      replace q153:=eq_true q153
      have p154:0≤(2:Int):=(by omega)
      have q154:2 < (t148.length:Int):=of_decide_eq_true (by first|(with_reducible assumption)|assumption)
      obtain ⟨ad154,e154,hx154_0⟩:=Kd.at_int (Kd.R_reads' HO151.out).2.2 2 p154 q154
      obtain rfl:ad152=ad154:=(by injection e154)
      (try simp only [show (2:Int).toNat=2 from rfl,Nat.reduceMul,Nat.reduceEqDiff,Go.Addr.add,↓reduceIte] at hx154_0)
      have qi154:(2 < t148.length)=True:=eq_true (by omega)
      (try rw [show ((2:Int)).toNat=2 from rfl] at hx154_0)
      replace p154:=eq_true p154
      replace q154:=eq_true q154
      refine start_ (n:=12) (S:=fun w'=>w'.cell? ad152=some (.int .i64 (rd t148 0))∧w'.cell? ⟨ad152.block,ad152.off+1,none⟩=some (.int .i64 (rd t148 1))∧w'.cell? ⟨ad152.block,ad152.off+2,none⟩=some (.int .i64 (rd t148 2))) (ds:=[]) (fl 12 0) (by kernel_rfl) rfl rfl ⟨hx152_0,hx153_0,hx154_0⟩ (fun hHeld=>?_);refine with_tabW impl_ParseStamp.tab4 impl_ParseStamp.bits4 (fun HT_ HW_=>?_)
      generalize w41.drew=w42 at HO151 BK147 HB hx152_0 hx153_0 hx154_0 hHeld ⊢
      refine pt 0 15 (fl 12 1) HT_ ?_
      refine pt 1 16 (fl 12 3) HT_ ?_
      refine pt 3 18 (fl 12 11) HT_ ?_
      refine pt 4 19 (fl 12 27) HT_ ?_
      refine pt 6 21 (fl 12 91) HT_ ?_
      refine pt 7 22 (fl 12 219) HT_ ?_
      refine tt 2 17 (fl 12 223) HT_ HW_ hHeld ?_
      refine tt 5 20 (fl 12 255) HT_ HW_ hHeld ?_
      refine tt 8 23 (fl 12 511) HT_ HW_ hHeld ?_
      refine pt 9 24 (fl 12 1023) HT_ ?_
      refine ot 10 (some 6) (fl 12 2047) HT_ (fun K hK=>?_)
      refine box_step ?hg (N:=6) ?hd (cs:=#[.int .i64 0,.int .i64 0,.int .i64 0]) (t:=25) ?hr ?_;(case hd=>rfl);(case hg=>rfl);(case hr=>first|(go_simp;done)|(go_simp;rfl))
      intro gb155 hg w44 hbox hb
      have HS0_:=(hb.cell (World.block_lt_of_cell? _ _ (hHeld.1))).trans (hHeld.1)
      have HS1_:=(hb.cell (World.block_lt_of_cell? _ _ (hHeld.2.1))).trans (hHeld.2.1)
      have HS2_:=(hb.cell (World.block_lt_of_cell? _ _ (hHeld.2.2))).trans (hHeld.2.2)
      have n0_:=Aside0.mk (Kd.R_below (rR HO151) hb)
      have n1_:=Aside0.mk (blk_below (g:=gb147) (o:=.cells #[.int .i64 0,.int .i64 0,.int .i64 0] 25 (0,0)) (bk BK147) hb)
      have n2_:=bs hb
      have n3_:=Aside0.mk (hbox)
      have n4_:=Aside0.mk ((by rw [hg];exact (below_size be):w.heap.size≤gb155))
      have n5_:=Aside0.mk ((by rw [hg];exact (below_size be):w.heap.size≤gb155))
      have n6_:=Aside0.mk ((by rw [hg];exact Nat.ne_of_lt (blk_lt (g:=gb147) (o:=.cells #[.int .i64 0,.int .i64 0,.int .i64 0] 25 (0,0)) (bk BK147)):gb147 ≠ gb155))
      have n7_:=Aside0.mk ((by rw [hg];exact Nat.ne_of_gt (blk_lt (g:=gb147) (o:=.cells #[.int .i64 0,.int .i64 0,.int .i64 0] 25 (0,0)) (bk BK147)):gb155 ≠ gb147))
      clear HO151
      clear BK147
      clear HB
      have HO151:=n0_
      have BK147:=n1_
      have HB:=n2_
      have BK155:=n3_
      have GW155:=n4_
      have GE155:=n5_
      have NB147_155:=n6_
      have NB155_147:=n7_
      clear n0_ n1_ n2_ n3_ n4_ n5_ n6_ n7_
      clear hb hbox hg
      refine hK.out _ _ ⟨HS0_,HS1_,HS2_⟩ (fun hHeld=>?_)
      clear hK K
      refine no 6 ?_
      refine ot 11 none (fl 12 4095) HT_ (fun K hK=>?_)
      have hs45:w44.cell? ⟨gb155,0,none⟩=some (.int .i64 0):=(blk_cell BK155.out 0).trans rfl
      have hfs45:=blk_frozen BK155.out 0
      have hns45_0:=NB147_155.out
      have hms45_0:=NB155_147.out
      have hs46:w44.cell? ⟨gb155,1,none⟩=some (.int .i64 0):=(blk_cell BK155.out 1).trans rfl
      have hfs46:=blk_frozen BK155.out 1
      have hns46_0:=NB147_155.out
      have hms46_0:=NB155_147.out
      have hs47:w44.cell? ⟨gb155,2,none⟩=some (.int .i64 0):=(blk_cell BK155.out 2).trans rfl
      have hfs47:=blk_frozen BK155.out 2
      have hns47_0:=NB147_155.out
      have hms47_0:=NB155_147.out
      refine skip_ (w1:=?_) (by rfl) rfl ?_ ?_
      rotate_left
      ·go_simp
       rfl
      refine hK.out _ _ ⟨((cell_far (p:=⟨gb155,_,none⟩) (by first|exact Kd.own_blk (Kd.R_ne HO151.out BK155.out (by decide))|(rw [add_block];exact Kd.own_blk (Kd.R_ne HO151.out BK155.out (by decide)))|(show (Addr.add _ _).block ≠ _;rw [add_block];exact Kd.own_blk (Kd.R_ne HO151.out BK155.out (by decide)))|(dsimp only;exact Kd.own_blk (Kd.R_ne HO151.out BK155.out (by decide)))) _).trans (((cell_far (p:=⟨gb155,_,none⟩) (by first|exact Kd.own_blk (Kd.R_ne HO151.out BK155.out (by decide))|(rw [add_block];exact Kd.own_blk (Kd.R_ne HO151.out BK155.out (by decide)))|(show (Addr.add _ _).block ≠ _;rw [add_block];exact Kd.own_blk (Kd.R_ne HO151.out BK155.out (by decide)))|(dsimp only;exact Kd.own_blk (Kd.R_ne HO151.out BK155.out (by decide)))) _).trans (((cell_far (p:=⟨gb155,_,none⟩) (by first|exact Kd.own_blk (Kd.R_ne HO151.out BK155.out (by decide))|(rw [add_block];exact Kd.own_blk (Kd.R_ne HO151.out BK155.out (by decide)))|(show (Addr.add _ _).block ≠ _;rw [add_block];exact Kd.own_blk (Kd.R_ne HO151.out BK155.out (by decide)))|(dsimp only;exact Kd.own_blk (Kd.R_ne HO151.out BK155.out (by decide)))) _).trans (hHeld.1)))))),((cell_far (p:=⟨gb155,_,none⟩) (by first|exact Kd.own_blk (Kd.R_ne HO151.out BK155.out (by decide))|(rw [add_block];exact Kd.own_blk (Kd.R_ne HO151.out BK155.out (by decide)))|(show (Addr.add _ _).block ≠ _;rw [add_block];exact Kd.own_blk (Kd.R_ne HO151.out BK155.out (by decide)))|(dsimp only;exact Kd.own_blk (Kd.R_ne HO151.out BK155.out (by decide)))) _).trans (((cell_far (p:=⟨gb155,_,none⟩) (by first|exact Kd.own_blk (Kd.R_ne HO151.out BK155.out (by decide))|(rw [add_block];exact Kd.own_blk (Kd.R_ne HO151.out BK155.out (by decide)))|(show (Addr.add _ _).block ≠ _;rw [add_block];exact Kd.own_blk (Kd.R_ne HO151.out BK155.out (by decide)))|(dsimp only;exact Kd.own_blk (Kd.R_ne HO151.out BK155.out (by decide)))) _).trans (((cell_far (p:=⟨gb155,_,none⟩) (by first|exact Kd.own_blk (Kd.R_ne HO151.out BK155.out (by decide))|(rw [add_block];exact Kd.own_blk (Kd.R_ne HO151.out BK155.out (by decide)))|(show (Addr.add _ _).block ≠ _;rw [add_block];exact Kd.own_blk (Kd.R_ne HO151.out BK155.out (by decide)))|(dsimp only;exact Kd.own_blk (Kd.R_ne HO151.out BK155.out (by decide)))) _).trans (hHeld.2.1)))))),((cell_far (p:=⟨gb155,_,none⟩) (by first|exact Kd.own_blk (Kd.R_ne HO151.out BK155.out (by decide))|(rw [add_block];exact Kd.own_blk (Kd.R_ne HO151.out BK155.out (by decide)))|(show (Addr.add _ _).block ≠ _;rw [add_block];exact Kd.own_blk (Kd.R_ne HO151.out BK155.out (by decide)))|(dsimp only;exact Kd.own_blk (Kd.R_ne HO151.out BK155.out (by decide)))) _).trans (((cell_far (p:=⟨gb155,_,none⟩) (by first|exact Kd.own_blk (Kd.R_ne HO151.out BK155.out (by decide))|(rw [add_block];exact Kd.own_blk (Kd.R_ne HO151.out BK155.out (by decide)))|(show (Addr.add _ _).block ≠ _;rw [add_block];exact Kd.own_blk (Kd.R_ne HO151.out BK155.out (by decide)))|(dsimp only;exact Kd.own_blk (Kd.R_ne HO151.out BK155.out (by decide)))) _).trans (((cell_far (p:=⟨gb155,_,none⟩) (by first|exact Kd.own_blk (Kd.R_ne HO151.out BK155.out (by decide))|(rw [add_block];exact Kd.own_blk (Kd.R_ne HO151.out BK155.out (by decide)))|(show (Addr.add _ _).block ≠ _;rw [add_block];exact Kd.own_blk (Kd.R_ne HO151.out BK155.out (by decide)))|(dsimp only;exact Kd.own_blk (Kd.R_ne HO151.out BK155.out (by decide)))) _).trans (hHeld.2.2))))))⟩ (fun hHeld=>?_)
      clear hK K
      refine done_ (done_of HT_.out (by kernel_rfl)) ?_
      have hnb48:=NB155_147.out
      have hnc48:=NB147_155.out
      have hcz49_0:w44.cell? ⟨gb155,0,none⟩=some (.int .i64 0):=(blk_cell BK155.out 0).trans rfl
      have hcz49_1:w44.cell? ⟨gb155,1,none⟩=some (.int .i64 0):=(blk_cell BK155.out 1).trans rfl
      have hcz49_2:w44.cell? ⟨gb155,2,none⟩=some (.int .i64 0):=(blk_cell BK155.out 2).trans rfl
      have hfz49_0:=blk_frozen BK155.out 0
      have hfz49_1:=blk_frozen BK155.out 1
      have hfz49_2:=blk_frozen BK155.out 2
      try go_wp2_with (first|((with_reducible refine gate_callee (f:=27) rfl ?_);refine goesL_ (some 26) rfl rfl Tryd.func27 (by kernel_rfl) rfl #[.agg #[.int .i64 (rd t148 0),.int .i64 (rd t148 1),.int .i64 (rd t148 2)]] rfl (by (try simp only [List.map_toArray,List.map_cons,List.map_nil]);first|done|rfl|(simp only [List.length_drop,List.length_take];rfl)) ?_;(with_reducible refine (impl_StampOk.calls (rd t148 0) (rd t148 1) (rd t148 2) false _ A7.out).mono ?_);rintro e w50 ⟨rfl,hb⟩;refine ⟨_,rfl,?_⟩;have n0_:=Aside0.mk (Kd.R_below ((by (with_reducible repeat (first|apply Kd.R_alloc|apply Kd.R_drewN|apply Kd.R_drew));exact (Kd.R_mono (Kd.R_far (p:=⟨gb155,2,none⟩) (Kd.R_far (p:=⟨gb155,1,none⟩) (Kd.R_far (p:=⟨gb155,0,none⟩) (Kd.R_types HO151.out BK155.out (by decide)) (fun _ hk=>hk.2) (.int .i64 (rd t148 0))) (fun _ hk=>hk.2) (.int .i64 (rd t148 1))) (fun _ hk=>hk.2) (.int .i64 (rd t148 2))) (fun _ h_=>h_.1)))) hb);have n1_:=Aside0.mk (blk_below (g:=gb147) (o:=.cells #[.int .i64 0,.int .i64 0,.int .i64 0] 25 (0,0)) (by (with_reducible repeat (first|refine blk_drewN ?_ _|refine blk_drew ?_|refine blk_alloc ?_ _));refine blk_far ?_ NB147_155.out _;(with_reducible repeat (first|refine blk_drewN ?_ _|refine blk_drew ?_|refine blk_alloc ?_ _));refine blk_far ?_ NB147_155.out _;(with_reducible repeat (first|refine blk_drewN ?_ _|refine blk_drew ?_|refine blk_alloc ?_ _));refine blk_far ?_ NB147_155.out _;(with_reducible repeat (first|refine blk_drewN ?_ _|refine blk_drew ?_|refine blk_alloc ?_ _));exact BK147.out) hb);have n2_:=Aside0.mk (blk_below (g:=gb155) (o:=.cells #[.int .i64 (rd t148 0),.int .i64 (rd t148 1),.int .i64 (rd t148 2)] 25 (0,0)) (by (with_reducible repeat (first|refine blk_drewN ?_ _|refine blk_drew ?_|refine blk_alloc ?_ _));refine blk_put (cs:=#[.int .i64 (rd t148 0),.int .i64 (rd t148 1),.int .i64 0]) ?_ 2 _ rfl;(with_reducible repeat (first|refine blk_drewN ?_ _|refine blk_drew ?_|refine blk_alloc ?_ _));refine blk_put (cs:=#[.int .i64 (rd t148 0),.int .i64 0,.int .i64 0]) ?_ 1 _ rfl;(with_reducible repeat (first|refine blk_drewN ?_ _|refine blk_drew ?_|refine blk_alloc ?_ _));refine blk_put (cs:=#[.int .i64 0,.int .i64 0,.int .i64 0]) ?_ 0 _ rfl;(with_reducible repeat (first|refine blk_drewN ?_ _|refine blk_drew ?_|refine blk_alloc ?_ _));exact BK155.out) hb);have n3_:=bs hb;clear HO151;clear BK147;clear BK155;clear HB;have HO151:=n0_;have BK147:=n1_;have BK155:=n2_;have HB:=n3_;clear n0_ n1_ n2_ n3_;(try clear hb);(try clear hb2);(try clear hk);(try clear hi);have hcz51_0:w50.cell? ⟨gb147,0,none⟩=some (.int .i64 0):=(blk_cell BK147.out 0).trans rfl;have hcz51_1:w50.cell? ⟨gb147,1,none⟩=some (.int .i64 0):=(blk_cell BK147.out 1).trans rfl;have hcz51_2:w50.cell? ⟨gb147,2,none⟩=some (.int .i64 0):=(blk_cell BK147.out 2).trans rfl;have hfz51_0:=blk_frozen BK147.out 0;have hfz51_1:=blk_frozen BK147.out 1;have hfz51_2:=blk_frozen BK147.out 2))
      refine bodyPost_ret (results_ct rfl _ _ gb147 25 #[.int .i64 0,.int .i64 0,.int .i64 0] (0,0) _ rfl (by (with_reducible repeat (first|refine blk_drewN ?_ _|refine blk_drew ?_|refine blk_alloc ?_ _));refine blk_put (cs:=#[.int .i64 0,.int .i64 0,.int .i64 0]) ?_ 2 _ rfl;(with_reducible repeat (first|refine blk_drewN ?_ _|refine blk_drew ?_|refine blk_alloc ?_ _));refine blk_put (cs:=#[.int .i64 0,.int .i64 0,.int .i64 0]) ?_ 1 _ rfl;(with_reducible repeat (first|refine blk_drewN ?_ _|refine blk_drew ?_|refine blk_alloc ?_ _));refine blk_put (cs:=#[.int .i64 0,.int .i64 0,.int .i64 0]) ?_ 0 _ rfl;(with_reducible repeat (first|refine blk_drewN ?_ _|refine blk_drew ?_|refine blk_alloc ?_ _));exact BK147.out) Tryd.underlying25 rfl (by kernel_rfl)) rfl ?_
      exact ⟨rz,be⟩
    ·rw [if_neg c6] at H
     exact absurd H (by simp)
   ·rw [if_neg c5] at H
    exact absurd H (by simp)
  ·rw [if_neg c4] at H
   exact absurd H (by simp)
 ·replace c3:=Bool.eq_false_iff.mpr c3
  subst c3
  have H1:(some (0,0,0,false))=some (r1,r2,r3,r4):=by rw [if_neg (show ¬ (false=true) by decide)] at H;exact H
  clear H
  have H:=H1
  clear H1
  simp only [Option.some.injEq,Prod.mk.injEq] at H
  obtain ⟨rfl,rfl,rfl,rfl⟩:=H
  go_enter Tryd.func20,Tryd.ntmps20
  go_wp2_with (first|((with_reducible refine gate_dst (N:=2) rfl ?_);refine box_event ?hg (N:=2) ?hd (cs:=#[.int .i64 0,.int .i64 0,.int .i64 0]) (t:=25) ?hr ?_;(case hd=>rfl);(case hg=>rfl);(case hr=>first|(go_simp;done)|(go_simp;rfl));intro gb147 hg w52 hbox hb;have n0_:=bs hb;have n1_:=Aside0.mk (hbox);have n2_:=Aside0.mk ((by rw [hg];exact (below_size be):w.heap.size≤gb147));have n3_:=Aside0.mk ((by rw [hg];exact (below_size be):w.heap.size≤gb147));clear HB;have HB:=n0_;have BK147:=n1_;have GW147:=n2_;have GE147:=n3_;clear n0_ n1_ n2_ n3_;clear hb hbox hg)|((with_reducible refine gate_callee (f:=48) rfl ?_);refine goesL_ (some 9) rfl rfl Tryd.func48 (by kernel_rfl) rfl #[.string a0,.string (⟨#[46]⟩:ByteArray),.int .i64 3] rfl (by (try simp only [List.map_toArray,List.map_cons,List.map_nil]);first|done|rfl|(simp only [List.length_drop,List.length_take];rfl)) ?_;(with_reducible refine (impl_numbersOf.calls k a0 (⟨#[46]⟩:ByteArray) 3 t148 false _ ?side1 A2.out).mono ?_);(case side1=>exact lb hL);rintro e w53 ⟨v150,rfl,ho0,hb⟩;refine ⟨_,rfl,?_⟩;have n0_:=Aside0.mk (Kd.R_lower ho0 (below_size be));have n1_:=Aside0.mk (blk_below (g:=gb147) (o:=.cells #[.int .i64 0,.int .i64 0,.int .i64 0] 25 (0,0)) (bk BK147) hb);have n2_:=bs hb;clear BK147;clear HB;have HO151:=n0_;have BK147:=n1_;have HB:=n2_;clear n0_ n1_ n2_;(try clear hb);(try clear hb2);(try clear hk);(try clear hi);(try clear ho0);have hcz54_0:w53.cell? ⟨gb147,0,none⟩=some (.int .i64 0):=(blk_cell BK147.out 0).trans rfl;have hcz54_1:w53.cell? ⟨gb147,1,none⟩=some (.int .i64 0):=(blk_cell BK147.out 1).trans rfl;have hcz54_2:w53.cell? ⟨gb147,2,none⟩=some (.int .i64 0):=(blk_cell BK147.out 2).trans rfl;have hfz54_0:=blk_frozen BK147.out 0;have hfz54_1:=blk_frozen BK147.out 1;have hfz54_2:=blk_frozen BK147.out 2))
  refine bodyPost_ret (results_ct rfl _ _ gb147 25 #[.int .i64 0,.int .i64 0,.int .i64 0] (0,0) _ rfl (by (with_reducible repeat (first|refine blk_drewN ?_ _|refine blk_drew ?_|refine blk_alloc ?_ _));refine blk_put (cs:=#[.int .i64 0,.int .i64 0,.int .i64 0]) ?_ 2 _ rfl;(with_reducible repeat (first|refine blk_drewN ?_ _|refine blk_drew ?_|refine blk_alloc ?_ _));refine blk_put (cs:=#[.int .i64 0,.int .i64 0,.int .i64 0]) ?_ 1 _ rfl;(with_reducible repeat (first|refine blk_drewN ?_ _|refine blk_drew ?_|refine blk_alloc ?_ _));refine blk_put (cs:=#[.int .i64 0,.int .i64 0,.int .i64 0]) ?_ 0 _ rfl;(with_reducible repeat (first|refine blk_drewN ?_ _|refine blk_drew ?_|refine blk_alloc ?_ _));exact BK147.out) Tryd.underlying25 rfl (by kernel_rfl)) rfl ?_
  exact ⟨rz,be⟩
def laws_big.f (l0:List Int):Option (Bool):=some (decide ((l0.length:Int) > 1048576))
set_option maxHeartbeats 8000000 in
set_option maxRecDepth 100000 in
theorem laws_big.calls (A0:Option Addr) (c0:Nat) (l0:List Int) (r:Bool) (w:World) (hr0:Kd.C (Kd.int .u8) w A0 l0.length l0) (hc0:l0.length≤c0) (h:laws_big.f l0=some r) :
  Calls Tryd.prog 22 #[.slice A0 l0.length c0] w fun e w'=>e = .returned (.bool r)∧Drawn0 w w':=by
 have HR0:=Aside0.mk hr0
 have HC0:=Aside0.mk hc0
 clear hr0 hc0
 have H:(some (decide ((l0.length:Int) > 1048576)))=some r:=h
 clear h
 obtain rfl:=Option.some.inj H
 go_enter Tryd.func22,Tryd.ntmps22
 go_wp2
 go_ret
 exact ⟨by first|rfl|(simp;done)|(simp [*];done),by repeat (first|exact Drawn0.refl _|apply Drawn0.step)⟩
def spec_l2Text.f:Nat→Int→Option (ByteArray)
 | 0,_=>none
 | k+1,a0=>if a0 < 10 then (some (strOfNums (([(wrap64 (48+a0)) % 256]:List Int)))) else ((spec_l2Text.f k (wrap64 (Int.tdiv a0 10))).bind fun t161=>((some (([(wrap64 (48+(Int.tmod a0 10))) % 256]:List Int):List Int)).bind fun y162=>(if t161.size+(strOfNums y162).size≤9223372036854775807 then (some (t161 ++ (strOfNums y162))) else (none))))
def spec_l2Text.T3:Bool × List (List Nat × List Nat):=(true,[([],[]),([0],[0]),([1],[1]),([],[]),([3],[3]),([4],[4]),([5],[5]),([6],[6]),([7],[7]),([2,8],[2,8]),([9,2,0,1,2,3,4,5,6,7,8,9],[9])])
def spec_l2Text.B3:List Nat:=[0,1,3,0,8,24,56,120,248,511,1023]
theorem spec_l2Text.tab3:rtab .any (opsOf Tryd.f41 3)=spec_l2Text.T3:=by kernel_rfl
theorem spec_l2Text.bits3:waitsOk spec_l2Text.T3.2 spec_l2Text.B3=true:=by kernel_rfl
set_option maxHeartbeats 8000000 in
set_option maxRecDepth 100000 in
theorem spec_l2Text.calls (k:Nat) : ∀ (a0:Int) (r:ByteArray) (w:World) (h:spec_l2Text.f k a0=some r),
  Calls Tryd.prog 41 #[.int .i64 a0] w fun e w'=>e = .returned (.string r)∧Below w.heap.size w w':=by
 induction k using Nat.strongRecOn with
 | _ k ih=>
 intro a0 r w h
 cases k with
 | zero=>exact absurd h (by simp [spec_l2Text.f])
 | succ k=>
 simp only [spec_l2Text.f] at h
 have HB:=Aside0.mk (Below.refl w.heap.size w)
 have H:(if a0 < 10 then (some (strOfNums (([(wrap64 (48+a0)) % 256]:List Int)))) else ((spec_l2Text.f k (wrap64 (Int.tdiv a0 10))).bind fun t161=>((some (([(wrap64 (48+(Int.tmod a0 10))) % 256]:List Int):List Int)).bind fun y162=>(if t161.size+(strOfNums y162).size≤9223372036854775807 then (some (t161 ++ (strOfNums y162))) else (none)))))=some r:=h
 clear h
 by_cases c2:a0 < 10
 ·rw [if_pos c2] at H
  have c2b0:decide (a0 < 10)=true:=decide_eq_true c2
  clear c2
  obtain ⟨y158,hy158⟩ : ∃ y_:List Int,y_=(([(wrap64 (48+a0)) % 256]:List Int)):=⟨_,rfl⟩
  replace H:(some (strOfNums y158))=some r:=by first|(rw [hy158];with_reducible exact H)|(have H2_:=(Option.bind_some _ _).symm.trans H;rw [hy158];with_reducible exact H2_)|(have H2_:=(Option.bind_some _ _).symm.trans H;with_reducible exact H2_)|with_reducible exact H|(rw [hy158];exact H)|exact H
  have Ny158:=Aside0.mk hy158
  clear hy158
  obtain rfl:=Option.some.inj H
  go_enter Tryd.func41,Tryd.ntmps41
  go_wp2_with (first|((with_reducible refine gate_dst (N:=8) rfl ?_);refine Kd.R_lit (Kd.int .u8) _ 5 ?hg (N:=8) ?hd (xs:=([(wrap64 (48+a0)) % 256]:List Int)) (inner:=[.int .u8 ((wrap64 (48+a0)) % 256)]) (ok:=fun _=>True) (okp:=fun _=>True) ?hr ?hp (fun _ hk=>hk) trivial (Below.refl _ _) (Nat.le_refl _) (by simp) ?_;(case hd=>rfl);(case hg=>rfl);(case hr=>first|(go_simp;done)|(go_simp;rfl));(case hp=>exact (Reps.one (show Kd.M (Kd.int .u8) _ _ _ ((wrap64 (48+a0)) % 256) [.int .u8 ((wrap64 (48+a0)) % 256)] from rfl) (Reps.none _ _)));intro v159 w3 ho4 hb hg_ hnew_;clear hg_ hnew_;(first|rw [← Ny158.out] at ho4|(simp only [Int.reduceToNat] at ho4;rw [← Ny158.out] at ho4));have n0_:=Aside0.mk (Kd.R_lower ho4 (below_size be));have n1_:=bs hb;clear HB;have HO160:=n0_;have HB:=n1_;clear n0_ n1_;clear hb ho4;have hcv5:=own_string (P:=Tryd.prog) Tryd.underlying39 Tryd.underlying5 Tryd.underlying9 (Kd.own_of_R HO160.out)))
  go_ret
  exact ⟨rz,be⟩
 ·rw [if_neg c2] at H
  have c2b0:decide (a0 < 10)=false:=decide_eq_false c2
  clear c2
  replace H:=Option.bind_eq_some_iff.mp H
  obtain ⟨t161,A60,H⟩:=H
  try dsimp only at H
  have A6:=Aside0.mk A60
  clear A60
  obtain ⟨y162,hy162⟩ : ∃ y_:List Int,y_=(([(wrap64 (48+(Int.tmod a0 10))) % 256]:List Int)):=⟨_,rfl⟩
  replace H:(if t161.size+(strOfNums y162).size≤9223372036854775807 then (some (t161 ++ (strOfNums y162))) else (none))=some r:=by first|(rw [hy162];with_reducible exact H)|(have H2_:=(Option.bind_some _ _).symm.trans H;rw [hy162];with_reducible exact H2_)|(have H2_:=(Option.bind_some _ _).symm.trans H;with_reducible exact H2_)|with_reducible exact H|(rw [hy162];exact H)|exact H
  have Ny162:=Aside0.mk hy162
  clear hy162
  by_cases c7:t161.size+(strOfNums y162).size≤9223372036854775807
  ·rw [if_pos c7] at H
   have c7b0:=eq_true c7
   have c7b1:decide (t161.size+(strOfNums y162).size≤9223372036854775807)=true:=decide_eq_true c7
   try have c7b2:(9223372036854775807 < t161.size+(strOfNums y162).size)=False:=eq_false (Nat.not_lt.2 c7)
   obtain rfl:=Option.some.inj H
   go_enter Tryd.func41,Tryd.ntmps41
   try go_wp2
   have n0_:=Aside0.mk (below_drew1 HB.out)
   clear HB
   have HB:=n0_
   clear n0_
   refine start_ (n:=11) (S:=fun w'=>True) (ds:=[]) (fl 11 0) (by kernel_rfl) rfl rfl trivial (fun hHeld=>?_);refine with_tabW spec_l2Text.tab3 spec_l2Text.bits3 (fun HT_ HW_=>?_)
   generalize w.drew=w8 at HB hHeld ⊢
   refine pt 0 10 (fl 11 1) HT_ ?_
   refine pt 1 11 (fl 11 3) HT_ ?_
   refine pt 3 13 (fl 11 11) HT_ ?_
   refine pt 4 14 (fl 11 27) HT_ ?_
   refine pt 5 15 (fl 11 59) HT_ ?_
   refine pt 6 16 (fl 11 123) HT_ ?_
   refine join_ (σ:=Value) 2 (fl 11 511) (fun s_=>[(12,.string t161),(17,s_),(18,.string (strOfNums y162))]) (fun s_ w'=>(Kd.R (Kd.int .u8) 5 w' w.heap.size (fun _=>True) s_ y162)∧(Below w.heap.size w w')) ?_ ?_
   rotate_left
   ·intro hCont
    refine two_ (i:=2) (j:=7) (Ni:=some 12) (Nj:=some 17) (fl 11 127) (fl 11 251) rfl rfl rfl rfl (two_of HT_.out (by kernel_rfl)) (by decide) (by decide) (fun K hK=>?_) (fun K hK=>?_)
    ·skip
     refine goes_ Tryd.func41 (by kernel_rfl) rfl #[.int .i64 (wrap64 (Int.tdiv a0 10))] (by rfl) rfl rfl (by (try simp only [List.map_toArray,List.map_cons,List.map_nil]);first|done|rfl|(simp only [List.length_drop,List.length_take];rfl)) ?_
     with_reducible refine (ih k (by omega) (wrap64 (Int.tdiv a0 10)) t161 _ A6.out).mono ?_
     rintro e w9 ⟨rfl,hb⟩
     refine ⟨_,rfl,?_⟩
     have n0_:=bs hb
     clear HB
     have HB:=n0_
     clear n0_
     (try clear hb)
     (try clear hb2)
     (try clear hk)
     (try clear hi)
     refine hK.out _ _ trivial (fun hHeld=>?_)
     clear hK K
     refine no 12 ?_
     refine ot 7 (some 17) (fl 11 255) HT_ (fun K hK=>?_)
     refine Kd.R_lit_step (Kd.int .u8) _ 5 ?hg (N:=17) ?hd (xs:=([(wrap64 (48+(Int.tmod a0 10))) % 256]:List Int)) (inner:=[.int .u8 ((wrap64 (48+(Int.tmod a0 10))) % 256)]) (ok:=fun _=>True) (okp:=fun _=>True) ?hr ?hp (fun _ hk=>hk) trivial (Below.refl _ _) (Nat.le_refl _) (by simp) ?_;(case hd=>rfl);(case hg=>rfl);(case hr=>first|(go_simp;done)|(go_simp;rfl));(case hp=>exact (Reps.one (show Kd.M (Kd.int .u8) _ _ _ ((wrap64 (48+(Int.tmod a0 10))) % 256) [.int .u8 ((wrap64 (48+(Int.tmod a0 10))) % 256)] from rfl) (Reps.none _ _)))
     intro v163 w10 ho11 hb hg_ hnew_
     clear hg_ hnew_
     (first|rw [← Ny162.out] at ho11|(simp only [Int.reduceToNat] at ho11;rw [← Ny162.out] at ho11))
     have n0_:=Aside0.mk (Kd.R_lower ho11 (below_size be))
     have n1_:=bs hb
     clear HB
     have HO164:=n0_
     have HB:=n1_
     clear n0_ n1_
     clear hb ho11
     refine hK.out _ _ trivial (fun hHeld=>?_)
     clear hK K
     refine no 17 ?_
     refine ot 8 (some 18) (fl 11 511) HT_ (fun K hK=>?_)
     have hcv12:=own_string (P:=Tryd.prog) Tryd.underlying39 Tryd.underlying5 Tryd.underlying9 (Kd.own_of_R HO164.out)
     refine value_ (w1:=?_) (v:=?_) (by rfl) rfl ?_ ?_
     rotate_left 2
     ·go_simp
      constructor
      ·rfl
      ·rfl
     clear hcv12
     refine hK.out _ _ trivial (fun hHeld=>?_)
     clear hK K
     refine no 18 ?_
     exact norm_ (by simp only [putAll,Act.put,List.setIfInBounds_toArray,List.set_cons_zero,List.set_cons_succ]) (hCont (v163) _ ⟨(rR HO164),be⟩)
    ·skip
     refine Kd.R_lit_step (Kd.int .u8) _ 5 ?hg (N:=17) ?hd (xs:=([(wrap64 (48+(Int.tmod a0 10))) % 256]:List Int)) (inner:=[.int .u8 ((wrap64 (48+(Int.tmod a0 10))) % 256)]) (ok:=fun _=>True) (okp:=fun _=>True) ?hr ?hp (fun _ hk=>hk) trivial (Below.refl _ _) (Nat.le_refl _) (by simp) ?_;(case hd=>rfl);(case hg=>rfl);(case hr=>first|(go_simp;done)|(go_simp;rfl));(case hp=>exact (Reps.one (show Kd.M (Kd.int .u8) _ _ _ ((wrap64 (48+(Int.tmod a0 10))) % 256) [.int .u8 ((wrap64 (48+(Int.tmod a0 10))) % 256)] from rfl) (Reps.none _ _)))
     intro v163 w9 ho10 hb hg_ hnew_
     clear hg_ hnew_
     (first|rw [← Ny162.out] at ho10|(simp only [Int.reduceToNat] at ho10;rw [← Ny162.out] at ho10))
     have n0_:=Aside0.mk (Kd.R_lower ho10 (below_size be))
     have n1_:=bs hb
     clear HB
     have HO164:=n0_
     have HB:=n1_
     clear n0_ n1_
     clear hb ho10
     refine hK.out _ _ trivial (fun hHeld=>?_)
     clear hK K
     refine no 17 ?_
     refine two_ (i:=2) (j:=8) (Ni:=some 12) (Nj:=some 18) (fl 11 255) (fl 11 507) rfl rfl rfl rfl (two_of HT_.out (by kernel_rfl)) (by decide) (by decide) (fun K hK=>?_) (fun K hK=>?_)
     ·skip
      refine goes_ Tryd.func41 (by kernel_rfl) rfl #[.int .i64 (wrap64 (Int.tdiv a0 10))] (by rfl) rfl rfl (by (try simp only [List.map_toArray,List.map_cons,List.map_nil]);first|done|rfl|(simp only [List.length_drop,List.length_take];rfl)) ?_
      with_reducible refine (ih k (by omega) (wrap64 (Int.tdiv a0 10)) t161 _ A6.out).mono ?_
      rintro e w11 ⟨rfl,hb⟩
      refine ⟨_,rfl,?_⟩
      have n0_:=Aside0.mk (Kd.R_below ((rR HO164)) hb)
      have n1_:=bs hb
      clear HO164
      clear HB
      have HO164:=n0_
      have HB:=n1_
      clear n0_ n1_
      (try clear hb)
      (try clear hb2)
      (try clear hk)
      (try clear hi)
      refine hK.out _ _ trivial (fun hHeld=>?_)
      clear hK K
      refine no 12 ?_
      refine ot 8 (some 18) (fl 11 511) HT_ (fun K hK=>?_)
      have hcv12:=own_string (P:=Tryd.prog) Tryd.underlying39 Tryd.underlying5 Tryd.underlying9 (Kd.own_of_R HO164.out)
      refine value_ (w1:=?_) (v:=?_) (by rfl) rfl ?_ ?_
      rotate_left 2
      ·go_simp
       constructor
       ·rfl
       ·rfl
      clear hcv12
      refine hK.out _ _ trivial (fun hHeld=>?_)
      clear hK K
      refine no 18 ?_
      exact norm_ (by simp only [putAll,Act.put,List.setIfInBounds_toArray,List.set_cons_zero,List.set_cons_succ]) (hCont (v163) _ ⟨(rR HO164),be⟩)
     ·skip
      have hcv11:=own_string (P:=Tryd.prog) Tryd.underlying39 Tryd.underlying5 Tryd.underlying9 (Kd.own_of_R HO164.out)
      refine value_ (w1:=?_) (v:=?_) (by rfl) rfl ?_ ?_
      rotate_left 2
      ·go_simp
       constructor
       ·rfl
       ·rfl
      clear hcv11
      refine hK.out _ _ trivial (fun hHeld=>?_)
      clear hK K
      refine no 18 ?_
      refine ot 2 (some 12) (fl 11 511) HT_ (fun K hK=>?_)
      refine goes_ Tryd.func41 (by kernel_rfl) rfl #[.int .i64 (wrap64 (Int.tdiv a0 10))] (by rfl) rfl rfl (by (try simp only [List.map_toArray,List.map_cons,List.map_nil]);first|done|rfl|(simp only [List.length_drop,List.length_take];rfl)) ?_
      with_reducible refine (ih k (by omega) (wrap64 (Int.tdiv a0 10)) t161 _ A6.out).mono ?_
      rintro e w12 ⟨rfl,hb⟩
      refine ⟨_,rfl,?_⟩
      have n0_:=Aside0.mk (Kd.R_below ((rR HO164)) hb)
      have n1_:=bs hb
      clear HO164
      clear HB
      have HO164:=n0_
      have HB:=n1_
      clear n0_ n1_
      (try clear hb)
      (try clear hb2)
      (try clear hk)
      (try clear hi)
      refine hK.out _ _ trivial (fun hHeld=>?_)
      clear hK K
      refine no 12 ?_
      exact norm_ (by simp only [putAll,Act.put,List.setIfInBounds_toArray,List.set_cons_zero,List.set_cons_succ]) (hCont (v163) _ ⟨(rR HO164),be⟩)
   rintro v163 w13 ⟨h0_,h1_⟩
   have n0_:Aside0 (Kd.R (Kd.int .u8) 5 w13 w.heap.size (fun _=>True) v163 y162):=⟨h0_⟩
   have n1_:Aside0 (Below w.heap.size w w13):=⟨h1_⟩
   clear HB
   clear h0_ h1_
   have HO164:=n0_
   have HB:=n1_
   clear n0_ n1_
   have hHeld:=trivial
   refine norm_ (a':=?_) ?_ ?_
   rotate_left
   ·simp only [putAll,Act.put,List.setIfInBounds_toArray,List.set_cons_zero,List.set_cons_succ]
    rfl
   refine pt 9 19 (fl 11 1023) HT_ ?_
   refine pt 10 2 (fl 11 2047) HT_ ?_
   refine done_ (done_of HT_.out (by kernel_rfl)) ?_
   try go_wp2
   go_ret
   exact ⟨rz,be⟩
  ·rw [if_neg c7] at H
   exact absurd H (by simp)
end Go.Proofs.YtnoglmdicdpabaaDoor.PFnStampsRead
