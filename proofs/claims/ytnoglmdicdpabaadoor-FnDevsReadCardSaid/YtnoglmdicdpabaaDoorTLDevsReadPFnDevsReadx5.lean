/- Trimmed by a program of this session (trim.py). Not trusted: Lean checks it. -/
import Derived.Test.YtnoglmdicdpabaaDoorTLDevsReadPFnDevsReadx0
import Derived.Test.YtnoglmdicdpabaaDoorTLDevsReadPFnDevsReadx2
import Derived.Test.YtnoglmdicdpabaaDoorTLDevsReadPFnDevsReadx4
namespace Go.Proofs.YtnoglmdicdpabaaDoor.PFnDevsRead
open Go.RowKit Go.Proofs.YtnoglmdicdpabaaDoorW.PrintWords Go.Proofs.YtnoglmdicdpabaaDoorW.PrintLast Go.Proofs.YtnoglmdicdpabaaDoorW.PrintMore Go.Proofs.YtnoglmdicdpabaaDoor.St
attribute [local go_sem] max2_int min2_int max_two min_two max_three min_three max_four min_four
set_option linter.unusedVariables false
set_option linter.unusedSimpArgs false
def impl_ParseDevs.l0:Nat→ByteArray→List (S53)→List ByteArray→Int→Int→Option ((List (S53)) × Bool)
 | 0,_,_,_,_,_=>none
 | k+1,x0,x4,x11,x12,x13=>if x13 < x12 then (if 0≤x13 then (if x13 < (x11.length:Int) then ((impl_numbersOf.f k (rdOf ByteArray.empty x11 x13) (⟨#[58]⟩:ByteArray) 3).bind fun bt177=>(if bt177.2=true then (if (x4.length:Int) ≥ 12 then (some (([]:List (S53)),false)) else (if 0 < (bt177.1.length:Int) then (if 1 < (bt177.1.length:Int) then (if 2 < (bt177.1.length:Int) then (if x4.length < 5864062014805 then (impl_ParseDevs.l0 k x0 (x4 ++ [(⟨rd bt177.1 0,rd bt177.1 1,rd bt177.1 2⟩:S53)]) x11 x12 (wrap64 (x13+1))) else (none)) else (none)) else (none)) else (none))) else (some (([]:List (S53)),false)))) else (none)) else (none)) else ((impl_DevsText.f k x4).bind fun t187=>(if t187.toList=([]:List UInt8) then (some (([]:List (S53)),false)) else (if t187.toList=x0.toList then (some (x4,true)) else (some (([]:List (S53)),false)))))
def impl_ParseDevs.f (k:Nat) (a0:ByteArray):Option ((List (S53)) × Bool):=(strings_Split.f a0 (⟨#[32]⟩:ByteArray)).bind fun t173=>(impl_ParseDevs.l0 k a0 ([]:List (S53)) t173 (t173.length:Int) 0)
def impl_ParseDevs.T8:Bool × List (List Nat × List Nat):=(true,[([],[]),([],[]),([1],[1]),([2],[2]),([],[]),([4],[4]),([5],[5]),([],[]),([7],[7]),([8],[8]),([3,6,9],[3,6,9]),([10],[10]),([0,11],[0,11]),([12,12,0,1,2,3,4,5,6,7,8,9,10,11,12],[0,12])])
def impl_ParseDevs.B8:List Nat:=[0,0,2,6,0,16,48,0,128,384,1022,2046,4095,8191]
theorem impl_ParseDevs.tab8:rtab .any (opsOf Tryd.f30 8)=impl_ParseDevs.T8:=by kernel_rfl
theorem impl_ParseDevs.bits8:waitsOk impl_ParseDevs.T8.2 impl_ParseDevs.B8=true:=by kernel_rfl
set_option maxHeartbeats 8000000 in
set_option maxRecDepth 100000 in
theorem impl_ParseDevs.calls (k:Nat) (a0:ByteArray) (r1:List (S53)) (r2:Bool) (w:World) (hL:Aside0 (Laid w)) (h:impl_ParseDevs.f k a0=some (r1,r2)) :
  Calls Tryd.prog 30 #[.string a0] w fun e w'=>∃ v0_:Value,e = .returned (.tuple #[v0_,.bool r2])∧Kd.R k53 53 w' w.heap.size (fun _=>True) v0_ r1∧Below w.heap.size w w':=by
 have hu53:=Tryd.underlying53
 have HB:=Aside0.mk (Below.refl w.heap.size w)
 have H:((strings_Split.f a0 (⟨#[32]⟩:ByteArray)).bind fun t173=>(impl_ParseDevs.l0 k a0 ([]:List (S53)) t173 (t173.length:Int) 0))=some (r1,r2):=h
 clear h
 replace H:=Option.bind_eq_some_iff.mp H
 obtain ⟨t173,A20,H⟩:=H
 try dsimp only at H
 have A2:=Aside0.mk A20
 clear A20
 have H':=Aside0.mk H
 clear H
 go_enter Tryd.func30,Tryd.ntmps30
 go_wp2_with (first|((with_reducible refine gate_callee (f:=56) rfl ?_);refine goesL_ (some 11) rfl rfl Tryd.func56 (by kernel_rfl) rfl #[.string a0,.string (⟨#[32]⟩:ByteArray)] rfl (by (try simp only [List.map_toArray,List.map_cons,List.map_nil]);first|done|rfl|(simp only [List.length_drop,List.length_take];rfl)) ?_;(with_reducible refine (strings_Split.calls a0 (⟨#[32]⟩:ByteArray) t173 _ ?side1 A2.out).mono ?_);(case side1=>exact lb hL);rintro e w3 ⟨v174,rfl,ho0,hb⟩;refine ⟨_,rfl,?_⟩;have n0_:=Aside0.mk (Kd.R_lower ho0 (below_size be));have n1_:=bs hb;clear HB;have HO175:=n0_;have HB:=n1_;clear n0_ n1_;(try clear hb);(try clear hb2);(try clear hk);(try clear hi);(try clear ho0);obtain ⟨Ao4,co4,eo4⟩:=Kd.R_slice HO175.out;subst eo4))
 go_loopg [4,13] k (fun kq v4 v13 w'=>∃ (x4_1:List (S53)) (x13_1:Int),v13 = .int .i64 x13_1∧Aside0 (impl_ParseDevs.l0 kq a0 x4_1 t173 (t173.length:Int) x13_1=some (r1,r2))∧Aside0 (kq≤k)∧Aside0 (Kd.R k53 53 w' w.heap.size (fun _=>True) v4 x4_1)∧Aside0 (Kd.R Kd.string 9 w' w.heap.size (fun _=>True) (.slice Ao4 t173.length co4) t173)∧Aside0 (Below w.heap.size w w'))
 case atStart=>exact ⟨(([]:List (S53))),(0),rd_,H',⟨Nat.le_refl _⟩,⟨by first|exact Kd.R_nil _ _ _ _ _|exact Kd.N_nil _ _ _ _ _|exact Kd.V_nil _ _ _ _ _|exact Kd.Q_nil _ _ _ _ _|exact Kd.S_nil _ _ _ _ _⟩,⟨rR HO175⟩,⟨be⟩⟩
 case round=>
  clear H'
  try clear p2
  try clear c3
  obtain ⟨x4_1,x13_1,rfl,HA,HK1,HO_4,HO_11,HB⟩:=hrel
  cases gk with
  | zero=>exact absurd HA.out (by simp [impl_ParseDevs.l0])
  | succ k1=>
   have H:=HA.out
   clear HA
   simp only [impl_ParseDevs.l0] at H
   by_cases c5:x13_1 < (t173.length:Int)
   ·rw [if_pos c5] at H
    have c5b0:decide (x13_1 < (t173.length:Int))=true:=decide_eq_true c5
    clear c5
    by_cases c6:0≤x13_1
    ·rw [if_pos c6] at H
     have c6b0:decide (0≤x13_1)=true:=decide_eq_true c6
     clear c6
     by_cases c7:x13_1 < (t173.length:Int)
     ·rw [if_pos c7] at H
      have c7b0:decide (x13_1 < (t173.length:Int))=true:=decide_eq_true c7
      clear c7
      replace H:=Option.bind_eq_some_iff.mp H
      obtain ⟨⟨t177,t178⟩,A80,H⟩:=H
      try dsimp only at H
      have A8:=Aside0.mk A80
      clear A80
      by_cases c9:t178=true
      ·subst c9
       rw [if_pos rfl] at H
       by_cases c10:(x4_1.length:Int) ≥ 12
       ·rw [if_pos c10] at H
        have c10b0:decide (12≤(x4_1.length:Int))=true:=decide_eq_true c10
        have c10b1:decide (12≤x4_1.length)=true:=decide_eq_true (by omega)
        clear c10
        simp only [Option.some.injEq,Prod.mk.injEq] at H
        obtain ⟨rfl,rfl⟩:=H
        have p176:0≤(x13_1:Int):=of_decide_eq_true (by first|(with_reducible assumption)|assumption)
        have q176:x13_1 < (t173.length:Int):=of_decide_eq_true (by first|(with_reducible assumption)|assumption)
        obtain ⟨ad176,e176,hx176_0⟩:=Kd.at_string (Kd.R_reads' HO_11.out).2.2 x13_1 p176 q176
        cases e176
        replace p176:=eq_true p176
        replace q176:=eq_true q176
        go_wp2_with (first|((with_reducible refine gate_callee (f:=48) rfl ?_);refine goesL_ (some 19) rfl rfl Tryd.func48 (by kernel_rfl) rfl #[.string (rdOf ByteArray.empty t173 x13_1),.string (⟨#[58]⟩:ByteArray),.int .i64 3] rfl (by (try simp only [List.map_toArray,List.map_cons,List.map_nil]);first|done|rfl|(simp only [List.length_drop,List.length_take];rfl)) ?_;(with_reducible refine (impl_numbersOf.calls k1 (rdOf ByteArray.empty t173 x13_1) (⟨#[58]⟩:ByteArray) 3 t177 true _ ?side1 A8.out).mono ?_);(case side1=>exact lb hL);rintro e w11 ⟨v179,rfl,ho0,hb⟩;refine ⟨_,rfl,?_⟩;have n0_:=Aside0.mk (Kd.R_below ((rR HO_4)) hb);have n1_:=Aside0.mk (Kd.R_below ((rR HO_11)) hb);have n2_:=Aside0.mk (Kd.R_lower ho0 (below_size be));have n3_:=bs hb;clear HO_4;clear HO_11;clear HB;have HO_4:=n0_;have HO_11:=n1_;have HO180:=n2_;have HB:=n3_;clear n0_ n1_ n2_ n3_;(try clear hb);(try clear hb2);(try clear hk);(try clear hi);(try clear ho0);obtain ⟨Ao12,co12,eo12⟩:=Kd.R_slice HO_4.out;subst eo12))
        go_ret2
        exact ⟨_,rz,by first|exact Kd.R_nil _ _ _ _ _|exact Kd.N_nil _ _ _ _ _|exact Kd.V_nil _ _ _ _ _|exact Kd.Q_nil _ _ _ _ _|exact Kd.S_nil _ _ _ _ _,be⟩
       ·rw [if_neg c10] at H
        have c10b0:decide (12≤(x4_1.length:Int))=false:=decide_eq_false c10
        have c10b1:decide (12≤x4_1.length)=false:=decide_eq_false (by omega)
        clear c10
        by_cases c13:0 < (t177.length:Int)
        ·rw [if_pos c13] at H
         have c13b0:decide (0 < (t177.length:Int))=true:=decide_eq_true c13
         have c13b1:decide (0 < t177.length)=true:=decide_eq_true (by omega)
         clear c13
         by_cases c14:1 < (t177.length:Int)
         ·rw [if_pos c14] at H
          have c14b0:decide (1 < (t177.length:Int))=true:=decide_eq_true c14
          have c14b1:decide (1 < t177.length)=true:=decide_eq_true (by omega)
          clear c14
          by_cases c15:2 < (t177.length:Int)
          ·rw [if_pos c15] at H
           have c15b0:decide (2 < (t177.length:Int))=true:=decide_eq_true c15
           have c15b1:decide (2 < t177.length)=true:=decide_eq_true (by omega)
           clear c15
           by_cases c16:x4_1.length < 5864062014805
           ·rw [if_pos c16] at H
            have LMc16:=Aside0.mk c16
            clear c16
            obtain ⟨y184,hy184⟩ : ∃ y_:List (S53),y_=(x4_1 ++ [(⟨rd t177 0,rd t177 1,rd t177 2⟩:S53)]):=⟨_,rfl⟩
            replace H:(impl_ParseDevs.l0 k1 a0 y184 t173 (t173.length:Int) (wrap64 (x13_1+1)))=some (r1,r2):=by first|(rw [hy184];with_reducible exact H)|(have H2_:=(Option.bind_some _ _).symm.trans H;rw [hy184];with_reducible exact H2_)|(have H2_:=(Option.bind_some _ _).symm.trans H;with_reducible exact H2_)|with_reducible exact H|(rw [hy184];exact H)|exact H
            have Ny184:=Aside0.mk hy184
            clear hy184
            have H':=Aside0.mk H
            clear H
            have p176:0≤(x13_1:Int):=of_decide_eq_true (by first|(with_reducible assumption)|assumption)
            have q176:x13_1 < (t173.length:Int):=of_decide_eq_true (by first|(with_reducible assumption)|assumption)
            obtain ⟨ad176,e176,hx176_0⟩:=Kd.at_string (Kd.R_reads' HO_11.out).2.2 x13_1 p176 q176
            cases e176
            replace p176:=eq_true p176
            replace q176:=eq_true q176
            try go_wp2_with (first|((with_reducible refine gate_callee (f:=48) rfl ?_);refine goesL_ (some 19) rfl rfl Tryd.func48 (by kernel_rfl) rfl #[.string (rdOf ByteArray.empty t173 x13_1),.string (⟨#[58]⟩:ByteArray),.int .i64 3] rfl (by (try simp only [List.map_toArray,List.map_cons,List.map_nil]);first|done|rfl|(simp only [List.length_drop,List.length_take];rfl)) ?_;(with_reducible refine (impl_numbersOf.calls k1 (rdOf ByteArray.empty t173 x13_1) (⟨#[58]⟩:ByteArray) 3 t177 true _ ?side1 A8.out).mono ?_);(case side1=>exact lb hL);rintro e w17 ⟨v179,rfl,ho0,hb⟩;refine ⟨_,rfl,?_⟩;have n0_:=Aside0.mk (Kd.R_below ((rR HO_4)) hb);have n1_:=Aside0.mk (Kd.R_below ((rR HO_11)) hb);have n2_:=Aside0.mk (Kd.R_lower ho0 (below_size be));have n3_:=bs hb;clear HO_4;clear HO_11;clear HB;have HO_4:=n0_;have HO_11:=n1_;have HO180:=n2_;have HB:=n3_;clear n0_ n1_ n2_ n3_;(try clear hb);(try clear hb2);(try clear hk);(try clear hi);(try clear ho0);obtain ⟨Ao18,co18,eo18⟩:=Kd.R_slice HO_4.out;subst eo18))
            have n0_:=Aside0.mk (Kd.R_drew HO_4.out)
            have n1_:=Aside0.mk (Kd.R_drew HO_11.out)
            have n2_:=Aside0.mk (Kd.R_drew HO180.out)
            have n3_:=Aside0.mk (below_drew1 HB.out)
            clear HO_4
            clear HO_11
            clear HO180
            clear HB
            have HO_4:=n0_
            have HO_11:=n1_
            have HO180:=n2_
            have HB:=n3_
            clear n0_ n1_ n2_ n3_
            obtain ⟨Ao20,co20,eo20⟩:=Kd.R_slice HO180.out
            (first|subst eo20|(injection eo20 with f1_ f2_ f3_;have f4_:=f1_.symm;have f5_:=f3_.symm;clear f1_ f2_ f3_;subst f4_;subst f5_))
            have p181:0≤(0:Int):=(by omega)
            have q181:0 < (t177.length:Int):=of_decide_eq_true (by first|(with_reducible assumption)|assumption)
            obtain ⟨ad181,e181,hx181_0⟩:=Kd.at_int (Kd.R_reads' HO180.out).2.2 0 p181 q181
            cases e181
            have qi181:(0 < t177.length)=True:=eq_true (by omega)
            (try rw [show ((0:Int)).toNat=0 from rfl] at hx181_0)
            (try rw [Addr.add_zero'] at hx181_0)
            replace p181:=eq_true p181
            replace q181:=eq_true q181
            have p182:0≤(1:Int):=(by omega)
            have q182:1 < (t177.length:Int):=of_decide_eq_true (by first|(with_reducible assumption)|assumption)
            obtain ⟨ad182,e182,hx182_0⟩:=Kd.at_int (Kd.R_reads' HO180.out).2.2 1 p182 q182
            obtain rfl:ad181=ad182:=(by injection e182)
            (try simp only [show (1:Int).toNat=1 from rfl,Nat.reduceMul,Nat.reduceEqDiff,Go.Addr.add,↓reduceIte] at hx182_0)
            have qi182:(1 < t177.length)=True:=eq_true (by omega)
            (try rw [show ((1:Int)).toNat=1 from rfl] at hx182_0)
            replace p182:=eq_true p182
            replace q182:=eq_true q182
            have p183:0≤(2:Int):=(by omega)
            have q183:2 < (t177.length:Int):=of_decide_eq_true (by first|(with_reducible assumption)|assumption)
            obtain ⟨ad183,e183,hx183_0⟩:=Kd.at_int (Kd.R_reads' HO180.out).2.2 2 p183 q183
            obtain rfl:ad181=ad183:=(by injection e183)
            (try simp only [show (2:Int).toNat=2 from rfl,Nat.reduceMul,Nat.reduceEqDiff,Go.Addr.add,↓reduceIte] at hx183_0)
            have qi183:(2 < t177.length)=True:=eq_true (by omega)
            (try rw [show ((2:Int)).toNat=2 from rfl] at hx183_0)
            replace p183:=eq_true p183
            replace q183:=eq_true q183
            refine start_ (n:=14) (S:=fun w'=>w'.cell? ad181=some (.int .i64 (rd t177 0))∧w'.cell? ⟨ad181.block,ad181.off+1,none⟩=some (.int .i64 (rd t177 1))∧w'.cell? ⟨ad181.block,ad181.off+2,none⟩=some (.int .i64 (rd t177 2))) (ds:=[11,12]) (fl 14 0) (by kernel_rfl) rfl rfl ⟨hx181_0,hx182_0,hx183_0⟩ (fun hHeld=>?_);refine with_tabW impl_ParseDevs.tab8 impl_ParseDevs.bits8 (fun HT_ HW_=>?_)
            generalize w17.drew=w19 at HO_4 HO_11 HO180 HB hx181_0 hx182_0 hx183_0 hHeld ⊢
            refine pt 0 29 (fl 14 1) HT_ ?_
            refine pt 1 30 (fl 14 3) HT_ ?_
            refine pt 2 31 (fl 14 7) HT_ ?_
            refine pt 4 33 (fl 14 23) HT_ ?_
            refine pt 5 34 (fl 14 55) HT_ ?_
            refine pt 7 36 (fl 14 183) HT_ ?_
            refine pt 8 37 (fl 14 439) HT_ ?_
            refine tt 3 32 (fl 14 447) HT_ HW_ hHeld ?_
            refine tt 6 35 (fl 14 511) HT_ HW_ hHeld ?_
            refine tt 9 38 (fl 14 1023) HT_ HW_ hHeld ?_
            refine pt 10 39 (fl 14 2047) HT_ ?_
            refine last_ (i:=11) (N:=some 40) (fl 14 4095) rfl rfl (one_of HT_.out (by kernel_rfl)) (by decide) (fun K hK=>?_)
            refine value_ (w1:=?_) (v:=?_) (by rfl) rfl ?_ ?_
            rotate_left 2
            ·go_simp
             constructor
             ·rfl
             ·rfl
            refine hK.out _ _ ?_
            clear hK K
            refine no 40 ?_
            refine last_ (i:=12) (N:=some 41) (fl 14 8191) rfl rfl (one_of HT_.out (by kernel_rfl)) (by decide) (fun K hK=>?_)
            refine Kd.R_append_step k53 (w0:=w) w.heap.size (by rfl) (.tmp 29) (.tmp 40) 31 53 (.agg #[(.int .i64 0),(.int .i64 0),(.int .i64 0)]) 24 rfl Tryd.underlying31 info53 rfl (by decide) (by omega) (.slice Ao18 x4_1.length co18) x4_1 (⟨rd t177 0,rd t177 1,rd t177 2⟩:S53) [.int .i64 (rd t177 0),.int .i64 (rd t177 1),.int .i64 (rd t177 2)] (fun _=>True) (fun _=>False) rfl rfl ?aP (fun _ hk=>hk.elim) ?aF ?aO ?aB ?aS ?aL ?_
            (case aP=>exact k53_mkM _ _ _ (⟨rd t177 0,rd t177 1,rd t177 2⟩:S53))
            (case aB=>exact be)
            (case aF=>exact (fun _ _=>trivial))
            (case aO=>exact (rR HO_4))
            (case aS=>exact (below_size be))
            (case aL=>have:=LMc16.out;omega)
            intro v185 w21 ho hb hg hat
            rw [← Ny184.out] at ho
            have n0_:=Aside0.mk (Kd.R_over' (rR HO_11) (Kd.R_typed (rR HO_4)) (by decide) hg)
            have n1_:=Aside0.mk (Kd.R_over' (rR HO180) (Kd.R_typed (rR HO_4)) (by decide) hg)
            have n2_:=Aside0.mk (hb)
            have n3_:=Aside0.mk (ho)
            clear HO_11
            clear HO180
            clear HB
            clear HO_4
            have HO_11:=n0_
            have HO180:=n1_
            have HB:=n2_
            have HO186:=n3_
            clear n0_ n1_ n2_ n3_
            clear ho hb hg hat
            refine hK.out _ _ ?_
            clear hK K
            refine no 41 ?_
            refine pt 13 4 (fl 14 16383) HT_ ?_
            refine done_ (done_of HT_.out (by kernel_rfl)) ?_
            try go_wp2
            go_roundg k1
            case measure=>have:=HK1.out;omega
            case rel=>exact ⟨(y184),(wrap64 (x13_1+1)),rd_,H',⟨by have:=HK1.out;omega⟩,⟨rR HO186⟩,⟨rR HO_11⟩,⟨be⟩⟩
           ·rw [if_neg c16] at H
            exact absurd H (by simp)
          ·rw [if_neg c15] at H
           exact absurd H (by simp)
         ·rw [if_neg c14] at H
          exact absurd H (by simp)
        ·rw [if_neg c13] at H
         exact absurd H (by simp)
      ·replace c9:=Bool.eq_false_iff.mpr c9
       subst c9
       have H1:(some (([]:List (S53)),false))=some (r1,r2):=by rw [if_neg (show ¬ (false=true) by decide)] at H;exact H
       clear H
       have H:=H1
       clear H1
       simp only [Option.some.injEq,Prod.mk.injEq] at H
       obtain ⟨rfl,rfl⟩:=H
       have p176:0≤(x13_1:Int):=of_decide_eq_true (by first|(with_reducible assumption)|assumption)
       have q176:x13_1 < (t173.length:Int):=of_decide_eq_true (by first|(with_reducible assumption)|assumption)
       obtain ⟨ad176,e176,hx176_0⟩:=Kd.at_string (Kd.R_reads' HO_11.out).2.2 x13_1 p176 q176
       cases e176
       replace p176:=eq_true p176
       replace q176:=eq_true q176
       go_wp2_with (first|((with_reducible refine gate_callee (f:=48) rfl ?_);refine goesL_ (some 19) rfl rfl Tryd.func48 (by kernel_rfl) rfl #[.string (rdOf ByteArray.empty t173 x13_1),.string (⟨#[58]⟩:ByteArray),.int .i64 3] rfl (by (try simp only [List.map_toArray,List.map_cons,List.map_nil]);first|done|rfl|(simp only [List.length_drop,List.length_take];rfl)) ?_;(with_reducible refine (impl_numbersOf.calls k1 (rdOf ByteArray.empty t173 x13_1) (⟨#[58]⟩:ByteArray) 3 t177 false _ ?side1 A8.out).mono ?_);(case side1=>exact lb hL);rintro e w22 ⟨v179,rfl,ho0,hb⟩;refine ⟨_,rfl,?_⟩;have n0_:=Aside0.mk (Kd.R_below ((rR HO_4)) hb);have n1_:=Aside0.mk (Kd.R_below ((rR HO_11)) hb);have n2_:=Aside0.mk (Kd.R_lower ho0 (below_size be));have n3_:=bs hb;clear HO_4;clear HO_11;clear HB;have HO_4:=n0_;have HO_11:=n1_;have HO180:=n2_;have HB:=n3_;clear n0_ n1_ n2_ n3_;(try clear hb);(try clear hb2);(try clear hk);(try clear hi);(try clear ho0)))
       go_ret2
       exact ⟨_,rz,by first|exact Kd.R_nil _ _ _ _ _|exact Kd.N_nil _ _ _ _ _|exact Kd.V_nil _ _ _ _ _|exact Kd.Q_nil _ _ _ _ _|exact Kd.S_nil _ _ _ _ _,be⟩
     ·rw [if_neg c7] at H
      exact absurd H (by simp)
    ·rw [if_neg c6] at H
     exact absurd H (by simp)
   ·rw [if_neg c5] at H
    have c5b0:decide (x13_1 < (t173.length:Int))=false:=decide_eq_false c5
    clear c5
    replace H:=Option.bind_eq_some_iff.mp H
    obtain ⟨t187,A230,H⟩:=H
    try dsimp only at H
    have A23:=Aside0.mk A230
    clear A230
    by_cases c24:t187.toList=([]:List UInt8)
    ·rw [if_pos c24] at H
     have c24b0:(t187.toList == ([]:List UInt8))=true:=beq_iff_eq.mpr c24
     have c24b1:(t187.toList != ([]:List UInt8))=false:=bne_eq_false_iff_eq.mpr c24
     clear c24
     simp only [Option.some.injEq,Prod.mk.injEq] at H
     obtain ⟨rfl,rfl⟩:=H
     obtain ⟨Ao25,co25,eo25⟩:=Kd.R_slice HO_4.out
     subst eo25
     go_wp2_with (first|((with_reducible refine gate_callee (f:=17) rfl ?_);refine goesL_ (some 44) rfl rfl Tryd.func17 (by kernel_rfl) rfl #[.slice Ao25 x4_1.length co25] rfl (by (try simp only [List.map_toArray,List.map_cons,List.map_nil]);first|done|rfl|(simp only [List.length_drop,List.length_take];rfl)) ?_;(with_reducible refine (impl_DevsText.calls k1 _ _ x4_1 t187 _ ?side3 ?side1 ?side2 A23.out).mono ?_);(case side1=>exact sR HO_4);(case side2=>exact (Kd.R_reads' HO_4.out).2.1);(case side3=>exact lb hL);rintro e w26 ⟨rfl,hb⟩;refine ⟨_,rfl,?_⟩;have n0_:=Aside0.mk (Kd.R_below ((rR HO_4)) hb);have n1_:=Aside0.mk (Kd.R_below ((rR HO_11)) hb);have n2_:=bs hb;clear HO_4;clear HO_11;clear HB;have HO_4:=n0_;have HO_11:=n1_;have HB:=n2_;clear n0_ n1_ n2_;(try clear hb);(try clear hb2);(try clear hk);(try clear hi)))
     go_ret2
     exact ⟨_,rz,by first|exact Kd.R_nil _ _ _ _ _|exact Kd.N_nil _ _ _ _ _|exact Kd.V_nil _ _ _ _ _|exact Kd.Q_nil _ _ _ _ _|exact Kd.S_nil _ _ _ _ _,be⟩
    ·rw [if_neg c24] at H
     have c24b0:(t187.toList == ([]:List UInt8))=false:=beq_eq_false_iff_ne.mpr c24
     have c24b1:(t187.toList != ([]:List UInt8))=true:=bne_iff_ne.mpr c24
     by_cases c27:t187.toList=a0.toList
     ·rw [if_pos c27] at H
      have c27b0:(t187.toList == a0.toList)=true:=beq_iff_eq.mpr c27
      have c27b1:(t187.toList != a0.toList)=false:=bne_eq_false_iff_eq.mpr c27
      clear c27
      simp only [Option.some.injEq,Prod.mk.injEq] at H
      obtain ⟨rfl,rfl⟩:=H
      obtain ⟨Ao28,co28,eo28⟩:=Kd.R_slice HO_4.out
      subst eo28
      go_wp2_with (first|((with_reducible refine gate_callee (f:=17) rfl ?_);refine goesL_ (some 44) rfl rfl Tryd.func17 (by kernel_rfl) rfl #[.slice Ao28 x4_1.length co28] rfl (by (try simp only [List.map_toArray,List.map_cons,List.map_nil]);first|done|rfl|(simp only [List.length_drop,List.length_take];rfl)) ?_;(with_reducible refine (impl_DevsText.calls k1 _ _ x4_1 t187 _ ?side3 ?side1 ?side2 A23.out).mono ?_);(case side1=>exact sR HO_4);(case side2=>exact (Kd.R_reads' HO_4.out).2.1);(case side3=>exact lb hL);rintro e w29 ⟨rfl,hb⟩;refine ⟨_,rfl,?_⟩;have n0_:=Aside0.mk (Kd.R_below ((rR HO_4)) hb);have n1_:=Aside0.mk (Kd.R_below ((rR HO_11)) hb);have n2_:=bs hb;clear HO_4;clear HO_11;clear HB;have HO_4:=n0_;have HO_11:=n1_;have HB:=n2_;clear n0_ n1_ n2_;(try clear hb);(try clear hb2);(try clear hk);(try clear hi)))
      go_ret2
      exact ⟨_,rz,rR HO_4,be⟩
     ·rw [if_neg c27] at H
      have c27b0:(t187.toList == a0.toList)=false:=beq_eq_false_iff_ne.mpr c27
      have c27b1:(t187.toList != a0.toList)=true:=bne_iff_ne.mpr c27
      simp only [Option.some.injEq,Prod.mk.injEq] at H
      obtain ⟨rfl,rfl⟩:=H
      obtain ⟨Ao30,co30,eo30⟩:=Kd.R_slice HO_4.out
      subst eo30
      go_wp2_with (first|((with_reducible refine gate_callee (f:=17) rfl ?_);refine goesL_ (some 44) rfl rfl Tryd.func17 (by kernel_rfl) rfl #[.slice Ao30 x4_1.length co30] rfl (by (try simp only [List.map_toArray,List.map_cons,List.map_nil]);first|done|rfl|(simp only [List.length_drop,List.length_take];rfl)) ?_;(with_reducible refine (impl_DevsText.calls k1 _ _ x4_1 t187 _ ?side3 ?side1 ?side2 A23.out).mono ?_);(case side1=>exact sR HO_4);(case side2=>exact (Kd.R_reads' HO_4.out).2.1);(case side3=>exact lb hL);rintro e w31 ⟨rfl,hb⟩;refine ⟨_,rfl,?_⟩;have n0_:=Aside0.mk (Kd.R_below ((rR HO_4)) hb);have n1_:=Aside0.mk (Kd.R_below ((rR HO_11)) hb);have n2_:=bs hb;clear HO_4;clear HO_11;clear HB;have HO_4:=n0_;have HO_11:=n1_;have HB:=n2_;clear n0_ n1_ n2_;(try clear hb);(try clear hb2);(try clear hk);(try clear hi)))
      go_ret2
      exact ⟨_,rz,by first|exact Kd.R_nil _ _ _ _ _|exact Kd.N_nil _ _ _ _ _|exact Kd.V_nil _ _ _ _ _|exact Kd.Q_nil _ _ _ _ _|exact Kd.S_nil _ _ _ _ _,be⟩
def spec_l2Text.f:Nat→Int→Option (ByteArray)
 | 0,_=>none
 | k+1,a0=>if a0 < 10 then (some (strOfNums (([(wrap64 (48+a0)) % 256]:List Int)))) else ((spec_l2Text.f k (wrap64 (Int.tdiv a0 10))).bind fun t191=>((some (([(wrap64 (48+(Int.tmod a0 10))) % 256]:List Int):List Int)).bind fun y192=>(if t191.size+(strOfNums y192).size≤9223372036854775807 then (some (t191 ++ (strOfNums y192))) else (none))))
def spec_l2Text.T3:Bool × List (List Nat × List Nat):=(true,[([],[]),([0],[0]),([1],[1]),([],[]),([3],[3]),([4],[4]),([5],[5]),([6],[6]),([7],[7]),([2,8],[2,8]),([9,2,0,1,2,3,4,5,6,7,8,9],[9])])
def spec_l2Text.B3:List Nat:=[0,1,3,0,8,24,56,120,248,511,1023]
theorem spec_l2Text.tab3:rtab .any (opsOf Tryd.f41 3)=spec_l2Text.T3:=by kernel_rfl
theorem spec_l2Text.bits3:waitsOk spec_l2Text.T3.2 spec_l2Text.B3=true:=by kernel_rfl
set_option maxHeartbeats 8000000 in
set_option maxRecDepth 100000 in
theorem spec_l2Text.calls (k:Nat) : ∀ (a0:Int) (r:ByteArray) (w:World) (h:spec_l2Text.f k a0=some r),
  Calls Tryd.prog 41 #[.int .i64 a0] w fun e w'=>e = .returned (.string r)∧Below w.heap.size w w':=by
 induction k using Nat.strongRecOn with
 | _ k ih=>
 intro a0 r w h
 cases k with
 | zero=>exact absurd h (by simp [spec_l2Text.f])
 | succ k=>
 simp only [spec_l2Text.f] at h
 have HB:=Aside0.mk (Below.refl w.heap.size w)
 have H:(if a0 < 10 then (some (strOfNums (([(wrap64 (48+a0)) % 256]:List Int)))) else ((spec_l2Text.f k (wrap64 (Int.tdiv a0 10))).bind fun t191=>((some (([(wrap64 (48+(Int.tmod a0 10))) % 256]:List Int):List Int)).bind fun y192=>(if t191.size+(strOfNums y192).size≤9223372036854775807 then (some (t191 ++ (strOfNums y192))) else (none)))))=some r:=h
 clear h
 by_cases c2:a0 < 10
 ·rw [if_pos c2] at H
  have c2b0:decide (a0 < 10)=true:=decide_eq_true c2
  clear c2
  obtain ⟨y188,hy188⟩ : ∃ y_:List Int,y_=(([(wrap64 (48+a0)) % 256]:List Int)):=⟨_,rfl⟩
  replace H:(some (strOfNums y188))=some r:=by first|(rw [hy188];with_reducible exact H)|(have H2_:=(Option.bind_some _ _).symm.trans H;rw [hy188];with_reducible exact H2_)|(have H2_:=(Option.bind_some _ _).symm.trans H;with_reducible exact H2_)|with_reducible exact H|(rw [hy188];exact H)|exact H
  have Ny188:=Aside0.mk hy188
  clear hy188
  obtain rfl:=Option.some.inj H
  go_enter Tryd.func41,Tryd.ntmps41
  go_wp2_with (first|((with_reducible refine gate_dst (N:=8) rfl ?_);refine Kd.R_lit (Kd.int .u8) _ 5 ?hg (N:=8) ?hd (xs:=([(wrap64 (48+a0)) % 256]:List Int)) (inner:=[.int .u8 ((wrap64 (48+a0)) % 256)]) (ok:=fun _=>True) (okp:=fun _=>True) ?hr ?hp (fun _ hk=>hk) trivial (Below.refl _ _) (Nat.le_refl _) (by simp) ?_;(case hd=>rfl);(case hg=>rfl);(case hr=>first|(go_simp;done)|(go_simp;rfl));(case hp=>exact (Reps.one (show Kd.M (Kd.int .u8) _ _ _ ((wrap64 (48+a0)) % 256) [.int .u8 ((wrap64 (48+a0)) % 256)] from rfl) (Reps.none _ _)));intro v189 w3 ho4 hb hg_ hnew_;clear hg_ hnew_;(first|rw [← Ny188.out] at ho4|(simp only [Int.reduceToNat] at ho4;rw [← Ny188.out] at ho4));have n0_:=Aside0.mk (Kd.R_lower ho4 (below_size be));have n1_:=bs hb;clear HB;have HO190:=n0_;have HB:=n1_;clear n0_ n1_;clear hb ho4;have hcv5:=own_string (P:=Tryd.prog) Tryd.underlying39 Tryd.underlying5 Tryd.underlying9 (Kd.own_of_R HO190.out)))
  go_ret
  exact ⟨rz,be⟩
 ·rw [if_neg c2] at H
  have c2b0:decide (a0 < 10)=false:=decide_eq_false c2
  clear c2
  replace H:=Option.bind_eq_some_iff.mp H
  obtain ⟨t191,A60,H⟩:=H
  try dsimp only at H
  have A6:=Aside0.mk A60
  clear A60
  obtain ⟨y192,hy192⟩ : ∃ y_:List Int,y_=(([(wrap64 (48+(Int.tmod a0 10))) % 256]:List Int)):=⟨_,rfl⟩
  replace H:(if t191.size+(strOfNums y192).size≤9223372036854775807 then (some (t191 ++ (strOfNums y192))) else (none))=some r:=by first|(rw [hy192];with_reducible exact H)|(have H2_:=(Option.bind_some _ _).symm.trans H;rw [hy192];with_reducible exact H2_)|(have H2_:=(Option.bind_some _ _).symm.trans H;with_reducible exact H2_)|with_reducible exact H|(rw [hy192];exact H)|exact H
  have Ny192:=Aside0.mk hy192
  clear hy192
  by_cases c7:t191.size+(strOfNums y192).size≤9223372036854775807
  ·rw [if_pos c7] at H
   have c7b0:=eq_true c7
   have c7b1:decide (t191.size+(strOfNums y192).size≤9223372036854775807)=true:=decide_eq_true c7
   try have c7b2:(9223372036854775807 < t191.size+(strOfNums y192).size)=False:=eq_false (Nat.not_lt.2 c7)
   obtain rfl:=Option.some.inj H
   go_enter Tryd.func41,Tryd.ntmps41
   try go_wp2
   have n0_:=Aside0.mk (below_drew1 HB.out)
   clear HB
   have HB:=n0_
   clear n0_
   refine start_ (n:=11) (S:=fun w'=>True) (ds:=[]) (fl 11 0) (by kernel_rfl) rfl rfl trivial (fun hHeld=>?_);refine with_tabW spec_l2Text.tab3 spec_l2Text.bits3 (fun HT_ HW_=>?_)
   generalize w.drew=w8 at HB hHeld ⊢
   refine pt 0 10 (fl 11 1) HT_ ?_
   refine pt 1 11 (fl 11 3) HT_ ?_
   refine pt 3 13 (fl 11 11) HT_ ?_
   refine pt 4 14 (fl 11 27) HT_ ?_
   refine pt 5 15 (fl 11 59) HT_ ?_
   refine pt 6 16 (fl 11 123) HT_ ?_
   refine join_ (σ:=Value) 2 (fl 11 511) (fun s_=>[(12,.string t191),(17,s_),(18,.string (strOfNums y192))]) (fun s_ w'=>(Kd.R (Kd.int .u8) 5 w' w.heap.size (fun _=>True) s_ y192)∧(Below w.heap.size w w')) ?_ ?_
   rotate_left
   ·intro hCont
    refine two_ (i:=2) (j:=7) (Ni:=some 12) (Nj:=some 17) (fl 11 127) (fl 11 251) rfl rfl rfl rfl (two_of HT_.out (by kernel_rfl)) (by decide) (by decide) (fun K hK=>?_) (fun K hK=>?_)
    ·skip
     refine goes_ Tryd.func41 (by kernel_rfl) rfl #[.int .i64 (wrap64 (Int.tdiv a0 10))] (by rfl) rfl rfl (by (try simp only [List.map_toArray,List.map_cons,List.map_nil]);first|done|rfl|(simp only [List.length_drop,List.length_take];rfl)) ?_
     with_reducible refine (ih k (by omega) (wrap64 (Int.tdiv a0 10)) t191 _ A6.out).mono ?_
     rintro e w9 ⟨rfl,hb⟩
     refine ⟨_,rfl,?_⟩
     have n0_:=bs hb
     clear HB
     have HB:=n0_
     clear n0_
     (try clear hb)
     (try clear hb2)
     (try clear hk)
     (try clear hi)
     refine hK.out _ _ trivial (fun hHeld=>?_)
     clear hK K
     refine no 12 ?_
     refine ot 7 (some 17) (fl 11 255) HT_ (fun K hK=>?_)
     refine Kd.R_lit_step (Kd.int .u8) _ 5 ?hg (N:=17) ?hd (xs:=([(wrap64 (48+(Int.tmod a0 10))) % 256]:List Int)) (inner:=[.int .u8 ((wrap64 (48+(Int.tmod a0 10))) % 256)]) (ok:=fun _=>True) (okp:=fun _=>True) ?hr ?hp (fun _ hk=>hk) trivial (Below.refl _ _) (Nat.le_refl _) (by simp) ?_;(case hd=>rfl);(case hg=>rfl);(case hr=>first|(go_simp;done)|(go_simp;rfl));(case hp=>exact (Reps.one (show Kd.M (Kd.int .u8) _ _ _ ((wrap64 (48+(Int.tmod a0 10))) % 256) [.int .u8 ((wrap64 (48+(Int.tmod a0 10))) % 256)] from rfl) (Reps.none _ _)))
     intro v193 w10 ho11 hb hg_ hnew_
     clear hg_ hnew_
     (first|rw [← Ny192.out] at ho11|(simp only [Int.reduceToNat] at ho11;rw [← Ny192.out] at ho11))
     have n0_:=Aside0.mk (Kd.R_lower ho11 (below_size be))
     have n1_:=bs hb
     clear HB
     have HO194:=n0_
     have HB:=n1_
     clear n0_ n1_
     clear hb ho11
     refine hK.out _ _ trivial (fun hHeld=>?_)
     clear hK K
     refine no 17 ?_
     refine ot 8 (some 18) (fl 11 511) HT_ (fun K hK=>?_)
     have hcv12:=own_string (P:=Tryd.prog) Tryd.underlying39 Tryd.underlying5 Tryd.underlying9 (Kd.own_of_R HO194.out)
     refine value_ (w1:=?_) (v:=?_) (by rfl) rfl ?_ ?_
     rotate_left 2
     ·go_simp
      constructor
      ·rfl
      ·rfl
     clear hcv12
     refine hK.out _ _ trivial (fun hHeld=>?_)
     clear hK K
     refine no 18 ?_
     exact norm_ (by simp only [putAll,Act.put,List.setIfInBounds_toArray,List.set_cons_zero,List.set_cons_succ]) (hCont (v193) _ ⟨(rR HO194),be⟩)
    ·skip
     refine Kd.R_lit_step (Kd.int .u8) _ 5 ?hg (N:=17) ?hd (xs:=([(wrap64 (48+(Int.tmod a0 10))) % 256]:List Int)) (inner:=[.int .u8 ((wrap64 (48+(Int.tmod a0 10))) % 256)]) (ok:=fun _=>True) (okp:=fun _=>True) ?hr ?hp (fun _ hk=>hk) trivial (Below.refl _ _) (Nat.le_refl _) (by simp) ?_;(case hd=>rfl);(case hg=>rfl);(case hr=>first|(go_simp;done)|(go_simp;rfl));(case hp=>exact (Reps.one (show Kd.M (Kd.int .u8) _ _ _ ((wrap64 (48+(Int.tmod a0 10))) % 256) [.int .u8 ((wrap64 (48+(Int.tmod a0 10))) % 256)] from rfl) (Reps.none _ _)))
     intro v193 w9 ho10 hb hg_ hnew_
     clear hg_ hnew_
     (first|rw [← Ny192.out] at ho10|(simp only [Int.reduceToNat] at ho10;rw [← Ny192.out] at ho10))
     have n0_:=Aside0.mk (Kd.R_lower ho10 (below_size be))
     have n1_:=bs hb
     clear HB
     have HO194:=n0_
     have HB:=n1_
     clear n0_ n1_
     clear hb ho10
     refine hK.out _ _ trivial (fun hHeld=>?_)
     clear hK K
     refine no 17 ?_
     refine two_ (i:=2) (j:=8) (Ni:=some 12) (Nj:=some 18) (fl 11 255) (fl 11 507) rfl rfl rfl rfl (two_of HT_.out (by kernel_rfl)) (by decide) (by decide) (fun K hK=>?_) (fun K hK=>?_)
     ·skip
      refine goes_ Tryd.func41 (by kernel_rfl) rfl #[.int .i64 (wrap64 (Int.tdiv a0 10))] (by rfl) rfl rfl (by (try simp only [List.map_toArray,List.map_cons,List.map_nil]);first|done|rfl|(simp only [List.length_drop,List.length_take];rfl)) ?_
      with_reducible refine (ih k (by omega) (wrap64 (Int.tdiv a0 10)) t191 _ A6.out).mono ?_
      rintro e w11 ⟨rfl,hb⟩
      refine ⟨_,rfl,?_⟩
      have n0_:=Aside0.mk (Kd.R_below ((rR HO194)) hb)
      have n1_:=bs hb
      clear HO194
      clear HB
      have HO194:=n0_
      have HB:=n1_
      clear n0_ n1_
      (try clear hb)
      (try clear hb2)
      (try clear hk)
      (try clear hi)
      refine hK.out _ _ trivial (fun hHeld=>?_)
      clear hK K
      refine no 12 ?_
      refine ot 8 (some 18) (fl 11 511) HT_ (fun K hK=>?_)
      have hcv12:=own_string (P:=Tryd.prog) Tryd.underlying39 Tryd.underlying5 Tryd.underlying9 (Kd.own_of_R HO194.out)
      refine value_ (w1:=?_) (v:=?_) (by rfl) rfl ?_ ?_
      rotate_left 2
      ·go_simp
       constructor
       ·rfl
       ·rfl
      clear hcv12
      refine hK.out _ _ trivial (fun hHeld=>?_)
      clear hK K
      refine no 18 ?_
      exact norm_ (by simp only [putAll,Act.put,List.setIfInBounds_toArray,List.set_cons_zero,List.set_cons_succ]) (hCont (v193) _ ⟨(rR HO194),be⟩)
     ·skip
      have hcv11:=own_string (P:=Tryd.prog) Tryd.underlying39 Tryd.underlying5 Tryd.underlying9 (Kd.own_of_R HO194.out)
      refine value_ (w1:=?_) (v:=?_) (by rfl) rfl ?_ ?_
      rotate_left 2
      ·go_simp
       constructor
       ·rfl
       ·rfl
      clear hcv11
      refine hK.out _ _ trivial (fun hHeld=>?_)
      clear hK K
      refine no 18 ?_
      refine ot 2 (some 12) (fl 11 511) HT_ (fun K hK=>?_)
      refine goes_ Tryd.func41 (by kernel_rfl) rfl #[.int .i64 (wrap64 (Int.tdiv a0 10))] (by rfl) rfl rfl (by (try simp only [List.map_toArray,List.map_cons,List.map_nil]);first|done|rfl|(simp only [List.length_drop,List.length_take];rfl)) ?_
      with_reducible refine (ih k (by omega) (wrap64 (Int.tdiv a0 10)) t191 _ A6.out).mono ?_
      rintro e w12 ⟨rfl,hb⟩
      refine ⟨_,rfl,?_⟩
      have n0_:=Aside0.mk (Kd.R_below ((rR HO194)) hb)
      have n1_:=bs hb
      clear HO194
      clear HB
      have HO194:=n0_
      have HB:=n1_
      clear n0_ n1_
      (try clear hb)
      (try clear hb2)
      (try clear hk)
      (try clear hi)
      refine hK.out _ _ trivial (fun hHeld=>?_)
      clear hK K
      refine no 12 ?_
      exact norm_ (by simp only [putAll,Act.put,List.setIfInBounds_toArray,List.set_cons_zero,List.set_cons_succ]) (hCont (v193) _ ⟨(rR HO194),be⟩)
   rintro v193 w13 ⟨h0_,h1_⟩
   have n0_:Aside0 (Kd.R (Kd.int .u8) 5 w13 w.heap.size (fun _=>True) v193 y192):=⟨h0_⟩
   have n1_:Aside0 (Below w.heap.size w w13):=⟨h1_⟩
   clear HB
   clear h0_ h1_
   have HO194:=n0_
   have HB:=n1_
   clear n0_ n1_
   have hHeld:=trivial
   refine norm_ (a':=?_) ?_ ?_
   rotate_left
   ·simp only [putAll,Act.put,List.setIfInBounds_toArray,List.set_cons_zero,List.set_cons_succ]
    rfl
   refine pt 9 19 (fl 11 1023) HT_ ?_
   refine pt 10 2 (fl 11 2047) HT_ ?_
   refine done_ (done_of HT_.out (by kernel_rfl)) ?_
   try go_wp2
   go_ret
   exact ⟨rz,be⟩
  ·rw [if_neg c7] at H
   exact absurd H (by simp)
end Go.Proofs.YtnoglmdicdpabaaDoor.PFnDevsRead
