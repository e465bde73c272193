/- Trimmed by a program of this session (trim.py). Not trusted: Lean checks it. -/
import Derived.Test.YtnoglmdicdpabaaDoorTLDevsPFnDevsx0
import Derived.Sort.OwnSortedInts
import Derived.Test.YtnoglmdicdpabaaDoorTLDevsShelf
namespace Go.Proofs.YtnoglmdicdpabaaDoor.PFnDevs
open Go.RowKit Go.Proofs.YtnoglmdicdpabaaDoorW.PrintWords Go.Proofs.YtnoglmdicdpabaaDoorW.PrintLast Go.Proofs.YtnoglmdicdpabaaDoorW.PrintMore Go.Proofs.YtnoglmdicdpabaaDoor.St
attribute [local go_sem] max2_int min2_int max_two min_two max_three min_three max_four min_four
set_option linter.unusedVariables false
set_option linter.unusedSimpArgs false
def impl_hasInt.l0:Nat→Int→List Int→Int→Int→Option (Bool)
 | 0,_,_,_,_=>none
 | k+1,x1,x7,x8,x9=>if x9 < x8 then (if 0≤x9 then (if x9 < (x7.length:Int) then (if (rd x7 x9)=x1 then (some true) else (impl_hasInt.l0 k x1 x7 x8 (wrap64 (x9+1)))) else (none)) else (none)) else (some false)
def impl_hasInt.f (k:Nat) (l0:List Int) (a1:Int):Option (Bool):=impl_hasInt.l0 k a1 l0 (l0.length:Int) 0
set_option maxHeartbeats 8000000 in
set_option maxRecDepth 100000 in
theorem impl_hasInt.calls (k:Nat) (A0:Option Addr) (c0:Nat) (l0:List Int) (a1:Int) (r:Bool) (w:World) (hr0:Kd.C (Kd.int .i64) w A0 l0.length l0) (hc0:l0.length≤c0) (h:impl_hasInt.f k l0 a1=some r) :
  Calls Tryd.prog 60 #[.slice A0 l0.length c0,.int .i64 a1] w fun e w'=>e = .returned (.bool r)∧Drawn0 w w':=by
 have HR0:=Aside0.mk hr0
 have HC0:=Aside0.mk hc0
 clear hr0 hc0
 have H:(impl_hasInt.l0 k a1 l0 (l0.length:Int) 0)=some r:=h
 clear h
 have H':=Aside0.mk H
 clear H
 go_enter Tryd.func60,Tryd.ntmps60
 go_wp2
 go_loopg [9] k (fun kq v9 w'=>∃ (x9_1:Int),v9 = .int .i64 x9_1∧Aside0 (impl_hasInt.l0 kq a1 l0 (l0.length:Int) x9_1=some r)∧Aside0 (kq≤k)∧Drawn0 w w')
 case atStart=>exact ⟨(0),rd_,H',⟨Nat.le_refl _⟩,by repeat (first|exact Drawn0.refl _|apply Drawn0.step)⟩
 case round=>
  clear H'
  try clear p2
  obtain ⟨x9_1,rfl,HA,HK1,⟨m1,rfl⟩⟩:=hrel
  cases gk with
  | zero=>exact absurd HA.out (by simp [impl_hasInt.l0])
  | succ k1=>
   have H:=HA.out
   clear HA
   simp only [impl_hasInt.l0] at H
   by_cases c3:x9_1 < (l0.length:Int)
   ·rw [if_pos c3] at H
    have c3b0:decide (x9_1 < (l0.length:Int))=true:=decide_eq_true c3
    clear c3
    by_cases c4:0≤x9_1
    ·rw [if_pos c4] at H
     have c4b0:decide (0≤x9_1)=true:=decide_eq_true c4
     clear c4
     by_cases c5:x9_1 < (l0.length:Int)
     ·rw [if_pos c5] at H
      have c5b0:decide (x9_1 < (l0.length:Int))=true:=decide_eq_true c5
      clear c5
      by_cases c6:(rd l0 x9_1)=a1
      ·rw [if_pos c6] at H
       have c6b0:((rd l0 x9_1) == a1)=true:=beq_iff_eq.mpr c6
       have c6b1:((rd l0 x9_1) != a1)=false:=bne_eq_false_iff_eq.mpr c6
       clear c6
       obtain rfl:=Option.some.inj H
       have p244:0≤(x9_1:Int):=of_decide_eq_true (by first|(with_reducible assumption)|assumption)
       have q244:x9_1 < (l0.length:Int):=of_decide_eq_true (by first|(with_reducible assumption)|assumption)
       obtain ⟨ad244,e244,hx244_0⟩:=Kd.at_int HR0.out x9_1 p244 q244
       cases e244
       replace p244:=eq_true p244
       replace q244:=eq_true q244
       go_wp2
       go_ret
       exact ⟨by first|rfl|(simp;done)|(simp [*];done),by repeat (first|exact Drawn0.refl _|apply Drawn0.step)⟩
      ·rw [if_neg c6] at H
       have c6b0:((rd l0 x9_1) == a1)=false:=beq_eq_false_iff_ne.mpr c6
       have c6b1:((rd l0 x9_1) != a1)=true:=bne_iff_ne.mpr c6
       have H':=Aside0.mk H
       clear H
       have p244:0≤(x9_1:Int):=of_decide_eq_true (by first|(with_reducible assumption)|assumption)
       have q244:x9_1 < (l0.length:Int):=of_decide_eq_true (by first|(with_reducible assumption)|assumption)
       obtain ⟨ad244,e244,hx244_0⟩:=Kd.at_int HR0.out x9_1 p244 q244
       cases e244
       replace p244:=eq_true p244
       replace q244:=eq_true q244
       go_wp2
       go_roundg k1
       case measure=>have:=HK1.out;omega
       case rel=>exact ⟨(wrap64 (x9_1+1)),rd_,H',⟨by have:=HK1.out;omega⟩,by repeat (first|exact Drawn0.refl _|apply Drawn0.step)⟩
     ·rw [if_neg c5] at H
      exact absurd H (by simp)
    ·rw [if_neg c4] at H
     exact absurd H (by simp)
   ·rw [if_neg c3] at H
    have c3b0:decide (x9_1 < (l0.length:Int))=false:=decide_eq_false c3
    clear c3
    obtain rfl:=Option.some.inj H
    go_wp2
    go_ret
    exact ⟨by first|rfl|(simp;done)|(simp [*];done),by repeat (first|exact Drawn0.refl _|apply Drawn0.step)⟩
def sort_Ints.f (l0:List Int):Option (List Int):=if l0.length < 4611686018427387904 then (some (l0.mergeSort fun x y=>decide (x≤y))) else (none)
set_option maxHeartbeats 4000000 in
theorem sort_Ints.calls (P0_:Nat→Prop) (u9000_:Value) (l0:List Int) (r:List Int) (w0 w:World) (hB:Below w0.heap.size w0 w) (ho0:Kd.R (Kd.int .i64) 3 w w0.heap.size P0_ u9000_ l0) (h:sort_Ints.f l0=some r) :
  Calls Tryd.prog 61 #[u9000_] w fun e w'=>e = .returned (.tuple #[])∧Kd.R (Kd.int .i64) 3 w' w0.heap.size (fun k_=>(P0_ k_ ∨ w.heap.size≤k_)) u9000_ r∧Below w0.heap.size w0 w' ∧ Kept w w' (fun k_=>P0_ k_):=by
 unfold sort_Ints.f at h
 by_cases hl:l0.length < 4611686018427387904
 ·rw [if_pos hl] at h
  obtain rfl:=Option.some.inj h
  have ho:=Kd.own_of_R ho0
  rcases ho.2 with ⟨hu,hz⟩|⟨g,cap,cur,hu,hg,hh,h1,h2,h3,h4⟩
  ·subst hu
   have hz0:l0=[]:=by
    cases l0 with
    | nil=>rfl
    | cons a t=>exact absurd hz (by simp)
   subst hz0
   refine (Tryd.sort_Ints_none none 0 w).mono fun e w' he=>?_
   obtain ⟨rfl,rfl⟩:=he
   refine ⟨rfl,Kd.R_mono (by simpa using ho0) (fun _ hk=>.inl hk),hB,Kept.refl _ _⟩
  ·subst hu
   have hlt:g < w.heap.size:=(Array.getElem?_eq_some_iff.1 hh).1
   have ht:cur.toList.take l0.length=l0.map (Value.int .i64):=by simpa [encs] using h4
   refine (Tryd.sort_Ints g 0 cap l0 w (holds_of_blockI hh ht) hlt hl).mono fun e w' he=>?_
   obtain ⟨rfl,n,os,rfl⟩:=he
   have hlen:(l0.mergeSort fun x y=>decide (x≤y)).length=l0.length:=List.length_mergeSort _
   have hgr:=grownBy_sortedI (w:=w) (g:=g) (n:=n) (os:=os) (l0.mergeSort fun x y=>decide (x≤y)).toArray
   have hown:=ownsRow_sortedI (base:=w0.heap.size) (n:=n) (os:=os) hlen hg hh h1 h2 (by simpa using h3)
   have hP:P0_ g:=ho0.1 g (by simp [Value.ownBlock])
   refine ⟨rfl,?_,hB.grown hgr hB.size (fun k hk=>by injection hk with hk;subst hk;exact hg),⟨hgr.size,fun i hi hn=>hgr.block i hi (fun he=>by injection he with he;subst he;exact hn hP)⟩⟩
   refine Kd.R_of_own ?_ (fun k hk=>.inl ?_)
   ·rw [hlen];exact hown
   ·exact ho0.1 k hk
 ·rw [if_neg hl] at h
  cases h
def impl_ZonesOf.l0:Nat→List Int→List (S53)→Int→Int→Option (List Int)
 | 0,_,_,_,_=>none
 | k+1,x3,x6,x7,x8=>if x8 < x7 then (if 0≤x8 then (if x8 < (x6.length:Int) then ((impl_hasInt.f k x3 ((rd_T53 x6 x8).f1)).bind fun t247=>(if t247=true then (impl_ZonesOf.l0 k x3 x6 x7 (wrap64 (x8+1))) else (if x3.length < 17592186044416 then (impl_ZonesOf.l0 k (x3 ++ [(rd_T53 x6 x8).f1]) x6 x7 (wrap64 (x8+1))) else (none)))) else (none)) else (none)) else ((sort_Ints.f x3).bind fun t251=>(some t251))
def impl_ZonesOf.f (k:Nat) (l0:List (S53)):Option (List Int):=impl_ZonesOf.l0 k ([]:List Int) l0 (l0.length:Int) 0
set_option maxHeartbeats 8000000 in
set_option maxRecDepth 100000 in
theorem impl_ZonesOf.calls (k:Nat) (A0:Option Addr) (c0:Nat) (l0:List (S53)) (r:List Int) (w:World) (hr0:Kd.C k53 w A0 l0.length l0) (hc0:l0.length≤c0) (h:impl_ZonesOf.f k l0=some r) :
  Calls Tryd.prog 38 #[.slice A0 l0.length c0] w fun e w'=>∃ v0_:Value,e = .returned (v0_)∧Kd.R (Kd.int .i64) 3 w' w.heap.size (fun _=>True) v0_ r∧Below w.heap.size w w':=by
 have hu53:=Tryd.underlying53
 have HR0:=Aside0.mk hr0
 have HC0:=Aside0.mk hc0
 clear hr0 hc0
 have HB:=Aside0.mk (Below.refl w.heap.size w)
 have H:(impl_ZonesOf.l0 k ([]:List Int) l0 (l0.length:Int) 0)=some r:=h
 clear h
 have H':=Aside0.mk H
 clear H
 go_enter Tryd.func38,Tryd.ntmps38
 go_wp2
 go_loopg [3,8] k (fun kq v3 v8 w'=>∃ (x3_1:List Int) (x8_1:Int),v8 = .int .i64 x8_1∧Aside0 (impl_ZonesOf.l0 kq x3_1 l0 (l0.length:Int) x8_1=some r)∧Aside0 (kq≤k)∧Aside0 (Kd.R (Kd.int .i64) 3 w' w.heap.size (fun _=>True) v3 x3_1)∧Aside0 (Below w.heap.size w w'))
 case atStart=>exact ⟨(([]:List Int)),(0),rd_,H',⟨Nat.le_refl _⟩,⟨by first|exact Kd.R_nil _ _ _ _ _|exact Kd.N_nil _ _ _ _ _|exact Kd.V_nil _ _ _ _ _|exact Kd.Q_nil _ _ _ _ _|exact Kd.S_nil _ _ _ _ _⟩,⟨be⟩⟩
 case round=>
  clear H'
  obtain ⟨x3_1,x8_1,rfl,HA,HK1,HO_3,HB⟩:=hrel
  cases gk with
  | zero=>exact absurd HA.out (by simp [impl_ZonesOf.l0])
  | succ k1=>
   have H:=HA.out
   clear HA
   simp only [impl_ZonesOf.l0] at H
   by_cases c2:x8_1 < (l0.length:Int)
   ·rw [if_pos c2] at H
    have c2b0:decide (x8_1 < (l0.length:Int))=true:=decide_eq_true c2
    clear c2
    by_cases c3:0≤x8_1
    ·rw [if_pos c3] at H
     have c3b0:decide (0≤x8_1)=true:=decide_eq_true c3
     clear c3
     by_cases c4:x8_1 < (l0.length:Int)
     ·rw [if_pos c4] at H
      have c4b0:decide (x8_1 < (l0.length:Int))=true:=decide_eq_true c4
      clear c4
      replace H:=Option.bind_eq_some_iff.mp H
      obtain ⟨t247,A50,H⟩:=H
      try dsimp only at H
      have A5:=Aside0.mk A50
      clear A50
      by_cases c6:t247=true
      ·subst c6
       rw [if_pos rfl] at H
       have H':=Aside0.mk H
       clear H
       have p245:0≤(x8_1:Int):=of_decide_eq_true (by first|(with_reducible assumption)|assumption)
       have q245:x8_1 < (l0.length:Int):=of_decide_eq_true (by first|(with_reducible assumption)|assumption)
       obtain ⟨ad245,e245,hx245_0,hx245_1,hx245_2⟩:=at_T53 HR0.out x8_1 p245 q245
       cases e245
       replace hx245_0:=(HB.out.cell (World.block_lt_of_cell? w _ hx245_0)).trans hx245_0
       replace hx245_1:=(HB.out.cell (World.block_lt_of_cell? w _ hx245_1)).trans hx245_1
       replace hx245_2:=(HB.out.cell (World.block_lt_of_cell? w _ hx245_2)).trans hx245_2
       replace p245:=eq_true p245
       replace q245:=eq_true q245
       go_wp2_with (first|((with_reducible refine gate_dst (N:=5) rfl ?_);refine box_event ?hg (N:=5) ?hd (cs:=#[.int .i64 0,.int .i64 0,.int .i64 0]) (t:=53) ?hr ?_;(case hd=>rfl);(case hg=>rfl);(case hr=>first|(go_simp;done)|(go_simp;rfl));intro gb246 hg w7 hbox hb;have n0_:=Aside0.mk (Kd.R_below (rR HO_3) hb);have n1_:=bs hb;have n2_:=Aside0.mk (hbox);have n3_:=Aside0.mk ((by rw [hg];exact (below_size be):w.heap.size≤gb246));have n4_:=Aside0.mk ((by rw [hg];exact (below_size be):w.heap.size≤gb246));clear HO_3;clear HB;have HO_3:=n0_;have HB:=n1_;have BK246:=n2_;have GW246:=n3_;have GE246:=n4_;clear n0_ n1_ n2_ n3_ n4_;clear hb hbox hg;have hcz8_0:w7.cell? ⟨gb246,0,none⟩=some (.int .i64 0):=(blk_cell BK246.out 0).trans rfl;have hcz8_1:w7.cell? ⟨gb246,1,none⟩=some (.int .i64 0):=(blk_cell BK246.out 1).trans rfl;have hcz8_2:w7.cell? ⟨gb246,2,none⟩=some (.int .i64 0):=(blk_cell BK246.out 2).trans rfl;have hfz8_0:=blk_frozen BK246.out 0;have hfz8_1:=blk_frozen BK246.out 1;have hfz8_2:=blk_frozen BK246.out 2;obtain ⟨Ao9,co9,eo9⟩:=Kd.R_slice HO_3.out;subst eo9)|((with_reducible refine gate_callee (f:=60) rfl ?_);refine goesL_ (some 15) rfl rfl Tryd.func60 (by kernel_rfl) rfl #[.slice Ao9 x3_1.length co9,.int .i64 ((rd_T53 l0 x8_1).f1)] rfl (by (try simp only [List.map_toArray,List.map_cons,List.map_nil]);first|done|rfl|(simp only [List.length_drop,List.length_take];rfl)) ?_;(with_reducible refine (impl_hasInt.calls k1 _ _ x3_1 ((rd_T53 l0 x8_1).f1) true _ ?side1 ?side2 A5.out).mono ?_);(case side1=>refine (Kd.R_reads' (e:=3) (base:=w.heap.size) (ok:=fun k_=>True) (n:=x3_1.length) (c:=co9) ?_).2.2;exact (by (with_reducible repeat (first|apply Kd.R_alloc|apply Kd.R_drewN|apply Kd.R_drew));exact (Kd.R_mono (Kd.R_far (p:=⟨gb246,2,none⟩) (Kd.R_far (p:=⟨gb246,1,none⟩) (Kd.R_far (p:=⟨gb246,0,none⟩) (Kd.R_types HO_3.out BK246.out (by decide)) (fun _ hk=>hk.2) (.int .i64 ((rd_T53 l0 x8_1).f0))) (fun _ hk=>hk.2) (.int .i64 ((rd_T53 l0 x8_1).f1))) (fun _ hk=>hk.2) (.int .i64 ((rd_T53 l0 x8_1).f2))) (fun _ h_=>h_.1))));(case side2=>exact (Kd.R_reads' HO_3.out).2.1);rintro e w' ⟨rfl,⟨nd,rfl⟩⟩;refine ⟨_,rfl,?_⟩))
       go_roundg k1
       case measure=>have:=HK1.out;omega
       case rel=>exact ⟨(x3_1),(wrap64 (x8_1+1)),rd_,H',⟨by have:=HK1.out;omega⟩,⟨by (with_reducible repeat (first|apply Kd.R_alloc|apply Kd.R_drewN|apply Kd.R_drew));exact Kd.R_mono (Kd.R_far (p:=⟨gb246,2,none⟩) (Kd.R_far (p:=⟨gb246,1,none⟩) (Kd.R_far (p:=⟨gb246,0,none⟩) (Kd.R_types HO_3.out BK246.out (by decide)) (fun _ hk=>hk.2) (.int .i64 ((rd_T53 l0 x8_1).f0))) (fun _ hk=>hk.2) (.int .i64 ((rd_T53 l0 x8_1).f1))) (fun _ hk=>hk.2) (.int .i64 ((rd_T53 l0 x8_1).f2))) (fun _ hk=>trivial)⟩,⟨be⟩⟩
      ·replace c6:=Bool.eq_false_iff.mpr c6
       subst c6
       have H1:(if x3_1.length < 17592186044416 then (impl_ZonesOf.l0 k1 (x3_1 ++ [(rd_T53 l0 x8_1).f1]) l0 (l0.length:Int) (wrap64 (x8_1+1))) else (none))=some r:=by rw [if_neg (show ¬ (false=true) by decide)] at H;exact H
       clear H
       have H:=H1
       clear H1
       by_cases c10:x3_1.length < 17592186044416
       ·rw [if_pos c10] at H
        have LMc10:=Aside0.mk c10
        clear c10
        obtain ⟨y248,hy248⟩ : ∃ y_:List Int,y_=(x3_1 ++ [(rd_T53 l0 x8_1).f1]):=⟨_,rfl⟩
        replace H:(impl_ZonesOf.l0 k1 y248 l0 (l0.length:Int) (wrap64 (x8_1+1)))=some r:=by first|(rw [hy248];with_reducible exact H)|(have H2_:=(Option.bind_some _ _).symm.trans H;rw [hy248];with_reducible exact H2_)|(have H2_:=(Option.bind_some _ _).symm.trans H;with_reducible exact H2_)|with_reducible exact H|(rw [hy248];exact H)|exact H
        have Ny248:=Aside0.mk hy248
        clear hy248
        have H':=Aside0.mk H
        clear H
        have p245:0≤(x8_1:Int):=of_decide_eq_true (by first|(with_reducible assumption)|assumption)
        have q245:x8_1 < (l0.length:Int):=of_decide_eq_true (by first|(with_reducible assumption)|assumption)
        obtain ⟨ad245,e245,hx245_0,hx245_1,hx245_2⟩:=at_T53 HR0.out x8_1 p245 q245
        cases e245
        replace hx245_0:=(HB.out.cell (World.block_lt_of_cell? w _ hx245_0)).trans hx245_0
        replace hx245_1:=(HB.out.cell (World.block_lt_of_cell? w _ hx245_1)).trans hx245_1
        replace hx245_2:=(HB.out.cell (World.block_lt_of_cell? w _ hx245_2)).trans hx245_2
        replace p245:=eq_true p245
        replace q245:=eq_true q245
        go_wp2_with (first|((with_reducible refine gate_dst (N:=5) rfl ?_);refine box_event ?hg (N:=5) ?hd (cs:=#[.int .i64 0,.int .i64 0,.int .i64 0]) (t:=53) ?hr ?_;(case hd=>rfl);(case hg=>rfl);(case hr=>first|(go_simp;done)|(go_simp;rfl));intro gb246 hg w11 hbox hb;have n0_:=Aside0.mk (Kd.R_below (rR HO_3) hb);have n1_:=bs hb;have n2_:=Aside0.mk (hbox);have n3_:=Aside0.mk ((by rw [hg];exact (below_size be):w.heap.size≤gb246));have n4_:=Aside0.mk ((by rw [hg];exact (below_size be):w.heap.size≤gb246));clear HO_3;clear HB;have HO_3:=n0_;have HB:=n1_;have BK246:=n2_;have GW246:=n3_;have GE246:=n4_;clear n0_ n1_ n2_ n3_ n4_;clear hb hbox hg;have hcz12_0:w11.cell? ⟨gb246,0,none⟩=some (.int .i64 0):=(blk_cell BK246.out 0).trans rfl;have hcz12_1:w11.cell? ⟨gb246,1,none⟩=some (.int .i64 0):=(blk_cell BK246.out 1).trans rfl;have hcz12_2:w11.cell? ⟨gb246,2,none⟩=some (.int .i64 0):=(blk_cell BK246.out 2).trans rfl;have hfz12_0:=blk_frozen BK246.out 0;have hfz12_1:=blk_frozen BK246.out 1;have hfz12_2:=blk_frozen BK246.out 2;obtain ⟨Ao13,co13,eo13⟩:=Kd.R_slice HO_3.out;subst eo13)|((with_reducible refine gate_callee (f:=60) rfl ?_);refine goesL_ (some 15) rfl rfl Tryd.func60 (by kernel_rfl) rfl #[.slice Ao13 x3_1.length co13,.int .i64 ((rd_T53 l0 x8_1).f1)] rfl (by (try simp only [List.map_toArray,List.map_cons,List.map_nil]);first|done|rfl|(simp only [List.length_drop,List.length_take];rfl)) ?_;(with_reducible refine (impl_hasInt.calls k1 _ _ x3_1 ((rd_T53 l0 x8_1).f1) false _ ?side1 ?side2 A5.out).mono ?_);(case side1=>refine (Kd.R_reads' (e:=3) (base:=w.heap.size) (ok:=fun k_=>True) (n:=x3_1.length) (c:=co13) ?_).2.2;exact (by (with_reducible repeat (first|apply Kd.R_alloc|apply Kd.R_drewN|apply Kd.R_drew));exact (Kd.R_mono (Kd.R_far (p:=⟨gb246,2,none⟩) (Kd.R_far (p:=⟨gb246,1,none⟩) (Kd.R_far (p:=⟨gb246,0,none⟩) (Kd.R_types HO_3.out BK246.out (by decide)) (fun _ hk=>hk.2) (.int .i64 ((rd_T53 l0 x8_1).f0))) (fun _ hk=>hk.2) (.int .i64 ((rd_T53 l0 x8_1).f1))) (fun _ hk=>hk.2) (.int .i64 ((rd_T53 l0 x8_1).f2))) (fun _ h_=>h_.1))));(case side2=>exact (Kd.R_reads' HO_3.out).2.1);rintro e w' ⟨rfl,⟨nd,rfl⟩⟩;refine ⟨_,rfl,?_⟩)|((with_reducible refine gate_builtin (b:=.append) (xs:=#[.tmp 17,.tmp 20]) rfl ?_);at_builtin;refine Kd.R_append (Kd.int .i64) (w0:=w) w.heap.size rfl (.tmp 17) (.tmp 20) 50 3 (.int .i64 0) 8 rfl Tryd.underlying50 info3 rfl (by decide) (by omega) (.slice Ao13 x3_1.length co13) x3_1 ((rd_T53 l0 x8_1).f1) [.int .i64 ((rd_T53 l0 x8_1).f1)] (fun _=>True) (fun _=>False) rfl (by first|(go_simp;done)|(go_simp;rfl)) ?aP (fun _ hk=>hk.elim) ?aF ?aO ?aB ?aS ?aL ?_;(case aP=>exact rfl);(case aB=>exact be);(case aF=>exact (fun _ _=>trivial));(case aO=>exact (by (with_reducible repeat (first|apply Kd.R_alloc|apply Kd.R_drewN|apply Kd.R_drew));exact Kd.R_mono (Kd.R_far (p:=⟨gb246,2,none⟩) (Kd.R_far (p:=⟨gb246,1,none⟩) (Kd.R_far (p:=⟨gb246,0,none⟩) (Kd.R_types HO_3.out BK246.out (by decide)) (fun _ hk=>hk.2) (.int .i64 ((rd_T53 l0 x8_1).f0))) (fun _ hk=>hk.2) (.int .i64 ((rd_T53 l0 x8_1).f1))) (fun _ hk=>hk.2) (.int .i64 ((rd_T53 l0 x8_1).f2))) (fun _ hk=>trivial)));(case aS=>exact (below_size be));(case aL=>have:=LMc10.out;omega);intro v249 w14 ho hb hg hat;rw [← Ny248.out] at ho;have n0_:=Aside0.mk (blk_grown (g:=gb246) (o:=.cells #[.int .i64 ((rd_T53 l0 x8_1).f0),.int .i64 ((rd_T53 l0 x8_1).f1),.int .i64 ((rd_T53 l0 x8_1).f2)] 53 (0,0)) (by (with_reducible repeat (first|refine blk_drewN ?_ _|refine blk_drew ?_|refine blk_alloc ?_ _));refine blk_put (cs:=#[.int .i64 ((rd_T53 l0 x8_1).f0),.int .i64 ((rd_T53 l0 x8_1).f1),.int .i64 0]) ?_ 2 _ rfl;(with_reducible repeat (first|refine blk_drewN ?_ _|refine blk_drew ?_|refine blk_alloc ?_ _));refine blk_put (cs:=#[.int .i64 ((rd_T53 l0 x8_1).f0),.int .i64 0,.int .i64 0]) ?_ 1 _ rfl;(with_reducible repeat (first|refine blk_drewN ?_ _|refine blk_drew ?_|refine blk_alloc ?_ _));refine blk_put (cs:=#[.int .i64 0,.int .i64 0,.int .i64 0]) ?_ 0 _ rfl;(with_reducible repeat (first|refine blk_drewN ?_ _|refine blk_drew ?_|refine blk_alloc ?_ _));exact BK246.out) hg (Kd.R_ne HO_3.out BK246.out (by decide)));have n1_:=Aside0.mk (hb);have n2_:=Aside0.mk (ho);clear BK246;clear HB;clear HO_3;have BK246:=n0_;have HB:=n1_;have HO250:=n2_;clear n0_ n1_ n2_;clear ho hb hg hat))
        go_roundg k1
        case measure=>have:=HK1.out;omega
        case rel=>exact ⟨(y248),(wrap64 (x8_1+1)),rd_,H',⟨by have:=HK1.out;omega⟩,⟨rR HO250⟩,⟨be⟩⟩
       ·rw [if_neg c10] at H
        exact absurd H (by simp)
     ·rw [if_neg c4] at H
      exact absurd H (by simp)
    ·rw [if_neg c3] at H
     exact absurd H (by simp)
   ·rw [if_neg c2] at H
    have c2b0:decide (x8_1 < (l0.length:Int))=false:=decide_eq_false c2
    clear c2
    replace H:=Option.bind_eq_some_iff.mp H
    obtain ⟨t251,A150,H⟩:=H
    try dsimp only at H
    have A15:=Aside0.mk A150
    clear A150
    obtain rfl:=Option.some.inj H
    obtain ⟨Ao16,co16,eo16⟩:=Kd.R_slice HO_3.out
    subst eo16
    go_wp2_with (first|((with_reducible refine gate_callee (f:=61) rfl ?_);refine goesL_ (some 24) rfl rfl Tryd.func61 (by kernel_rfl) rfl #[.slice Ao16 x3_1.length co16] rfl (by (try simp only [List.map_toArray,List.map_cons,List.map_nil]);first|done|rfl|(simp only [List.length_drop,List.length_take];rfl)) ?_;(with_reducible refine (sort_Ints.calls (fun k_=>some k_=(.slice Ao16 x3_1.length co16:Value).ownBlock) (.slice Ao16 x3_1.length co16) x3_1 t251 w _ ?side1 ?side2 A15.out).mono ?_);(case side1=>exact be);(case side2=>exact Kd.R_tight rfl HO_3.out);rintro e w17 ⟨rfl,hy0,hb,hkp⟩;refine ⟨_,rfl,?_⟩;have n0_:=Aside0.mk (Kd.R_reok rfl hy0 (fun k_ e_=>HO_3.out.1 k_ e_));have n1_:=Aside0.mk (hb);clear HO_3;clear HB;have HO_3:=n0_;have HB:=n1_;clear n0_ n1_;(try clear hb);(try clear hkp);(try clear hy0)))
    go_ret
    exact ⟨_,rz,rR HO_3,be⟩
def impl_DevAt.l0:Nat→Int→List (S53)→Int→Int→Option (Int × Int × Int × Bool)
 | 0,_,_,_,_=>none
 | k+1,x1,x8,x9,x10=>if x10 < x9 then (if 0≤x10 then (if x10 < (x8.length:Int) then (if ((rd_T53 x8 x10).f0)=x1 then (some ((rd_T53 x8 x10).f0,(rd_T53 x8 x10).f1,(rd_T53 x8 x10).f2,true)) else (impl_DevAt.l0 k x1 x8 x9 (wrap64 (x10+1)))) else (none)) else (none)) else (some (0,0,0,false))
def impl_DevAt.f (k:Nat) (l0:List (S53)) (a1:Int):Option (Int × Int × Int × Bool):=impl_DevAt.l0 k a1 l0 (l0.length:Int) 0
set_option maxHeartbeats 8000000 in
set_option maxRecDepth 100000 in
theorem impl_DevAt.calls (k:Nat) (A0:Option Addr) (c0:Nat) (l0:List (S53)) (a1:Int) (r1:Int) (r2:Int) (r3:Int) (r4:Bool) (w:World) (hr0:Kd.C k53 w A0 l0.length l0) (hc0:l0.length≤c0) (h:impl_DevAt.f k l0 a1=some (r1,r2,r3,r4)) :
  Calls Tryd.prog 39 #[.slice A0 l0.length c0,.int .i64 a1] w fun e w'=>e = .returned (.tuple #[.agg #[.int .i64 r1,.int .i64 r2,.int .i64 r3],.bool r4])∧Below w.heap.size w w':=by
 have hu53:=Tryd.underlying53
 have HR0:=Aside0.mk hr0
 have HC0:=Aside0.mk hc0
 clear hr0 hc0
 have HB:=Aside0.mk (Below.refl w.heap.size w)
 have H:(impl_DevAt.l0 k a1 l0 (l0.length:Int) 0)=some (r1,r2,r3,r4):=h
 clear h
 have H':=Aside0.mk H
 clear H
 go_enter Tryd.func39,Tryd.ntmps39
 go_wp2_with (first|((with_reducible refine gate_dst (N:=4) rfl ?_);refine box_event ?hg (N:=4) ?hd (cs:=#[.int .i64 0,.int .i64 0,.int .i64 0]) (t:=53) ?hr ?_;(case hd=>rfl);(case hg=>rfl);(case hr=>first|(go_simp;done)|(go_simp;rfl));intro gb252 hg w3 hbox hb;have n0_:=bs hb;have n1_:=Aside0.mk (hbox);have n2_:=Aside0.mk ((by rw [hg];exact (below_size be):w.heap.size≤gb252));have n3_:=Aside0.mk ((by rw [hg];exact (below_size be):w.heap.size≤gb252));clear HB;have HB:=n0_;have BK252:=n1_;have GW252:=n2_;have GE252:=n3_;clear n0_ n1_ n2_ n3_;clear hb hbox hg))
 go_loopg [10] k (fun kq v10 w'=>∃ (x10_1:Int) (x253000_1:Int) (x253001_1:Int) (x253002_1:Int),v10 = .int .i64 x10_1∧Aside0 (impl_DevAt.l0 kq a1 l0 (l0.length:Int) x10_1=some (r1,r2,r3,r4))∧Aside0 (kq≤k)∧Aside0 (w'.heap[gb252]?=some (.cells #[.int .i64 x253000_1,.int .i64 x253001_1,.int .i64 x253002_1] 53 (0,0)))∧Aside0 (Below w.heap.size w w'))
 case atStart=>exact ⟨(0),(0),(0),(0),rd_,H',⟨Nat.le_refl _⟩,⟨bk BK252⟩,⟨be⟩⟩
 case round=>
  clear H'
  try clear p2
  try clear c3
  obtain ⟨x10_1,x253000_1,x253001_1,x253002_1,rfl,HA,HK1,BK252,HB⟩:=hrel
  cases gk with
  | zero=>exact absurd HA.out (by simp [impl_DevAt.l0])
  | succ k1=>
   have H:=HA.out
   clear HA
   simp only [impl_DevAt.l0] at H
   by_cases c4:x10_1 < (l0.length:Int)
   ·rw [if_pos c4] at H
    have c4b0:decide (x10_1 < (l0.length:Int))=true:=decide_eq_true c4
    clear c4
    by_cases c5:0≤x10_1
    ·rw [if_pos c5] at H
     have c5b0:decide (0≤x10_1)=true:=decide_eq_true c5
     clear c5
     by_cases c6:x10_1 < (l0.length:Int)
     ·rw [if_pos c6] at H
      have c6b0:decide (x10_1 < (l0.length:Int))=true:=decide_eq_true c6
      clear c6
      by_cases c7:((rd_T53 l0 x10_1).f0)=a1
      ·rw [if_pos c7] at H
       have c7b0:(((rd_T53 l0 x10_1).f0) == a1)=true:=beq_iff_eq.mpr c7
       have c7b1:(((rd_T53 l0 x10_1).f0) != a1)=false:=bne_eq_false_iff_eq.mpr c7
       clear c7
       simp only [Option.some.injEq,Prod.mk.injEq] at H
       obtain ⟨rfl,rfl,rfl,rfl⟩:=H
       have p253:0≤(x10_1:Int):=of_decide_eq_true (by first|(with_reducible assumption)|assumption)
       have q253:x10_1 < (l0.length:Int):=of_decide_eq_true (by first|(with_reducible assumption)|assumption)
       obtain ⟨ad253,e253,hx253_0,hx253_1,hx253_2⟩:=at_T53 HR0.out x10_1 p253 q253
       cases e253
       replace hx253_0:=(HB.out.cell (World.block_lt_of_cell? w _ hx253_0)).trans hx253_0
       replace hx253_1:=(HB.out.cell (World.block_lt_of_cell? w _ hx253_1)).trans hx253_1
       replace hx253_2:=(HB.out.cell (World.block_lt_of_cell? w _ hx253_2)).trans hx253_2
       replace p253:=eq_true p253
       replace q253:=eq_true q253
       go_wp2_with (first|((with_reducible refine gate_dst (N:=7) rfl ?_);refine box_event ?hg (N:=7) ?hd (cs:=#[.int .i64 0,.int .i64 0,.int .i64 0]) (t:=53) ?hr ?_;(case hd=>rfl);(case hg=>rfl);(case hr=>first|(go_simp;done)|(go_simp;rfl));intro gb254 hg w8 hbox hb;have n0_:=Aside0.mk (blk_below (g:=gb252) (o:=.cells #[.int .i64 x253000_1,.int .i64 x253001_1,.int .i64 x253002_1] 53 (0,0)) (bk BK252) hb);have n1_:=bs hb;have n2_:=Aside0.mk (hbox);have n3_:=Aside0.mk ((by rw [hg];exact (below_size be):w.heap.size≤gb254));have n4_:=Aside0.mk ((by rw [hg];exact (below_size be):w.heap.size≤gb254));have n5_:=Aside0.mk ((by rw [hg];exact Nat.ne_of_lt (blk_lt (g:=gb252) (o:=.cells #[.int .i64 x253000_1,.int .i64 x253001_1,.int .i64 x253002_1] 53 (0,0)) (bk BK252)):gb252 ≠ gb254));have n6_:=Aside0.mk ((by rw [hg];exact Nat.ne_of_gt (blk_lt (g:=gb252) (o:=.cells #[.int .i64 x253000_1,.int .i64 x253001_1,.int .i64 x253002_1] 53 (0,0)) (bk BK252)):gb254 ≠ gb252));clear BK252;clear HB;have BK252:=n0_;have HB:=n1_;have BK254:=n2_;have GW254:=n3_;have GE254:=n4_;have NB252_254:=n5_;have NB254_252:=n6_;clear n0_ n1_ n2_ n3_ n4_ n5_ n6_;clear hb hbox hg;have hnb9:=NB254_252.out;have hnc9:=NB252_254.out;have hcz10_0:w8.cell? ⟨gb254,0,none⟩=some (.int .i64 0):=(blk_cell BK254.out 0).trans rfl;have hcz10_1:w8.cell? ⟨gb254,1,none⟩=some (.int .i64 0):=(blk_cell BK254.out 1).trans rfl;have hcz10_2:w8.cell? ⟨gb254,2,none⟩=some (.int .i64 0):=(blk_cell BK254.out 2).trans rfl;have hfz10_0:=blk_frozen BK254.out 0;have hfz10_1:=blk_frozen BK254.out 1;have hfz10_2:=blk_frozen BK254.out 2;have hcz11_0:w8.cell? ⟨gb252,0,none⟩=some (.int .i64 x253000_1):=(blk_cell BK252.out 0).trans rfl;have hcz11_1:w8.cell? ⟨gb252,1,none⟩=some (.int .i64 x253001_1):=(blk_cell BK252.out 1).trans rfl;have hcz11_2:w8.cell? ⟨gb252,2,none⟩=some (.int .i64 x253002_1):=(blk_cell BK252.out 2).trans rfl;have hfz11_0:=blk_frozen BK252.out 0;have hfz11_1:=blk_frozen BK252.out 1;have hfz11_2:=blk_frozen BK252.out 2))
       refine bodyPost_ret (results_ct rfl _ _ gb252 53 #[.int .i64 ((rd_T53 l0 x10_1).f0),.int .i64 ((rd_T53 l0 x10_1).f1),.int .i64 ((rd_T53 l0 x10_1).f2)] (0,0) _ rfl (by (with_reducible repeat (first|refine blk_drewN ?_ _|refine blk_drew ?_|refine blk_alloc ?_ _));refine blk_put (cs:=#[.int .i64 ((rd_T53 l0 x10_1).f0),.int .i64 ((rd_T53 l0 x10_1).f1),.int .i64 x253002_1]) ?_ 2 _ rfl;(with_reducible repeat (first|refine blk_drewN ?_ _|refine blk_drew ?_|refine blk_alloc ?_ _));refine blk_put (cs:=#[.int .i64 ((rd_T53 l0 x10_1).f0),.int .i64 x253001_1,.int .i64 x253002_1]) ?_ 1 _ rfl;(with_reducible repeat (first|refine blk_drewN ?_ _|refine blk_drew ?_|refine blk_alloc ?_ _));refine blk_put (cs:=#[.int .i64 x253000_1,.int .i64 x253001_1,.int .i64 x253002_1]) ?_ 0 _ rfl;(with_reducible repeat (first|refine blk_drewN ?_ _|refine blk_drew ?_|refine blk_alloc ?_ _));refine blk_far ?_ NB252_254.out _;(with_reducible repeat (first|refine blk_drewN ?_ _|refine blk_drew ?_|refine blk_alloc ?_ _));refine blk_far ?_ NB252_254.out _;(with_reducible repeat (first|refine blk_drewN ?_ _|refine blk_drew ?_|refine blk_alloc ?_ _));refine blk_far ?_ NB252_254.out _;(with_reducible repeat (first|refine blk_drewN ?_ _|refine blk_drew ?_|refine blk_alloc ?_ _));exact BK252.out) Tryd.underlying53 rfl (by kernel_rfl)) rfl ?_
       exact ⟨rz,be⟩
      ·rw [if_neg c7] at H
       have c7b0:(((rd_T53 l0 x10_1).f0) == a1)=false:=beq_eq_false_iff_ne.mpr c7
       have c7b1:(((rd_T53 l0 x10_1).f0) != a1)=true:=bne_iff_ne.mpr c7
       have H':=Aside0.mk H
       clear H
       have p253:0≤(x10_1:Int):=of_decide_eq_true (by first|(with_reducible assumption)|assumption)
       have q253:x10_1 < (l0.length:Int):=of_decide_eq_true (by first|(with_reducible assumption)|assumption)
       obtain ⟨ad253,e253,hx253_0,hx253_1,hx253_2⟩:=at_T53 HR0.out x10_1 p253 q253
       cases e253
       replace hx253_0:=(HB.out.cell (World.block_lt_of_cell? w _ hx253_0)).trans hx253_0
       replace hx253_1:=(HB.out.cell (World.block_lt_of_cell? w _ hx253_1)).trans hx253_1
       replace hx253_2:=(HB.out.cell (World.block_lt_of_cell? w _ hx253_2)).trans hx253_2
       replace p253:=eq_true p253
       replace q253:=eq_true q253
       go_wp2_with (first|((with_reducible refine gate_dst (N:=7) rfl ?_);refine box_event ?hg (N:=7) ?hd (cs:=#[.int .i64 0,.int .i64 0,.int .i64 0]) (t:=53) ?hr ?_;(case hd=>rfl);(case hg=>rfl);(case hr=>first|(go_simp;done)|(go_simp;rfl));intro gb254 hg w12 hbox hb;have n0_:=Aside0.mk (blk_below (g:=gb252) (o:=.cells #[.int .i64 x253000_1,.int .i64 x253001_1,.int .i64 x253002_1] 53 (0,0)) (bk BK252) hb);have n1_:=bs hb;have n2_:=Aside0.mk (hbox);have n3_:=Aside0.mk ((by rw [hg];exact (below_size be):w.heap.size≤gb254));have n4_:=Aside0.mk ((by rw [hg];exact (below_size be):w.heap.size≤gb254));have n5_:=Aside0.mk ((by rw [hg];exact Nat.ne_of_lt (blk_lt (g:=gb252) (o:=.cells #[.int .i64 x253000_1,.int .i64 x253001_1,.int .i64 x253002_1] 53 (0,0)) (bk BK252)):gb252 ≠ gb254));have n6_:=Aside0.mk ((by rw [hg];exact Nat.ne_of_gt (blk_lt (g:=gb252) (o:=.cells #[.int .i64 x253000_1,.int .i64 x253001_1,.int .i64 x253002_1] 53 (0,0)) (bk BK252)):gb254 ≠ gb252));clear BK252;clear HB;have BK252:=n0_;have HB:=n1_;have BK254:=n2_;have GW254:=n3_;have GE254:=n4_;have NB252_254:=n5_;have NB254_252:=n6_;clear n0_ n1_ n2_ n3_ n4_ n5_ n6_;clear hb hbox hg;have hnb13:=NB254_252.out;have hnc13:=NB252_254.out;have hcz14_0:w12.cell? ⟨gb254,0,none⟩=some (.int .i64 0):=(blk_cell BK254.out 0).trans rfl;have hcz14_1:w12.cell? ⟨gb254,1,none⟩=some (.int .i64 0):=(blk_cell BK254.out 1).trans rfl;have hcz14_2:w12.cell? ⟨gb254,2,none⟩=some (.int .i64 0):=(blk_cell BK254.out 2).trans rfl;have hfz14_0:=blk_frozen BK254.out 0;have hfz14_1:=blk_frozen BK254.out 1;have hfz14_2:=blk_frozen BK254.out 2))
       go_roundg k1
       case measure=>have:=HK1.out;omega
       case rel=>exact ⟨(wrap64 (x10_1+1)),(x253000_1),(x253001_1),(x253002_1),rd_,H',⟨by have:=HK1.out;omega⟩,⟨by (with_reducible repeat (first|refine blk_drewN ?_ _|refine blk_drew ?_|refine blk_alloc ?_ _));refine blk_far ?_ NB252_254.out _;(with_reducible repeat (first|refine blk_drewN ?_ _|refine blk_drew ?_|refine blk_alloc ?_ _));refine blk_far ?_ NB252_254.out _;(with_reducible repeat (first|refine blk_drewN ?_ _|refine blk_drew ?_|refine blk_alloc ?_ _));refine blk_far ?_ NB252_254.out _;(with_reducible repeat (first|refine blk_drewN ?_ _|refine blk_drew ?_|refine blk_alloc ?_ _));exact BK252.out⟩,⟨be⟩⟩
     ·rw [if_neg c6] at H
      exact absurd H (by simp)
    ·rw [if_neg c5] at H
     exact absurd H (by simp)
   ·rw [if_neg c4] at H
    have c4b0:decide (x10_1 < (l0.length:Int))=false:=decide_eq_false c4
    clear c4
    simp only [Option.some.injEq,Prod.mk.injEq] at H
    obtain ⟨rfl,rfl,rfl,rfl⟩:=H
    have hcz15_0:wr.cell? ⟨gb252,0,none⟩=some (.int .i64 x253000_1):=(blk_cell BK252.out 0).trans rfl
    have hcz15_1:wr.cell? ⟨gb252,1,none⟩=some (.int .i64 x253001_1):=(blk_cell BK252.out 1).trans rfl
    have hcz15_2:wr.cell? ⟨gb252,2,none⟩=some (.int .i64 x253002_1):=(blk_cell BK252.out 2).trans rfl
    have hfz15_0:=blk_frozen BK252.out 0
    have hfz15_1:=blk_frozen BK252.out 1
    have hfz15_2:=blk_frozen BK252.out 2
    go_wp2
    refine bodyPost_ret (results_ct rfl _ _ gb252 53 #[.int .i64 0,.int .i64 0,.int .i64 0] (0,0) _ rfl (by (with_reducible repeat (first|refine blk_drewN ?_ _|refine blk_drew ?_|refine blk_alloc ?_ _));refine blk_put (cs:=#[.int .i64 0,.int .i64 0,.int .i64 x253002_1]) ?_ 2 _ rfl;(with_reducible repeat (first|refine blk_drewN ?_ _|refine blk_drew ?_|refine blk_alloc ?_ _));refine blk_put (cs:=#[.int .i64 0,.int .i64 x253001_1,.int .i64 x253002_1]) ?_ 1 _ rfl;(with_reducible repeat (first|refine blk_drewN ?_ _|refine blk_drew ?_|refine blk_alloc ?_ _));refine blk_put (cs:=#[.int .i64 x253000_1,.int .i64 x253001_1,.int .i64 x253002_1]) ?_ 0 _ rfl;(with_reducible repeat (first|refine blk_drewN ?_ _|refine blk_drew ?_|refine blk_alloc ?_ _));exact BK252.out) Tryd.underlying53 rfl (by kernel_rfl)) rfl ?_
    exact ⟨rz,be⟩
def laws_has.l0:Nat→List Int→Int→Int→Option (Bool)
 | 0,_,_,_=>none
 | k+1,x0,x1,x5=>if x5 < (x0.length:Int) then (if 0≤x5 then (if (rd x0 x5)=x1 then (some true) else (laws_has.l0 k x0 x1 (wrap64 (x5+1)))) else (none)) else (some false)
def laws_has.f (k:Nat) (l0:List Int) (a1:Int):Option (Bool):=laws_has.l0 k l0 a1 0
set_option maxHeartbeats 8000000 in
set_option maxRecDepth 100000 in
theorem laws_has.calls (k:Nat) (A0:Option Addr) (c0:Nat) (l0:List Int) (a1:Int) (r:Bool) (w:World) (hr0:Kd.C (Kd.int .i64) w A0 l0.length l0) (hc0:l0.length≤c0) (h:laws_has.f k l0 a1=some r) :
  Calls Tryd.prog 40 #[.slice A0 l0.length c0,.int .i64 a1] w fun e w'=>e = .returned (.bool r)∧Drawn0 w w':=by
 have HR0:=Aside0.mk hr0
 have HC0:=Aside0.mk hc0
 clear hr0 hc0
 have H:(laws_has.l0 k l0 a1 0)=some r:=h
 clear h
 have H':=Aside0.mk H
 clear H
 go_enter Tryd.func40,Tryd.ntmps40
 go_wp2
 go_loopg [5] k (fun kq v5 w'=>∃ (x5_1:Int),v5 = .int .i64 x5_1∧Aside0 (laws_has.l0 kq l0 a1 x5_1=some r)∧Aside0 (kq≤k)∧Drawn0 w w')
 case atStart=>exact ⟨(0),rd_,H',⟨Nat.le_refl _⟩,by repeat (first|exact Drawn0.refl _|apply Drawn0.step)⟩
 case round=>
  clear H'
  try clear p2
  obtain ⟨x5_1,rfl,HA,HK1,⟨m1,rfl⟩⟩:=hrel
  cases gk with
  | zero=>exact absurd HA.out (by simp [laws_has.l0])
  | succ k1=>
   have H:=HA.out
   clear HA
   simp only [laws_has.l0] at H
   by_cases c3:x5_1 < (l0.length:Int)
   ·rw [if_pos c3] at H
    have c3b0:decide (x5_1 < (l0.length:Int))=true:=decide_eq_true c3
    clear c3
    by_cases c4:0≤x5_1
    ·rw [if_pos c4] at H
     have c4b0:decide (0≤x5_1)=true:=decide_eq_true c4
     clear c4
     by_cases c5:(rd l0 x5_1)=a1
     ·rw [if_pos c5] at H
      have c5b0:((rd l0 x5_1) == a1)=true:=beq_iff_eq.mpr c5
      have c5b1:((rd l0 x5_1) != a1)=false:=bne_eq_false_iff_eq.mpr c5
      clear c5
      obtain rfl:=Option.some.inj H
      have p255:0≤(x5_1:Int):=of_decide_eq_true (by first|(with_reducible assumption)|assumption)
      have q255:x5_1 < (l0.length:Int):=of_decide_eq_true (by first|(with_reducible assumption)|assumption)
      obtain ⟨ad255,e255,hx255_0⟩:=Kd.at_int HR0.out x5_1 p255 q255
      cases e255
      replace p255:=eq_true p255
      replace q255:=eq_true q255
      go_wp2
      go_ret
      exact ⟨by first|rfl|(simp;done)|(simp [*];done),by repeat (first|exact Drawn0.refl _|apply Drawn0.step)⟩
     ·rw [if_neg c5] at H
      have c5b0:((rd l0 x5_1) == a1)=false:=beq_eq_false_iff_ne.mpr c5
      have c5b1:((rd l0 x5_1) != a1)=true:=bne_iff_ne.mpr c5
      have H':=Aside0.mk H
      clear H
      have p255:0≤(x5_1:Int):=of_decide_eq_true (by first|(with_reducible assumption)|assumption)
      have q255:x5_1 < (l0.length:Int):=of_decide_eq_true (by first|(with_reducible assumption)|assumption)
      obtain ⟨ad255,e255,hx255_0⟩:=Kd.at_int HR0.out x5_1 p255 q255
      cases e255
      replace p255:=eq_true p255
      replace q255:=eq_true q255
      go_wp2
      go_roundg k1
      case measure=>have:=HK1.out;omega
      case rel=>exact ⟨(wrap64 (x5_1+1)),rd_,H',⟨by have:=HK1.out;omega⟩,by repeat (first|exact Drawn0.refl _|apply Drawn0.step)⟩
    ·rw [if_neg c4] at H
     exact absurd H (by simp)
   ·rw [if_neg c3] at H
    have c3b0:decide (x5_1 < (l0.length:Int))=false:=decide_eq_false c3
    clear c3
    obtain rfl:=Option.some.inj H
    go_wp2
    go_ret
    exact ⟨by first|rfl|(simp;done)|(simp [*];done),by repeat (first|exact Drawn0.refl _|apply Drawn0.step)⟩
end Go.Proofs.YtnoglmdicdpabaaDoor.PFnDevs
