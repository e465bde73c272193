/- Trimmed by a program of this session (trim.py). Not trusted: Lean checks it. -/
import Derived.Test.YtpbjbfimnfghkaaTXRebalancePFnExactRebalancex0
import Derived.Test.YtpbjbfimnfghkaaTXRebalancePFnExactRebalancex6
import Derived.Test.YtpbjbfimnfghkaaTXRebalancePFnExactRebalancex12
import Derived.Test.YtpbjbfimnfghkaaTXRebalancePFnExactRebalancex13
import Derived.Test.YtpbjbfimnfghkaaTXRebalancePFnExactRebalancex14
namespace Go.Proofs.Ytpbjbfimnfghkaa.PFnExactRebalance
open Go.RowKit Go.Proofs.YtpbjbfimnfghkaaW.PrintWords Go.Proofs.YtpbjbfimnfghkaaW.PrintLast Go.Proofs.YtpbjbfimnfghkaaW.PrintMore Go.Proofs.Ytpbjbfimnfghkaa.St
attribute [local go_sem] max2_int min2_int max_two min_two max_three min_three max_four min_four
set_option linter.unusedVariables false
set_option linter.unusedSimpArgs false
def laws_markPartS.l0:Nat→List (S35)→Int→Int→Option (Int × List (S35))
 | 0,_,_,_=>none
 | k+1,x0,x1,x5=>if x5 < (x0.length:Int) then (if 0≤x5 then ((laws_markIntS.f k ((rd_T35 x0 x5).f0) x1).bind fun t=>(laws_markPartS.l0 k (x0.set (x5:Int).toNat (⟨t.2⟩:S35)) t.1 (wrap64 (x5+1)))) else (none)) else (some (x1,x0))
def laws_markPartS.f (k:Nat) (l0:List (S35)) (a1:Int):Option (Int × List (S35)):=laws_markPartS.l0 k l0 a1 0
set_option maxHeartbeats 4000000 in
set_option maxRecDepth 100000 in
theorem laws_markPartS.calls (k:Nat) (P0_:Nat→Prop) (u9000_:Value) (l0:List (S35)) (a1:Int) (r1:Int) (r2:List (S35)) (w0 w:World) (hB:Below w0.heap.size w0 w) (ho0:Kd.S k35 35 w w0.heap.size P0_ u9000_ l0) (h:laws_markPartS.f k l0 a1=some (r1,r2)) :
  Calls Try.prog 66 #[u9000_,.int .i64 a1] w fun e w'=>e = .returned (.int .i64 r1)∧Kd.S k35 35 w' w0.heap.size P0_ u9000_ r2∧Below w0.heap.size w0 w' ∧ Kept w w' P0_:=by
 have hu:=Try.underlying35
 have HO:=aM ho0
 have HK:=aM (Kept.refl w P0_)
 have HB:=aM hB
 clear hB ho0
 have H':=Aside0.mk (show laws_markPartS.l0 k l0 a1 0=some (r1,r2) from h)
 clear h
 obtain ⟨A,c,e0⟩:=Kd.S_slice HO.out
 subst e0
 go_enter Try.func66,Try.ntmps66
 go_wp2
 go_loopg [1,5] k (fun kq v1 v5 w'=>∃ (x0:List (S35)) (x1 x5:Int),v1 = .int .i64 x1∧v5 = .int .i64 x5∧Aside0 (laws_markPartS.l0 kq x0 x1 x5=some (r1,r2))∧Aside0 (kq≤k)∧Aside0 (x0.length=l0.length)∧Aside0 (Kd.S k35 35 w' w0.heap.size P0_ (.slice A l0.length c) x0)∧Aside0 (Kept w w' P0_)∧Aside0 (Below w0.heap.size w0 w'))
 case atStart=>exact ⟨l0,a1,0,by first|rfl|(simp;done)|(simp [*];done),by first|rfl|(simp;done)|(simp [*];done),H',⟨Nat.le_refl _⟩,⟨rfl⟩,HO,HK,HB⟩
 case round=>
  clear H' HO HK HB
  obtain ⟨x0,x1,x5,rfl,rfl,HA,HK1,HL,HO,HK,HB⟩:=hrel
  cases gk with
  | zero=>exact absurd HA.out (by simp [laws_markPartS.l0])
  | succ k1=>
   have H:=HA.out
   clear HA
   simp only [laws_markPartS.l0] at H
   by_cases c3:x5 < (x0.length:Int)
   ·rw [if_pos c3] at H
    by_cases c4:0≤x5
    ·rw [if_pos c4] at H
     obtain ⟨⟨t1,t2⟩,hc,H⟩:=Option.bind_eq_some_iff.mp H
     have H':=Aside0.mk H
     clear H
     have hc':=Aside0.mk hc
     clear hc
     obtain ⟨g,cap,e1,_,_,_⟩:=Kd.S_form HO.out (by omega)
     injection e1 with e1 e2 e3
     subst e1 e3
     have c3':=Aside0.mk c3
     obtain ⟨oki,cs,_,hM,hcc,hfr,hoki,hH⟩:=Kd.S_elem HO.out z35 x5 c4 (by omega)
     have q5:x5 < (l0.length:Int):=by have:=HL.out;omega
     clear e2
     obtain ⟨v0,rfl,hR⟩:=k35_openM hM
     change Kd.R (Kd.int .i64) 3 wr w0.heap.size oki v0 ((rd_T35 x0 x5).f0) at hR
     obtain ⟨A1,c1,rfl⟩:=Kd.R_slice hR
     have hx0:=hcc 0 _ rfl
     change wr.cell? ⟨g,x5.toNat * 1+0,none⟩=_ at hx0
     rw [Nat.mul_one,Nat.add_zero] at hx0
     have HR:=aM hR
     have HH:=aM hH
     have HI:=aM hoki
     have c5:decide (x5 < (l0.length:Int))=true:=decide_eq_true q5
     have c6:decide (0≤x5)=true:=decide_eq_true c4
     have p5:=eq_true c4
     replace q5:=eq_true q5
     clear hR hH hoki hcc hfr hM c3
     go_wp2_with (go_at_call 28;refine (laws_markIntS.calls k1 oki _ _ x1 t1 t2 w0 _ HB.out HR.out hc'.out).mono ?_;rintro e w1 ⟨rfl,hy,hb,hkp⟩)
     go_roundg k1
     case measure=>have:=HK1.out;omega
     case rel=>
      refine ⟨x0.set (x5:Int).toNat (⟨t2⟩:S35),t1,wrap64 (x5+1),rfl,rfl,H',⟨by have:=HK1.out;omega⟩,⟨by rw [List.length_set];exact HL.out⟩,⟨?_⟩,⟨HK.out.then_ hkp (fun k_ hk=>.inl (HI.out k_ hk).1)⟩,⟨hb⟩⟩
      have hR1:=Kd.R_reok (ok:=oki) rfl hy (fun k_ e_=>HR.out.1 k_ e_)
      exact Kd.H_back (x':=(⟨t2⟩:S35)) (Kd.H_step HH.out (fun k_ _ hn hlt=>hkp.2 k_ hlt hn)) (k35_mkM _ _ _ (⟨t2⟩:S35) hR1) (fun _ h=>h)
    ·rw [if_neg c4] at H
     cases H
   ·rw [if_neg c3] at H
    simp only [Option.some.injEq,Prod.mk.injEq] at H
    obtain ⟨rfl,rfl⟩:=H
    have c5:decide (x5 < (l0.length:Int))=false:=decide_eq_false (by have:=HL.out;omega)
    clear c3
    go_wp2
    go_ret
    exact ⟨rfl,HO.out,HB.out,HK.out⟩
def laws_markRing.f (k:Nat) (a0_0:Int) (l0_1:List (S35)) (a1:Int):Option (Int × List (S35)):=laws_markPartS.f k l0_1 a1
set_option maxHeartbeats 4000000 in
set_option maxRecDepth 100000 in
theorem laws_markRing.calls (k:Nat) (a0_0:Int) (P0_1_:Nat→Prop) (u9000_:Value) (l0_1:List (S35)) (a1:Int) (r1:Int) (r2:List (S35)) (w0 w:World) (hB:Below w0.heap.size w0 w) (ho0_1:Kd.S k35 35 w w0.heap.size P0_1_ u9000_ l0_1) (h:laws_markRing.f k a0_0 l0_1 a1=some (r1,r2)) :
  Calls Try.prog 22 #[.agg #[.int .i64 a0_0,u9000_],.int .i64 a1] w fun e w'=>e = .returned (.int .i64 r1)∧Kd.S k35 35 w' w0.heap.size P0_1_ u9000_ r2∧Below w0.heap.size w0 w' ∧ Kept w w' P0_1_:=by
 have hu:=Try.underlying26
 have hu':=Try.underlying35
 have HO:=aM ho0_1
 have HB:=aM hB
 clear hB ho0_1
 have H':=Aside0.mk (show laws_markPartS.f k l0_1 a1=some (r1,r2) from h)
 clear h
 obtain ⟨A,c,e0⟩:=Kd.S_slice HO.out
 subst e0
 go_enter Try.func22,Try.ntmps22
 go_wp2_with (go_at_call 66;refine (laws_markPartS.calls k P0_1_ (.slice A l0_1.length c) l0_1 a1 r1 r2 w0 _ (below_alloc HB.out _) (Kd.S_alloc HO.out _) H'.out).mono ?_;rintro e w1 ⟨rfl,hy,hb,hkp⟩)
 go_ret
 refine ⟨rfl,hy,hb,?_⟩
 exact Kept.then_ (S:=P0_1_) ((Kept.refl w P0_1_).alloc _) hkp (fun k_ hk=>.inl hk)
def laws_markDevS.l0:Nat→List (S61)→Int→Int→Option (Int × (List (S61)))
 | 0,_,_,_=>none
 | k+1,x0,x1,x5=>if x5 < (x0.length:Int) then (if 0≤x5 then ((some (x0.set (x5:Int).toNat (⟨x1,(rd_T61 x0 x5).f1,(rd_T61 x0 x5).f2⟩:S61):List (S61))).bind fun y410=>((some (y410.set (x5:Int).toNat (⟨(rd_T61 y410 x5).f0,wrap64 (x1+1),(rd_T61 y410 x5).f2⟩:S61):List (S61))).bind fun y411=>(laws_markDevS.l0 k (y411.set (x5:Int).toNat (⟨(rd_T61 y411 x5).f0,(rd_T61 y411 x5).f1,wrap64 ((wrap64 (x1+1))+1)⟩:S61)) (wrap64 ((wrap64 ((wrap64 (x1+1))+1))+1)) (wrap64 (x5+1))))) else (none)) else (some (x1,x0))
def laws_markDevS.f (k:Nat) (l0:List (S61)) (a1:Int):Option (Int × (List (S61))):=laws_markDevS.l0 k l0 a1 0
set_option maxHeartbeats 8000000 in
set_option maxRecDepth 100000 in
theorem laws_markDevS.calls (k:Nat) (P0_:Nat→Prop) (u9000_:Value) (l0:List (S61)) (a1:Int) (r1:Int) (r2:List (S61)) (w0 w:World) (hB:Below w0.heap.size w0 w) (ho0:Kd.R k61 61 w w0.heap.size P0_ u9000_ l0) (h:laws_markDevS.f k l0 a1=some (r1,r2)) :
  Calls Try.prog 23 #[u9000_,.int .i64 a1] w fun e w'=>e = .returned (.int .i64 r1)∧Kd.R k61 61 w' w0.heap.size (fun k_=>(P0_ k_ ∨ w.heap.size≤k_)) u9000_ r2∧Below w0.heap.size w0 w' ∧ Kept w w' (fun k_=>P0_ k_):=by
 have HO0:=aM (show Kd.R k61 61 w w0.heap.size (fun k_=>(P0_ k_ ∨ w.heap.size≤k_)) u9000_ l0 from Kd.R_mono ho0 (fun k_ hk=>(.inl hk)))
 have HK:=aM (Kept.refl w (fun k_=>P0_ k_))
 have HW0:=aM hB.size
 have HB:=aM hB
 clear hB
 have H:(laws_markDevS.l0 k l0 a1 0)=some (r1,r2):=h
 clear h
 have H':=Aside0.mk H
 clear H
 go_enter Try.func23,Try.ntmps23
 go_wp2
 go_loopg [1,5] k (fun kq v1 v5 w'=>∃ (x0_1:List (S61)) (x1_1:Int) (x5_1:Int),v1 = .int .i64 x1_1∧v5 = .int .i64 x5_1∧Aside0 (laws_markDevS.l0 kq x0_1 x1_1 x5_1=some (r1,r2))∧Aside0 (kq≤k)∧Aside0 (Kd.R k61 61 w' w0.heap.size (fun k_=>(P0_ k_ ∨ w.heap.size≤k_)) u9000_ x0_1)∧Aside0 (Kept w w' (fun k_=>P0_ k_))∧Aside0 (Below w0.heap.size w0 w'))
 case atStart=>exact ⟨(l0),(a1),(0),rd_,rd_,H',⟨Nat.le_refl _⟩,⟨rR HO0⟩,⟨by repeat ((with_reducible first|exact HK.out|apply Kept.alloc|apply Kept.drewN|apply Kept.drew))⟩,⟨be⟩⟩
 case round=>
  clear H'
  obtain ⟨x0_1,x1_1,x5_1,rfl,rfl,HA,HK1,HO_0,HK,HB⟩:=hrel
  cases gk with
  | zero=>exact absurd HA.out (by simp [laws_markDevS.l0])
  | succ k1=>
   have H:=HA.out
   clear HA
   simp only [laws_markDevS.l0] at H
   by_cases c3:x5_1 < (x0_1.length:Int)
   ·rw [if_pos c3] at H
    have c3b0:decide (x5_1 < (x0_1.length:Int))=true:=decide_eq_true c3
    clear c3
    by_cases c4:0≤x5_1
    ·rw [if_pos c4] at H
     have c4b0:decide (0≤x5_1)=true:=decide_eq_true c4
     clear c4
     obtain ⟨y410,hy410⟩ : ∃ y_:List (S61),y_=(x0_1.set (x5_1:Int).toNat (⟨x1_1,(rd_T61 x0_1 x5_1).f1,(rd_T61 x0_1 x5_1).f2⟩:S61)):=⟨_,rfl⟩
     replace H:((some (y410.set (x5_1:Int).toNat (⟨(rd_T61 y410 x5_1).f0,wrap64 (x1_1+1),(rd_T61 y410 x5_1).f2⟩:S61):List (S61))).bind fun y411=>(laws_markDevS.l0 k1 (y411.set (x5_1:Int).toNat (⟨(rd_T61 y411 x5_1).f0,(rd_T61 y411 x5_1).f1,wrap64 ((wrap64 (x1_1+1))+1)⟩:S61)) (wrap64 ((wrap64 ((wrap64 (x1_1+1))+1))+1)) (wrap64 (x5_1+1))))=some (r1,r2):=by first|(rw [hy410];with_reducible exact H)|(have H2_:=(Option.bind_some _ _).symm.trans H;rw [hy410];with_reducible exact H2_)|(have H2_:=(Option.bind_some _ _).symm.trans H;with_reducible exact H2_)|with_reducible exact H|(rw [hy410];exact H)|exact H
     have Ny410:=aM hy410
     clear hy410
     obtain ⟨y411,hy411⟩ : ∃ y_:List (S61),y_=(y410.set (x5_1:Int).toNat (⟨(rd_T61 y410 x5_1).f0,wrap64 (x1_1+1),(rd_T61 y410 x5_1).f2⟩:S61)):=⟨_,rfl⟩
     replace H:(laws_markDevS.l0 k1 (y411.set (x5_1:Int).toNat (⟨(rd_T61 y411 x5_1).f0,(rd_T61 y411 x5_1).f1,wrap64 ((wrap64 (x1_1+1))+1)⟩:S61)) (wrap64 ((wrap64 ((wrap64 (x1_1+1))+1))+1)) (wrap64 (x5_1+1)))=some (r1,r2):=by first|(rw [hy411];with_reducible exact H)|(have H2_:=(Option.bind_some _ _).symm.trans H;rw [hy411];with_reducible exact H2_)|(have H2_:=(Option.bind_some _ _).symm.trans H;with_reducible exact H2_)|with_reducible exact H|(rw [hy411];exact H)|exact H
     have Ny411:=aM hy411
     clear hy411
     obtain ⟨y412,hy412⟩ : ∃ y_:List (S61),y_=(y411.set (x5_1:Int).toNat (⟨(rd_T61 y411 x5_1).f0,(rd_T61 y411 x5_1).f1,wrap64 ((wrap64 (x1_1+1))+1)⟩:S61)):=⟨_,rfl⟩
     replace H:(laws_markDevS.l0 k1 y412 (wrap64 ((wrap64 ((wrap64 (x1_1+1))+1))+1)) (wrap64 (x5_1+1)))=some (r1,r2):=by first|(rw [hy412];with_reducible exact H)|(have H2_:=(Option.bind_some _ _).symm.trans H;rw [hy412];with_reducible exact H2_)|(have H2_:=(Option.bind_some _ _).symm.trans H;with_reducible exact H2_)|with_reducible exact H|(rw [hy412];exact H)|exact H
     have Ny412:=aM hy412
     clear hy412
     have H':=Aside0.mk H
     clear H
     obtain ⟨Ao8,co8,eo8⟩:=Kd.R_slice HO_0.out
     subst eo8
     have p5:0≤(x5_1:Int):=of_decide_eq_true (by first|(with_reducible assumption)|assumption)
     have q5:(x5_1:Int) < ((x0_1.length:Int):Int):=of_decide_eq_true (by first|(with_reducible assumption)|assumption)
     obtain ⟨go5,co5,eo5,gb5,gl5,cl5,HG5⟩:=Kd.R_form HO_0.out (by omega)
     (cases eo5)
     have GB5:=aM gb5
     have GG5:=aM HG5
     clear gb5 gl5 HG5
     have HMgo5:=aM (show (P0_ go5 ∨ w.heap.size≤go5) from (HO_0.out.1 _ rfl))
     obtain ⟨ce5,hcl5,hM5,hcc5,hfr5⟩:=Kd.R_elem HO_0.out z61 (x5_1:Int) p5 q5
     obtain rfl:=k61_openM hM5
     have hx5_0:wr.cell? ⟨go5,(x5_1:Int).toNat * 3,none⟩=some (.int .i64 ((rd_T61 x0_1 x5_1).f0)):=hcc5 0 _ rfl
     have hx5_1:wr.cell? ⟨go5,(x5_1:Int).toNat * 3+1,none⟩=some (.int .i64 ((rd_T61 x0_1 x5_1).f1)):=hcc5 1 _ rfl
     have hx5_2:wr.cell? ⟨go5,(x5_1:Int).toNat * 3+2,none⟩=some (.int .i64 ((rd_T61 x0_1 x5_1).f2)):=hcc5 2 _ rfl
     have hf5_0:wr.frozen? ⟨go5,(x5_1:Int).toNat * 3,none⟩=false:=hfr5 0
     have hf5_1:wr.frozen? ⟨go5,(x5_1:Int).toNat * 3+1,none⟩=false:=hfr5 1
     have hf5_2:wr.frozen? ⟨go5,(x5_1:Int).toNat * 3+2,none⟩=false:=hfr5 2
     clear hcl5 hcc5 hfr5 hM5
     replace p5:=eq_true p5
     replace q5:=eq_true q5
     have HX9:=aM (show Kd.R k61 61 wr w0.heap.size (fun k_=>(P0_ k_ ∨ w.heap.size≤k_)) (.slice (some ⟨go5,0,none⟩) x0_1.length co8) x0_1 from (rR HO_0))
     obtain ⟨ce9,hcl9,hM9,hcc9,hfr9⟩:=Kd.R_elem HX9.out z61 (x5_1:Int) (of_decide_eq_true (by first|(with_reducible assumption)|assumption)) (by have h_:(x5_1:Int) < ((x0_1.length:Int):Int):=of_decide_eq_true (by first|(with_reducible assumption)|assumption);first|exact h_|(have e_:=(Kd.R_reads' HO_0.out).1;omega)|simpa using h_)
     obtain rfl:=k61_openM hM9
     have HP9:=Kd.R_seg HX9.out (x5_1:Int) (of_decide_eq_true (by first|(with_reducible assumption)|assumption)) (by have h_:(x5_1:Int) < ((x0_1.length:Int):Int):=of_decide_eq_true (by first|(with_reducible assumption)|assumption);first|exact h_|(have e_:=(Kd.R_reads' HO_0.out).1;omega)|simpa using h_) (seg:=[.int .i64 x1_1]) (j:=0) hcl9 hcc9 (show 1≤3 from by decide) (x':=(⟨x1_1,(rd_T61 x0_1 x5_1).f1,(rd_T61 x0_1 x5_1).f2⟩:S61)) (k61_mkM _ _ _ (⟨x1_1,(rd_T61 x0_1 x5_1).f1,(rd_T61 x0_1 x5_1).f2⟩:S61) ) (fun _ hk=>hk)
     have hx9_0:=hcc9 0 _ rfl
     (try simp only [show (k61).sz=3 from rfl,Nat.mul_one,Nat.add_zero] at hx9_0)
     have hf9_0:=hfr9 0
     (try simp only [show (k61).sz=3 from rfl,Nat.mul_one,Nat.add_zero] at hf9_0)
     clear hcl9 hcc9 hfr9 hM9
     go_wp2_with (first|((with_reducible refine gate_store (t:=3) (p:=16) rfl ?_);refine store_event (t:=3) (p:=16) (v:=?vo_w10) (w1:=(wr.setCell ⟨go5,(x5_1:Int).toNat * 3,none⟩ (.int .i64 x1_1))) ?hg ?ho ?hn ?hr ?_;(case ho=>rfl);(case hg=>rfl);(case hn=>rfl);(case hr=>first|(go_simp;done)|(go_simp;rfl));intro w10 hw;have hg:wr.grownBy w10 (some go5):=(by rw [hw];exact HP9.2);have hp_:Kd.R k61 61 w10 w0.heap.size (fun k_=>(P0_ k_ ∨ w.heap.size≤k_)) (.slice (some ⟨go5,0,none⟩) x0_1.length co8) y410:=(by rw [hw,Ny410.out];exact HP9.1);clear HP9;replace HB:=aM ((by rw [hw];exact below_set (HB.out) GB5.out:Below w0.heap.size w0 w10));replace HK:=aM (Kept.of_grown (S:=(fun k_=>P0_ k_)) hg (by repeat ((with_reducible first|exact HK.out|apply Kept.alloc|apply Kept.drewN|apply Kept.drew))) (fun k_ e_=>(HO_0.out.1 k_ e_)));replace HO_0:=aM (hp_);clear hg hw hp_;have p6:0≤(x5_1:Int):=of_decide_eq_true (by first|(with_reducible assumption)|assumption);have q6:(x5_1:Int) < ((x0_1.length:Int):Int):=of_decide_eq_true (by first|(with_reducible assumption)|assumption);obtain ⟨ce6,hcl6,hM6,hcc6,hfr6⟩:=Kd.R_elem HO_0.out z61 (x5_1:Int) p6 q6;obtain rfl:=k61_openM hM6;have hx6_0:w10.cell? ⟨go5,(x5_1:Int).toNat * 3,none⟩=some (.int .i64 ((rd_T61 y410 x5_1).f0)):=hcc6 0 _ rfl;have hx6_1:w10.cell? ⟨go5,(x5_1:Int).toNat * 3+1,none⟩=some (.int .i64 ((rd_T61 y410 x5_1).f1)):=hcc6 1 _ rfl;have hx6_2:w10.cell? ⟨go5,(x5_1:Int).toNat * 3+2,none⟩=some (.int .i64 ((rd_T61 y410 x5_1).f2)):=hcc6 2 _ rfl;have hf6_0:w10.frozen? ⟨go5,(x5_1:Int).toNat * 3,none⟩=false:=hfr6 0;have hf6_1:w10.frozen? ⟨go5,(x5_1:Int).toNat * 3+1,none⟩=false:=hfr6 1;have hf6_2:w10.frozen? ⟨go5,(x5_1:Int).toNat * 3+2,none⟩=false:=hfr6 2;clear hcl6 hcc6 hfr6 hM6;replace p6:=eq_true p6;replace q6:=eq_true q6;have HX11:=aM (show Kd.R k61 61 w10 w0.heap.size (fun k_=>(P0_ k_ ∨ w.heap.size≤k_)) (.slice (some ⟨go5,0,none⟩) x0_1.length co8) y410 from (rR HO_0));obtain ⟨ce11,hcl11,hM11,hcc11,hfr11⟩:=Kd.R_elem HX11.out z61 (x5_1:Int) (of_decide_eq_true (by first|(with_reducible assumption)|assumption)) (by have h_:(x5_1:Int) < ((x0_1.length:Int):Int):=of_decide_eq_true (by first|(with_reducible assumption)|assumption);first|exact h_|(have e_:=(Kd.R_reads' HO_0.out).1;omega)|simpa using h_);obtain rfl:=k61_openM hM11;have HP11:=Kd.R_seg HX11.out (x5_1:Int) (of_decide_eq_true (by first|(with_reducible assumption)|assumption)) (by have h_:(x5_1:Int) < ((x0_1.length:Int):Int):=of_decide_eq_true (by first|(with_reducible assumption)|assumption);first|exact h_|(have e_:=(Kd.R_reads' HO_0.out).1;omega)|simpa using h_) (seg:=[.int .i64 (wrap64 (x1_1+1))]) (j:=1) hcl11 hcc11 (show 2≤3 from by decide) (x':=(⟨(rd_T61 y410 x5_1).f0,wrap64 (x1_1+1),(rd_T61 y410 x5_1).f2⟩:S61)) (k61_mkM _ _ _ (⟨(rd_T61 y410 x5_1).f0,wrap64 (x1_1+1),(rd_T61 y410 x5_1).f2⟩:S61) ) (fun _ hk=>hk);have hx11_1:=hcc11 1 _ rfl;(try simp only [show (k61).sz=3 from rfl,Nat.mul_one,Nat.add_zero] at hx11_1);have hf11_1:=hfr11 1;(try simp only [show (k61).sz=3 from rfl,Nat.mul_one,Nat.add_zero] at hf11_1);clear hcl11 hcc11 hfr11 hM11)|((with_reducible refine gate_store (t:=3) (p:=23) rfl ?_);refine store_event (t:=3) (p:=23) (v:=?vo_w12) (w1:=(w10.setCell ⟨go5,(x5_1:Int).toNat * 3+1,none⟩ (.int .i64 (wrap64 (x1_1+1))))) ?hg ?ho ?hn ?hr ?_;(case ho=>rfl);(case hg=>rfl);(case hn=>rfl);(case hr=>first|(go_simp;done)|(go_simp;rfl));intro w12 hw;have hg:w10.grownBy w12 (some go5):=(by rw [hw];exact HP11.2);have hp_:Kd.R k61 61 w12 w0.heap.size (fun k_=>(P0_ k_ ∨ w.heap.size≤k_)) (.slice (some ⟨go5,0,none⟩) x0_1.length co8) y411:=(by rw [hw,Ny411.out];exact HP11.1);clear HP11;replace HB:=aM ((by rw [hw];exact below_set (HB.out) GB5.out:Below w0.heap.size w0 w12));replace HK:=aM (Kept.of_grown (S:=(fun k_=>P0_ k_)) hg (by repeat ((with_reducible first|exact HK.out|apply Kept.alloc|apply Kept.drewN|apply Kept.drew))) (fun k_ e_=>(HO_0.out.1 k_ e_)));replace HO_0:=aM (hp_);clear hg hw hp_;have p7:0≤(x5_1:Int):=of_decide_eq_true (by first|(with_reducible assumption)|assumption);have q7:(x5_1:Int) < ((x0_1.length:Int):Int):=of_decide_eq_true (by first|(with_reducible assumption)|assumption);obtain ⟨ce7,hcl7,hM7,hcc7,hfr7⟩:=Kd.R_elem HO_0.out z61 (x5_1:Int) p7 q7;obtain rfl:=k61_openM hM7;have hx7_0:w12.cell? ⟨go5,(x5_1:Int).toNat * 3,none⟩=some (.int .i64 ((rd_T61 y411 x5_1).f0)):=hcc7 0 _ rfl;have hx7_1:w12.cell? ⟨go5,(x5_1:Int).toNat * 3+1,none⟩=some (.int .i64 ((rd_T61 y411 x5_1).f1)):=hcc7 1 _ rfl;have hx7_2:w12.cell? ⟨go5,(x5_1:Int).toNat * 3+2,none⟩=some (.int .i64 ((rd_T61 y411 x5_1).f2)):=hcc7 2 _ rfl;have hf7_0:w12.frozen? ⟨go5,(x5_1:Int).toNat * 3,none⟩=false:=hfr7 0;have hf7_1:w12.frozen? ⟨go5,(x5_1:Int).toNat * 3+1,none⟩=false:=hfr7 1;have hf7_2:w12.frozen? ⟨go5,(x5_1:Int).toNat * 3+2,none⟩=false:=hfr7 2;clear hcl7 hcc7 hfr7 hM7;replace p7:=eq_true p7;replace q7:=eq_true q7;have HX13:=aM (show Kd.R k61 61 w12 w0.heap.size (fun k_=>(P0_ k_ ∨ w.heap.size≤k_)) (.slice (some ⟨go5,0,none⟩) x0_1.length co8) y411 from (rR HO_0));obtain ⟨ce13,hcl13,hM13,hcc13,hfr13⟩:=Kd.R_elem HX13.out z61 (x5_1:Int) (of_decide_eq_true (by first|(with_reducible assumption)|assumption)) (by have h_:(x5_1:Int) < ((x0_1.length:Int):Int):=of_decide_eq_true (by first|(with_reducible assumption)|assumption);first|exact h_|(have e_:=(Kd.R_reads' HO_0.out).1;omega)|simpa using h_);obtain rfl:=k61_openM hM13;have HP13:=Kd.R_seg HX13.out (x5_1:Int) (of_decide_eq_true (by first|(with_reducible assumption)|assumption)) (by have h_:(x5_1:Int) < ((x0_1.length:Int):Int):=of_decide_eq_true (by first|(with_reducible assumption)|assumption);first|exact h_|(have e_:=(Kd.R_reads' HO_0.out).1;omega)|simpa using h_) (seg:=[.int .i64 (wrap64 ((wrap64 (x1_1+1))+1))]) (j:=2) hcl13 hcc13 (show 3≤3 from by decide) (x':=(⟨(rd_T61 y411 x5_1).f0,(rd_T61 y411 x5_1).f1,wrap64 ((wrap64 (x1_1+1))+1)⟩:S61)) (k61_mkM _ _ _ (⟨(rd_T61 y411 x5_1).f0,(rd_T61 y411 x5_1).f1,wrap64 ((wrap64 (x1_1+1))+1)⟩:S61) ) (fun _ hk=>hk);have hx13_2:=hcc13 2 _ rfl;(try simp only [show (k61).sz=3 from rfl,Nat.mul_one,Nat.add_zero] at hx13_2);have hf13_2:=hfr13 2;(try simp only [show (k61).sz=3 from rfl,Nat.mul_one,Nat.add_zero] at hf13_2);clear hcl13 hcc13 hfr13 hM13)|((with_reducible refine gate_store (t:=3) (p:=30) rfl ?_);refine store_event (t:=3) (p:=30) (v:=?vo_w14) (w1:=(w12.setCell ⟨go5,(x5_1:Int).toNat * 3+2,none⟩ (.int .i64 (wrap64 ((wrap64 (x1_1+1))+1))))) ?hg ?ho ?hn ?hr ?_;(case ho=>rfl);(case hg=>rfl);(case hn=>rfl);(case hr=>first|(go_simp;done)|(go_simp;rfl));intro w14 hw;have hg:w12.grownBy w14 (some go5):=(by rw [hw];exact HP13.2);have hp_:Kd.R k61 61 w14 w0.heap.size (fun k_=>(P0_ k_ ∨ w.heap.size≤k_)) (.slice (some ⟨go5,0,none⟩) x0_1.length co8) y412:=(by rw [hw,Ny412.out];exact HP13.1);clear HP13;replace HB:=aM ((by rw [hw];exact below_set (HB.out) GB5.out:Below w0.heap.size w0 w14));replace HK:=aM (Kept.of_grown (S:=(fun k_=>P0_ k_)) hg (by repeat ((with_reducible first|exact HK.out|apply Kept.alloc|apply Kept.drewN|apply Kept.drew))) (fun k_ e_=>(HO_0.out.1 k_ e_)));replace HO_0:=aM (hp_);clear hg hw hp_))
     go_roundg k1
     case measure=>have:=HK1.out;omega
     case rel=>exact ⟨(y412),(wrap64 ((wrap64 ((wrap64 (x1_1+1))+1))+1)),(wrap64 (x5_1+1)),rd_,rd_,H',⟨by have:=HK1.out;omega⟩,⟨rR HO_0⟩,⟨by repeat ((with_reducible first|exact HK.out|apply Kept.alloc|apply Kept.drewN|apply Kept.drew))⟩,⟨be⟩⟩
    ·rw [if_neg c4] at H
     exact absurd H (by simp)
   ·rw [if_neg c3] at H
    have c3b0:decide (x5_1 < (x0_1.length:Int))=false:=decide_eq_false c3
    clear c3
    simp only [Option.some.injEq,Prod.mk.injEq] at H
    obtain ⟨rfl,rfl⟩:=H
    obtain ⟨Ao15,co15,eo15⟩:=Kd.R_slice HO_0.out
    subst eo15
    go_wp2
    go_ret
    exact ⟨rz,rR HO_0,be,by repeat ((with_reducible first|exact HK.out|apply Kept.alloc|apply Kept.drewN|apply Kept.drew))⟩
def laws_heldIntS.l0:Nat→List Int→Int→Int→Option (Int)
 | 0,_,_,_=>none
 | k+1,x0,x1,x5=>if x5 < (x0.length:Int) then (if 0≤x5 then (if (rd x0 x5)=x1 then (laws_heldIntS.l0 k x0 (wrap64 (x1+1)) (wrap64 (x5+1))) else (some (-1))) else (none)) else (some x1)
def laws_heldIntS.f (k:Nat) (l0:List Int) (a1:Int):Option (Int):=laws_heldIntS.l0 k l0 a1 0
set_option maxHeartbeats 8000000 in
set_option maxRecDepth 100000 in
theorem laws_heldIntS.calls (k:Nat) (A0:Option Addr) (c0:Nat) (l0:List Int) (a1:Int) (r:Int) (w:World) (hr0:Kd.C (Kd.int .i64) w A0 l0.length l0) (hc0:l0.length≤c0) (h:laws_heldIntS.f k l0 a1=some r) :
  Calls Try.prog 29 #[.slice A0 l0.length c0,.int .i64 a1] w fun e w'=>e = .returned (.int .i64 r)∧Drawn0 w w':=by
 have HR0:=aM hr0
 have HC0:=aM hc0
 clear hr0 hc0
 have H:(laws_heldIntS.l0 k l0 a1 0)=some r:=h
 clear h
 have H':=Aside0.mk H
 clear H
 go_enter Try.func29,Try.ntmps29
 go_wp2
 go_loopg [1,5] k (fun kq v1 v5 w'=>∃ (x1_1:Int) (x5_1:Int),v1 = .int .i64 x1_1∧v5 = .int .i64 x5_1∧Aside0 (laws_heldIntS.l0 kq l0 x1_1 x5_1=some r)∧Aside0 (kq≤k)∧Drawn0 w w')
 case atStart=>exact ⟨(a1),(0),rd_,rd_,H',⟨Nat.le_refl _⟩,by repeat (exact Drawn0.refl _)⟩
 case round=>
  clear H'
  obtain ⟨x1_1,x5_1,rfl,rfl,HA,HK1,⟨m1,rfl⟩⟩:=hrel
  cases gk with
  | zero=>exact absurd HA.out (by simp [laws_heldIntS.l0])
  | succ k1=>
   have H:=HA.out
   clear HA
   simp only [laws_heldIntS.l0] at H
   by_cases c3:x5_1 < (l0.length:Int)
   ·rw [if_pos c3] at H
    have c3b0:decide (x5_1 < (l0.length:Int))=true:=decide_eq_true c3
    clear c3
    by_cases c4:0≤x5_1
    ·rw [if_pos c4] at H
     have c4b0:decide (0≤x5_1)=true:=decide_eq_true c4
     clear c4
     by_cases c5:(rd l0 x5_1)=x1_1
     ·rw [if_pos c5] at H
      have c5b0:((rd l0 x5_1) == x1_1)=true:=beq_iff_eq.mpr c5
      have c5b1:((rd l0 x5_1) != x1_1)=false:=bne_eq_false_iff_eq.mpr c5
      clear c5
      have H':=Aside0.mk H
      clear H
      have p413:0≤(x5_1:Int):=of_decide_eq_true (by first|(with_reducible assumption)|assumption)
      have q413:x5_1 < (l0.length:Int):=of_decide_eq_true (by first|(with_reducible assumption)|assumption)
      obtain ⟨ad413,e413,hx413_0⟩:=Kd.at_int HR0.out x5_1 p413 q413
      cases e413
      replace p413:=eq_true p413
      replace q413:=eq_true q413
      go_wp2
      go_roundg k1
      case measure=>have:=HK1.out;omega
      case rel=>exact ⟨(wrap64 (x1_1+1)),(wrap64 (x5_1+1)),rd_,rd_,H',⟨by have:=HK1.out;omega⟩,by repeat (first|exact Drawn0.refl _|apply Drawn0.step)⟩
     ·rw [if_neg c5] at H
      have c5b0:((rd l0 x5_1) == x1_1)=false:=beq_eq_false_iff_ne.mpr c5
      have c5b1:((rd l0 x5_1) != x1_1)=true:=bne_iff_ne.mpr c5
      obtain rfl:=Option.some.inj H
      have p413:0≤(x5_1:Int):=of_decide_eq_true (by first|(with_reducible assumption)|assumption)
      have q413:x5_1 < (l0.length:Int):=of_decide_eq_true (by first|(with_reducible assumption)|assumption)
      obtain ⟨ad413,e413,hx413_0⟩:=Kd.at_int HR0.out x5_1 p413 q413
      cases e413
      replace p413:=eq_true p413
      replace q413:=eq_true q413
      go_wp2
      go_ret
      exact ⟨by first|rfl|(simp;done)|(simp [*];done),by repeat (first|exact Drawn0.refl _|apply Drawn0.step)⟩
    ·rw [if_neg c4] at H
     exact absurd H (by simp)
   ·rw [if_neg c3] at H
    have c3b0:decide (x5_1 < (l0.length:Int))=false:=decide_eq_false c3
    clear c3
    obtain rfl:=Option.some.inj H
    go_wp2
    go_ret
    exact ⟨by first|rfl|(simp;done)|(simp [*];done),by repeat (first|exact Drawn0.refl _|apply Drawn0.step)⟩
def laws_heldPartS.l0:Nat→List (S35)→Int→Int→Option (Int)
 | 0,_,_,_=>none
 | k+1,x0,x1,x5=>if x5 < (x0.length:Int) then (if 0≤x5 then ((laws_heldIntS.f k ((rd_T35 x0 x5).f0) x1).bind fun t415=>(if t415 < 0 then (some (-1)) else (laws_heldPartS.l0 k x0 t415 (wrap64 (x5+1))))) else (none)) else (some x1)
def laws_heldPartS.f (k:Nat) (l0:List (S35)) (a1:Int):Option (Int):=laws_heldPartS.l0 k l0 a1 0
set_option maxHeartbeats 8000000 in
set_option maxRecDepth 100000 in
theorem laws_heldPartS.calls (k:Nat) (A0:Option Addr) (c0:Nat) (l0:List (S35)) (a1:Int) (r:Int) (w:World) (hr0:Kd.C k35 w A0 l0.length l0) (hc0:l0.length≤c0) (h:laws_heldPartS.f k l0 a1=some r) :
  Calls Try.prog 67 #[.slice A0 l0.length c0,.int .i64 a1] w fun e w'=>e = .returned (.int .i64 r)∧Drawn0 w w':=by
 have HR0:=aM hr0
 have HC0:=aM hc0
 clear hr0 hc0
 have H:(laws_heldPartS.l0 k l0 a1 0)=some r:=h
 clear h
 have H':=Aside0.mk H
 clear H
 go_enter Try.func67,Try.ntmps67
 go_wp2
 go_loopg [1,5] k (fun kq v1 v5 w'=>∃ (x1_1:Int) (x5_1:Int),v1 = .int .i64 x1_1∧v5 = .int .i64 x5_1∧Aside0 (laws_heldPartS.l0 kq l0 x1_1 x5_1=some r)∧Aside0 (kq≤k)∧Drawn0 w w')
 case atStart=>exact ⟨(a1),(0),rd_,rd_,H',⟨Nat.le_refl _⟩,by repeat (exact Drawn0.refl _)⟩
 case round=>
  clear H'
  obtain ⟨x1_1,x5_1,rfl,rfl,HA,HK1,⟨m1,rfl⟩⟩:=hrel
  cases gk with
  | zero=>exact absurd HA.out (by simp [laws_heldPartS.l0])
  | succ k1=>
   have H:=HA.out
   clear HA
   simp only [laws_heldPartS.l0] at H
   by_cases c3:x5_1 < (l0.length:Int)
   ·rw [if_pos c3] at H
    have c3b0:decide (x5_1 < (l0.length:Int))=true:=decide_eq_true c3
    clear c3
    by_cases c4:0≤x5_1
    ·rw [if_pos c4] at H
     have c4b0:decide (0≤x5_1)=true:=decide_eq_true c4
     clear c4
     replace H:=Option.bind_eq_some_iff.mp H
     obtain ⟨t415,A50,H⟩:=H
     try dsimp only at H
     have A5:=aM A50
     clear A50
     by_cases c6:t415 < 0
     ·rw [if_pos c6] at H
      have c6b0:decide (t415 < 0)=true:=decide_eq_true c6
      clear c6
      obtain rfl:=Option.some.inj H
      have p414:0≤(x5_1:Int):=of_decide_eq_true (by first|(with_reducible assumption)|assumption)
      have q414:x5_1 < (l0.length:Int):=of_decide_eq_true (by first|(with_reducible assumption)|assumption)
      obtain ⟨ad414,A414_0,c414_0,e414,hx414_0,hl414_0,hi414_0⟩:=at_T35 HR0.out x5_1 p414 q414
      cases e414
      have HR414_0:=aM hi414_0
      have HC414_0:=aM hl414_0
      clear hi414_0 hl414_0
      replace p414:=eq_true p414
      replace q414:=eq_true q414
      go_wp2_with ((with_reducible refine gate_callee (f:=29) rfl ?_);refine goesL_ (some 18) rfl rfl Try.func29 (by kernel_rfl) rfl #[.slice A414_0 ((rd_T35 l0 x5_1).f0).length c414_0,.int .i64 x1_1] rfl (by (try simp only [List.map_toArray,List.map_cons,List.map_nil]);first|done|rfl|(simp only [List.length_drop,List.length_take];rfl)) ?_;(with_reducible refine (laws_heldIntS.calls k1 _ _ ((rd_T35 l0 x5_1).f0) x1_1 t415 _ ?side1 ?side2 A5.out).mono ?_);(case side1=>exact sC HR414_0);(case side2=>exact HC414_0.out);rintro e w' ⟨rfl,⟨nd,rfl⟩⟩;refine ⟨_,rfl,?_⟩)
      go_ret
      exact ⟨by first|rfl|(simp;done)|(simp [*];done),by repeat (first|exact Drawn0.refl _|apply Drawn0.step)⟩
     ·rw [if_neg c6] at H
      have c6b0:decide (t415 < 0)=false:=decide_eq_false c6
      clear c6
      have H':=Aside0.mk H
      clear H
      have p414:0≤(x5_1:Int):=of_decide_eq_true (by first|(with_reducible assumption)|assumption)
      have q414:x5_1 < (l0.length:Int):=of_decide_eq_true (by first|(with_reducible assumption)|assumption)
      obtain ⟨ad414,A414_0,c414_0,e414,hx414_0,hl414_0,hi414_0⟩:=at_T35 HR0.out x5_1 p414 q414
      cases e414
      have HR414_0:=aM hi414_0
      have HC414_0:=aM hl414_0
      clear hi414_0 hl414_0
      replace p414:=eq_true p414
      replace q414:=eq_true q414
      go_wp2_with ((with_reducible refine gate_callee (f:=29) rfl ?_);refine goesL_ (some 18) rfl rfl Try.func29 (by kernel_rfl) rfl #[.slice A414_0 ((rd_T35 l0 x5_1).f0).length c414_0,.int .i64 x1_1] rfl (by (try simp only [List.map_toArray,List.map_cons,List.map_nil]);first|done|rfl|(simp only [List.length_drop,List.length_take];rfl)) ?_;(with_reducible refine (laws_heldIntS.calls k1 _ _ ((rd_T35 l0 x5_1).f0) x1_1 t415 _ ?side1 ?side2 A5.out).mono ?_);(case side1=>exact sC HR414_0);(case side2=>exact HC414_0.out);rintro e w' ⟨rfl,⟨nd,rfl⟩⟩;refine ⟨_,rfl,?_⟩)
      go_roundg k1
      case measure=>have:=HK1.out;omega
      case rel=>exact ⟨(t415),(wrap64 (x5_1+1)),rd_,rd_,H',⟨by have:=HK1.out;omega⟩,by repeat (first|exact Drawn0.refl _|apply Drawn0.step)⟩
    ·rw [if_neg c4] at H
     exact absurd H (by simp)
   ·rw [if_neg c3] at H
    have c3b0:decide (x5_1 < (l0.length:Int))=false:=decide_eq_false c3
    clear c3
    obtain rfl:=Option.some.inj H
    go_wp2
    go_ret
    exact ⟨by first|rfl|(simp;done)|(simp [*];done),by repeat (first|exact Drawn0.refl _|apply Drawn0.step)⟩
def laws_heldRing.f (k:Nat) (a0_0:Int) (l0_1:List (S35)) (a1:Int):Option (Int):=(laws_heldPartS.f k l0_1 a1).bind fun t417=>(if t417 < 0 then (some (-1)) else (some t417))
set_option maxHeartbeats 8000000 in
set_option maxRecDepth 100000 in
theorem laws_heldRing.calls (k:Nat) (a0_0:Int) (A0_1:Option Addr) (c0_1:Nat) (l0_1:List (S35)) (a1:Int) (r:Int) (w:World) (hr0_1:Kd.C k35 w A0_1 l0_1.length l0_1) (hc0_1:l0_1.length≤c0_1) (h:laws_heldRing.f k a0_0 l0_1 a1=some r) :
  Calls Try.prog 24 #[.agg #[.int .i64 a0_0,.slice A0_1 l0_1.length c0_1],.int .i64 a1] w fun e w'=>e = .returned (.int .i64 r)∧Below w.heap.size w w':=by
 have hu26:=Try.underlying26
 have HR0_1:=aM hr0_1
 have HC0_1:=aM hc0_1
 clear hr0_1 hc0_1
 have HB:=aM (Below.refl w.heap.size w)
 have H:((laws_heldPartS.f k l0_1 a1).bind fun t417=>(if t417 < 0 then (some (-1)) else (some t417)))=some r:=h
 clear h
 replace H:=Option.bind_eq_some_iff.mp H
 obtain ⟨t417,A30,H⟩:=H
 try dsimp only at H
 have A3:=aM A30
 clear A30
 by_cases c4:t417 < 0
 ·rw [if_pos c4] at H
  have c4b0:decide (t417 < 0)=true:=decide_eq_true c4
  clear c4
  obtain rfl:=Option.some.inj H
  go_enter Try.func24,Try.ntmps24
  go_wp2_with (first|((with_reducible refine gate_dst (N:=2) rfl ?_);refine box_event ?hg (N:=2) ?hd (cs:=#[.int .i64 a0_0,.slice A0_1 l0_1.length c0_1]) (t:=26) ?hr ?_;(case hd=>rfl);(case hg=>rfl);(case hr=>first|(go_simp;done)|(go_simp;rfl));intro gb416 hg w5 hbox hb;have BK416:=aM (hbox);have GW416:=gS w hg;have GE416:=gS w hg;replace HB:=bs hb;clear hb hbox hg;have hcz6_0:w5.cell? ⟨gb416,0,none⟩=some (.int .i64 a0_0):=(blk_cell BK416.out 0).trans rfl;have hcz6_1:w5.cell? ⟨gb416,1,none⟩=some (.slice A0_1 l0_1.length c0_1):=(blk_cell BK416.out 1).trans rfl;have hfz6_0:=blk_frozen BK416.out 0;have hfz6_1:=blk_frozen BK416.out 1)|((with_reducible refine gate_callee (f:=67) rfl ?_);refine goesL_ (some 8) rfl rfl Try.func67 (by kernel_rfl) rfl #[.slice A0_1 l0_1.length c0_1,.int .i64 a1] rfl (by (try simp only [List.map_toArray,List.map_cons,List.map_nil]);first|done|rfl|(simp only [List.length_drop,List.length_take];rfl)) ?_;(with_reducible refine (laws_heldPartS.calls k _ _ l0_1 a1 t417 _ ?side1 ?side2 A3.out).mono ?_);(case side1=>exact rC HR0_1);(case side2=>exact HC0_1.out);rintro e w' ⟨rfl,⟨nd,rfl⟩⟩;refine ⟨_,rfl,?_⟩))
  go_ret
  exact ⟨rz,be⟩
 ·rw [if_neg c4] at H
  have c4b0:decide (t417 < 0)=false:=decide_eq_false c4
  clear c4
  obtain rfl:=Option.some.inj H
  go_enter Try.func24,Try.ntmps24
  go_wp2_with (first|((with_reducible refine gate_dst (N:=2) rfl ?_);refine box_event ?hg (N:=2) ?hd (cs:=#[.int .i64 a0_0,.slice A0_1 l0_1.length c0_1]) (t:=26) ?hr ?_;(case hd=>rfl);(case hg=>rfl);(case hr=>first|(go_simp;done)|(go_simp;rfl));intro gb416 hg w7 hbox hb;have BK416:=aM (hbox);have GW416:=gS w hg;have GE416:=gS w hg;replace HB:=bs hb;clear hb hbox hg;have hcz8_0:w7.cell? ⟨gb416,0,none⟩=some (.int .i64 a0_0):=(blk_cell BK416.out 0).trans rfl;have hcz8_1:w7.cell? ⟨gb416,1,none⟩=some (.slice A0_1 l0_1.length c0_1):=(blk_cell BK416.out 1).trans rfl;have hfz8_0:=blk_frozen BK416.out 0;have hfz8_1:=blk_frozen BK416.out 1)|((with_reducible refine gate_callee (f:=67) rfl ?_);refine goesL_ (some 8) rfl rfl Try.func67 (by kernel_rfl) rfl #[.slice A0_1 l0_1.length c0_1,.int .i64 a1] rfl (by (try simp only [List.map_toArray,List.map_cons,List.map_nil]);first|done|rfl|(simp only [List.length_drop,List.length_take];rfl)) ?_;(with_reducible refine (laws_heldPartS.calls k _ _ l0_1 a1 t417 _ ?side1 ?side2 A3.out).mono ?_);(case side1=>exact rC HR0_1);(case side2=>exact HC0_1.out);rintro e w' ⟨rfl,⟨nd,rfl⟩⟩;refine ⟨_,rfl,?_⟩))
  go_ret
  exact ⟨rz,be⟩
def laws_FnExactRebalance.f (k:Nat) (a0_0:Int) (l0_1:List (S96)) (l1:List (S83)):Option (Bool):=(laws_szRing.f k a0_0 l0_1 1048576).bind fun t419=>(if t419 < 0 then (some true) else ((laws_szDevS.f l1 t419).bind fun t420=>(if t420 < 0 then (some true) else ((laws_toRing.f k a0_0 l0_1).bind fun bt421=>((laws_toDevS.f k l1).bind fun t425=>((spec_Rebalance.f k bt421.1 bt421.2 t425).bind fun bt428=>((laws_toRing.f k a0_0 l0_1).bind fun bt434=>((laws_toDevS.f k l1).bind fun t439=>((impl_Rebalance.f k bt434.1 bt434.2 t439).bind fun bt442=>((laws_eqRing.f k bt442.1 bt442.2.1 bt428.1 bt428.2.1).bind fun t448=>(if t448=true then (if bt442.2.2=bt428.2.2 then ((laws_toRing.f k a0_0 l0_1).bind fun bt449=>((laws_eqRing.f k bt434.1 bt434.2 bt449.1 bt449.2).bind fun t453=>(if t453=true then ((laws_toDevS.f k l1).bind fun t454=>((laws_eqDevS.f k t439 t454).bind fun t457=>(if t457=true then ((laws_markRing.f k bt434.1 bt434.2 1).bind fun bt458=>((laws_markDevS.f k t439 bt458.1).bind fun bt460=>(if bt460.1 < 0 then (some false) else ((laws_eqRing.f k bt442.1 bt442.2.1 bt428.1 bt428.2.1).bind fun t462=>(if t462=true then ((laws_markRing.f k bt442.1 bt442.2.1 1).bind fun bt463=>((laws_heldRing.f k bt442.1 bt463.2 1).bind fun t465=>(if t465 < 0 then (some false) else (if t465=bt463.1 then ((laws_toRing.f k a0_0 l0_1).bind fun bt466=>((laws_toDevS.f k l1).bind fun t470=>((impl_Rebalance.f k bt466.1 bt466.2 t470).bind fun bt473=>((laws_eqRing.f k bt473.1 bt473.2.1 bt428.1 bt428.2.1).bind fun t479=>(if t479=true then (if bt473.2.2=bt428.2.2 then ((laws_heldRing.f k bt442.1 bt463.2 1).bind fun t480=>(if t480 < 0 then (some false) else (if t480=bt463.1 then (some true) else (some false)))) else (some false)) else (some false)))))) else (some false))))) else (some false)))))) else (some false)))) else (some false)))) else (some false)) else (some false))))))))))))
set_option maxHeartbeats 8000000 in
set_option maxRecDepth 100000 in
theorem laws_FnExactRebalance.calls (k:Nat) (a0_0:Int) (A0_1:Option Addr) (c0_1:Nat) (l0_1:List (S96)) (A1:Option Addr) (c1:Nat) (l1:List (S83)) (r:Bool) (w:World) (hr0_1:Kd.C k96 w A0_1 l0_1.length l0_1) (hc0_1:l0_1.length≤c0_1) (hr1:Kd.C k83 w A1 l1.length l1) (hc1:l1.length≤c1) (h:laws_FnExactRebalance.f k a0_0 l0_1 l1=some r) (hr_:Aside0 (r=true)) :
  Calls Try.prog 4 #[.agg #[.int .i64 a0_0,.slice A0_1 l0_1.length c0_1],.slice A1 l1.length c1] w fun e w'=>e = .returned (.bool r)∧Below w.heap.size w w':=by
 have hu40:=Try.underlying40
 have hu26:=Try.underlying26
 have HR0_1:=aM hr0_1
 have HC0_1:=aM hc0_1
 clear hr0_1 hc0_1
 have HR1:=aM hr1
 have HC1:=aM hc1
 clear hr1 hc1
 have HB:=aM (Below.refl w.heap.size w)
 have H:((laws_szRing.f k a0_0 l0_1 1048576).bind fun t419=>(if t419 < 0 then (some true) else ((laws_szDevS.f l1 t419).bind fun t420=>(if t420 < 0 then (some true) else ((laws_toRing.f k a0_0 l0_1).bind fun bt421=>((laws_toDevS.f k l1).bind fun t425=>((spec_Rebalance.f k bt421.1 bt421.2 t425).bind fun bt428=>((laws_toRing.f k a0_0 l0_1).bind fun bt434=>((laws_toDevS.f k l1).bind fun t439=>((impl_Rebalance.f k bt434.1 bt434.2 t439).bind fun bt442=>((laws_eqRing.f k bt442.1 bt442.2.1 bt428.1 bt428.2.1).bind fun t448=>(if t448=true then (if bt442.2.2=bt428.2.2 then ((laws_toRing.f k a0_0 l0_1).bind fun bt449=>((laws_eqRing.f k bt434.1 bt434.2 bt449.1 bt449.2).bind fun t453=>(if t453=true then ((laws_toDevS.f k l1).bind fun t454=>((laws_eqDevS.f k t439 t454).bind fun t457=>(if t457=true then ((laws_markRing.f k bt434.1 bt434.2 1).bind fun bt458=>((laws_markDevS.f k t439 bt458.1).bind fun bt460=>(if bt460.1 < 0 then (some false) else ((laws_eqRing.f k bt442.1 bt442.2.1 bt428.1 bt428.2.1).bind fun t462=>(if t462=true then ((laws_markRing.f k bt442.1 bt442.2.1 1).bind fun bt463=>((laws_heldRing.f k bt442.1 bt463.2 1).bind fun t465=>(if t465 < 0 then (some false) else (if t465=bt463.1 then ((laws_toRing.f k a0_0 l0_1).bind fun bt466=>((laws_toDevS.f k l1).bind fun t470=>((impl_Rebalance.f k bt466.1 bt466.2 t470).bind fun bt473=>((laws_eqRing.f k bt473.1 bt473.2.1 bt428.1 bt428.2.1).bind fun t479=>(if t479=true then (if bt473.2.2=bt428.2.2 then ((laws_heldRing.f k bt442.1 bt463.2 1).bind fun t480=>(if t480 < 0 then (some false) else (if t480=bt463.1 then (some true) else (some false)))) else (some false)) else (some false)))))) else (some false))))) else (some false)))))) else (some false)))) else (some false)))) else (some false)) else (some false)))))))))))))=some r:=h
 clear h
 replace H:=Option.bind_eq_some_iff.mp H
 obtain ⟨t419,A30,H⟩:=H
 try dsimp only at H
 have A3:=aM A30
 clear A30
 by_cases c4:t419 < 0
 ·rw [if_pos c4] at H
  have c4b0:decide (t419 < 0)=true:=decide_eq_true c4
  clear c4
  obtain rfl:=Option.some.inj H
  go_enter Try.func4,Try.ntmps4
  go_wp2_with (first|((with_reducible refine gate_dst (N:=2) rfl ?_);refine box_event ?hg (N:=2) ?hd (cs:=#[.int .i64 a0_0,.slice A0_1 l0_1.length c0_1]) (t:=40) ?hr ?_;(case hd=>rfl);(case hg=>rfl);(case hr=>first|(go_simp;done)|(go_simp;rfl));intro gb418 hg w5 hbox hb;have BK418:=aM (hbox);have GW418:=gS w hg;have GE418:=gS w hg;replace HB:=bs hb;clear hb hbox hg;have hcz6_0:w5.cell? ⟨gb418,0,none⟩=some (.int .i64 a0_0):=(blk_cell BK418.out 0).trans rfl;have hcz6_1:w5.cell? ⟨gb418,1,none⟩=some (.slice A0_1 l0_1.length c0_1):=(blk_cell BK418.out 1).trans rfl;have hfz6_0:=blk_frozen BK418.out 0;have hfz6_1:=blk_frozen BK418.out 1)|((with_reducible refine gate_callee (f:=16) rfl ?_);refine goesL_ (some 19) rfl rfl Try.func16 (by kernel_rfl) rfl #[.agg #[.int .i64 a0_0,.slice A0_1 l0_1.length c0_1],.int .i64 1048576] rfl (by (try simp only [List.map_toArray,List.map_cons,List.map_nil]);first|done|rfl|(simp only [List.length_drop,List.length_take];rfl)) ?_;(with_reducible refine (laws_szRing.calls k a0_0 _ _ l0_1 1048576 t419 _ ?side1 ?side2 A3.out).mono ?_);(case side1=>exact rC HR0_1);(case side2=>exact HC0_1.out);rintro e w7 ⟨rfl,hb⟩;refine ⟨_,rfl,?_⟩;replace HB:=bs hb;clear BK418;(try clear hb)))
  go_ret
  exact ⟨rz,be⟩
 ·rw [if_neg c4] at H
  have c4b0:decide (t419 < 0)=false:=decide_eq_false c4
  clear c4
  replace H:=Option.bind_eq_some_iff.mp H
  obtain ⟨t420,A80,H⟩:=H
  try dsimp only at H
  have A8:=aM A80
  clear A80
  by_cases c9:t420 < 0
  ·rw [if_pos c9] at H
   have c9b0:decide (t420 < 0)=true:=decide_eq_true c9
   clear c9
   obtain rfl:=Option.some.inj H
   go_enter Try.func4,Try.ntmps4
   go_wp2_with (first|((with_reducible refine gate_dst (N:=2) rfl ?_);refine box_event ?hg (N:=2) ?hd (cs:=#[.int .i64 a0_0,.slice A0_1 l0_1.length c0_1]) (t:=40) ?hr ?_;(case hd=>rfl);(case hg=>rfl);(case hr=>first|(go_simp;done)|(go_simp;rfl));intro gb418 hg w10 hbox hb;have BK418:=aM (hbox);have GW418:=gS w hg;have GE418:=gS w hg;replace HB:=bs hb;clear hb hbox hg;have hcz11_0:w10.cell? ⟨gb418,0,none⟩=some (.int .i64 a0_0):=(blk_cell BK418.out 0).trans rfl;have hcz11_1:w10.cell? ⟨gb418,1,none⟩=some (.slice A0_1 l0_1.length c0_1):=(blk_cell BK418.out 1).trans rfl;have hfz11_0:=blk_frozen BK418.out 0;have hfz11_1:=blk_frozen BK418.out 1)|((with_reducible refine gate_callee (f:=16) rfl ?_);refine goesL_ (some 19) rfl rfl Try.func16 (by kernel_rfl) rfl #[.agg #[.int .i64 a0_0,.slice A0_1 l0_1.length c0_1],.int .i64 1048576] rfl (by (try simp only [List.map_toArray,List.map_cons,List.map_nil]);first|done|rfl|(simp only [List.length_drop,List.length_take];rfl)) ?_;(with_reducible refine (laws_szRing.calls k a0_0 _ _ l0_1 1048576 t419 _ ?side1 ?side2 A3.out).mono ?_);(case side1=>exact rC HR0_1);(case side2=>exact HC0_1.out);rintro e w12 ⟨rfl,hb⟩;refine ⟨_,rfl,?_⟩;replace BK418:=bB BK418 hb;replace HB:=bs hb;(try clear hb))|((with_reducible refine gate_callee (f:=17) rfl ?_);refine goesL_ (some 24) rfl rfl Try.func17 (by kernel_rfl) rfl #[.slice A1 l1.length c1,.int .i64 t419] rfl (by (try simp only [List.map_toArray,List.map_cons,List.map_nil]);first|done|rfl|(simp only [List.length_drop,List.length_take];rfl)) ?_;(with_reducible refine (laws_szDevS.calls _ _ l1 t419 t420 _ ?side1 ?side2 A8.out).mono ?_);(case side1=>exact rC HR1);(case side2=>exact HC1.out);rintro e w' ⟨rfl,⟨nd,rfl⟩⟩;refine ⟨_,rfl,?_⟩;(try (rw [drewN_self w12];generalize hq_:World.drewN w12 _=w12;have n0_:Aside0 (w12.heap[gb418]?=some (.cells #[.int .i64 a0_0,.slice A0_1 l0_1.length c0_1] 40 (0,0))):=⟨by rw [← hq_];exact (bk BK418)⟩;have n1_:Aside0 (Below w.heap.size w w12):=⟨by rw [← hq_];exact be⟩;clear BK418 HB hq_;have BK418:=n0_;have HB:=n1_;clear n0_ n1_))))
   go_ret
   exact ⟨rz,be⟩
  ·rw [if_neg c9] at H
   have c9b0:decide (t420 < 0)=false:=decide_eq_false c9
   clear c9
   replace H:=Option.bind_eq_some_iff.mp H
   obtain ⟨⟨t421,t422⟩,A130,H⟩:=H
   try dsimp only at H
   have A13:=aM A130
   clear A130
   replace H:=Option.bind_eq_some_iff.mp H
   obtain ⟨t425,A140,H⟩:=H
   try dsimp only at H
   have A14:=aM A140
   clear A140
   replace H:=Option.bind_eq_some_iff.mp H
   obtain ⟨⟨t428,t429,t432⟩,A150,H⟩:=H
   try dsimp only at H
   have A15:=aM A150
   clear A150
   replace H:=Option.bind_eq_some_iff.mp H
   obtain ⟨⟨t434,t435⟩,A160,H⟩:=H
   try dsimp only at H
   have A16:=aM A160
   clear A160
   replace H:=Option.bind_eq_some_iff.mp H
   obtain ⟨t439,A170,H⟩:=H
   try dsimp only at H
   have A17:=aM A170
   clear A170
   replace H:=Option.bind_eq_some_iff.mp H
   obtain ⟨⟨t442,t443,t446⟩,A180,H⟩:=H
   try dsimp only at H
   have A18:=aM A180
   clear A180
   replace H:=Option.bind_eq_some_iff.mp H
   obtain ⟨t448,A190,H⟩:=H
   try dsimp only at H
   have A19:=aM A190
   clear A190
   by_cases c20:t448=true
   ·subst c20
    rw [if_pos rfl] at H
    by_cases c21:t446=t432
    ·rw [if_pos c21] at H
     have c21b0:(t446 == t432)=true:=beq_iff_eq.mpr c21
     have c21b1:(t446 != t432)=false:=bne_eq_false_iff_eq.mpr c21
     clear c21
     replace H:=Option.bind_eq_some_iff.mp H
     obtain ⟨⟨t449,t450⟩,A220,H⟩:=H
     try dsimp only at H
     have A22:=aM A220
     clear A220
     replace H:=Option.bind_eq_some_iff.mp H
     obtain ⟨t453,A230,H⟩:=H
     try dsimp only at H
     have A23:=aM A230
     clear A230
     by_cases c24:t453=true
     ·subst c24
      rw [if_pos rfl] at H
      replace H:=Option.bind_eq_some_iff.mp H
      obtain ⟨t454,A250,H⟩:=H
      try dsimp only at H
      have A25:=aM A250
      clear A250
      replace H:=Option.bind_eq_some_iff.mp H
      obtain ⟨t457,A260,H⟩:=H
      try dsimp only at H
      have A26:=aM A260
      clear A260
      by_cases c27:t457=true
      ·subst c27
       rw [if_pos rfl] at H
       replace H:=Option.bind_eq_some_iff.mp H
       obtain ⟨⟨t458,t459⟩,A280,H⟩:=H
       try dsimp only at H
       have A28:=aM A280
       clear A280
       replace H:=Option.bind_eq_some_iff.mp H
       obtain ⟨⟨t460,t461⟩,A290,H⟩:=H
       try dsimp only at H
       have A29:=aM A290
       clear A290
       by_cases c30:t460 < 0
       ·rw [if_pos c30] at H
        have c30b0:decide (t460 < 0)=true:=decide_eq_true c30
        clear c30
        exact absurd ((Option.some.inj H).trans hr_.out) (by decide)
       ·rw [if_neg c30] at H
        have c30b0:decide (t460 < 0)=false:=decide_eq_false c30
        clear c30
        replace H:=Option.bind_eq_some_iff.mp H
        obtain ⟨t462,A310,H⟩:=H
        try dsimp only at H
        have A31:=aM A310
        clear A310
        by_cases c32:t462=true
        ·subst c32
         rw [if_pos rfl] at H
         replace H:=Option.bind_eq_some_iff.mp H
         obtain ⟨⟨t463,t464⟩,A330,H⟩:=H
         try dsimp only at H
         have A33:=aM A330
         clear A330
         replace H:=Option.bind_eq_some_iff.mp H
         obtain ⟨t465,A340,H⟩:=H
         try dsimp only at H
         have A34:=aM A340
         clear A340
         by_cases c35:t465 < 0
         ·rw [if_pos c35] at H
          have c35b0:decide (t465 < 0)=true:=decide_eq_true c35
          clear c35
          exact absurd ((Option.some.inj H).trans hr_.out) (by decide)
         ·rw [if_neg c35] at H
          have c35b0:decide (t465 < 0)=false:=decide_eq_false c35
          clear c35
          by_cases c36:t465=t463
          ·rw [if_pos c36] at H
           have c36b0:(t465 == t463)=true:=beq_iff_eq.mpr c36
           have c36b1:(t465 != t463)=false:=bne_eq_false_iff_eq.mpr c36
           clear c36
           replace H:=Option.bind_eq_some_iff.mp H
           obtain ⟨⟨t466,t467⟩,A370,H⟩:=H
           try dsimp only at H
           have A37:=aM A370
           clear A370
           replace H:=Option.bind_eq_some_iff.mp H
           obtain ⟨t470,A380,H⟩:=H
           try dsimp only at H
           have A38:=aM A380
           clear A380
           replace H:=Option.bind_eq_some_iff.mp H
           obtain ⟨⟨t473,t474,t477⟩,A390,H⟩:=H
           try dsimp only at H
           have A39:=aM A390
           clear A390
           replace H:=Option.bind_eq_some_iff.mp H
           obtain ⟨t479,A400,H⟩:=H
           try dsimp only at H
           have A40:=aM A400
           clear A400
           by_cases c41:t479=true
           ·subst c41
            rw [if_pos rfl] at H
            by_cases c42:t477=t432
            ·rw [if_pos c42] at H
             have c42b0:(t477 == t432)=true:=beq_iff_eq.mpr c42
             have c42b1:(t477 != t432)=false:=bne_eq_false_iff_eq.mpr c42
             clear c42
             replace H:=Option.bind_eq_some_iff.mp H
             obtain ⟨t480,A430,H⟩:=H
             try dsimp only at H
             have A43:=aM A430
             clear A430
             by_cases c44:t480 < 0
             ·rw [if_pos c44] at H
              have c44b0:decide (t480 < 0)=true:=decide_eq_true c44
              clear c44
              exact absurd ((Option.some.inj H).trans hr_.out) (by decide)
             ·rw [if_neg c44] at H
              have c44b0:decide (t480 < 0)=false:=decide_eq_false c44
              clear c44
              by_cases c45:t480=t463
              ·rw [if_pos c45] at H
               have c45b0:(t480 == t463)=true:=beq_iff_eq.mpr c45
               have c45b1:(t480 != t463)=false:=bne_eq_false_iff_eq.mpr c45
               clear c45
               obtain rfl:=Option.some.inj H
               go_enter Try.func4,Try.ntmps4
               try go_wp2_with (first|((with_reducible refine gate_dst (N:=2) rfl ?_);refine box_event ?hg (N:=2) ?hd (cs:=#[.int .i64 a0_0,.slice A0_1 l0_1.length c0_1]) (t:=40) ?hr ?_;(case hd=>rfl);(case hg=>rfl);(case hr=>first|(go_simp;done)|(go_simp;rfl));intro gb418 hg w46 hbox hb;have BK418:=aM (hbox);have GW418:=gS w hg;have GE418:=gS w hg;replace HB:=bs hb;clear hb hbox hg;have hcz47_0:w46.cell? ⟨gb418,0,none⟩=some (.int .i64 a0_0):=(blk_cell BK418.out 0).trans rfl;have hcz47_1:w46.cell? ⟨gb418,1,none⟩=some (.slice A0_1 l0_1.length c0_1):=(blk_cell BK418.out 1).trans rfl;have hfz47_0:=blk_frozen BK418.out 0;have hfz47_1:=blk_frozen BK418.out 1)|((with_reducible refine gate_callee (f:=16) rfl ?_);refine goesL_ (some 19) rfl rfl Try.func16 (by kernel_rfl) rfl #[.agg #[.int .i64 a0_0,.slice A0_1 l0_1.length c0_1],.int .i64 1048576] rfl (by (try simp only [List.map_toArray,List.map_cons,List.map_nil]);first|done|rfl|(simp only [List.length_drop,List.length_take];rfl)) ?_;(with_reducible refine (laws_szRing.calls k a0_0 _ _ l0_1 1048576 t419 _ ?side1 ?side2 A3.out).mono ?_);(case side1=>exact rC HR0_1);(case side2=>exact HC0_1.out);rintro e w48 ⟨rfl,hb⟩;refine ⟨_,rfl,?_⟩;replace BK418:=bB BK418 hb;replace HB:=bs hb;(try clear hb))|((with_reducible refine gate_callee (f:=17) rfl ?_);refine goesL_ (some 24) rfl rfl Try.func17 (by kernel_rfl) rfl #[.slice A1 l1.length c1,.int .i64 t419] rfl (by (try simp only [List.map_toArray,List.map_cons,List.map_nil]);first|done|rfl|(simp only [List.length_drop,List.length_take];rfl)) ?_;(with_reducible refine (laws_szDevS.calls _ _ l1 t419 t420 _ ?side1 ?side2 A8.out).mono ?_);(case side1=>exact rC HR1);(case side2=>exact HC1.out);rintro e w' ⟨rfl,⟨nd,rfl⟩⟩;refine ⟨_,rfl,?_⟩;(try (rw [drewN_self w48];generalize hq_:World.drewN w48 _=w48;have n0_:Aside0 (w48.heap[gb418]?=some (.cells #[.int .i64 a0_0,.slice A0_1 l0_1.length c0_1] 40 (0,0))):=⟨by rw [← hq_];exact (bk BK418)⟩;have n1_:Aside0 (Below w.heap.size w w48):=⟨by rw [← hq_];exact be⟩;clear BK418 HB hq_;have BK418:=n0_;have HB:=n1_;clear n0_ n1_));have hcz49_0:w48.cell? ⟨gb418,0,none⟩=some (.int .i64 a0_0):=(blk_cell BK418.out 0).trans rfl;have hcz49_1:w48.cell? ⟨gb418,1,none⟩=some (.slice A0_1 l0_1.length c0_1):=(blk_cell BK418.out 1).trans rfl;have hfz49_0:=blk_frozen BK418.out 0;have hfz49_1:=blk_frozen BK418.out 1)|((with_reducible refine gate_callee (f:=18) rfl ?_);refine goesL_ (some 29) rfl rfl Try.func18 (by kernel_rfl) rfl #[.agg #[.int .i64 a0_0,.slice A0_1 l0_1.length c0_1]] rfl (by (try simp only [List.map_toArray,List.map_cons,List.map_nil]);first|done|rfl|(simp only [List.length_drop,List.length_take];rfl)) ?_;(with_reducible refine (laws_toRing.calls k a0_0 _ _ l0_1 t421 t422 _ ?side1 ?side2 A13.out).mono ?_);(case side1=>exact rC HR0_1);(case side2=>exact HC0_1.out);rintro e w50 ⟨v423,rfl,ho0,hb⟩;refine ⟨_,rfl,?_⟩;have HO424:=aM (Kd.S_lower (Aid.S_ge ho0) (below_size be));replace BK418:=bB BK418 hb;replace HB:=bs hb;(try clear hb);(try clear ho0))|((with_reducible refine gate_callee (f:=19) rfl ?_);refine goesL_ (some 31) rfl rfl Try.func19 (by kernel_rfl) rfl #[.slice A1 l1.length c1] rfl (by (try simp only [List.map_toArray,List.map_cons,List.map_nil]);first|done|rfl|(simp only [List.length_drop,List.length_take];rfl)) ?_;(with_reducible refine (laws_toDevS.calls k _ _ l1 t425 _ ?side1 ?side2 A14.out).mono ?_);(case side1=>exact rC HR1);(case side2=>exact HC1.out);rintro e w51 ⟨v426,rfl,ho0,hb⟩;refine ⟨_,rfl,?_⟩;replace HO424:=aM (Kd.S_below (Aid.S_lt (rS HO424)) hb);have HO427:=aM (Kd.R_lower (Aid.R_ge ho0) (below_size be));replace BK418:=bB BK418 hb;replace HB:=bs hb;(try clear hb);(try clear ho0);obtain ⟨Ao52,co52,eo52⟩:=Kd.S_slice HO424.out;subst eo52;obtain ⟨Ao53,co53,eo53⟩:=Kd.R_slice HO427.out;subst eo53)|((with_reducible refine gate_callee (f:=11) rfl ?_);refine goesL_ (some 32) rfl rfl Try.func11 (by kernel_rfl) rfl #[.agg #[.int .i64 t421,.slice Ao52 t422.length co52],.slice Ao53 t425.length co53] rfl (by (try simp only [List.map_toArray,List.map_cons,List.map_nil]);first|done|rfl|(simp only [List.length_drop,List.length_take];rfl)) ?_;(with_reducible refine (spec_Rebalance.calls k t421 _ _ t422 _ _ t425 t428 t429 t432 _ ?side1 ?side2 ?side3 ?side4 A15.out).mono ?_);(case side1=>exact sS HO424);(case side2=>exact (Kd.S_reads' HO424.out).2.1);(case side3=>exact sR HO427);(case side4=>exact (Kd.R_reads' HO427.out).2.1);rintro e w54 ⟨v430,rfl,ho0,hb⟩;refine ⟨_,rfl,?_⟩;replace HO424:=aM (Kd.S_below (Aid.S_lt (rS HO424)) hb);replace HO427:=aM (Kd.R_below (Aid.R_lt (rR HO427)) hb);have HO431:=aM (Kd.S_lower (Aid.S_ge ho0) (below_size be));replace BK418:=bB BK418 hb;replace HB:=bs hb;(try clear hb);(try clear ho0))|((with_reducible refine gate_dst (N:=6) rfl ?_);refine box_event ?hg (N:=6) ?hd (cs:=#[.int .i64 0,.slice none 0 0]) (t:=26) ?hr ?_;(case hd=>rfl);(case hg=>rfl);(case hr=>first|(go_simp;done)|(go_simp;rfl));intro gb433 hg w55 hbox hb;replace HO424:=sB HO424 hb;replace HO427:=rB HO427 hb;replace HO431:=sB HO431 hb;have BK433:=aM (hbox);have GW433:=gS w hg;have GE433:=gS w hg;replace HB:=bs hb;have NB418_433:=nL hg BK418;have NB433_418:=nG hg BK418;replace BK418:=bB BK418 hb;clear hb hbox hg;have hnb56:=NB433_418.out;have hnc56:=NB418_433.out;have hcz57_0:w55.cell? ⟨gb433,0,none⟩=some (.int .i64 0):=(blk_cell BK433.out 0).trans rfl;have hcz57_1:w55.cell? ⟨gb433,1,none⟩=some (.slice none 0 0):=(blk_cell BK433.out 1).trans rfl;have hfz57_0:=blk_frozen BK433.out 0;have hfz57_1:=blk_frozen BK433.out 1;obtain ⟨Ao58,co58,eo58⟩:=Kd.S_slice HO431.out;subst eo58;have hcz59_0:w55.cell? ⟨gb418,0,none⟩=some (.int .i64 a0_0):=(blk_cell BK418.out 0).trans rfl;have hcz59_1:w55.cell? ⟨gb418,1,none⟩=some (.slice A0_1 l0_1.length c0_1):=(blk_cell BK418.out 1).trans rfl;have hfz59_0:=blk_frozen BK418.out 0;have hfz59_1:=blk_frozen BK418.out 1)|((with_reducible refine gate_callee (f:=18) rfl ?_);refine goesL_ (some 36) rfl rfl Try.func18 (by kernel_rfl) rfl #[.agg #[.int .i64 a0_0,.slice A0_1 l0_1.length c0_1]] rfl (by (try simp only [List.map_toArray,List.map_cons,List.map_nil]);first|done|rfl|(simp only [List.length_drop,List.length_take];rfl)) ?_;(with_reducible refine (laws_toRing.calls k a0_0 _ _ l0_1 t434 t435 _ ?side1 ?side2 A16.out).mono ?_);(case side1=>exact Kd.C_below HR0_1.out be);(case side2=>exact HC0_1.out);rintro e w60 ⟨v436,rfl,ho0,hb⟩;refine ⟨_,rfl,?_⟩;replace HO424:=aM (Kd.S_below (Aid.S_lt (by (with_reducible repeat (first|apply Kd.S_alloc|apply Kd.S_drewN|apply Kd.S_drew));exact (Kd.S_mono (Kd.S_far (p:=⟨gb433,1,none⟩) (Kd.S_far (p:=⟨gb433,0,none⟩) (Kd.S_types HO424.out BK433.out (by decide)) (fun _ hk=>hk.2) (.int .i64 t428)) (fun _ hk=>hk.2) (.slice Ao58 t429.length co58)) (fun _ h_=>h_.1)))) hb);replace HO427:=aM (Kd.R_below (Aid.R_lt (by (with_reducible repeat (first|apply Kd.R_alloc|apply Kd.R_drewN|apply Kd.R_drew));exact (Kd.R_mono (Kd.R_far (p:=⟨gb433,1,none⟩) (Kd.R_far (p:=⟨gb433,0,none⟩) (Kd.R_types HO427.out BK433.out (by decide)) (fun _ hk=>hk.2) (.int .i64 t428)) (fun _ hk=>hk.2) (.slice Ao58 t429.length co58)) (fun _ h_=>h_.1)))) hb);replace HO431:=aM (Kd.S_below (Aid.S_lt (by (with_reducible repeat (first|apply Kd.S_alloc|apply Kd.S_drewN|apply Kd.S_drew));exact (Kd.S_mono (Kd.S_far (p:=⟨gb433,1,none⟩) (Kd.S_far (p:=⟨gb433,0,none⟩) (Kd.S_types HO431.out BK433.out (by decide)) (fun _ hk=>hk.2) (.int .i64 t428)) (fun _ hk=>hk.2) (.slice Ao58 t429.length co58)) (fun _ h_=>h_.1)))) hb);have HO437:=aM (Kd.S_lower (Aid.S_ge ho0) (below_size be));replace BK418:=aM (blk_below (g:=gb418) (o:=.cells #[.int .i64 a0_0,.slice A0_1 l0_1.length c0_1] 40 (0,0)) (by (with_reducible repeat (first|refine blk_drewN ?_ _|refine blk_drew ?_|refine blk_alloc ?_ _));refine blk_far ?_ NB418_433.out _;(with_reducible repeat (first|refine blk_drewN ?_ _|refine blk_drew ?_|refine blk_alloc ?_ _));refine blk_far ?_ NB418_433.out _;(with_reducible repeat (first|refine blk_drewN ?_ _|refine blk_drew ?_|refine blk_alloc ?_ _));exact BK418.out) hb);replace BK433:=aM (blk_below (g:=gb433) (o:=.cells #[.int .i64 t428,.slice Ao58 t429.length co58] 26 (0,0)) (by (with_reducible repeat (first|refine blk_drewN ?_ _|refine blk_drew ?_|refine blk_alloc ?_ _));refine blk_put (cs:=#[.int .i64 t428,.slice none 0 0]) ?_ 1 _ rfl;(with_reducible repeat (first|refine blk_drewN ?_ _|refine blk_drew ?_|refine blk_alloc ?_ _));refine blk_put (cs:=#[.int .i64 0,.slice none 0 0]) ?_ 0 _ rfl;(with_reducible repeat (first|refine blk_drewN ?_ _|refine blk_drew ?_|refine blk_alloc ?_ _));exact BK433.out) hb);replace HB:=bs hb;(try clear hb);(try clear ho0))|((with_reducible refine gate_dst (N:=8) rfl ?_);refine box_event ?hg (N:=8) ?hd (cs:=#[.int .i64 0,.slice none 0 0]) (t:=26) ?hr ?_;(case hd=>rfl);(case hg=>rfl);(case hr=>first|(go_simp;done)|(go_simp;rfl));intro gb438 hg w61 hbox hb;replace HO424:=sB HO424 hb;replace HO427:=rB HO427 hb;replace HO431:=sB HO431 hb;replace HO437:=sB HO437 hb;have BK438:=aM (hbox);have GW438:=gS w hg;have GE438:=gS w hg;replace HB:=bs hb;have NB418_438:=nL hg BK418;have NB438_418:=nG hg BK418;replace BK418:=bB BK418 hb;have NB433_438:=nL hg BK433;have NB438_433:=nG hg BK433;replace BK433:=bB BK433 hb;clear hb hbox hg;have hnb62:=NB438_418.out;have hnc62:=NB418_438.out;have hnb63:=NB438_433.out;have hnc63:=NB433_438.out;have hcz64_0:w61.cell? ⟨gb438,0,none⟩=some (.int .i64 0):=(blk_cell BK438.out 0).trans rfl;have hcz64_1:w61.cell? ⟨gb438,1,none⟩=some (.slice none 0 0):=(blk_cell BK438.out 1).trans rfl;have hfz64_0:=blk_frozen BK438.out 0;have hfz64_1:=blk_frozen BK438.out 1;obtain ⟨Ao65,co65,eo65⟩:=Kd.S_slice HO437.out;subst eo65)|((with_reducible refine gate_callee (f:=19) rfl ?_);refine goesL_ (some 38) rfl rfl Try.func19 (by kernel_rfl) rfl #[.slice A1 l1.length c1] rfl (by (try simp only [List.map_toArray,List.map_cons,List.map_nil]);first|done|rfl|(simp only [List.length_drop,List.length_take];rfl)) ?_;(with_reducible refine (laws_toDevS.calls k _ _ l1 t439 _ ?side1 ?side2 A17.out).mono ?_);(case side1=>exact Kd.C_below HR1.out be);(case side2=>exact HC1.out);rintro e w66 ⟨v440,rfl,ho0,hb⟩;refine ⟨_,rfl,?_⟩;replace HO424:=aM (Kd.S_below (Aid.S_lt (by (with_reducible repeat (first|apply Kd.S_alloc|apply Kd.S_drewN|apply Kd.S_drew));exact (Kd.S_mono (Kd.S_far (p:=⟨gb438,1,none⟩) (Kd.S_far (p:=⟨gb438,0,none⟩) (Kd.S_types HO424.out BK438.out (by decide)) (fun _ hk=>hk.2) (.int .i64 t434)) (fun _ hk=>hk.2) (.slice Ao65 t435.length co65)) (fun _ h_=>h_.1)))) hb);replace HO427:=aM (Kd.R_below (Aid.R_lt (by (with_reducible repeat (first|apply Kd.R_alloc|apply Kd.R_drewN|apply Kd.R_drew));exact (Kd.R_mono (Kd.R_far (p:=⟨gb438,1,none⟩) (Kd.R_far (p:=⟨gb438,0,none⟩) (Kd.R_types HO427.out BK438.out (by decide)) (fun _ hk=>hk.2) (.int .i64 t434)) (fun _ hk=>hk.2) (.slice Ao65 t435.length co65)) (fun _ h_=>h_.1)))) hb);replace HO431:=aM (Kd.S_below (Aid.S_lt (by (with_reducible repeat (first|apply Kd.S_alloc|apply Kd.S_drewN|apply Kd.S_drew));exact (Kd.S_mono (Kd.S_far (p:=⟨gb438,1,none⟩) (Kd.S_far (p:=⟨gb438,0,none⟩) (Kd.S_types HO431.out BK438.out (by decide)) (fun _ hk=>hk.2) (.int .i64 t434)) (fun _ hk=>hk.2) (.slice Ao65 t435.length co65)) (fun _ h_=>h_.1)))) hb);replace HO437:=aM (Kd.S_below (Aid.S_lt (by (with_reducible repeat (first|apply Kd.S_alloc|apply Kd.S_drewN|apply Kd.S_drew));exact (Kd.S_mono (Kd.S_far (p:=⟨gb438,1,none⟩) (Kd.S_far (p:=⟨gb438,0,none⟩) (Kd.S_types HO437.out BK438.out (by decide)) (fun _ hk=>hk.2) (.int .i64 t434)) (fun _ hk=>hk.2) (.slice Ao65 t435.length co65)) (fun _ h_=>h_.1)))) hb);have HO441:=aM (Kd.R_lower (Aid.R_ge ho0) (below_size be));replace BK418:=aM (blk_below (g:=gb418) (o:=.cells #[.int .i64 a0_0,.slice A0_1 l0_1.length c0_1] 40 (0,0)) (by (with_reducible repeat (first|refine blk_drewN ?_ _|refine blk_drew ?_|refine blk_alloc ?_ _));refine blk_far ?_ NB418_438.out _;(with_reducible repeat (first|refine blk_drewN ?_ _|refine blk_drew ?_|refine blk_alloc ?_ _));refine blk_far ?_ NB418_438.out _;(with_reducible repeat (first|refine blk_drewN ?_ _|refine blk_drew ?_|refine blk_alloc ?_ _));exact BK418.out) hb);replace BK433:=aM (blk_below (g:=gb433) (o:=.cells #[.int .i64 t428,.slice Ao58 t429.length co58] 26 (0,0)) (by (with_reducible repeat (first|refine blk_drewN ?_ _|refine blk_drew ?_|refine blk_alloc ?_ _));refine blk_far ?_ NB433_438.out _;(with_reducible repeat (first|refine blk_drewN ?_ _|refine blk_drew ?_|refine blk_alloc ?_ _));refine blk_far ?_ NB433_438.out _;(with_reducible repeat (first|refine blk_drewN ?_ _|refine blk_drew ?_|refine blk_alloc ?_ _));exact BK433.out) hb);replace BK438:=aM (blk_below (g:=gb438) (o:=.cells #[.int .i64 t434,.slice Ao65 t435.length co65] 26 (0,0)) (by (with_reducible repeat (first|refine blk_drewN ?_ _|refine blk_drew ?_|refine blk_alloc ?_ _));refine blk_put (cs:=#[.int .i64 t434,.slice none 0 0]) ?_ 1 _ rfl;(with_reducible repeat (first|refine blk_drewN ?_ _|refine blk_drew ?_|refine blk_alloc ?_ _));refine blk_put (cs:=#[.int .i64 0,.slice none 0 0]) ?_ 0 _ rfl;(with_reducible repeat (first|refine blk_drewN ?_ _|refine blk_drew ?_|refine blk_alloc ?_ _));exact BK438.out) hb);replace HB:=bs hb;(try clear hb);(try clear ho0);have hcz67_0:w66.cell? ⟨gb438,0,none⟩=some (.int .i64 t434):=(blk_cell BK438.out 0).trans rfl;have hcz67_1:w66.cell? ⟨gb438,1,none⟩=some (.slice Ao65 t435.length co65):=(blk_cell BK438.out 1).trans rfl;have hfz67_0:=blk_frozen BK438.out 0;have hfz67_1:=blk_frozen BK438.out 1;obtain ⟨Ao68,co68,eo68⟩:=Kd.R_slice HO441.out;subst eo68)|((with_reducible refine gate_callee (f:=10) rfl ?_);refine goesL_ (some 42) rfl rfl Try.func10 (by kernel_rfl) rfl #[.agg #[.int .i64 t434,.slice Ao65 t435.length co65],.slice Ao68 t439.length co68] rfl (by (try simp only [List.map_toArray,List.map_cons,List.map_nil]);first|done|rfl|(simp only [List.length_drop,List.length_take];rfl)) ?_;(with_reducible refine (impl_Rebalance.calls k t434 _ _ t435 _ _ t439 t442 t443 t446 _ ?side1 ?side2 ?side3 ?side4 A18.out).mono ?_);(case side1=>exact sS HO437);(case side2=>exact (Kd.S_reads' HO437.out).2.1);(case side3=>exact sR HO441);(case side4=>exact (Kd.R_reads' HO441.out).2.1);rintro e w69 ⟨v444,rfl,ho0,hb⟩;refine ⟨_,rfl,?_⟩;replace HO424:=aM (Kd.S_below (Aid.S_lt (rS HO424)) hb);replace HO427:=aM (Kd.R_below (Aid.R_lt (rR HO427)) hb);replace HO431:=aM (Kd.S_below (Aid.S_lt (rS HO431)) hb);replace HO437:=aM (Kd.S_below (Aid.S_lt (rS HO437)) hb);replace HO441:=aM (Kd.R_below (Aid.R_lt (rR HO441)) hb);have HO445:=aM (Kd.S_lower (Aid.S_ge ho0) (below_size be));replace BK418:=bB BK418 hb;replace BK433:=bB BK433 hb;replace BK438:=bB BK438 hb;replace HB:=bs hb;(try clear hb);(try clear ho0))|((with_reducible refine gate_dst (N:=10) rfl ?_);refine box_event ?hg (N:=10) ?hd (cs:=#[.int .i64 0,.slice none 0 0]) (t:=26) ?hr ?_;(case hd=>rfl);(case hg=>rfl);(case hr=>first|(go_simp;done)|(go_simp;rfl));intro gb447 hg w70 hbox hb;replace HO424:=sB HO424 hb;replace HO427:=rB HO427 hb;replace HO431:=sB HO431 hb;replace HO437:=sB HO437 hb;replace HO441:=rB HO441 hb;replace HO445:=sB HO445 hb;have BK447:=aM (hbox);have GW447:=gS w hg;have GE447:=gS w hg;replace HB:=bs hb;have NB418_447:=nL hg BK418;have NB447_418:=nG hg BK418;replace BK418:=bB BK418 hb;have NB433_447:=nL hg BK433;have NB447_433:=nG hg BK433;replace BK433:=bB BK433 hb;have NB438_447:=nL hg BK438;have NB447_438:=nG hg BK438;replace BK438:=bB BK438 hb;clear hb hbox hg;have hnb71:=NB447_418.out;have hnc71:=NB418_447.out;have hnb72:=NB447_433.out;have hnc72:=NB433_447.out;have hnb73:=NB447_438.out;have hnc73:=NB438_447.out;have hcz74_0:w70.cell? ⟨gb447,0,none⟩=some (.int .i64 0):=(blk_cell BK447.out 0).trans rfl;have hcz74_1:w70.cell? ⟨gb447,1,none⟩=some (.slice none 0 0):=(blk_cell BK447.out 1).trans rfl;have hfz74_0:=blk_frozen BK447.out 0;have hfz74_1:=blk_frozen BK447.out 1;obtain ⟨Ao75,co75,eo75⟩:=Kd.S_slice HO445.out;subst eo75;have hcz76_0:w70.cell? ⟨gb433,0,none⟩=some (.int .i64 t428):=(blk_cell BK433.out 0).trans rfl;have hcz76_1:w70.cell? ⟨gb433,1,none⟩=some (.slice Ao58 t429.length co58):=(blk_cell BK433.out 1).trans rfl;have hfz76_0:=blk_frozen BK433.out 0;have hfz76_1:=blk_frozen BK433.out 1)|((with_reducible refine gate_callee (f:=20) rfl ?_);refine goesL_ (some 47) rfl rfl Try.func20 (by kernel_rfl) rfl #[.agg #[.int .i64 t442,.slice Ao75 t443.length co75],.agg #[.int .i64 t428,.slice Ao58 t429.length co58]] rfl (by (try simp only [List.map_toArray,List.map_cons,List.map_nil]);first|done|rfl|(simp only [List.length_drop,List.length_take];rfl)) ?_;(with_reducible refine (laws_eqRing.calls k t442 _ _ t443 t428 _ _ t429 true _ ?side1 ?side2 ?side3 ?side4 A19.out).mono ?_);(case side1=>exact ((Kd.S_reads' (e:=35) (base:=w.heap.size) (n:=t443.length) (c:=co75) (by (with_reducible repeat (first|apply Kd.S_alloc|apply Kd.S_drewN|apply Kd.S_drew));exact (Kd.S_mono (Kd.S_far (p:=⟨gb447,1,none⟩) (Kd.S_far (p:=⟨gb447,0,none⟩) (Kd.S_types HO445.out BK447.out (by decide)) (fun _ hk=>hk.2) (.int .i64 t442)) (fun _ hk=>hk.2) (.slice Ao75 t443.length co75)) (fun _ h_=>h_.1)))).2.2));(case side2=>exact (Kd.S_reads' HO445.out).2.1);(case side3=>exact ((Kd.S_reads' (e:=35) (base:=w.heap.size) (n:=t429.length) (c:=co58) (by (with_reducible repeat (first|apply Kd.S_alloc|apply Kd.S_drewN|apply Kd.S_drew));exact (Kd.S_mono (Kd.S_far (p:=⟨gb447,1,none⟩) (Kd.S_far (p:=⟨gb447,0,none⟩) (Kd.S_types HO431.out BK447.out (by decide)) (fun _ hk=>hk.2) (.int .i64 t442)) (fun _ hk=>hk.2) (.slice Ao75 t443.length co75)) (fun _ h_=>h_.1)))).2.2));(case side4=>exact (Kd.S_reads' HO431.out).2.1);rintro e w77 ⟨rfl,hb⟩;refine ⟨_,rfl,?_⟩;replace HO424:=aM (Kd.S_below ((by (with_reducible repeat (first|apply Kd.S_alloc|apply Kd.S_drewN|apply Kd.S_drew));exact (Kd.S_mono (Kd.S_far (p:=⟨gb447,1,none⟩) (Kd.S_far (p:=⟨gb447,0,none⟩) (Kd.S_types HO424.out BK447.out (by decide)) (fun _ hk=>hk.2) (.int .i64 t442)) (fun _ hk=>hk.2) (.slice Ao75 t443.length co75)) (fun _ h_=>h_.1)))) hb);replace HO427:=aM (Kd.R_below ((by (with_reducible repeat (first|apply Kd.R_alloc|apply Kd.R_drewN|apply Kd.R_drew));exact (Kd.R_mono (Kd.R_far (p:=⟨gb447,1,none⟩) (Kd.R_far (p:=⟨gb447,0,none⟩) (Kd.R_types HO427.out BK447.out (by decide)) (fun _ hk=>hk.2) (.int .i64 t442)) (fun _ hk=>hk.2) (.slice Ao75 t443.length co75)) (fun _ h_=>h_.1)))) hb);replace HO431:=aM (Kd.S_below ((by (with_reducible repeat (first|apply Kd.S_alloc|apply Kd.S_drewN|apply Kd.S_drew));exact (Kd.S_mono (Kd.S_far (p:=⟨gb447,1,none⟩) (Kd.S_far (p:=⟨gb447,0,none⟩) (Kd.S_types HO431.out BK447.out (by decide)) (fun _ hk=>hk.2) (.int .i64 t442)) (fun _ hk=>hk.2) (.slice Ao75 t443.length co75)) (fun _ h_=>h_.1)))) hb);replace HO437:=aM (Kd.S_below ((by (with_reducible repeat (first|apply Kd.S_alloc|apply Kd.S_drewN|apply Kd.S_drew));exact (Kd.S_mono (Kd.S_far (p:=⟨gb447,1,none⟩) (Kd.S_far (p:=⟨gb447,0,none⟩) (Kd.S_types HO437.out BK447.out (by decide)) (fun _ hk=>hk.2) (.int .i64 t442)) (fun _ hk=>hk.2) (.slice Ao75 t443.length co75)) (fun _ h_=>h_.1)))) hb);replace HO441:=aM (Kd.R_below ((by (with_reducible repeat (first|apply Kd.R_alloc|apply Kd.R_drewN|apply Kd.R_drew));exact (Kd.R_mono (Kd.R_far (p:=⟨gb447,1,none⟩) (Kd.R_far (p:=⟨gb447,0,none⟩) (Kd.R_types HO441.out BK447.out (by decide)) (fun _ hk=>hk.2) (.int .i64 t442)) (fun _ hk=>hk.2) (.slice Ao75 t443.length co75)) (fun _ h_=>h_.1)))) hb);replace HO445:=aM (Kd.S_below ((by (with_reducible repeat (first|apply Kd.S_alloc|apply Kd.S_drewN|apply Kd.S_drew));exact (Kd.S_mono (Kd.S_far (p:=⟨gb447,1,none⟩) (Kd.S_far (p:=⟨gb447,0,none⟩) (Kd.S_types HO445.out BK447.out (by decide)) (fun _ hk=>hk.2) (.int .i64 t442)) (fun _ hk=>hk.2) (.slice Ao75 t443.length co75)) (fun _ h_=>h_.1)))) hb);replace BK418:=aM (blk_below (g:=gb418) (o:=.cells #[.int .i64 a0_0,.slice A0_1 l0_1.length c0_1] 40 (0,0)) (by (with_reducible repeat (first|refine blk_drewN ?_ _|refine blk_drew ?_|refine blk_alloc ?_ _));refine blk_far ?_ NB418_447.out _;(with_reducible repeat (first|refine blk_drewN ?_ _|refine blk_drew ?_|refine blk_alloc ?_ _));refine blk_far ?_ NB418_447.out _;(with_reducible repeat (first|refine blk_drewN ?_ _|refine blk_drew ?_|refine blk_alloc ?_ _));exact BK418.out) hb);replace BK433:=aM (blk_below (g:=gb433) (o:=.cells #[.int .i64 t428,.slice Ao58 t429.length co58] 26 (0,0)) (by (with_reducible repeat (first|refine blk_drewN ?_ _|refine blk_drew ?_|refine blk_alloc ?_ _));refine blk_far ?_ NB433_447.out _;(with_reducible repeat (first|refine blk_drewN ?_ _|refine blk_drew ?_|refine blk_alloc ?_ _));refine blk_far ?_ NB433_447.out _;(with_reducible repeat (first|refine blk_drewN ?_ _|refine blk_drew ?_|refine blk_alloc ?_ _));exact BK433.out) hb);replace BK438:=aM (blk_below (g:=gb438) (o:=.cells #[.int .i64 t434,.slice Ao65 t435.length co65] 26 (0,0)) (by (with_reducible repeat (first|refine blk_drewN ?_ _|refine blk_drew ?_|refine blk_alloc ?_ _));refine blk_far ?_ NB438_447.out _;(with_reducible repeat (first|refine blk_drewN ?_ _|refine blk_drew ?_|refine blk_alloc ?_ _));refine blk_far ?_ NB438_447.out _;(with_reducible repeat (first|refine blk_drewN ?_ _|refine blk_drew ?_|refine blk_alloc ?_ _));exact BK438.out) hb);replace BK447:=aM (blk_below (g:=gb447) (o:=.cells #[.int .i64 t442,.slice Ao75 t443.length co75] 26 (0,0)) (by (with_reducible repeat (first|refine blk_drewN ?_ _|refine blk_drew ?_|refine blk_alloc ?_ _));refine blk_put (cs:=#[.int .i64 t442,.slice none 0 0]) ?_ 1 _ rfl;(with_reducible repeat (first|refine blk_drewN ?_ _|refine blk_drew ?_|refine blk_alloc ?_ _));refine blk_put (cs:=#[.int .i64 0,.slice none 0 0]) ?_ 0 _ rfl;(with_reducible repeat (first|refine blk_drewN ?_ _|refine blk_drew ?_|refine blk_alloc ?_ _));exact BK447.out) hb);replace HB:=bs hb;(try clear hb)))
               replace HO424:=aM (Kd.S_drew HO424.out);replace HO427:=aM (Kd.R_drew HO427.out);replace HO431:=aM (Kd.S_drew HO431.out);replace HO437:=aM (Kd.S_drew HO437.out);replace HO441:=aM (Kd.R_drew HO441.out);replace HO445:=aM (Kd.S_drew HO445.out);replace BK418:=aM (blk_drew BK418.out);replace BK433:=aM (blk_drew BK433.out);replace BK438:=aM (blk_drew BK438.out);replace BK447:=aM (blk_drew BK447.out);replace HB:=aM (below_drew1 HB.out)
               refine start_ (n:=5) (S:=fun w'=>w'.cell? ⟨gb438,0,none⟩=some (.int .i64 t434)∧w'.cell? ⟨gb438,1,none⟩=some (.slice Ao65 t435.length co65)∧w'.cell? ⟨gb418,0,none⟩=some (.int .i64 a0_0)∧w'.cell? ⟨gb418,1,none⟩=some (.slice A0_1 l0_1.length c0_1)) (ds:=[]) (fl 5 0) (by kernel_rfl) rfl rfl ⟨(blk_cell BK438.out 0).trans rfl,(blk_cell BK438.out 1).trans rfl,(blk_cell BK418.out 0).trans rfl,(blk_cell BK418.out 1).trans rfl⟩ (fun hHeld=>?_)
               generalize w77.drew=w78 at HO424 HO427 HO431 HO437 HO441 HO445 BK418 BK433 BK438 BK447 HB hHeld ⊢
               refine ta 0 54 (fl 5 1) hHeld ?_
               refine ta 1 55 (fl 5 3) hHeld ?_
               refine on 2 (some 56) (fl 5 7) (fun K hK=>?_)
               refine goes_ Try.func18 (by kernel_rfl) rfl #[.agg #[.int .i64 a0_0,.slice A0_1 l0_1.length c0_1]] (by rfl) rfl rfl (by (try simp only [List.map_toArray,List.map_cons,List.map_nil]);first|done|rfl|(simp only [List.length_drop,List.length_take];rfl)) ?_
               with_reducible refine (laws_toRing.calls k a0_0 _ _ l0_1 t449 t450 _ ?side1 ?side2 A22.out).mono ?_
               (case side1=>exact rC HR0_1)
               (case side2=>exact HC0_1.out)
               rintro e w79 ⟨v451,rfl,ho0,hb⟩
               refine ⟨_,rfl,?_⟩
               replace HO431:=aM (Kd.S_below (Aid.S_lt (rS HO431)) hb);replace HO437:=aM (Kd.S_below (Aid.S_lt (rS HO437)) hb);replace HO441:=aM (Kd.R_below (Aid.R_lt (rR HO441)) hb);replace HO445:=aM (Kd.S_below (Aid.S_lt (rS HO445)) hb);have HO452:=aM (Kd.S_lower (Aid.S_ge ho0) (below_size be));replace BK418:=bB BK418 hb;replace BK433:=bB BK433 hb;replace BK438:=bB BK438 hb;replace BK447:=bB BK447 hb;replace HB:=bs hb;clear HO424 HO427;(try clear hb);(try clear ho0)
               obtain ⟨Ao80,co80,eo80⟩:=Kd.S_slice HO452.out
               (subst eo80)
               refine hK.out _ _ ⟨(blk_cell BK438.out 0).trans rfl,(blk_cell BK438.out 1).trans rfl,(blk_cell BK418.out 0).trans rfl,(blk_cell BK418.out 1).trans rfl⟩ (fun hHeld=>?_)
               clear hK K
               refine no 56 ?_
               refine on 3 (some 57) (fl 5 15) (fun K hK=>?_)
               refine goes_ Try.func20 (by kernel_rfl) rfl #[.agg #[.int .i64 t434,.slice Ao65 t435.length co65],.agg #[.int .i64 t449,.slice Ao80 t450.length co80]] (by rfl) rfl rfl (by (try simp only [List.map_toArray,List.map_cons,List.map_nil]);first|done|rfl|(simp only [List.length_drop,List.length_take];rfl)) ?_
               with_reducible refine (laws_eqRing.calls k t434 _ _ t435 t449 _ _ t450 true _ ?side1 ?side2 ?side3 ?side4 A23.out).mono ?_
               (case side1=>exact sS HO437)
               (case side2=>exact (Kd.S_reads' HO437.out).2.1)
               (case side3=>exact sS HO452)
               (case side4=>exact (Kd.S_reads' HO452.out).2.1)
               rintro e w81 ⟨rfl,hb⟩
               refine ⟨_,rfl,?_⟩
               replace HO431:=sB HO431 hb;replace HO437:=sB HO437 hb;replace HO441:=rB HO441 hb;replace HO445:=sB HO445 hb;replace BK418:=bB BK418 hb;replace BK433:=bB BK433 hb;replace BK438:=bB BK438 hb;replace BK447:=bB BK447 hb;replace HB:=bs hb;clear HO452;(try clear hb);skip
               refine hK.out _ _ ⟨(blk_cell BK438.out 0).trans rfl,(blk_cell BK438.out 1).trans rfl,(blk_cell BK418.out 0).trans rfl,(blk_cell BK418.out 1).trans rfl⟩ (fun hHeld=>?_)
               clear hK K
               refine no 57 ?_
               refine pu 4 58 (fl 5 31) ?_
               refine done_ (by kernel_rfl) ?_
               try go_wp2_with (first|((with_reducible refine gate_callee (f:=19) rfl ?_);refine goesL_ (some 61) rfl rfl Try.func19 (by kernel_rfl) rfl #[.slice A1 l1.length c1] rfl (by (try simp only [List.map_toArray,List.map_cons,List.map_nil]);first|done|rfl|(simp only [List.length_drop,List.length_take];rfl)) ?_;(with_reducible refine (laws_toDevS.calls k _ _ l1 t454 _ ?side1 ?side2 A25.out).mono ?_);(case side1=>exact rC HR1);(case side2=>exact HC1.out);rintro e w82 ⟨v455,rfl,ho0,hb⟩;refine ⟨_,rfl,?_⟩;replace HO431:=aM (Kd.S_below (Aid.S_lt (rS HO431)) hb);replace HO437:=aM (Kd.S_below (Aid.S_lt (rS HO437)) hb);replace HO441:=aM (Kd.R_below (Aid.R_lt (rR HO441)) hb);replace HO445:=aM (Kd.S_below (Aid.S_lt (rS HO445)) hb);have HO456:=aM (Kd.R_lower (Aid.R_ge ho0) (below_size be));replace BK418:=bB BK418 hb;replace BK433:=bB BK433 hb;replace BK438:=bB BK438 hb;replace BK447:=bB BK447 hb;replace HB:=bs hb;(try clear hb);(try clear ho0);obtain ⟨Ao83,co83,eo83⟩:=Kd.R_slice HO456.out;subst eo83)|((with_reducible refine gate_callee (f:=21) rfl ?_);refine goesL_ (some 62) rfl rfl Try.func21 (by kernel_rfl) rfl #[.slice Ao68 t439.length co68,.slice Ao83 t454.length co83] rfl (by (try simp only [List.map_toArray,List.map_cons,List.map_nil]);first|done|rfl|(simp only [List.length_drop,List.length_take];rfl)) ?_;(with_reducible refine (laws_eqDevS.calls k _ _ t439 _ _ t454 true _ ?side1 ?side2 ?side3 ?side4 A26.out).mono ?_);(case side1=>exact sR HO441);(case side2=>exact (Kd.R_reads' HO441.out).2.1);(case side3=>exact sR HO456);(case side4=>exact (Kd.R_reads' HO456.out).2.1);rintro e w84 ⟨rfl,hb⟩;refine ⟨_,rfl,?_⟩;replace HO431:=sB HO431 hb;replace HO437:=sB HO437 hb;replace HO441:=rB HO441 hb;replace HO445:=sB HO445 hb;replace BK418:=bB BK418 hb;replace BK433:=bB BK433 hb;replace BK438:=bB BK438 hb;replace BK447:=bB BK447 hb;replace HB:=bs hb;clear HO456;(try clear hb);have hcz85_0:w84.cell? ⟨gb438,0,none⟩=some (.int .i64 t434):=(blk_cell BK438.out 0).trans rfl;have hcz85_1:w84.cell? ⟨gb438,1,none⟩=some (.slice Ao65 t435.length co65):=(blk_cell BK438.out 1).trans rfl;have hfz85_0:=blk_frozen BK438.out 0;have hfz85_1:=blk_frozen BK438.out 1)|((with_reducible refine gate_callee (f:=22) rfl ?_);refine goesL_ (some 66) rfl rfl Try.func22 (by kernel_rfl) rfl #[.agg #[.int .i64 t434,.slice Ao65 t435.length co65],.int .i64 1] rfl (by (try simp only [List.map_toArray,List.map_cons,List.map_nil]);first|done|rfl|(simp only [List.length_drop,List.length_take];rfl)) ?_;have po0_:=aM ((Kd.S_types (Kd.S_types (Kd.S_types (Kd.S_types (rS HO437) BK418.out (by decide)) BK433.out (by decide)) BK438.out (by decide)) BK447.out (by decide)));(with_reducible refine (laws_markRing.calls k t434 _ (.slice Ao65 t435.length co65) t435 1 t458 t459 w _ ?side1 po0_.out A28.out).mono ?_);clear po0_;(case side1=>exact be);rintro e w86 ⟨rfl,hy0,hb,hkp⟩;refine ⟨_,rfl,?_⟩;replace BK418:=aM (blk_kept (bk BK418) hkp (fun hs_=>by (try dsimp only at hs_);omega));replace HO431:=aM (Kd.S_kept (rS HO431) hkp (fun k_ h1_ h2_=>by (try dsimp only at h1_ h2_);omega));replace BK433:=aM (blk_kept (bk BK433) hkp (fun hs_=>by (try dsimp only at hs_);omega));replace BK438:=aM (blk_kept (bk BK438) hkp (fun hs_=>by (try dsimp only at hs_);omega));replace HO441:=aM (Kd.R_kept (rR HO441) hkp (fun k_ h1_ h2_=>by (try dsimp only at h1_ h2_);omega));replace HO445:=aM (Kd.S_kept (rS HO445) hkp (fun k_ h1_ h2_=>by (try dsimp only at h1_ h2_);omega));replace BK447:=aM (blk_kept (bk BK447) hkp (fun hs_=>by (try dsimp only at hs_);omega));replace HB:=aM (hb);clear HO437;(try clear hb);(try clear hkp);(try clear hy0))|((with_reducible refine gate_callee (f:=23) rfl ?_);refine goesL_ (some 69) rfl rfl Try.func23 (by kernel_rfl) rfl #[.slice Ao68 t439.length co68,.int .i64 t458] rfl (by (try simp only [List.map_toArray,List.map_cons,List.map_nil]);first|done|rfl|(simp only [List.length_drop,List.length_take];rfl)) ?_;have po0_:=aM ((Kd.R_types (Kd.R_types (Kd.R_types (Kd.R_types (rR HO441) BK418.out (by decide)) BK433.out (by decide)) BK438.out (by decide)) BK447.out (by decide)));(with_reducible refine (laws_markDevS.calls k _ (.slice Ao68 t439.length co68) t439 t458 t460 t461 w _ ?side1 po0_.out A29.out).mono ?_);clear po0_;(case side1=>exact be);rintro e w87 ⟨rfl,hy0,hb,hkp⟩;refine ⟨_,rfl,?_⟩;replace BK418:=aM (blk_kept (bk BK418) hkp (fun hs_=>by (try dsimp only at hs_);omega));replace HO431:=aM (Kd.S_kept (rS HO431) hkp (fun k_ h1_ h2_=>by (try dsimp only at h1_ h2_);omega));replace BK433:=aM (blk_kept (bk BK433) hkp (fun hs_=>by (try dsimp only at hs_);omega));replace BK438:=aM (blk_kept (bk BK438) hkp (fun hs_=>by (try dsimp only at hs_);omega));replace HO445:=aM (Kd.S_kept (rS HO445) hkp (fun k_ h1_ h2_=>by (try dsimp only at h1_ h2_);omega));replace BK447:=aM (blk_kept (bk BK447) hkp (fun hs_=>by (try dsimp only at hs_);omega));replace HB:=aM (hb);clear HO441;(try clear hb);(try clear hkp);(try clear hy0);have hcz88_0:w87.cell? ⟨gb447,0,none⟩=some (.int .i64 t442):=(blk_cell BK447.out 0).trans rfl;have hcz88_1:w87.cell? ⟨gb447,1,none⟩=some (.slice Ao75 t443.length co75):=(blk_cell BK447.out 1).trans rfl;have hfz88_0:=blk_frozen BK447.out 0;have hfz88_1:=blk_frozen BK447.out 1;have hcz89_0:w87.cell? ⟨gb433,0,none⟩=some (.int .i64 t428):=(blk_cell BK433.out 0).trans rfl;have hcz89_1:w87.cell? ⟨gb433,1,none⟩=some (.slice Ao58 t429.length co58):=(blk_cell BK433.out 1).trans rfl;have hfz89_0:=blk_frozen BK433.out 0;have hfz89_1:=blk_frozen BK433.out 1)|(go_at_call 20;(with_reducible refine (laws_eqRing.calls k t442 _ _ t443 t428 _ _ t429 true _ ?side1 ?side2 ?side3 ?side4 A31.out).mono ?_);(case side1=>exact sS HO445);(case side2=>exact (Kd.S_reads' HO445.out).2.1);(case side3=>exact sS HO431);(case side4=>exact (Kd.S_reads' HO431.out).2.1);rintro e w90 ⟨rfl,hb⟩;replace HO431:=sB HO431 hb;replace HO445:=sB HO445 hb;replace BK418:=bB BK418 hb;replace BK433:=bB BK433 hb;replace BK438:=bB BK438 hb;replace BK447:=bB BK447 hb;replace HB:=bs hb;(try clear hb);have hcz91_0:w90.cell? ⟨gb447,0,none⟩=some (.int .i64 t442):=(blk_cell BK447.out 0).trans rfl;have hcz91_1:w90.cell? ⟨gb447,1,none⟩=some (.slice Ao75 t443.length co75):=(blk_cell BK447.out 1).trans rfl;have hfz91_0:=blk_frozen BK447.out 0;have hfz91_1:=blk_frozen BK447.out 1)|((with_reducible refine gate_callee (f:=22) rfl ?_);refine goesL_ (some 85) rfl rfl Try.func22 (by kernel_rfl) rfl #[.agg #[.int .i64 t442,.slice Ao75 t443.length co75],.int .i64 1] rfl (by (try simp only [List.map_toArray,List.map_cons,List.map_nil]);first|done|rfl|(simp only [List.length_drop,List.length_take];rfl)) ?_;have po0_:=aM ((Kd.S_types (Kd.S_types (Kd.S_types (Kd.S_types (rS HO445) BK418.out (by decide)) BK433.out (by decide)) BK438.out (by decide)) BK447.out (by decide)));(with_reducible refine (laws_markRing.calls k t442 _ (.slice Ao75 t443.length co75) t443 1 t463 t464 w _ ?side1 po0_.out A33.out).mono ?_);clear po0_;(case side1=>exact be);rintro e w92 ⟨rfl,hy0,hb,hkp⟩;refine ⟨_,rfl,?_⟩;replace BK418:=aM (blk_kept (bk BK418) hkp (fun hs_=>by (try dsimp only at hs_);omega));replace HO431:=aM (Kd.S_kept (rS HO431) hkp (fun k_ h1_ h2_=>by (try dsimp only at h1_ h2_);omega));replace BK433:=aM (blk_kept (bk BK433) hkp (fun hs_=>by (try dsimp only at hs_);omega));replace BK438:=aM (blk_kept (bk BK438) hkp (fun hs_=>by (try dsimp only at hs_);omega));replace HO445:=aM (hy0);replace BK447:=aM (blk_kept (bk BK447) hkp (fun hs_=>by (try dsimp only at hs_);omega));replace HB:=aM (hb);(try clear hb);(try clear hkp);(try clear hy0);have hcz93_0:w92.cell? ⟨gb447,0,none⟩=some (.int .i64 t442):=(blk_cell BK447.out 0).trans rfl;have hcz93_1:w92.cell? ⟨gb447,1,none⟩=some (.slice Ao75 t443.length co75):=(blk_cell BK447.out 1).trans rfl;have hfz93_0:=blk_frozen BK447.out 0;have hfz93_1:=blk_frozen BK447.out 1)|((with_reducible refine gate_callee (f:=24) rfl ?_);refine goesL_ (some 88) rfl rfl Try.func24 (by kernel_rfl) rfl #[.agg #[.int .i64 t442,.slice Ao75 t464.length co75],.int .i64 1] rfl (by (try simp only [List.map_toArray,List.map_cons,List.map_nil]);first|done|(rw [show t464.length=t443.length from (Kd.S_reads' HO445.out).1.symm] <;> rfl)|rfl|(simp only [List.length_drop,List.length_take];rfl)) ?_;(with_reducible refine (laws_heldRing.calls k t442 _ _ t464 1 t465 _ ?side1 ?side2 A34.out).mono ?_);(case side1=>exact sS HO445);(case side2=>rw [show t464.length=t443.length from (Kd.S_reads' HO445.out).1.symm];exact (Kd.S_reads' HO445.out).2.1);rintro e w94 ⟨rfl,hb⟩;refine ⟨_,rfl,?_⟩;replace HO431:=sB HO431 hb;replace HO445:=sB HO445 hb;replace BK418:=bB BK418 hb;replace BK433:=bB BK433 hb;replace BK438:=bB BK438 hb;replace BK447:=bB BK447 hb;replace HB:=bs hb;(try clear hb);have hcz95_0:w94.cell? ⟨gb418,0,none⟩=some (.int .i64 a0_0):=(blk_cell BK418.out 0).trans rfl;have hcz95_1:w94.cell? ⟨gb418,1,none⟩=some (.slice A0_1 l0_1.length c0_1):=(blk_cell BK418.out 1).trans rfl;have hfz95_0:=blk_frozen BK418.out 0;have hfz95_1:=blk_frozen BK418.out 1)|((with_reducible refine gate_callee (f:=18) rfl ?_);refine goesL_ (some 96) rfl rfl Try.func18 (by kernel_rfl) rfl #[.agg #[.int .i64 a0_0,.slice A0_1 l0_1.length c0_1]] rfl (by (try simp only [List.map_toArray,List.map_cons,List.map_nil]);first|done|rfl|(simp only [List.length_drop,List.length_take];rfl)) ?_;(with_reducible refine (laws_toRing.calls k a0_0 _ _ l0_1 t466 t467 _ ?side1 ?side2 A37.out).mono ?_);(case side1=>exact rC HR0_1);(case side2=>exact HC0_1.out);rintro e w96 ⟨v468,rfl,ho0,hb⟩;refine ⟨_,rfl,?_⟩;replace HO431:=aM (Kd.S_below (Aid.S_lt (rS HO431)) hb);replace HO445:=aM (Kd.S_below (Aid.S_lt (rS HO445)) hb);have HO469:=aM (Kd.S_lower (Aid.S_ge ho0) (below_size be));replace BK418:=bB BK418 hb;replace BK433:=bB BK433 hb;replace BK438:=bB BK438 hb;replace BK447:=bB BK447 hb;replace HB:=bs hb;(try clear hb);(try clear ho0))|((with_reducible refine gate_callee (f:=19) rfl ?_);refine goesL_ (some 98) rfl rfl Try.func19 (by kernel_rfl) rfl #[.slice A1 l1.length c1] rfl (by (try simp only [List.map_toArray,List.map_cons,List.map_nil]);first|done|rfl|(simp only [List.length_drop,List.length_take];rfl)) ?_;(with_reducible refine (laws_toDevS.calls k _ _ l1 t470 _ ?side1 ?side2 A38.out).mono ?_);(case side1=>exact rC HR1);(case side2=>exact HC1.out);rintro e w97 ⟨v471,rfl,ho0,hb⟩;refine ⟨_,rfl,?_⟩;replace HO431:=aM (Kd.S_below (Aid.S_lt (rS HO431)) hb);replace HO445:=aM (Kd.S_below (Aid.S_lt (rS HO445)) hb);replace HO469:=aM (Kd.S_below (Aid.S_lt (rS HO469)) hb);have HO472:=aM (Kd.R_lower (Aid.R_ge ho0) (below_size be));replace BK418:=bB BK418 hb;replace BK433:=bB BK433 hb;replace BK438:=bB BK438 hb;replace BK447:=bB BK447 hb;replace HB:=bs hb;(try clear hb);(try clear ho0);obtain ⟨Ao98,co98,eo98⟩:=Kd.S_slice HO469.out;subst eo98;obtain ⟨Ao99,co99,eo99⟩:=Kd.R_slice HO472.out;subst eo99)|((with_reducible refine gate_callee (f:=10) rfl ?_);refine goesL_ (some 99) rfl rfl Try.func10 (by kernel_rfl) rfl #[.agg #[.int .i64 t466,.slice Ao98 t467.length co98],.slice Ao99 t470.length co99] rfl (by (try simp only [List.map_toArray,List.map_cons,List.map_nil]);first|done|rfl|(simp only [List.length_drop,List.length_take];rfl)) ?_;(with_reducible refine (impl_Rebalance.calls k t466 _ _ t467 _ _ t470 t473 t474 t477 _ ?side1 ?side2 ?side3 ?side4 A39.out).mono ?_);(case side1=>exact sS HO469);(case side2=>exact (Kd.S_reads' HO469.out).2.1);(case side3=>exact sR HO472);(case side4=>exact (Kd.R_reads' HO472.out).2.1);rintro e w100 ⟨v475,rfl,ho0,hb⟩;refine ⟨_,rfl,?_⟩;replace HO431:=aM (Kd.S_below (Aid.S_lt (rS HO431)) hb);replace HO445:=aM (Kd.S_below (Aid.S_lt (rS HO445)) hb);have HO476:=aM (Kd.S_lower (Aid.S_ge ho0) (below_size be));replace BK418:=bB BK418 hb;replace BK433:=bB BK433 hb;replace BK438:=bB BK438 hb;replace BK447:=bB BK447 hb;replace HB:=bs hb;clear HO469 HO472;(try clear hb);(try clear ho0))|((with_reducible refine gate_dst (N:=15) rfl ?_);refine box_event ?hg (N:=15) ?hd (cs:=#[.int .i64 0,.slice none 0 0]) (t:=26) ?hr ?_;(case hd=>rfl);(case hg=>rfl);(case hr=>first|(go_simp;done)|(go_simp;rfl));intro gb478 hg w101 hbox hb;replace HO431:=sB HO431 hb;replace HO445:=sB HO445 hb;replace HO476:=sB HO476 hb;have BK478:=aM (hbox);have GW478:=gS w hg;have GE478:=gS w hg;replace HB:=bs hb;have NB418_478:=nL hg BK418;have NB478_418:=nG hg BK418;have NB433_478:=nL hg BK433;have NB478_433:=nG hg BK433;replace BK433:=bB BK433 hb;have NB438_478:=nL hg BK438;have NB478_438:=nG hg BK438;have NB447_478:=nL hg BK447;have NB478_447:=nG hg BK447;replace BK447:=bB BK447 hb;clear BK418 BK438;clear hb hbox hg;have hnb102:=NB478_418.out;have hnc102:=NB418_478.out;have hnb103:=NB478_433.out;have hnc103:=NB433_478.out;have hnb104:=NB478_438.out;have hnc104:=NB438_478.out;have hnb105:=NB478_447.out;have hnc105:=NB447_478.out;have hcz106_0:w101.cell? ⟨gb478,0,none⟩=some (.int .i64 0):=(blk_cell BK478.out 0).trans rfl;have hcz106_1:w101.cell? ⟨gb478,1,none⟩=some (.slice none 0 0):=(blk_cell BK478.out 1).trans rfl;have hfz106_0:=blk_frozen BK478.out 0;have hfz106_1:=blk_frozen BK478.out 1;obtain ⟨Ao107,co107,eo107⟩:=Kd.S_slice HO476.out;subst eo107;have hcz108_0:w101.cell? ⟨gb433,0,none⟩=some (.int .i64 t428):=(blk_cell BK433.out 0).trans rfl;have hcz108_1:w101.cell? ⟨gb433,1,none⟩=some (.slice Ao58 t429.length co58):=(blk_cell BK433.out 1).trans rfl;have hfz108_0:=blk_frozen BK433.out 0;have hfz108_1:=blk_frozen BK433.out 1)|((with_reducible refine gate_callee (f:=20) rfl ?_);refine goesL_ (some 104) rfl rfl Try.func20 (by kernel_rfl) rfl #[.agg #[.int .i64 t473,.slice Ao107 t474.length co107],.agg #[.int .i64 t428,.slice Ao58 t429.length co58]] rfl (by (try simp only [List.map_toArray,List.map_cons,List.map_nil]);first|done|rfl|(simp only [List.length_drop,List.length_take];rfl)) ?_;(with_reducible refine (laws_eqRing.calls k t473 _ _ t474 t428 _ _ t429 true _ ?side1 ?side2 ?side3 ?side4 A40.out).mono ?_);(case side1=>exact ((Kd.S_reads' (e:=35) (base:=w.heap.size) (n:=t474.length) (c:=co107) (by (with_reducible repeat (first|apply Kd.S_alloc|apply Kd.S_drewN|apply Kd.S_drew));exact (Kd.S_mono (Kd.S_far (p:=⟨gb478,1,none⟩) (Kd.S_far (p:=⟨gb478,0,none⟩) (Kd.S_types HO476.out BK478.out (by decide)) (fun _ hk=>hk.2) (.int .i64 t473)) (fun _ hk=>hk.2) (.slice Ao107 t474.length co107)) (fun _ h_=>h_.1)))).2.2));(case side2=>exact (Kd.S_reads' HO476.out).2.1);(case side3=>exact ((Kd.S_reads' (e:=35) (base:=w.heap.size) (n:=t429.length) (c:=co58) (by (with_reducible repeat (first|apply Kd.S_alloc|apply Kd.S_drewN|apply Kd.S_drew));exact (Kd.S_mono (Kd.S_far (p:=⟨gb478,1,none⟩) (Kd.S_far (p:=⟨gb478,0,none⟩) (Kd.S_types HO431.out BK478.out (by decide)) (fun _ hk=>hk.2) (.int .i64 t473)) (fun _ hk=>hk.2) (.slice Ao107 t474.length co107)) (fun _ h_=>h_.1)))).2.2));(case side4=>exact (Kd.S_reads' HO431.out).2.1);rintro e w109 ⟨rfl,hb⟩;refine ⟨_,rfl,?_⟩;replace HO445:=aM (Kd.S_below ((by (with_reducible repeat (first|apply Kd.S_alloc|apply Kd.S_drewN|apply Kd.S_drew));exact (Kd.S_mono (Kd.S_far (p:=⟨gb478,1,none⟩) (Kd.S_far (p:=⟨gb478,0,none⟩) (Kd.S_types HO445.out BK478.out (by decide)) (fun _ hk=>hk.2) (.int .i64 t473)) (fun _ hk=>hk.2) (.slice Ao107 t474.length co107)) (fun _ h_=>h_.1)))) hb);replace BK447:=aM (blk_below (g:=gb447) (o:=.cells #[.int .i64 t442,.slice Ao75 t443.length co75] 26 (0,0)) (by (with_reducible repeat (first|refine blk_drewN ?_ _|refine blk_drew ?_|refine blk_alloc ?_ _));refine blk_far ?_ NB447_478.out _;(with_reducible repeat (first|refine blk_drewN ?_ _|refine blk_drew ?_|refine blk_alloc ?_ _));refine blk_far ?_ NB447_478.out _;(with_reducible repeat (first|refine blk_drewN ?_ _|refine blk_drew ?_|refine blk_alloc ?_ _));exact BK447.out) hb);replace HB:=bs hb;clear HO431 HO476 BK433 BK478;(try clear hb);have hcz110_0:w109.cell? ⟨gb447,0,none⟩=some (.int .i64 t442):=(blk_cell BK447.out 0).trans rfl;have hcz110_1:w109.cell? ⟨gb447,1,none⟩=some (.slice Ao75 t443.length co75):=(blk_cell BK447.out 1).trans rfl;have hfz110_0:=blk_frozen BK447.out 0;have hfz110_1:=blk_frozen BK447.out 1)|((with_reducible refine gate_callee (f:=24) rfl ?_);refine goesL_ (some 113) rfl rfl Try.func24 (by kernel_rfl) rfl #[.agg #[.int .i64 t442,.slice Ao75 t464.length co75],.int .i64 1] rfl (by (try simp only [List.map_toArray,List.map_cons,List.map_nil]);first|done|(rw [show t464.length=t443.length from (Kd.S_reads' HO445.out).1.symm] <;> rfl)|rfl|(simp only [List.length_drop,List.length_take];rfl)) ?_;(with_reducible refine (laws_heldRing.calls k t442 _ _ t464 1 t480 _ ?side1 ?side2 A43.out).mono ?_);(case side1=>exact sS HO445);(case side2=>rw [show t464.length=t443.length from (Kd.S_reads' HO445.out).1.symm];exact (Kd.S_reads' HO445.out).2.1);rintro e w111 ⟨rfl,hb⟩;refine ⟨_,rfl,?_⟩;replace HB:=bs hb;clear HO445 BK447;(try clear hb)))
               go_ret
               exact ⟨rz,be⟩
              ·rw [if_neg c45] at H
               have c45b0:(t480 == t463)=false:=beq_eq_false_iff_ne.mpr c45
               have c45b1:(t480 != t463)=true:=bne_iff_ne.mpr c45
               exact absurd ((Option.some.inj H).trans hr_.out) (by decide)
            ·rw [if_neg c42] at H
             have c42b0:(t477 == t432)=false:=beq_eq_false_iff_ne.mpr c42
             have c42b1:(t477 != t432)=true:=bne_iff_ne.mpr c42
             exact absurd ((Option.some.inj H).trans hr_.out) (by decide)
           ·replace c41:=Bool.eq_false_iff.mpr c41
            subst c41
            replace H:=(if_neg (show ¬ (false=true) by decide)).symm.trans H
            exact absurd ((Option.some.inj H).trans hr_.out) (by decide)
          ·rw [if_neg c36] at H
           have c36b0:(t465 == t463)=false:=beq_eq_false_iff_ne.mpr c36
           have c36b1:(t465 != t463)=true:=bne_iff_ne.mpr c36
           exact absurd ((Option.some.inj H).trans hr_.out) (by decide)
        ·replace c32:=Bool.eq_false_iff.mpr c32
         subst c32
         replace H:=(if_neg (show ¬ (false=true) by decide)).symm.trans H
         exact absurd ((Option.some.inj H).trans hr_.out) (by decide)
      ·replace c27:=Bool.eq_false_iff.mpr c27
       subst c27
       replace H:=(if_neg (show ¬ (false=true) by decide)).symm.trans H
       exact absurd ((Option.some.inj H).trans hr_.out) (by decide)
     ·replace c24:=Bool.eq_false_iff.mpr c24
      subst c24
      replace H:=(if_neg (show ¬ (false=true) by decide)).symm.trans H
      exact absurd ((Option.some.inj H).trans hr_.out) (by decide)
    ·rw [if_neg c21] at H
     have c21b0:(t446 == t432)=false:=beq_eq_false_iff_ne.mpr c21
     have c21b1:(t446 != t432)=true:=bne_iff_ne.mpr c21
     exact absurd ((Option.some.inj H).trans hr_.out) (by decide)
   ·replace c20:=Bool.eq_false_iff.mpr c20
    subst c20
    replace H:=(if_neg (show ¬ (false=true) by decide)).symm.trans H
    exact absurd ((Option.some.inj H).trans hr_.out) (by decide)
end Go.Proofs.Ytpbjbfimnfghkaa.PFnExactRebalance
