/- Trimmed by a program of this session (trim.py). Not trusted: Lean checks it. -/
import Derived.Test.YtpbjbfimnfghkaaTXZonesOfPFnExactZonesOfx0
import Derived.Test.YtpbjbfimnfghkaaTXZonesOfPFnExactZonesOfx1
import Derived.Test.YtpbjbfimnfghkaaTXZonesOfPFnExactZonesOfx2
namespace Go.Proofs.Ytpbjbfimnfghkaa.PFnExactZonesOf
open Go.RowKit Go.Proofs.YtpbjbfimnfghkaaW.PrintWords Go.Proofs.YtpbjbfimnfghkaaW.PrintLast Go.Proofs.YtpbjbfimnfghkaaW.PrintMore Go.Proofs.Ytpbjbfimnfghkaa.St
attribute [local go_sem] max2_int min2_int max_two min_two max_three min_three max_four min_four
set_option linter.unusedVariables false
set_option linter.unusedSimpArgs false
def laws_markIntS.l0:Nat→List Int→Int→Int→Option (Int × List Int)
 | 0,_,_,_=>none
 | k+1,x0,x1,x5=>if x5 < (x0.length:Int) then (if 0≤x5 then (laws_markIntS.l0 k (x0.set (x5:Int).toNat x1) (wrap64 (x1+1)) (wrap64 (x5+1))) else (none)) else (some (x1,x0))
def laws_markIntS.f (k:Nat) (l0:List Int) (a1:Int):Option (Int × List Int):=laws_markIntS.l0 k l0 a1 0
set_option maxHeartbeats 8000000 in
set_option maxRecDepth 100000 in
theorem laws_markIntS.calls (k:Nat) (P0_:Nat→Prop) (u9000_:Value) (l0:List Int) (a1:Int) (r1:Int) (r2:List Int) (w0 w:World) (hB:Below w0.heap.size w0 w) (ho0:Kd.R (Kd.int .i64) 3 w w0.heap.size P0_ u9000_ l0) (h:laws_markIntS.f k l0 a1=some (r1,r2)) :
  Calls Try.prog 28 #[u9000_,.int .i64 a1] w fun e w'=>e = .returned (.int .i64 r1)∧Kd.R (Kd.int .i64) 3 w' w0.heap.size (fun k_=>(P0_ k_ ∨ w.heap.size≤k_)) u9000_ r2∧Below w0.heap.size w0 w' ∧ Kept w w' (fun k_=>P0_ k_):=by
 have HO0:=Aside0.mk (show Kd.R (Kd.int .i64) 3 w w0.heap.size (fun k_=>(P0_ k_ ∨ w.heap.size≤k_)) u9000_ l0 from Kd.R_mono ho0 (fun k_ hk=>(.inl hk)))
 have HK:=Aside0.mk (Kept.refl w (fun k_=>P0_ k_))
 have HW0:=Aside0.mk hB.size
 have HB:=Aside0.mk hB
 clear hB
 have H:(laws_markIntS.l0 k l0 a1 0)=some (r1,r2):=h
 clear h
 have H':=Aside0.mk H
 clear H
 go_enter Try.func28,Try.ntmps28
 go_wp2
 go_loopg [1,5] k (fun kq v1 v5 w'=>∃ (x0_1:List Int) (x1_1:Int) (x5_1:Int),v1 = .int .i64 x1_1∧v5 = .int .i64 x5_1∧Aside0 (laws_markIntS.l0 kq x0_1 x1_1 x5_1=some (r1,r2))∧Aside0 (kq≤k)∧Aside0 (Kd.R (Kd.int .i64) 3 w' w0.heap.size (fun k_=>(P0_ k_ ∨ w.heap.size≤k_)) u9000_ x0_1)∧Aside0 (Kept w w' (fun k_=>P0_ k_))∧Aside0 (Below w0.heap.size w0 w'))
 case atStart=>exact ⟨(l0),(a1),(0),rd_,rd_,H',⟨Nat.le_refl _⟩,⟨rR HO0⟩,⟨by repeat (first|(with_reducible first|exact HK.out|apply Kept.alloc|apply Kept.drewN|apply Kept.drew)|exact HK.out)⟩,⟨be⟩⟩
 case round=>
  clear H'
  try clear c2
  try clear p2
  obtain ⟨x0_1,x1_1,x5_1,rfl,rfl,HA,HK1,HO_0,HK,HB⟩:=hrel
  cases gk with
  | zero=>exact absurd HA.out (by simp [laws_markIntS.l0])
  | succ k1=>
   have H:=HA.out
   clear HA
   simp only [laws_markIntS.l0] at H
   by_cases c3:x5_1 < (x0_1.length:Int)
   ·rw [if_pos c3] at H
    have c3b0:decide (x5_1 < (x0_1.length:Int))=true:=decide_eq_true c3
    clear c3
    by_cases c4:0≤x5_1
    ·rw [if_pos c4] at H
     have c4b0:decide (0≤x5_1)=true:=decide_eq_true c4
     clear c4
     obtain ⟨y144,hy144⟩ : ∃ y_:List Int,y_=(x0_1.set (x5_1:Int).toNat x1_1):=⟨_,rfl⟩
     replace H:(laws_markIntS.l0 k1 y144 (wrap64 (x1_1+1)) (wrap64 (x5_1+1)))=some (r1,r2):=by first|(rw [hy144];with_reducible exact H)|(have H2_:=(Option.bind_some _ _).symm.trans H;rw [hy144];with_reducible exact H2_)|(have H2_:=(Option.bind_some _ _).symm.trans H;with_reducible exact H2_)|with_reducible exact H|(rw [hy144];exact H)|exact H
     have Ny144:=Aside0.mk hy144
     clear hy144
     have H':=Aside0.mk H
     clear H
     obtain ⟨Ao6,co6,eo6⟩:=Kd.R_slice HO_0.out
     subst eo6
     have p5:0≤(x5_1:Int):=of_decide_eq_true (by first|(with_reducible assumption)|assumption)
     have q5:(x5_1:Int) < ((x0_1.length:Int):Int):=of_decide_eq_true (by first|(with_reducible assumption)|assumption)
     obtain ⟨go5,co5,eo5,gb5,gl5,cl5,HG5⟩:=Kd.R_form HO_0.out (by omega)
     (first|cases eo5|(injection eo5 with ea_ en_ ec_;(first|subst ea_|(injection ea_ with ea_;subst ea_));subst ec_;clear en_))
     have GB5:=Aside0.mk gb5
     have GG5:=Aside0.mk HG5
     clear gb5 gl5 HG5
     have HMgo5:=Aside0.mk (show (P0_ go5 ∨ w.heap.size≤go5) from (HO_0.out.1 _ rfl))
     obtain ⟨hx5_0,hf5_0⟩:=Kd.R_celln 0 HO_0.out (x5_1:Int) p5 q5
     replace p5:=eq_true p5
     replace q5:=eq_true q5
     have HP7:=Kd.R_putg HO_0.out (x5_1:Int) x1_1
     go_wp2_with (first|((with_reducible refine gate_store (t:=3) (p:=15) rfl ?_);refine store_event (t:=3) (p:=15) (v:=?vo_w8) (w1:=(wr.setCell ⟨go5,(x5_1:Int).toNat,none⟩ (.int .i64 x1_1))) ?hg ?ho ?hn ?hr ?_;(case ho=>rfl);(case hg=>rfl);(case hn=>rfl);(case hr=>first|(go_simp;done)|(go_simp;rfl));intro w8 hw;have hg:wr.grownBy w8 (some go5):=(by rw [hw];exact HP7.2);have hp_:Kd.R (Kd.int .i64) 3 w8 w0.heap.size (fun k_=>(P0_ k_ ∨ w.heap.size≤k_)) (.slice (some ⟨go5,0,none⟩) x0_1.length co6) y144:=(by rw [hw,Ny144.out];exact HP7.1);clear HP7;have n0_:=Aside0.mk (hp_);have n1_:=Aside0.mk ((by rw [hw];exact below_set (HB.out) GB5.out:Below w0.heap.size w0 w8));have n2_:=Aside0.mk (Kept.of_grown (S:=(fun k_=>P0_ k_)) hg (by repeat (first|(with_reducible first|exact HK.out|apply Kept.alloc|apply Kept.drewN|apply Kept.drew)|exact HK.out)) (fun k_ e_=>(HO_0.out.1 k_ e_)));clear HO_0;clear HB;clear HK;have HO_0:=n0_;have HB:=n1_;have HK:=n2_;clear n0_ n1_ n2_;clear hg hw hp_))
     go_roundg k1
     case measure=>have:=HK1.out;omega
     case rel=>exact ⟨(y144),(wrap64 (x1_1+1)),(wrap64 (x5_1+1)),rd_,rd_,H',⟨by have:=HK1.out;omega⟩,⟨rR HO_0⟩,⟨by repeat (first|(with_reducible first|exact HK.out|apply Kept.alloc|apply Kept.drewN|apply Kept.drew)|exact HK.out)⟩,⟨be⟩⟩
    ·rw [if_neg c4] at H
     exact absurd H (by simp)
   ·rw [if_neg c3] at H
    have c3b0:decide (x5_1 < (x0_1.length:Int))=false:=decide_eq_false c3
    clear c3
    simp only [Option.some.injEq,Prod.mk.injEq] at H
    obtain ⟨rfl,rfl⟩:=H
    obtain ⟨Ao9,co9,eo9⟩:=Kd.R_slice HO_0.out
    subst eo9
    go_wp2
    go_ret
    exact ⟨rz,rR HO_0,be,by repeat (first|(with_reducible first|exact HK.out|apply Kept.alloc|apply Kept.drewN|apply Kept.drew)|exact HK.out)⟩
def laws_heldIntS.l0:Nat→List Int→Int→Int→Option (Int)
 | 0,_,_,_=>none
 | k+1,x0,x1,x5=>if x5 < (x0.length:Int) then (if 0≤x5 then (if (rd x0 x5)=x1 then (laws_heldIntS.l0 k x0 (wrap64 (x1+1)) (wrap64 (x5+1))) else (some (-1))) else (none)) else (some x1)
def laws_heldIntS.f (k:Nat) (l0:List Int) (a1:Int):Option (Int):=laws_heldIntS.l0 k l0 a1 0
set_option maxHeartbeats 8000000 in
set_option maxRecDepth 100000 in
theorem laws_heldIntS.calls (k:Nat) (A0:Option Addr) (c0:Nat) (l0:List Int) (a1:Int) (r:Int) (w:World) (hr0:Kd.C (Kd.int .i64) w A0 l0.length l0) (hc0:l0.length≤c0) (h:laws_heldIntS.f k l0 a1=some r) :
  Calls Try.prog 29 #[.slice A0 l0.length c0,.int .i64 a1] w fun e w'=>e = .returned (.int .i64 r)∧Drawn0 w w':=by
 have HR0:=Aside0.mk hr0
 have HC0:=Aside0.mk hc0
 clear hr0 hc0
 have H:(laws_heldIntS.l0 k l0 a1 0)=some r:=h
 clear h
 have H':=Aside0.mk H
 clear H
 go_enter Try.func29,Try.ntmps29
 go_wp2
 go_loopg [1,5] k (fun kq v1 v5 w'=>∃ (x1_1:Int) (x5_1:Int),v1 = .int .i64 x1_1∧v5 = .int .i64 x5_1∧Aside0 (laws_heldIntS.l0 kq l0 x1_1 x5_1=some r)∧Aside0 (kq≤k)∧Drawn0 w w')
 case atStart=>exact ⟨(a1),(0),rd_,rd_,H',⟨Nat.le_refl _⟩,by repeat (first|exact Drawn0.refl _|apply Drawn0.step)⟩
 case round=>
  clear H'
  try clear c2
  try clear p2
  obtain ⟨x1_1,x5_1,rfl,rfl,HA,HK1,⟨m1,rfl⟩⟩:=hrel
  cases gk with
  | zero=>exact absurd HA.out (by simp [laws_heldIntS.l0])
  | succ k1=>
   have H:=HA.out
   clear HA
   simp only [laws_heldIntS.l0] at H
   by_cases c3:x5_1 < (l0.length:Int)
   ·rw [if_pos c3] at H
    have c3b0:decide (x5_1 < (l0.length:Int))=true:=decide_eq_true c3
    clear c3
    by_cases c4:0≤x5_1
    ·rw [if_pos c4] at H
     have c4b0:decide (0≤x5_1)=true:=decide_eq_true c4
     clear c4
     by_cases c5:(rd l0 x5_1)=x1_1
     ·rw [if_pos c5] at H
      have c5b0:((rd l0 x5_1) == x1_1)=true:=beq_iff_eq.mpr c5
      have c5b1:((rd l0 x5_1) != x1_1)=false:=bne_eq_false_iff_eq.mpr c5
      clear c5
      have H':=Aside0.mk H
      clear H
      have p145:0≤(x5_1:Int):=of_decide_eq_true (by first|(with_reducible assumption)|assumption)
      have q145:x5_1 < (l0.length:Int):=of_decide_eq_true (by first|(with_reducible assumption)|assumption)
      obtain ⟨ad145,e145,hx145_0⟩:=Kd.at_int HR0.out x5_1 p145 q145
      cases e145
      replace p145:=eq_true p145
      replace q145:=eq_true q145
      go_wp2
      go_roundg k1
      case measure=>have:=HK1.out;omega
      case rel=>exact ⟨(wrap64 (x1_1+1)),(wrap64 (x5_1+1)),rd_,rd_,H',⟨by have:=HK1.out;omega⟩,by repeat (first|exact Drawn0.refl _|apply Drawn0.step)⟩
     ·rw [if_neg c5] at H
      have c5b0:((rd l0 x5_1) == x1_1)=false:=beq_eq_false_iff_ne.mpr c5
      have c5b1:((rd l0 x5_1) != x1_1)=true:=bne_iff_ne.mpr c5
      obtain rfl:=Option.some.inj H
      have p145:0≤(x5_1:Int):=of_decide_eq_true (by first|(with_reducible assumption)|assumption)
      have q145:x5_1 < (l0.length:Int):=of_decide_eq_true (by first|(with_reducible assumption)|assumption)
      obtain ⟨ad145,e145,hx145_0⟩:=Kd.at_int HR0.out x5_1 p145 q145
      cases e145
      replace p145:=eq_true p145
      replace q145:=eq_true q145
      go_wp2
      go_ret
      exact ⟨by first|rfl|(simp;done)|(simp [*];done),by repeat (first|exact Drawn0.refl _|apply Drawn0.step)⟩
    ·rw [if_neg c4] at H
     exact absurd H (by simp)
   ·rw [if_neg c3] at H
    have c3b0:decide (x5_1 < (l0.length:Int))=false:=decide_eq_false c3
    clear c3
    obtain rfl:=Option.some.inj H
    go_wp2
    go_ret
    exact ⟨by first|rfl|(simp;done)|(simp [*];done),by repeat (first|exact Drawn0.refl _|apply Drawn0.step)⟩
def laws_FnExactZonesOf.j0:Nat→List (S83)→List Int→List Int→Bool→Option (Bool)
 | 0,_,_,_,_=>none
 | k+1,x0,x4,x6,x42=>if x42=true then (some false) else ((laws_markIntS.f k x6 1).bind fun bt167=>((laws_heldIntS.f k bt167.2 1).bind fun t169=>(if t169 < 0 then (some false) else (if t169=bt167.1 then ((laws_toDevS.f k x0).bind fun t170=>((impl_ZonesOf.f k t170).bind fun t173=>((laws_eqIntS.f k t173 x4).bind fun t176=>(if t176=true then ((laws_heldIntS.f k bt167.2 1).bind fun t177=>(if t177 < 0 then (some false) else (if t177=bt167.1 then (some true) else (some false)))) else (some false))))) else (some false)))))
def laws_FnExactZonesOf.f (k:Nat) (l0:List (S83)):Option (Bool):=(laws_szDevS.f l0 1048576).bind fun t146=>(if t146 < 0 then (some true) else ((laws_toDevS.f k l0).bind fun t147=>((spec_ZonesOf.f k t147).bind fun t150=>((laws_toDevS.f k l0).bind fun t153=>((impl_ZonesOf.f k t153).bind fun t156=>((laws_eqIntS.f k t156 t150).bind fun t159=>(if t159=true then ((laws_toDevS.f k l0).bind fun t160=>((laws_eqDevS.f k t153 t160).bind fun t163=>(if t163=true then ((laws_markDevS.f k t153 1).bind fun bt164=>(if bt164.1 < 0 then (laws_FnExactZonesOf.j0 k l0 t150 t156 true) else ((laws_eqIntS.f k t156 t150).bind fun t166=>(laws_FnExactZonesOf.j0 k l0 t150 t156 (!t166))))) else (some false)))) else (some false))))))))
set_option maxHeartbeats 8000000 in
set_option maxRecDepth 100000 in
theorem laws_FnExactZonesOf.calls (k:Nat) (A0:Option Addr) (c0:Nat) (l0:List (S83)) (r:Bool) (w:World) (hr0:Kd.C k83 w A0 l0.length l0) (hc0:l0.length≤c0) (h:laws_FnExactZonesOf.f k l0=some r) (hr_:Aside0 (r=true)) :
  Calls Try.prog 5 #[.slice A0 l0.length c0] w fun e w'=>e = .returned (.bool r)∧Below w.heap.size w w':=by
 have HR0:=Aside0.mk hr0
 have HC0:=Aside0.mk hc0
 clear hr0 hc0
 have HB:=Aside0.mk (Below.refl w.heap.size w)
 have H:((laws_szDevS.f l0 1048576).bind fun t146=>(if t146 < 0 then (some true) else ((laws_toDevS.f k l0).bind fun t147=>((spec_ZonesOf.f k t147).bind fun t150=>((laws_toDevS.f k l0).bind fun t153=>((impl_ZonesOf.f k t153).bind fun t156=>((laws_eqIntS.f k t156 t150).bind fun t159=>(if t159=true then ((laws_toDevS.f k l0).bind fun t160=>((laws_eqDevS.f k t153 t160).bind fun t163=>(if t163=true then ((laws_markDevS.f k t153 1).bind fun bt164=>(if bt164.1 < 0 then (laws_FnExactZonesOf.j0 k l0 t150 t156 true) else ((laws_eqIntS.f k t156 t150).bind fun t166=>(laws_FnExactZonesOf.j0 k l0 t150 t156 (!t166))))) else (some false)))) else (some false)))))))))=some r:=h
 clear h
 replace H:=Option.bind_eq_some_iff.mp H
 obtain ⟨t146,A20,H⟩:=H
 try dsimp only at H
 have A2:=Aside0.mk A20
 clear A20
 by_cases c3:t146 < 0
 ·rw [if_pos c3] at H
  have c3b0:decide (t146 < 0)=true:=decide_eq_true c3
  clear c3
  obtain rfl:=Option.some.inj H
  go_enter Try.func5,Try.ntmps5
  go_wp2_with (first|((with_reducible refine gate_callee (f:=17) rfl ?_);refine goesL_ (some 13) rfl rfl Try.func17 (by kernel_rfl) rfl #[.slice A0 l0.length c0,.int .i64 1048576] rfl (by (try simp only [List.map_toArray,List.map_cons,List.map_nil]);first|done|rfl|(simp only [List.length_drop,List.length_take];rfl)) ?_;(with_reducible refine (laws_szDevS.calls _ _ l0 1048576 t146 _ ?side1 ?side2 A2.out).mono ?_);(case side1=>exact sC HR0);(case side2=>exact HC0.out);rintro e w' ⟨rfl,⟨nd,rfl⟩⟩;refine ⟨_,rfl,?_⟩))
  go_ret
  exact ⟨rz,be⟩
 ·rw [if_neg c3] at H
  have c3b0:decide (t146 < 0)=false:=decide_eq_false c3
  clear c3
  replace H:=Option.bind_eq_some_iff.mp H
  obtain ⟨t147,A40,H⟩:=H
  try dsimp only at H
  have A4:=Aside0.mk A40
  clear A40
  replace H:=Option.bind_eq_some_iff.mp H
  obtain ⟨t150,A50,H⟩:=H
  try dsimp only at H
  have A5:=Aside0.mk A50
  clear A50
  replace H:=Option.bind_eq_some_iff.mp H
  obtain ⟨t153,A60,H⟩:=H
  try dsimp only at H
  have A6:=Aside0.mk A60
  clear A60
  replace H:=Option.bind_eq_some_iff.mp H
  obtain ⟨t156,A70,H⟩:=H
  try dsimp only at H
  have A7:=Aside0.mk A70
  clear A70
  replace H:=Option.bind_eq_some_iff.mp H
  obtain ⟨t159,A80,H⟩:=H
  try dsimp only at H
  have A8:=Aside0.mk A80
  clear A80
  by_cases c9:t159=true
  ·subst c9
   rw [if_pos rfl] at H
   replace H:=Option.bind_eq_some_iff.mp H
   obtain ⟨t160,A100,H⟩:=H
   try dsimp only at H
   have A10:=Aside0.mk A100
   clear A100
   replace H:=Option.bind_eq_some_iff.mp H
   obtain ⟨t163,A110,H⟩:=H
   try dsimp only at H
   have A11:=Aside0.mk A110
   clear A110
   by_cases c12:t163=true
   ·subst c12
    rw [if_pos rfl] at H
    replace H:=Option.bind_eq_some_iff.mp H
    obtain ⟨⟨t164,t165⟩,A130,H⟩:=H
    try dsimp only at H
    have A13:=Aside0.mk A130
    clear A130
    have HC14:=Aside0.mk H
    clear H
    go_enter Try.func5,Try.ntmps5
    go_upto_region 14 with (first|((with_reducible refine gate_callee (f:=17) rfl ?_);refine goesL_ (some 13) rfl rfl Try.func17 (by kernel_rfl) rfl #[.slice A0 l0.length c0,.int .i64 1048576] rfl (by (try simp only [List.map_toArray,List.map_cons,List.map_nil]);first|done|rfl|(simp only [List.length_drop,List.length_take];rfl)) ?_;(with_reducible refine (laws_szDevS.calls _ _ l0 1048576 t146 _ ?side1 ?side2 A2.out).mono ?_);(case side1=>exact sC HR0);(case side2=>exact HC0.out);rintro e w' ⟨rfl,⟨nd,rfl⟩⟩;refine ⟨_,rfl,?_⟩)|((with_reducible refine gate_callee (f:=19) rfl ?_);refine goesL_ (some 17) rfl rfl Try.func19 (by kernel_rfl) rfl #[.slice A0 l0.length c0] rfl (by (try simp only [List.map_toArray,List.map_cons,List.map_nil]);first|done|rfl|(simp only [List.length_drop,List.length_take];rfl)) ?_;(with_reducible refine (laws_toDevS.calls k _ _ l0 t147 _ ?side1 ?side2 A4.out).mono ?_);(case side1=>exact sC HR0);(case side2=>exact HC0.out);rintro e w15 ⟨v148,rfl,ho0,hb⟩;refine ⟨_,rfl,?_⟩;have n0_:=Aside0.mk (Kd.R_lower ho0 (below_size be));have n1_:=bs hb;clear HB;have HO149:=n0_;have HB:=n1_;clear n0_ n1_;(try clear hb);(try clear hb2);(try clear hk);(try clear hi);(try clear ho0);obtain ⟨Ao16,co16,eo16⟩:=Kd.R_slice HO149.out;subst eo16)|((with_reducible refine gate_callee (f:=25) rfl ?_);refine goesL_ (some 18) rfl rfl Try.func25 (by kernel_rfl) rfl #[.slice Ao16 t147.length co16] rfl (by (try simp only [List.map_toArray,List.map_cons,List.map_nil]);first|done|rfl|(simp only [List.length_drop,List.length_take];rfl)) ?_;(with_reducible refine (spec_ZonesOf.calls k _ _ t147 t150 _ ?side1 ?side2 A5.out).mono ?_);(case side1=>exact sR HO149);(case side2=>exact (Kd.R_reads' HO149.out).2.1);rintro e w17 ⟨v151,rfl,ho0,hb⟩;refine ⟨_,rfl,?_⟩;have n0_:=Aside0.mk (Kd.R_below ((rR HO149)) hb);have n1_:=Aside0.mk (Kd.R_lower ho0 (below_size be));have n2_:=bs hb;clear HO149;clear HB;have HO149:=n0_;have HO152:=n1_;have HB:=n2_;clear n0_ n1_ n2_;(try clear hb);(try clear hb2);(try clear hk);(try clear hi);(try clear ho0))|((with_reducible refine gate_callee (f:=19) rfl ?_);refine goesL_ (some 20) rfl rfl Try.func19 (by kernel_rfl) rfl #[.slice A0 l0.length c0] rfl (by (try simp only [List.map_toArray,List.map_cons,List.map_nil]);first|done|rfl|(simp only [List.length_drop,List.length_take];rfl)) ?_;(with_reducible refine (laws_toDevS.calls k _ _ l0 t153 _ ?side1 ?side2 A6.out).mono ?_);(case side1=>exact rC HR0);(case side2=>exact HC0.out);rintro e w18 ⟨v154,rfl,ho0,hb⟩;refine ⟨_,rfl,?_⟩;have n0_:=Aside0.mk (Kd.R_elder' (rR HO149) (Kd.R_base ho0) hb);have n1_:=Aside0.mk (Kd.R_below ((rR HO152)) hb);have n2_:=Aside0.mk (Kd.R_lower (Kd.R_new' ho0 (Kd.R_lt (rR HO149))) (below_size be));have n3_:=bs hb;clear HO149;clear HO152;clear HB;have HO149:=n0_;have HO152:=n1_;have HO155:=n2_;have HB:=n3_;clear n0_ n1_ n2_ n3_;(try clear hb);(try clear hb2);(try clear hk);(try clear hi);(try clear ho0);obtain ⟨Ao19,co19,eo19⟩:=Kd.R_slice HO155.out;subst eo19)|((with_reducible refine gate_callee (f:=26) rfl ?_);refine goesL_ (some 22) rfl rfl Try.func26 (by kernel_rfl) rfl #[.slice Ao19 t153.length co19] rfl (by (try simp only [List.map_toArray,List.map_cons,List.map_nil]);first|done|rfl|(simp only [List.length_drop,List.length_take];rfl)) ?_;(with_reducible refine (impl_ZonesOf.calls k _ _ t153 t156 _ ?side1 ?side2 A7.out).mono ?_);(case side1=>exact sR HO155);(case side2=>exact (Kd.R_reads' HO155.out).2.1);rintro e w20 ⟨v157,rfl,ho0,hb⟩;refine ⟨_,rfl,?_⟩;have n0_:=Aside0.mk (Kd.R_below ((rR HO149)) hb);have n1_:=Aside0.mk (Kd.R_elder' (rR HO152) (Kd.R_base ho0) hb);have n2_:=Aside0.mk (Kd.R_below ((rR HO155)) hb);have n3_:=Aside0.mk (Kd.R_lower (Kd.R_new' ho0 (Kd.R_lt (rR HO152))) (below_size be));have n4_:=bs hb;clear HO149;clear HO152;clear HO155;clear HB;have HO149:=n0_;have HO152:=n1_;have HO155:=n2_;have HO158:=n3_;have HB:=n4_;clear n0_ n1_ n2_ n3_ n4_;(try clear hb);(try clear hb2);(try clear hk);(try clear hi);(try clear ho0);obtain ⟨Ao21,co21,eo21⟩:=Kd.R_slice HO158.out;subst eo21;obtain ⟨Ao22,co22,eo22⟩:=Kd.R_slice HO152.out;subst eo22)|((with_reducible refine gate_callee (f:=27) rfl ?_);refine goesL_ (some 25) rfl rfl Try.func27 (by kernel_rfl) rfl #[.slice Ao21 t156.length co21,.slice Ao22 t150.length co22] rfl (by (try simp only [List.map_toArray,List.map_cons,List.map_nil]);first|done|rfl|(simp only [List.length_drop,List.length_take];rfl)) ?_;(with_reducible refine (laws_eqIntS.calls k _ _ t156 _ _ t150 true _ ?side1 ?side2 ?side3 ?side4 A8.out).mono ?_);(case side1=>exact sR HO158);(case side2=>exact (Kd.R_reads' HO158.out).2.1);(case side3=>exact sR HO152);(case side4=>exact (Kd.R_reads' HO152.out).2.1);rintro e w' ⟨rfl,⟨nd,rfl⟩⟩;refine ⟨_,rfl,?_⟩)|((with_reducible refine gate_callee (f:=19) rfl ?_);refine goesL_ (some 29) rfl rfl Try.func19 (by kernel_rfl) rfl #[.slice A0 l0.length c0] rfl (by (try simp only [List.map_toArray,List.map_cons,List.map_nil]);first|done|rfl|(simp only [List.length_drop,List.length_take];rfl)) ?_;(with_reducible refine (laws_toDevS.calls k _ _ l0 t160 _ ?side1 ?side2 A10.out).mono ?_);(case side1=>exact rC HR0);(case side2=>exact HC0.out);rintro e w23 ⟨v161,rfl,ho0,hb⟩;refine ⟨_,rfl,?_⟩;have n0_:=Aside0.mk (Kd.R_elder' (rR HO149) (Kd.R_base ho0) hb);have n1_:=Aside0.mk (Kd.R_below ((rR HO152)) hb);have n2_:=Aside0.mk (Kd.R_elder' (rR HO155) (Kd.R_base ho0) hb);have n3_:=Aside0.mk (Kd.R_below ((rR HO158)) hb);have n4_:=Aside0.mk (Kd.R_lower (Kd.R_new' (Kd.R_new' ho0 (Kd.R_lt (rR HO149))) (Kd.R_lt (rR HO155))) (below_size be));have n5_:=bs hb;clear HO149;clear HO152;clear HO155;clear HO158;clear HB;have HO149:=n0_;have HO152:=n1_;have HO155:=n2_;have HO158:=n3_;have HO162:=n4_;have HB:=n5_;clear n0_ n1_ n2_ n3_ n4_ n5_;(try clear hb);(try clear hb2);(try clear hk);(try clear hi);(try clear ho0);obtain ⟨Ao24,co24,eo24⟩:=Kd.R_slice HO162.out;subst eo24)|((with_reducible refine gate_callee (f:=21) rfl ?_);refine goesL_ (some 30) rfl rfl Try.func21 (by kernel_rfl) rfl #[.slice Ao19 t153.length co19,.slice Ao24 t160.length co24] rfl (by (try simp only [List.map_toArray,List.map_cons,List.map_nil]);first|done|rfl|(simp only [List.length_drop,List.length_take];rfl)) ?_;(with_reducible refine (laws_eqDevS.calls k _ _ t153 _ _ t160 true _ ?side1 ?side2 ?side3 ?side4 A11.out).mono ?_);(case side1=>exact sR HO155);(case side2=>exact (Kd.R_reads' HO155.out).2.1);(case side3=>exact sR HO162);(case side4=>exact (Kd.R_reads' HO162.out).2.1);rintro e w25 ⟨rfl,hb⟩;refine ⟨_,rfl,?_⟩;have n0_:=Aside0.mk (Kd.R_below ((rR HO149)) hb);have n1_:=Aside0.mk (Kd.R_below ((rR HO152)) hb);have n2_:=Aside0.mk (Kd.R_below ((rR HO155)) hb);have n3_:=Aside0.mk (Kd.R_below ((rR HO158)) hb);have n4_:=Aside0.mk (Kd.R_below ((rR HO162)) hb);have n5_:=bs hb;clear HO149;clear HO152;clear HO155;clear HO158;clear HO162;clear HB;have HO149:=n0_;have HO152:=n1_;have HO155:=n2_;have HO158:=n3_;have HO162:=n4_;have HB:=n5_;clear n0_ n1_ n2_ n3_ n4_ n5_;(try clear hb);(try clear hb2);(try clear hk);(try clear hi))|((with_reducible refine gate_callee (f:=23) rfl ?_);refine goesL_ (some 34) rfl rfl Try.func23 (by kernel_rfl) rfl #[.slice Ao19 t153.length co19,.int .i64 1] rfl (by (try simp only [List.map_toArray,List.map_cons,List.map_nil]);first|done|rfl|(simp only [List.length_drop,List.length_take];rfl)) ?_;(with_reducible refine (laws_markDevS.calls k (fun k_=>some k_=(.slice Ao19 t153.length co19:Value).ownBlock) (.slice Ao19 t153.length co19) t153 1 t164 t165 w _ ?side1 ?side2 A13.out).mono ?_);(case side1=>exact be);(case side2=>exact Kd.R_tight rfl HO155.out);rintro e w26 ⟨rfl,hy0,hb,hkp⟩;refine ⟨_,rfl,?_⟩;have n0_:=Aside0.mk (Kd.R_mono (ok':=fun k_=>some k_ ≠ (.slice Ao19 t153.length co19:Value).ownBlock∧some k_ ≠ (.slice Ao24 t160.length co24:Value).ownBlock) (Kd.R_keptB (HO149.out) hkp (fun k_ hk_ hs_=>(hk_.1.2) hs_)) (fun k_ hk_=>⟨hk_.1.1.2,hk_.1.2⟩));have n1_:=Aside0.mk (Kd.R_mono (ok':=fun k_=>some k_ ≠ (.slice Ao21 t156.length co21:Value).ownBlock) (Kd.R_keptB ((Kd.R_apart' HO152.out (Kd.R_typed HO155.out) (by decide))) hkp (fun k_ hk_ hs_=>(hk_.2) hs_)) (fun k_ hk_=>hk_.1.1.2));have n2_:=Aside0.mk (Kd.R_reok rfl hy0 (fun k_ e_=>HO155.out.1 k_ e_));have n3_:=Aside0.mk (Kd.R_mono (ok':=fun k_=>some k_ ≠ (.slice Ao22 t150.length co22:Value).ownBlock) (Kd.R_keptB ((Kd.R_apart' HO158.out (Kd.R_typed HO155.out) (by decide))) hkp (fun k_ hk_ hs_=>(hk_.2) hs_)) (fun k_ hk_=>hk_.1.1.2));have n4_:=Aside0.mk (Kd.R_mono (ok':=fun k_=>some k_ ≠ (.slice Ao16 t147.length co16:Value).ownBlock∧some k_ ≠ (.slice Ao19 t153.length co19:Value).ownBlock) (Kd.R_keptB (HO162.out) hkp (fun k_ hk_ hs_=>(hk_.2) hs_)) (fun k_ hk_=>⟨hk_.1.1.2,hk_.1.2⟩));have n5_:=Aside0.mk (hb);clear HO149;clear HO152;clear HO155;clear HO158;clear HO162;clear HB;have HO149:=n0_;have HO152:=n1_;have HO155:=n2_;have HO158:=n3_;have HO162:=n4_;have HB:=n5_;clear n0_ n1_ n2_ n3_ n4_ n5_;(try clear hb);(try clear hkp);(try clear hy0)))
    (try simp only [Act.put,List.setIfInBounds_toArray,List.set_cons_zero,List.set_cons_succ])
    go_cut [42] (fun v42 wc=>∃ (kq:Nat) (x42_13:Bool),v42 = .bool x42_13∧Aside0 (laws_FnExactZonesOf.j0 kq l0 t150 t156 x42_13=some r)∧Aside0 (kq≤k)∧Aside0 (Kd.R (Kd.int .i64) 3 wc w.heap.size (fun k_=>some k_ ≠ ((.slice Ao21 t156.length co21):Value).ownBlock) (.slice Ao22 t150.length co22) t150)∧Aside0 (Kd.R (Kd.int .i64) 3 wc w.heap.size (fun k_=>some k_ ≠ ((.slice Ao22 t150.length co22):Value).ownBlock) (.slice Ao21 t156.length co21) t156)∧Aside0 (Below w.heap.size w wc))
    case first=>
     have H:=HC14.out
     clear HC14
     by_cases c27:t164 < 0
     ·rw [if_pos c27] at H
      have c27b0:decide (t164 < 0)=true:=decide_eq_true c27
      clear c27
      (first|rw [c27b0]|(simp only [i64_w,i32_w];rw [c27b0])|skip)
      have H':=Aside0.mk H
      clear H
      go_wp2
      go_meet
      case rel=>exact ⟨_,(true),rd_,H',⟨by first|omega|exact Nat.le_refl _⟩,⟨rR HO152⟩,⟨rR HO158⟩,⟨be⟩⟩
     ·rw [if_neg c27] at H
      have c27b0:decide (t164 < 0)=false:=decide_eq_false c27
      clear c27
      (first|rw [c27b0]|(simp only [i64_w,i32_w];rw [c27b0])|skip)
      replace H:=Option.bind_eq_some_iff.mp H
      obtain ⟨t166,A280,H⟩:=H
      try dsimp only at H
      have A28:=Aside0.mk A280
      clear A280
      have H':=Aside0.mk H
      clear H
      go_wp2_with (first|(go_at_call 27;(with_reducible refine (laws_eqIntS.calls k _ _ t156 _ _ t150 t166 _ ?side1 ?side2 ?side3 ?side4 A28.out).mono ?_);(case side1=>exact sR HO158);(case side2=>exact (Kd.R_reads' HO158.out).2.1);(case side3=>exact sR HO152);(case side4=>exact (Kd.R_reads' HO152.out).2.1);rintro e w' ⟨rfl,⟨nd,rfl⟩⟩))
      go_meet
      case rel=>exact ⟨_,(!t166),rd_,H',⟨by first|omega|exact Nat.le_refl _⟩,⟨rR HO152⟩,⟨rR HO158⟩,⟨be⟩⟩
    case rest=>
     clear HC14
     try clear c1
     try clear c2
     try clear p2
     try clear c3
     try clear c3b0
     try clear c5
     try clear c9
     try clear c12
     try clear c17
     try clear c19
     try clear c21
     try clear c23
     try clear c25
     try clear c26
     try clear c27
     try clear c27b0
     obtain ⟨kq,x42_13,rfl,HA,HJ13,HO_4,HO_6,HB⟩:=hcut
     cases kq with
     | zero=>exact absurd HA.out (by simp [laws_FnExactZonesOf.j0])
     | succ kj13=>
      have H:=HA.out
      clear HA
      simp only [laws_FnExactZonesOf.j0] at H
      by_cases c29:x42_13=true
      ·subst c29
       rw [if_pos rfl] at H
       exact absurd ((Option.some.inj H).trans hr_.out) (by decide)
      ·replace c29:=Bool.eq_false_iff.mpr c29
       subst c29
       have H1:((laws_markIntS.f kj13 t156 1).bind fun bt167=>((laws_heldIntS.f kj13 bt167.2 1).bind fun t169=>(if t169 < 0 then (some false) else (if t169=bt167.1 then ((laws_toDevS.f kj13 l0).bind fun t170=>((impl_ZonesOf.f kj13 t170).bind fun t173=>((laws_eqIntS.f kj13 t173 t150).bind fun t176=>(if t176=true then ((laws_heldIntS.f kj13 bt167.2 1).bind fun t177=>(if t177 < 0 then (some false) else (if t177=bt167.1 then (some true) else (some false)))) else (some false))))) else (some false)))))=some r:=by rw [if_neg (show ¬ (false=true) by decide)] at H;exact H
       clear H
       have H:=H1
       clear H1
       replace H:=Option.bind_eq_some_iff.mp H
       obtain ⟨⟨t167,t168⟩,A300,H⟩:=H
       try dsimp only at H
       have A30:=Aside0.mk A300
       clear A300
       replace H:=Option.bind_eq_some_iff.mp H
       obtain ⟨t169,A310,H⟩:=H
       try dsimp only at H
       have A31:=Aside0.mk A310
       clear A310
       by_cases c32:t169 < 0
       ·rw [if_pos c32] at H
        have c32b0:decide (t169 < 0)=true:=decide_eq_true c32
        clear c32
        exact absurd ((Option.some.inj H).trans hr_.out) (by decide)
       ·rw [if_neg c32] at H
        have c32b0:decide (t169 < 0)=false:=decide_eq_false c32
        clear c32
        by_cases c33:t169=t167
        ·rw [if_pos c33] at H
         have c33b0:(t169 == t167)=true:=beq_iff_eq.mpr c33
         have c33b1:(t169 != t167)=false:=bne_eq_false_iff_eq.mpr c33
         clear c33
         replace H:=Option.bind_eq_some_iff.mp H
         obtain ⟨t170,A340,H⟩:=H
         try dsimp only at H
         have A34:=Aside0.mk A340
         clear A340
         replace H:=Option.bind_eq_some_iff.mp H
         obtain ⟨t173,A350,H⟩:=H
         try dsimp only at H
         have A35:=Aside0.mk A350
         clear A350
         replace H:=Option.bind_eq_some_iff.mp H
         obtain ⟨t176,A360,H⟩:=H
         try dsimp only at H
         have A36:=Aside0.mk A360
         clear A360
         by_cases c37:t176=true
         ·subst c37
          rw [if_pos rfl] at H
          replace H:=Option.bind_eq_some_iff.mp H
          obtain ⟨t177,A380,H⟩:=H
          try dsimp only at H
          have A38:=Aside0.mk A380
          clear A380
          by_cases c39:t177 < 0
          ·rw [if_pos c39] at H
           have c39b0:decide (t177 < 0)=true:=decide_eq_true c39
           clear c39
           exact absurd ((Option.some.inj H).trans hr_.out) (by decide)
          ·rw [if_neg c39] at H
           have c39b0:decide (t177 < 0)=false:=decide_eq_false c39
           clear c39
           by_cases c40:t177=t167
           ·rw [if_pos c40] at H
            have c40b0:(t177 == t167)=true:=beq_iff_eq.mpr c40
            have c40b1:(t177 != t167)=false:=bne_eq_false_iff_eq.mpr c40
            clear c40
            obtain rfl:=Option.some.inj H
            go_wp2_with (first|((with_reducible refine gate_callee (f:=28) rfl ?_);refine goesL_ (some 45) rfl rfl Try.func28 (by kernel_rfl) rfl #[.slice Ao21 t156.length co21,.int .i64 1] rfl (by (try simp only [List.map_toArray,List.map_cons,List.map_nil]);first|done|rfl|(simp only [List.length_drop,List.length_take];rfl)) ?_;(with_reducible refine (laws_markIntS.calls kj13 (fun k_=>some k_=(.slice Ao21 t156.length co21:Value).ownBlock) (.slice Ao21 t156.length co21) t156 1 t167 t168 w _ ?side1 ?side2 A30.out).mono ?_);(case side1=>exact be);(case side2=>exact Kd.R_tight rfl HO_6.out);rintro e w41 ⟨rfl,hy0,hb,hkp⟩;refine ⟨_,rfl,?_⟩;have n0_:=Aside0.mk (Kd.R_mono (ok':=fun k_=>some k_ ≠ (.slice Ao21 t156.length co21:Value).ownBlock) (Kd.R_keptB (HO_4.out) hkp (fun k_ hk_ hs_=>(hk_) hs_)) (fun k_ hk_=>hk_.1));have n1_:=Aside0.mk (Kd.R_reok rfl hy0 (fun k_ e_=>HO_6.out.1 k_ e_));have n2_:=Aside0.mk (hb);clear HO_4;clear HO_6;clear HB;have HO_4:=n0_;have HO_6:=n1_;have HB:=n2_;clear n0_ n1_ n2_;(try clear hb);(try clear hkp);(try clear hy0))|((with_reducible refine gate_callee (f:=29) rfl ?_);refine goesL_ (some 48) rfl rfl Try.func29 (by kernel_rfl) rfl #[.slice Ao21 t168.length co21,.int .i64 1] rfl (by (try simp only [List.map_toArray,List.map_cons,List.map_nil]);first|done|(rw [show t168.length=t156.length from (Kd.R_reads' HO_6.out).1.symm] <;> rfl)|rfl|(simp only [List.length_drop,List.length_take];rfl)) ?_;(with_reducible refine (laws_heldIntS.calls kj13 _ _ t168 1 t169 _ ?side1 ?side2 A31.out).mono ?_);(case side1=>exact sR HO_6);(case side2=>rw [show t168.length=t156.length from (Kd.R_reads' HO_6.out).1.symm];exact (Kd.R_reads' HO_6.out).2.1);rintro e w' ⟨rfl,⟨nd,rfl⟩⟩;refine ⟨_,rfl,?_⟩)|((with_reducible refine gate_callee (f:=19) rfl ?_);refine goesL_ (some 55) rfl rfl Try.func19 (by kernel_rfl) rfl #[.slice A0 l0.length c0] rfl (by (try simp only [List.map_toArray,List.map_cons,List.map_nil]);first|done|rfl|(simp only [List.length_drop,List.length_take];rfl)) ?_;(with_reducible refine (laws_toDevS.calls kj13 _ _ l0 t170 _ ?side1 ?side2 A34.out).mono ?_);(case side1=>exact rC HR0);(case side2=>exact HC0.out);rintro e w42 ⟨v171,rfl,ho0,hb⟩;refine ⟨_,rfl,?_⟩;have n0_:=Aside0.mk (Kd.R_below ((rR HO_4)) hb);have n1_:=Aside0.mk (Kd.R_below ((rR HO_6)) hb);have n2_:=Aside0.mk (Kd.R_lower ho0 (below_size be));have n3_:=bs hb;clear HO_4;clear HO_6;clear HB;have HO_4:=n0_;have HO_6:=n1_;have HO172:=n2_;have HB:=n3_;clear n0_ n1_ n2_ n3_;(try clear hb);(try clear hb2);(try clear hk);(try clear hi);(try clear ho0);obtain ⟨Ao43,co43,eo43⟩:=Kd.R_slice HO172.out;subst eo43)|((with_reducible refine gate_callee (f:=26) rfl ?_);refine goesL_ (some 56) rfl rfl Try.func26 (by kernel_rfl) rfl #[.slice Ao43 t170.length co43] rfl (by (try simp only [List.map_toArray,List.map_cons,List.map_nil]);first|done|rfl|(simp only [List.length_drop,List.length_take];rfl)) ?_;(with_reducible refine (impl_ZonesOf.calls kj13 _ _ t170 t173 _ ?side1 ?side2 A35.out).mono ?_);(case side1=>exact sR HO172);(case side2=>exact (Kd.R_reads' HO172.out).2.1);rintro e w44 ⟨v174,rfl,ho0,hb⟩;refine ⟨_,rfl,?_⟩;have n0_:=Aside0.mk (Kd.R_elder' (rR HO_4) (Kd.R_base ho0) hb);have n1_:=Aside0.mk (Kd.R_elder' (rR HO_6) (Kd.R_base ho0) hb);have n2_:=Aside0.mk (Kd.R_below ((rR HO172)) hb);have n3_:=Aside0.mk (Kd.R_lower (Kd.R_new' (Kd.R_new' ho0 (Kd.R_lt (rR HO_4))) (Kd.R_lt (rR HO_6))) (below_size be));have n4_:=bs hb;clear HO_4;clear HO_6;clear HO172;clear HB;have HO_4:=n0_;have HO_6:=n1_;have HO172:=n2_;have HO175:=n3_;have HB:=n4_;clear n0_ n1_ n2_ n3_ n4_;(try clear hb);(try clear hb2);(try clear hk);(try clear hi);(try clear ho0);obtain ⟨Ao45,co45,eo45⟩:=Kd.R_slice HO175.out;subst eo45)|((with_reducible refine gate_callee (f:=27) rfl ?_);refine goesL_ (some 59) rfl rfl Try.func27 (by kernel_rfl) rfl #[.slice Ao45 t173.length co45,.slice Ao22 t150.length co22] rfl (by (try simp only [List.map_toArray,List.map_cons,List.map_nil]);first|done|rfl|(simp only [List.length_drop,List.length_take];rfl)) ?_;(with_reducible refine (laws_eqIntS.calls kj13 _ _ t173 _ _ t150 true _ ?side1 ?side2 ?side3 ?side4 A36.out).mono ?_);(case side1=>exact sR HO175);(case side2=>exact (Kd.R_reads' HO175.out).2.1);(case side3=>exact sR HO_4);(case side4=>exact (Kd.R_reads' HO_4.out).2.1);rintro e w' ⟨rfl,⟨nd,rfl⟩⟩;refine ⟨_,rfl,?_⟩)|((with_reducible refine gate_callee (f:=29) rfl ?_);refine goesL_ (some 63) rfl rfl Try.func29 (by kernel_rfl) rfl #[.slice Ao21 t168.length co21,.int .i64 1] rfl (by (try simp only [List.map_toArray,List.map_cons,List.map_nil]);first|done|(rw [show t168.length=t156.length from (Kd.R_reads' HO_6.out).1.symm] <;> rfl)|rfl|(simp only [List.length_drop,List.length_take];rfl)) ?_;(with_reducible refine (laws_heldIntS.calls kj13 _ _ t168 1 t177 _ ?side1 ?side2 A38.out).mono ?_);(case side1=>exact sR HO_6);(case side2=>rw [show t168.length=t156.length from (Kd.R_reads' HO_6.out).1.symm];exact (Kd.R_reads' HO_6.out).2.1);rintro e w' ⟨rfl,⟨nd,rfl⟩⟩;refine ⟨_,rfl,?_⟩))
            go_ret
            exact ⟨rz,be⟩
           ·rw [if_neg c40] at H
            have c40b0:(t177 == t167)=false:=beq_eq_false_iff_ne.mpr c40
            have c40b1:(t177 != t167)=true:=bne_iff_ne.mpr c40
            exact absurd ((Option.some.inj H).trans hr_.out) (by decide)
         ·replace c37:=Bool.eq_false_iff.mpr c37
          subst c37
          have H1:(some false)=some r:=by rw [if_neg (show ¬ (false=true) by decide)] at H;exact H
          clear H
          have H:=H1
          clear H1
          exact absurd ((Option.some.inj H).trans hr_.out) (by decide)
        ·rw [if_neg c33] at H
         have c33b0:(t169 == t167)=false:=beq_eq_false_iff_ne.mpr c33
         have c33b1:(t169 != t167)=true:=bne_iff_ne.mpr c33
         exact absurd ((Option.some.inj H).trans hr_.out) (by decide)
   ·replace c12:=Bool.eq_false_iff.mpr c12
    subst c12
    have H1:(some false)=some r:=by rw [if_neg (show ¬ (false=true) by decide)] at H;exact H
    clear H
    have H:=H1
    clear H1
    exact absurd ((Option.some.inj H).trans hr_.out) (by decide)
  ·replace c9:=Bool.eq_false_iff.mpr c9
   subst c9
   have H1:(some false)=some r:=by rw [if_neg (show ¬ (false=true) by decide)] at H;exact H
   clear H
   have H:=H1
   clear H1
   exact absurd ((Option.some.inj H).trans hr_.out) (by decide)
end Go.Proofs.Ytpbjbfimnfghkaa.PFnExactZonesOf
