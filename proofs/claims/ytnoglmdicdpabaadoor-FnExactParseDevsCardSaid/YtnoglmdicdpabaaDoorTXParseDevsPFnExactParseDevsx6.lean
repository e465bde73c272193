/- Trimmed by a program of this session (trim.py). Not trusted: Lean checks it. -/
import Derived.Test.YtnoglmdicdpabaaDoorTXParseDevsPFnExactParseDevsx0
import Derived.Test.YtnoglmdicdpabaaDoorTXParseDevsPFnExactParseDevsx1
import Derived.Test.YtnoglmdicdpabaaDoorTXParseDevsPFnExactParseDevsx3
import Derived.Test.YtnoglmdicdpabaaDoorTXParseDevsPFnExactParseDevsx5
namespace Go.Proofs.YtnoglmdicdpabaaDoor.PFnExactParseDevs
open Go.RowKit Go.Proofs.YtnoglmdicdpabaaDoorW.PrintWords Go.Proofs.YtnoglmdicdpabaaDoorW.PrintLast Go.Proofs.YtnoglmdicdpabaaDoorW.PrintMore Go.Proofs.YtnoglmdicdpabaaDoor.St
attribute [local go_sem] max2_int min2_int max_two min_two max_three min_three max_four min_four
set_option linter.unusedVariables false
set_option linter.unusedSimpArgs false
def laws_markDevS.l0:Nat→List (S53)→Int→Int→Option (Int × (List (S53)))
 | 0,_,_,_=>none
 | k+1,x0,x1,x5=>if x5 < (x0.length:Int) then (if 0≤x5 then ((some (x0.set (x5:Int).toNat (⟨x1,(rd_T53 x0 x5).f1,(rd_T53 x0 x5).f2⟩:S53):List (S53))).bind fun y193=>((some (y193.set (x5:Int).toNat (⟨(rd_T53 y193 x5).f0,wrap64 (x1+1),(rd_T53 y193 x5).f2⟩:S53):List (S53))).bind fun y194=>(laws_markDevS.l0 k (y194.set (x5:Int).toNat (⟨(rd_T53 y194 x5).f0,(rd_T53 y194 x5).f1,wrap64 ((wrap64 (x1+1))+1)⟩:S53)) (wrap64 ((wrap64 ((wrap64 (x1+1))+1))+1)) (wrap64 (x5+1))))) else (none)) else (some (x1,x0))
def laws_markDevS.f (k:Nat) (l0:List (S53)) (a1:Int):Option (Int × (List (S53))):=laws_markDevS.l0 k l0 a1 0
set_option maxHeartbeats 8000000 in
set_option maxRecDepth 100000 in
theorem laws_markDevS.calls (k:Nat) (P0_:Nat→Prop) (u9000_:Value) (l0:List (S53)) (a1:Int) (r1:Int) (r2:List (S53)) (w0 w:World) (hB:Below w0.heap.size w0 w) (ho0:Kd.R k53 53 w w0.heap.size P0_ u9000_ l0) (h:laws_markDevS.f k l0 a1=some (r1,r2)) :
  Calls Tryd.prog 31 #[u9000_,.int .i64 a1] w fun e w'=>e = .returned (.int .i64 r1)∧Kd.R k53 53 w' w0.heap.size (fun k_=>(P0_ k_ ∨ w.heap.size≤k_)) u9000_ r2∧Below w0.heap.size w0 w' ∧ Kept w w' (fun k_=>P0_ k_):=by
 have HO0:=Aside0.mk (show Kd.R k53 53 w w0.heap.size (fun k_=>(P0_ k_ ∨ w.heap.size≤k_)) u9000_ l0 from Kd.R_mono ho0 (fun k_ hk=>(.inl hk)))
 have HK:=Aside0.mk (Kept.refl w (fun k_=>P0_ k_))
 have HW0:=Aside0.mk hB.size
 have HB:=Aside0.mk hB
 clear hB
 have H:(laws_markDevS.l0 k l0 a1 0)=some (r1,r2):=h
 clear h
 have H':=Aside0.mk H
 clear H
 go_enter Tryd.func31,Tryd.ntmps31
 go_wp2
 go_loopg [1,5] k (fun kq v1 v5 w'=>∃ (x0_1:List (S53)) (x1_1:Int) (x5_1:Int),v1 = .int .i64 x1_1∧v5 = .int .i64 x5_1∧Aside0 (laws_markDevS.l0 kq x0_1 x1_1 x5_1=some (r1,r2))∧Aside0 (kq≤k)∧Aside0 (Kd.R k53 53 w' w0.heap.size (fun k_=>(P0_ k_ ∨ w.heap.size≤k_)) u9000_ x0_1)∧Aside0 (Kept w w' (fun k_=>P0_ k_))∧Aside0 (Below w0.heap.size w0 w'))
 case atStart=>exact ⟨(l0),(a1),(0),rd_,rd_,H',⟨Nat.le_refl _⟩,⟨rR HO0⟩,⟨by repeat (first|(with_reducible first|exact HK.out|apply Kept.alloc|apply Kept.drewN|apply Kept.drew)|exact HK.out)⟩,⟨be⟩⟩
 case round=>
  clear H'
  try clear p2
  obtain ⟨x0_1,x1_1,x5_1,rfl,rfl,HA,HK1,HO_0,HK,HB⟩:=hrel
  cases gk with
  | zero=>exact absurd HA.out (by simp [laws_markDevS.l0])
  | succ k1=>
   have H:=HA.out
   clear HA
   simp only [laws_markDevS.l0] at H
   by_cases c3:x5_1 < (x0_1.length:Int)
   ·rw [if_pos c3] at H
    have c3b0:decide (x5_1 < (x0_1.length:Int))=true:=decide_eq_true c3
    clear c3
    by_cases c4:0≤x5_1
    ·rw [if_pos c4] at H
     have c4b0:decide (0≤x5_1)=true:=decide_eq_true c4
     clear c4
     obtain ⟨y193,hy193⟩ : ∃ y_:List (S53),y_=(x0_1.set (x5_1:Int).toNat (⟨x1_1,(rd_T53 x0_1 x5_1).f1,(rd_T53 x0_1 x5_1).f2⟩:S53)):=⟨_,rfl⟩
     replace H:((some (y193.set (x5_1:Int).toNat (⟨(rd_T53 y193 x5_1).f0,wrap64 (x1_1+1),(rd_T53 y193 x5_1).f2⟩:S53):List (S53))).bind fun y194=>(laws_markDevS.l0 k1 (y194.set (x5_1:Int).toNat (⟨(rd_T53 y194 x5_1).f0,(rd_T53 y194 x5_1).f1,wrap64 ((wrap64 (x1_1+1))+1)⟩:S53)) (wrap64 ((wrap64 ((wrap64 (x1_1+1))+1))+1)) (wrap64 (x5_1+1))))=some (r1,r2):=by first|(rw [hy193];with_reducible exact H)|(have H2_:=(Option.bind_some _ _).symm.trans H;rw [hy193];with_reducible exact H2_)|(have H2_:=(Option.bind_some _ _).symm.trans H;with_reducible exact H2_)|with_reducible exact H|(rw [hy193];exact H)|exact H
     have Ny193:=Aside0.mk hy193
     clear hy193
     obtain ⟨y194,hy194⟩ : ∃ y_:List (S53),y_=(y193.set (x5_1:Int).toNat (⟨(rd_T53 y193 x5_1).f0,wrap64 (x1_1+1),(rd_T53 y193 x5_1).f2⟩:S53)):=⟨_,rfl⟩
     replace H:(laws_markDevS.l0 k1 (y194.set (x5_1:Int).toNat (⟨(rd_T53 y194 x5_1).f0,(rd_T53 y194 x5_1).f1,wrap64 ((wrap64 (x1_1+1))+1)⟩:S53)) (wrap64 ((wrap64 ((wrap64 (x1_1+1))+1))+1)) (wrap64 (x5_1+1)))=some (r1,r2):=by first|(rw [hy194];with_reducible exact H)|(have H2_:=(Option.bind_some _ _).symm.trans H;rw [hy194];with_reducible exact H2_)|(have H2_:=(Option.bind_some _ _).symm.trans H;with_reducible exact H2_)|with_reducible exact H|(rw [hy194];exact H)|exact H
     have Ny194:=Aside0.mk hy194
     clear hy194
     obtain ⟨y195,hy195⟩ : ∃ y_:List (S53),y_=(y194.set (x5_1:Int).toNat (⟨(rd_T53 y194 x5_1).f0,(rd_T53 y194 x5_1).f1,wrap64 ((wrap64 (x1_1+1))+1)⟩:S53)):=⟨_,rfl⟩
     replace H:(laws_markDevS.l0 k1 y195 (wrap64 ((wrap64 ((wrap64 (x1_1+1))+1))+1)) (wrap64 (x5_1+1)))=some (r1,r2):=by first|(rw [hy195];with_reducible exact H)|(have H2_:=(Option.bind_some _ _).symm.trans H;rw [hy195];with_reducible exact H2_)|(have H2_:=(Option.bind_some _ _).symm.trans H;with_reducible exact H2_)|with_reducible exact H|(rw [hy195];exact H)|exact H
     have Ny195:=Aside0.mk hy195
     clear hy195
     have H':=Aside0.mk H
     clear H
     obtain ⟨Ao8,co8,eo8⟩:=Kd.R_slice HO_0.out
     subst eo8
     have p5:0≤(x5_1:Int):=of_decide_eq_true (by first|(with_reducible assumption)|assumption)
     have q5:(x5_1:Int) < ((x0_1.length:Int):Int):=of_decide_eq_true (by first|(with_reducible assumption)|assumption)
     obtain ⟨go5,co5,eo5,gb5,gl5,cl5,HG5⟩:=Kd.R_form HO_0.out (by omega)
     (first|cases eo5|(injection eo5 with ea_ en_ ec_;(first|subst ea_|(injection ea_ with ea_;subst ea_));subst ec_;clear en_))
     have GB5:=Aside0.mk gb5
     have GG5:=Aside0.mk HG5
     clear gb5 gl5 HG5
     have HMgo5:=Aside0.mk (show (P0_ go5 ∨ w.heap.size≤go5) from (HO_0.out.1 _ rfl))
     obtain ⟨ce5,hcl5,hM5,hcc5,hfr5⟩:=Kd.R_elem HO_0.out z53 (x5_1:Int) p5 q5
     obtain rfl:=k53_openM hM5
     have hx5_0:wr.cell? ⟨go5,(x5_1:Int).toNat * 3,none⟩=some (.int .i64 ((rd_T53 x0_1 x5_1).f0)):=hcc5 0 _ rfl
     have hx5_1:wr.cell? ⟨go5,(x5_1:Int).toNat * 3+1,none⟩=some (.int .i64 ((rd_T53 x0_1 x5_1).f1)):=hcc5 1 _ rfl
     have hx5_2:wr.cell? ⟨go5,(x5_1:Int).toNat * 3+2,none⟩=some (.int .i64 ((rd_T53 x0_1 x5_1).f2)):=hcc5 2 _ rfl
     have hf5_0:wr.frozen? ⟨go5,(x5_1:Int).toNat * 3,none⟩=false:=hfr5 0
     have hf5_1:wr.frozen? ⟨go5,(x5_1:Int).toNat * 3+1,none⟩=false:=hfr5 1
     have hf5_2:wr.frozen? ⟨go5,(x5_1:Int).toNat * 3+2,none⟩=false:=hfr5 2
     clear hcl5 hcc5 hfr5 hM5
     replace p5:=eq_true p5
     replace q5:=eq_true q5
     have HX9:=Aside0.mk (show Kd.R k53 53 wr w0.heap.size (fun k_=>(P0_ k_ ∨ w.heap.size≤k_)) (.slice (some ⟨go5,0,none⟩) x0_1.length co8) x0_1 from (rR HO_0))
     obtain ⟨ce9,hcl9,hM9,hcc9,hfr9⟩:=Kd.R_elem HX9.out z53 (x5_1:Int) (of_decide_eq_true (by first|(with_reducible assumption)|assumption)) (by have h_:(x5_1:Int) < ((x0_1.length:Int):Int):=of_decide_eq_true (by first|(with_reducible assumption)|assumption);first|exact h_|(have e_:=(Kd.R_reads' HO_0.out).1;omega)|simpa using h_)
     obtain rfl:=k53_openM hM9
     have HP9:=Kd.R_seg HX9.out (x5_1:Int) (of_decide_eq_true (by first|(with_reducible assumption)|assumption)) (by have h_:(x5_1:Int) < ((x0_1.length:Int):Int):=of_decide_eq_true (by first|(with_reducible assumption)|assumption);first|exact h_|(have e_:=(Kd.R_reads' HO_0.out).1;omega)|simpa using h_) (seg:=[.int .i64 x1_1]) (j:=0) hcl9 hcc9 (show 1≤3 from by decide) (x':=(⟨x1_1,(rd_T53 x0_1 x5_1).f1,(rd_T53 x0_1 x5_1).f2⟩:S53)) (k53_mkM _ _ _ (⟨x1_1,(rd_T53 x0_1 x5_1).f1,(rd_T53 x0_1 x5_1).f2⟩:S53) ) (fun _ hk=>hk)
     have hx9_0:=hcc9 0 _ rfl
     (try simp only [show (k53).sz=3 from rfl,Nat.mul_one,Nat.add_zero] at hx9_0)
     have hf9_0:=hfr9 0
     (try simp only [show (k53).sz=3 from rfl,Nat.mul_one,Nat.add_zero] at hf9_0)
     clear hcl9 hcc9 hfr9 hM9
     go_wp2_with (first|((with_reducible refine gate_store (t:=3) (p:=16) rfl ?_);refine store_event (t:=3) (p:=16) (v:=?vo_w10) (w1:=(wr.setCell ⟨go5,(x5_1:Int).toNat * 3,none⟩ (.int .i64 x1_1))) ?hg ?ho ?hn ?hr ?_;(case ho=>rfl);(case hg=>rfl);(case hn=>rfl);(case hr=>first|(go_simp;done)|(go_simp;rfl));intro w10 hw;have hg:wr.grownBy w10 (some go5):=(by rw [hw];exact HP9.2);have hp_:Kd.R k53 53 w10 w0.heap.size (fun k_=>(P0_ k_ ∨ w.heap.size≤k_)) (.slice (some ⟨go5,0,none⟩) x0_1.length co8) y193:=(by rw [hw,Ny193.out];exact HP9.1);clear HP9;have n0_:=Aside0.mk (hp_);have n1_:=Aside0.mk ((by rw [hw];exact below_set (HB.out) GB5.out:Below w0.heap.size w0 w10));have n2_:=Aside0.mk (Kept.of_grown (S:=(fun k_=>P0_ k_)) hg (by repeat (first|(with_reducible first|exact HK.out|apply Kept.alloc|apply Kept.drewN|apply Kept.drew)|exact HK.out)) (fun k_ e_=>(HO_0.out.1 k_ e_)));clear HO_0;clear HB;clear HK;have HO_0:=n0_;have HB:=n1_;have HK:=n2_;clear n0_ n1_ n2_;clear hg hw hp_;have p6:0≤(x5_1:Int):=of_decide_eq_true (by first|(with_reducible assumption)|assumption);have q6:(x5_1:Int) < ((x0_1.length:Int):Int):=of_decide_eq_true (by first|(with_reducible assumption)|assumption);obtain ⟨ce6,hcl6,hM6,hcc6,hfr6⟩:=Kd.R_elem HO_0.out z53 (x5_1:Int) p6 q6;obtain rfl:=k53_openM hM6;have hx6_0:w10.cell? ⟨go5,(x5_1:Int).toNat * 3,none⟩=some (.int .i64 ((rd_T53 y193 x5_1).f0)):=hcc6 0 _ rfl;have hx6_1:w10.cell? ⟨go5,(x5_1:Int).toNat * 3+1,none⟩=some (.int .i64 ((rd_T53 y193 x5_1).f1)):=hcc6 1 _ rfl;have hx6_2:w10.cell? ⟨go5,(x5_1:Int).toNat * 3+2,none⟩=some (.int .i64 ((rd_T53 y193 x5_1).f2)):=hcc6 2 _ rfl;have hf6_0:w10.frozen? ⟨go5,(x5_1:Int).toNat * 3,none⟩=false:=hfr6 0;have hf6_1:w10.frozen? ⟨go5,(x5_1:Int).toNat * 3+1,none⟩=false:=hfr6 1;have hf6_2:w10.frozen? ⟨go5,(x5_1:Int).toNat * 3+2,none⟩=false:=hfr6 2;clear hcl6 hcc6 hfr6 hM6;replace p6:=eq_true p6;replace q6:=eq_true q6;have HX11:=Aside0.mk (show Kd.R k53 53 w10 w0.heap.size (fun k_=>(P0_ k_ ∨ w.heap.size≤k_)) (.slice (some ⟨go5,0,none⟩) x0_1.length co8) y193 from (rR HO_0));obtain ⟨ce11,hcl11,hM11,hcc11,hfr11⟩:=Kd.R_elem HX11.out z53 (x5_1:Int) (of_decide_eq_true (by first|(with_reducible assumption)|assumption)) (by have h_:(x5_1:Int) < ((x0_1.length:Int):Int):=of_decide_eq_true (by first|(with_reducible assumption)|assumption);first|exact h_|(have e_:=(Kd.R_reads' HO_0.out).1;omega)|simpa using h_);obtain rfl:=k53_openM hM11;have HP11:=Kd.R_seg HX11.out (x5_1:Int) (of_decide_eq_true (by first|(with_reducible assumption)|assumption)) (by have h_:(x5_1:Int) < ((x0_1.length:Int):Int):=of_decide_eq_true (by first|(with_reducible assumption)|assumption);first|exact h_|(have e_:=(Kd.R_reads' HO_0.out).1;omega)|simpa using h_) (seg:=[.int .i64 (wrap64 (x1_1+1))]) (j:=1) hcl11 hcc11 (show 2≤3 from by decide) (x':=(⟨(rd_T53 y193 x5_1).f0,wrap64 (x1_1+1),(rd_T53 y193 x5_1).f2⟩:S53)) (k53_mkM _ _ _ (⟨(rd_T53 y193 x5_1).f0,wrap64 (x1_1+1),(rd_T53 y193 x5_1).f2⟩:S53) ) (fun _ hk=>hk);have hx11_1:=hcc11 1 _ rfl;(try simp only [show (k53).sz=3 from rfl,Nat.mul_one,Nat.add_zero] at hx11_1);have hf11_1:=hfr11 1;(try simp only [show (k53).sz=3 from rfl,Nat.mul_one,Nat.add_zero] at hf11_1);clear hcl11 hcc11 hfr11 hM11)|((with_reducible refine gate_store (t:=3) (p:=23) rfl ?_);refine store_event (t:=3) (p:=23) (v:=?vo_w12) (w1:=(w10.setCell ⟨go5,(x5_1:Int).toNat * 3+1,none⟩ (.int .i64 (wrap64 (x1_1+1))))) ?hg ?ho ?hn ?hr ?_;(case ho=>rfl);(case hg=>rfl);(case hn=>rfl);(case hr=>first|(go_simp;done)|(go_simp;rfl));intro w12 hw;have hg:w10.grownBy w12 (some go5):=(by rw [hw];exact HP11.2);have hp_:Kd.R k53 53 w12 w0.heap.size (fun k_=>(P0_ k_ ∨ w.heap.size≤k_)) (.slice (some ⟨go5,0,none⟩) x0_1.length co8) y194:=(by rw [hw,Ny194.out];exact HP11.1);clear HP11;have n0_:=Aside0.mk (hp_);have n1_:=Aside0.mk ((by rw [hw];exact below_set (HB.out) GB5.out:Below w0.heap.size w0 w12));have n2_:=Aside0.mk (Kept.of_grown (S:=(fun k_=>P0_ k_)) hg (by repeat (first|(with_reducible first|exact HK.out|apply Kept.alloc|apply Kept.drewN|apply Kept.drew)|exact HK.out)) (fun k_ e_=>(HO_0.out.1 k_ e_)));clear HO_0;clear HB;clear HK;have HO_0:=n0_;have HB:=n1_;have HK:=n2_;clear n0_ n1_ n2_;clear hg hw hp_;have p7:0≤(x5_1:Int):=of_decide_eq_true (by first|(with_reducible assumption)|assumption);have q7:(x5_1:Int) < ((x0_1.length:Int):Int):=of_decide_eq_true (by first|(with_reducible assumption)|assumption);obtain ⟨ce7,hcl7,hM7,hcc7,hfr7⟩:=Kd.R_elem HO_0.out z53 (x5_1:Int) p7 q7;obtain rfl:=k53_openM hM7;have hx7_0:w12.cell? ⟨go5,(x5_1:Int).toNat * 3,none⟩=some (.int .i64 ((rd_T53 y194 x5_1).f0)):=hcc7 0 _ rfl;have hx7_1:w12.cell? ⟨go5,(x5_1:Int).toNat * 3+1,none⟩=some (.int .i64 ((rd_T53 y194 x5_1).f1)):=hcc7 1 _ rfl;have hx7_2:w12.cell? ⟨go5,(x5_1:Int).toNat * 3+2,none⟩=some (.int .i64 ((rd_T53 y194 x5_1).f2)):=hcc7 2 _ rfl;have hf7_0:w12.frozen? ⟨go5,(x5_1:Int).toNat * 3,none⟩=false:=hfr7 0;have hf7_1:w12.frozen? ⟨go5,(x5_1:Int).toNat * 3+1,none⟩=false:=hfr7 1;have hf7_2:w12.frozen? ⟨go5,(x5_1:Int).toNat * 3+2,none⟩=false:=hfr7 2;clear hcl7 hcc7 hfr7 hM7;replace p7:=eq_true p7;replace q7:=eq_true q7;have HX13:=Aside0.mk (show Kd.R k53 53 w12 w0.heap.size (fun k_=>(P0_ k_ ∨ w.heap.size≤k_)) (.slice (some ⟨go5,0,none⟩) x0_1.length co8) y194 from (rR HO_0));obtain ⟨ce13,hcl13,hM13,hcc13,hfr13⟩:=Kd.R_elem HX13.out z53 (x5_1:Int) (of_decide_eq_true (by first|(with_reducible assumption)|assumption)) (by have h_:(x5_1:Int) < ((x0_1.length:Int):Int):=of_decide_eq_true (by first|(with_reducible assumption)|assumption);first|exact h_|(have e_:=(Kd.R_reads' HO_0.out).1;omega)|simpa using h_);obtain rfl:=k53_openM hM13;have HP13:=Kd.R_seg HX13.out (x5_1:Int) (of_decide_eq_true (by first|(with_reducible assumption)|assumption)) (by have h_:(x5_1:Int) < ((x0_1.length:Int):Int):=of_decide_eq_true (by first|(with_reducible assumption)|assumption);first|exact h_|(have e_:=(Kd.R_reads' HO_0.out).1;omega)|simpa using h_) (seg:=[.int .i64 (wrap64 ((wrap64 (x1_1+1))+1))]) (j:=2) hcl13 hcc13 (show 3≤3 from by decide) (x':=(⟨(rd_T53 y194 x5_1).f0,(rd_T53 y194 x5_1).f1,wrap64 ((wrap64 (x1_1+1))+1)⟩:S53)) (k53_mkM _ _ _ (⟨(rd_T53 y194 x5_1).f0,(rd_T53 y194 x5_1).f1,wrap64 ((wrap64 (x1_1+1))+1)⟩:S53) ) (fun _ hk=>hk);have hx13_2:=hcc13 2 _ rfl;(try simp only [show (k53).sz=3 from rfl,Nat.mul_one,Nat.add_zero] at hx13_2);have hf13_2:=hfr13 2;(try simp only [show (k53).sz=3 from rfl,Nat.mul_one,Nat.add_zero] at hf13_2);clear hcl13 hcc13 hfr13 hM13)|((with_reducible refine gate_store (t:=3) (p:=30) rfl ?_);refine store_event (t:=3) (p:=30) (v:=?vo_w14) (w1:=(w12.setCell ⟨go5,(x5_1:Int).toNat * 3+2,none⟩ (.int .i64 (wrap64 ((wrap64 (x1_1+1))+1))))) ?hg ?ho ?hn ?hr ?_;(case ho=>rfl);(case hg=>rfl);(case hn=>rfl);(case hr=>first|(go_simp;done)|(go_simp;rfl));intro w14 hw;have hg:w12.grownBy w14 (some go5):=(by rw [hw];exact HP13.2);have hp_:Kd.R k53 53 w14 w0.heap.size (fun k_=>(P0_ k_ ∨ w.heap.size≤k_)) (.slice (some ⟨go5,0,none⟩) x0_1.length co8) y195:=(by rw [hw,Ny195.out];exact HP13.1);clear HP13;have n0_:=Aside0.mk (hp_);have n1_:=Aside0.mk ((by rw [hw];exact below_set (HB.out) GB5.out:Below w0.heap.size w0 w14));have n2_:=Aside0.mk (Kept.of_grown (S:=(fun k_=>P0_ k_)) hg (by repeat (first|(with_reducible first|exact HK.out|apply Kept.alloc|apply Kept.drewN|apply Kept.drew)|exact HK.out)) (fun k_ e_=>(HO_0.out.1 k_ e_)));clear HO_0;clear HB;clear HK;have HO_0:=n0_;have HB:=n1_;have HK:=n2_;clear n0_ n1_ n2_;clear hg hw hp_))
     go_roundg k1
     case measure=>have:=HK1.out;omega
     case rel=>exact ⟨(y195),(wrap64 ((wrap64 ((wrap64 (x1_1+1))+1))+1)),(wrap64 (x5_1+1)),rd_,rd_,H',⟨by have:=HK1.out;omega⟩,⟨rR HO_0⟩,⟨by repeat (first|(with_reducible first|exact HK.out|apply Kept.alloc|apply Kept.drewN|apply Kept.drew)|exact HK.out)⟩,⟨be⟩⟩
    ·rw [if_neg c4] at H
     exact absurd H (by simp)
   ·rw [if_neg c3] at H
    have c3b0:decide (x5_1 < (x0_1.length:Int))=false:=decide_eq_false c3
    clear c3
    simp only [Option.some.injEq,Prod.mk.injEq] at H
    obtain ⟨rfl,rfl⟩:=H
    obtain ⟨Ao15,co15,eo15⟩:=Kd.R_slice HO_0.out
    subst eo15
    go_wp2
    go_ret
    exact ⟨rz,rR HO_0,be,by repeat (first|(with_reducible first|exact HK.out|apply Kept.alloc|apply Kept.drewN|apply Kept.drew)|exact HK.out)⟩
def laws_heldDevS.l0:Nat→List (S53)→Int→Int→Option (Int)
 | 0,_,_,_=>none
 | k+1,x0,x1,x5=>if x5 < (x0.length:Int) then (if 0≤x5 then (if ((rd_T53 x0 x5).f0)=x1 then (if ((rd_T53 x0 x5).f1)=(wrap64 (x1+1)) then (if ((rd_T53 x0 x5).f2)=(wrap64 ((wrap64 (x1+1))+1)) then (laws_heldDevS.l0 k x0 (wrap64 ((wrap64 ((wrap64 (x1+1))+1))+1)) (wrap64 (x5+1))) else (some (-1))) else (some (-1))) else (some (-1))) else (none)) else (some x1)
def laws_heldDevS.f (k:Nat) (l0:List (S53)) (a1:Int):Option (Int):=laws_heldDevS.l0 k l0 a1 0
set_option maxHeartbeats 8000000 in
set_option maxRecDepth 100000 in
theorem laws_heldDevS.calls (k:Nat) (A0:Option Addr) (c0:Nat) (l0:List (S53)) (a1:Int) (r:Int) (w:World) (hr0:Kd.C k53 w A0 l0.length l0) (hc0:l0.length≤c0) (h:laws_heldDevS.f k l0 a1=some r) :
  Calls Tryd.prog 32 #[.slice A0 l0.length c0,.int .i64 a1] w fun e w'=>e = .returned (.int .i64 r)∧Drawn0 w w':=by
 have HR0:=Aside0.mk hr0
 have HC0:=Aside0.mk hc0
 clear hr0 hc0
 have H:(laws_heldDevS.l0 k l0 a1 0)=some r:=h
 clear h
 have H':=Aside0.mk H
 clear H
 go_enter Tryd.func32,Tryd.ntmps32
 go_wp2
 go_loopg [1,5] k (fun kq v1 v5 w'=>∃ (x1_1:Int) (x5_1:Int),v1 = .int .i64 x1_1∧v5 = .int .i64 x5_1∧Aside0 (laws_heldDevS.l0 kq l0 x1_1 x5_1=some r)∧Aside0 (kq≤k)∧Drawn0 w w')
 case atStart=>exact ⟨(a1),(0),rd_,rd_,H',⟨Nat.le_refl _⟩,by repeat (first|exact Drawn0.refl _|apply Drawn0.step)⟩
 case round=>
  clear H'
  try clear p2
  obtain ⟨x1_1,x5_1,rfl,rfl,HA,HK1,⟨m1,rfl⟩⟩:=hrel
  cases gk with
  | zero=>exact absurd HA.out (by simp [laws_heldDevS.l0])
  | succ k1=>
   have H:=HA.out
   clear HA
   simp only [laws_heldDevS.l0] at H
   by_cases c3:x5_1 < (l0.length:Int)
   ·rw [if_pos c3] at H
    have c3b0:decide (x5_1 < (l0.length:Int))=true:=decide_eq_true c3
    clear c3
    by_cases c4:0≤x5_1
    ·rw [if_pos c4] at H
     have c4b0:decide (0≤x5_1)=true:=decide_eq_true c4
     clear c4
     by_cases c5:((rd_T53 l0 x5_1).f0)=x1_1
     ·rw [if_pos c5] at H
      have c5b0:(((rd_T53 l0 x5_1).f0) == x1_1)=true:=beq_iff_eq.mpr c5
      have c5b1:(((rd_T53 l0 x5_1).f0) != x1_1)=false:=bne_eq_false_iff_eq.mpr c5
      clear c5
      by_cases c6:((rd_T53 l0 x5_1).f1)=(wrap64 (x1_1+1))
      ·rw [if_pos c6] at H
       have c6b0:(((rd_T53 l0 x5_1).f1) == (wrap64 (x1_1+1)))=true:=beq_iff_eq.mpr c6
       have c6b1:(((rd_T53 l0 x5_1).f1) != (wrap64 (x1_1+1)))=false:=bne_eq_false_iff_eq.mpr c6
       clear c6
       by_cases c7:((rd_T53 l0 x5_1).f2)=(wrap64 ((wrap64 (x1_1+1))+1))
       ·rw [if_pos c7] at H
        have c7b0:(((rd_T53 l0 x5_1).f2) == (wrap64 ((wrap64 (x1_1+1))+1)))=true:=beq_iff_eq.mpr c7
        have c7b1:(((rd_T53 l0 x5_1).f2) != (wrap64 ((wrap64 (x1_1+1))+1)))=false:=bne_eq_false_iff_eq.mpr c7
        clear c7
        have H':=Aside0.mk H
        clear H
        have p196:0≤(x5_1:Int):=of_decide_eq_true (by first|(with_reducible assumption)|assumption)
        have q196:x5_1 < (l0.length:Int):=of_decide_eq_true (by first|(with_reducible assumption)|assumption)
        obtain ⟨ad196,e196,hx196_0,hx196_1,hx196_2⟩:=at_T53 HR0.out x5_1 p196 q196
        cases e196
        replace p196:=eq_true p196
        replace q196:=eq_true q196
        have p197:0≤(x5_1:Int):=of_decide_eq_true (by first|(with_reducible assumption)|assumption)
        have q197:x5_1 < (l0.length:Int):=of_decide_eq_true (by first|(with_reducible assumption)|assumption)
        obtain ⟨ad197,e197,hx197_0,hx197_1,hx197_2⟩:=at_T53 HR0.out x5_1 p197 q197
        obtain rfl:ad196=ad197:=(by injection e197)
        replace p197:=eq_true p197
        replace q197:=eq_true q197
        have p198:0≤(x5_1:Int):=of_decide_eq_true (by first|(with_reducible assumption)|assumption)
        have q198:x5_1 < (l0.length:Int):=of_decide_eq_true (by first|(with_reducible assumption)|assumption)
        obtain ⟨ad198,e198,hx198_0,hx198_1,hx198_2⟩:=at_T53 HR0.out x5_1 p198 q198
        obtain rfl:ad196=ad198:=(by injection e198)
        replace p198:=eq_true p198
        replace q198:=eq_true q198
        go_wp2
        go_roundg k1
        case measure=>have:=HK1.out;omega
        case rel=>exact ⟨(wrap64 ((wrap64 ((wrap64 (x1_1+1))+1))+1)),(wrap64 (x5_1+1)),rd_,rd_,H',⟨by have:=HK1.out;omega⟩,by repeat (first|exact Drawn0.refl _|apply Drawn0.step)⟩
       ·rw [if_neg c7] at H
        have c7b0:(((rd_T53 l0 x5_1).f2) == (wrap64 ((wrap64 (x1_1+1))+1)))=false:=beq_eq_false_iff_ne.mpr c7
        have c7b1:(((rd_T53 l0 x5_1).f2) != (wrap64 ((wrap64 (x1_1+1))+1)))=true:=bne_iff_ne.mpr c7
        obtain rfl:=Option.some.inj H
        have p196:0≤(x5_1:Int):=of_decide_eq_true (by first|(with_reducible assumption)|assumption)
        have q196:x5_1 < (l0.length:Int):=of_decide_eq_true (by first|(with_reducible assumption)|assumption)
        obtain ⟨ad196,e196,hx196_0,hx196_1,hx196_2⟩:=at_T53 HR0.out x5_1 p196 q196
        cases e196
        replace p196:=eq_true p196
        replace q196:=eq_true q196
        have p197:0≤(x5_1:Int):=of_decide_eq_true (by first|(with_reducible assumption)|assumption)
        have q197:x5_1 < (l0.length:Int):=of_decide_eq_true (by first|(with_reducible assumption)|assumption)
        obtain ⟨ad197,e197,hx197_0,hx197_1,hx197_2⟩:=at_T53 HR0.out x5_1 p197 q197
        obtain rfl:ad196=ad197:=(by injection e197)
        replace p197:=eq_true p197
        replace q197:=eq_true q197
        have p198:0≤(x5_1:Int):=of_decide_eq_true (by first|(with_reducible assumption)|assumption)
        have q198:x5_1 < (l0.length:Int):=of_decide_eq_true (by first|(with_reducible assumption)|assumption)
        obtain ⟨ad198,e198,hx198_0,hx198_1,hx198_2⟩:=at_T53 HR0.out x5_1 p198 q198
        obtain rfl:ad196=ad198:=(by injection e198)
        replace p198:=eq_true p198
        replace q198:=eq_true q198
        go_wp2
        go_ret
        exact ⟨by first|rfl|(simp;done)|(simp [*];done),by repeat (first|exact Drawn0.refl _|apply Drawn0.step)⟩
      ·rw [if_neg c6] at H
       have c6b0:(((rd_T53 l0 x5_1).f1) == (wrap64 (x1_1+1)))=false:=beq_eq_false_iff_ne.mpr c6
       have c6b1:(((rd_T53 l0 x5_1).f1) != (wrap64 (x1_1+1)))=true:=bne_iff_ne.mpr c6
       obtain rfl:=Option.some.inj H
       have p196:0≤(x5_1:Int):=of_decide_eq_true (by first|(with_reducible assumption)|assumption)
       have q196:x5_1 < (l0.length:Int):=of_decide_eq_true (by first|(with_reducible assumption)|assumption)
       obtain ⟨ad196,e196,hx196_0,hx196_1,hx196_2⟩:=at_T53 HR0.out x5_1 p196 q196
       cases e196
       replace p196:=eq_true p196
       replace q196:=eq_true q196
       have p197:0≤(x5_1:Int):=of_decide_eq_true (by first|(with_reducible assumption)|assumption)
       have q197:x5_1 < (l0.length:Int):=of_decide_eq_true (by first|(with_reducible assumption)|assumption)
       obtain ⟨ad197,e197,hx197_0,hx197_1,hx197_2⟩:=at_T53 HR0.out x5_1 p197 q197
       obtain rfl:ad196=ad197:=(by injection e197)
       replace p197:=eq_true p197
       replace q197:=eq_true q197
       go_wp2
       go_ret
       exact ⟨by first|rfl|(simp;done)|(simp [*];done),by repeat (first|exact Drawn0.refl _|apply Drawn0.step)⟩
     ·rw [if_neg c5] at H
      have c5b0:(((rd_T53 l0 x5_1).f0) == x1_1)=false:=beq_eq_false_iff_ne.mpr c5
      have c5b1:(((rd_T53 l0 x5_1).f0) != x1_1)=true:=bne_iff_ne.mpr c5
      obtain rfl:=Option.some.inj H
      have p196:0≤(x5_1:Int):=of_decide_eq_true (by first|(with_reducible assumption)|assumption)
      have q196:x5_1 < (l0.length:Int):=of_decide_eq_true (by first|(with_reducible assumption)|assumption)
      obtain ⟨ad196,e196,hx196_0,hx196_1,hx196_2⟩:=at_T53 HR0.out x5_1 p196 q196
      cases e196
      replace p196:=eq_true p196
      replace q196:=eq_true q196
      go_wp2
      go_ret
      exact ⟨by first|rfl|(simp;done)|(simp [*];done),by repeat (first|exact Drawn0.refl _|apply Drawn0.step)⟩
    ·rw [if_neg c4] at H
     exact absurd H (by simp)
   ·rw [if_neg c3] at H
    have c3b0:decide (x5_1 < (l0.length:Int))=false:=decide_eq_false c3
    clear c3
    obtain rfl:=Option.some.inj H
    go_wp2
    go_ret
    exact ⟨by first|rfl|(simp;done)|(simp [*];done),by repeat (first|exact Drawn0.refl _|apply Drawn0.step)⟩
mutual
def laws_FnExactParseDevs.j0:Nat→ByteArray→List (S53)→Bool→List (S53)→Bool→Option (Bool)
 | 0,_,_,_,_,_=>none
 | k+1,x0,x3,x4,x5,x32=>if x32=true then (some false) else ((laws_markDevS.f k x5 1).bind fun bt208=>((laws_heldDevS.f k bt208.2 1).bind fun t210=>(if t210 < 0 then (some false) else (if t210=bt208.1 then ((impl_ParseDevs.f k x0).bind fun bt211=>((laws_eqDevS.f k bt211.1 x3).bind fun t215=>(if t215=true then (laws_FnExactParseDevs.j1 k bt208.2 bt208.1 (bt211.2 != x4)) else (laws_FnExactParseDevs.j1 k bt208.2 bt208.1 true)))) else (some false)))))
def laws_FnExactParseDevs.j1:Nat→List (S53)→Int→Bool→Option (Bool)
 | 0,_,_,_=>none
 | k+1,x5,x7,x57=>if x57=true then (some false) else ((laws_heldDevS.f k x5 1).bind fun t216=>(if t216 < 0 then (some false) else (if t216=x7 then (some true) else (some false))))
end
def laws_FnExactParseDevs.f (k:Nat) (a0:ByteArray):Option (Bool):=if (a0.size:Int) > 1048576 then (some true) else ((spec_ParseDevs.f k a0).bind fun bt199=>((impl_ParseDevs.f k a0).bind fun bt203=>((laws_eqDevS.f k bt203.1 bt199.1).bind fun t207=>(if t207=true then (laws_FnExactParseDevs.j0 k a0 bt199.1 bt199.2 bt203.1 (bt203.2 != bt199.2)) else (laws_FnExactParseDevs.j0 k a0 bt199.1 bt199.2 bt203.1 true)))))
set_option maxHeartbeats 8000000 in
set_option maxRecDepth 100000 in
theorem laws_FnExactParseDevs.calls (k:Nat) (a0:ByteArray) (r:Bool) (w:World) (hL:Aside0 (Laid w)) (h:laws_FnExactParseDevs.f k a0=some r) (hr_:Aside0 (r=true)) :
  Calls Tryd.prog 8 #[.string a0] w fun e w'=>e = .returned (.bool r)∧Below w.heap.size w w':=by
 have HB:=Aside0.mk (Below.refl w.heap.size w)
 have H:(if (a0.size:Int) > 1048576 then (some true) else ((spec_ParseDevs.f k a0).bind fun bt199=>((impl_ParseDevs.f k a0).bind fun bt203=>((laws_eqDevS.f k bt203.1 bt199.1).bind fun t207=>(if t207=true then (laws_FnExactParseDevs.j0 k a0 bt199.1 bt199.2 bt203.1 (bt203.2 != bt199.2)) else (laws_FnExactParseDevs.j0 k a0 bt199.1 bt199.2 bt203.1 true))))))=some r:=h
 clear h
 by_cases c2:(a0.size:Int) > 1048576
 ·rw [if_pos c2] at H
  have c2b0:decide (1048576 < (a0.size:Int))=true:=decide_eq_true c2
  have c2b1:decide (1048576 < a0.size)=true:=decide_eq_true (by omega)
  clear c2
  obtain rfl:=Option.some.inj H
  go_enter Tryd.func8,Tryd.ntmps8
  go_wp2
  go_ret
  exact ⟨rz,be⟩
 ·rw [if_neg c2] at H
  have c2b0:decide (1048576 < (a0.size:Int))=false:=decide_eq_false c2
  have c2b1:decide (1048576 < a0.size)=false:=decide_eq_false (by omega)
  clear c2
  replace H:=Option.bind_eq_some_iff.mp H
  obtain ⟨⟨t199,t200⟩,A30,H⟩:=H
  try dsimp only at H
  have A3:=Aside0.mk A30
  clear A30
  replace H:=Option.bind_eq_some_iff.mp H
  obtain ⟨⟨t203,t204⟩,A40,H⟩:=H
  try dsimp only at H
  have A4:=Aside0.mk A40
  clear A40
  have HC5:=Aside0.mk H
  clear H
  go_enter Tryd.func8,Tryd.ntmps8
  go_upto_region 5 with (first|((with_reducible refine gate_callee (f:=29) rfl ?_);refine goesL_ (some 16) rfl rfl Tryd.func29 (by kernel_rfl) rfl #[.string a0] rfl (by (try simp only [List.map_toArray,List.map_cons,List.map_nil]);first|done|rfl|(simp only [List.length_drop,List.length_take];rfl)) ?_;(with_reducible refine (spec_ParseDevs.calls k a0 t199 t200 _ A3.out).mono ?_);rintro e w6 ⟨v201,rfl,ho0,hb⟩;refine ⟨_,rfl,?_⟩;have n0_:=Aside0.mk (Kd.R_lower ho0 (below_size be));have n1_:=bs hb;clear HB;have HO202:=n0_;have HB:=n1_;clear n0_ n1_;(try clear hb);(try clear hb2);(try clear hk);(try clear hi);(try clear ho0))|((with_reducible refine gate_callee (f:=30) rfl ?_);refine goesL_ (some 21) rfl rfl Tryd.func30 (by kernel_rfl) rfl #[.string a0] rfl (by (try simp only [List.map_toArray,List.map_cons,List.map_nil]);first|done|rfl|(simp only [List.length_drop,List.length_take];rfl)) ?_;(with_reducible refine (impl_ParseDevs.calls k a0 t203 t204 _ ?side1 A4.out).mono ?_);(case side1=>exact lb hL);rintro e w7 ⟨v205,rfl,ho0,hb⟩;refine ⟨_,rfl,?_⟩;have n0_:=Aside0.mk (Kd.R_elder' (rR HO202) (Kd.R_base ho0) hb);have n1_:=Aside0.mk (Kd.R_lower (Kd.R_new' ho0 (Kd.R_lt (rR HO202))) (below_size be));have n2_:=bs hb;clear HO202;clear HB;have HO202:=n0_;have HO206:=n1_;have HB:=n2_;clear n0_ n1_ n2_;(try clear hb);(try clear hb2);(try clear hk);(try clear hi);(try clear ho0)))
  (try simp only [Act.put,List.setIfInBounds_toArray,List.set_cons_zero,List.set_cons_succ])
  go_cut [32] (fun v32 wc=>∃ (kq:Nat) (x32_4:Bool),v32 = .bool x32_4∧Aside0 (laws_FnExactParseDevs.j0 kq a0 t199 t200 t203 x32_4=some r)∧Aside0 (kq≤k)∧Aside0 (Kd.R k53 53 wc w.heap.size (fun k_=>some k_ ≠ (v205:Value).ownBlock) v201 t199)∧Aside0 (Kd.R k53 53 wc w.heap.size (fun k_=>some k_ ≠ (v201:Value).ownBlock) v205 t203)∧Aside0 (Below w.heap.size w wc))
  case first=>
   have H:=HC5.out
   clear HC5
   replace H:=Option.bind_eq_some_iff.mp H
   obtain ⟨t207,A80,H⟩:=H
   try dsimp only at H
   have A8:=Aside0.mk A80
   clear A80
   by_cases c9:t207=true
   ·subst c9
    rw [if_pos rfl] at H
    have H':=Aside0.mk H
    clear H
    obtain ⟨Ao10,co10,eo10⟩:=Kd.R_slice HO206.out
    subst eo10
    obtain ⟨Ao11,co11,eo11⟩:=Kd.R_slice HO202.out
    subst eo11
    go_wp2_with (first|((with_reducible refine gate_callee (f:=18) rfl ?_);refine goesL_ (some 26) rfl rfl Tryd.func18 (by kernel_rfl) rfl #[.slice Ao10 t203.length co10,.slice Ao11 t199.length co11] rfl (by (try simp only [List.map_toArray,List.map_cons,List.map_nil]);first|done|rfl|(simp only [List.length_drop,List.length_take];rfl)) ?_;(with_reducible refine (laws_eqDevS.calls k _ _ t203 _ _ t199 true _ ?side1 ?side2 ?side3 ?side4 A8.out).mono ?_);(case side1=>exact sR HO206);(case side2=>exact (Kd.R_reads' HO206.out).2.1);(case side3=>exact sR HO202);(case side4=>exact (Kd.R_reads' HO202.out).2.1);rintro e w12 ⟨rfl,hb⟩;refine ⟨_,rfl,?_⟩;have n0_:=Aside0.mk (Kd.R_below ((rR HO202)) hb);have n1_:=Aside0.mk (Kd.R_below ((rR HO206)) hb);have n2_:=bs hb;clear HO202;clear HO206;clear HB;have HO202:=n0_;have HO206:=n1_;have HB:=n2_;clear n0_ n1_ n2_;(try clear hb);(try clear hb2);(try clear hk);(try clear hi)))
    go_meet
    case rel=>exact ⟨_,((t204 != t200)),rd_,H',⟨by first|omega|exact Nat.le_refl _⟩,⟨by (with_reducible repeat (first|apply Kd.R_alloc|apply Kd.R_drewN|apply Kd.R_drew));exact Kd.R_mono HO202.out (fun _ hk=>hk.2)⟩,⟨by (with_reducible repeat (first|apply Kd.R_alloc|apply Kd.R_drewN|apply Kd.R_drew));exact Kd.R_mono HO206.out (fun _ hk=>hk.2)⟩,⟨be⟩⟩
   ·replace c9:=Bool.eq_false_iff.mpr c9
    subst c9
    have H1:(laws_FnExactParseDevs.j0 k a0 t199 t200 t203 true)=some r:=by rw [if_neg (show ¬ (false=true) by decide)] at H;exact H
    clear H
    have H:=H1
    clear H1
    have H':=Aside0.mk H
    clear H
    obtain ⟨Ao13,co13,eo13⟩:=Kd.R_slice HO206.out
    subst eo13
    obtain ⟨Ao14,co14,eo14⟩:=Kd.R_slice HO202.out
    subst eo14
    go_wp2_with (first|((with_reducible refine gate_callee (f:=18) rfl ?_);refine goesL_ (some 26) rfl rfl Tryd.func18 (by kernel_rfl) rfl #[.slice Ao13 t203.length co13,.slice Ao14 t199.length co14] rfl (by (try simp only [List.map_toArray,List.map_cons,List.map_nil]);first|done|rfl|(simp only [List.length_drop,List.length_take];rfl)) ?_;(with_reducible refine (laws_eqDevS.calls k _ _ t203 _ _ t199 false _ ?side1 ?side2 ?side3 ?side4 A8.out).mono ?_);(case side1=>exact sR HO206);(case side2=>exact (Kd.R_reads' HO206.out).2.1);(case side3=>exact sR HO202);(case side4=>exact (Kd.R_reads' HO202.out).2.1);rintro e w15 ⟨rfl,hb⟩;refine ⟨_,rfl,?_⟩;have n0_:=Aside0.mk (Kd.R_below ((rR HO202)) hb);have n1_:=Aside0.mk (Kd.R_below ((rR HO206)) hb);have n2_:=bs hb;clear HO202;clear HO206;clear HB;have HO202:=n0_;have HO206:=n1_;have HB:=n2_;clear n0_ n1_ n2_;(try clear hb);(try clear hb2);(try clear hk);(try clear hi)))
    go_meet
    case rel=>exact ⟨_,(true),rd_,H',⟨by first|omega|exact Nat.le_refl _⟩,⟨by (with_reducible repeat (first|apply Kd.R_alloc|apply Kd.R_drewN|apply Kd.R_drew));exact Kd.R_mono HO202.out (fun _ hk=>hk.2)⟩,⟨by (with_reducible repeat (first|apply Kd.R_alloc|apply Kd.R_drewN|apply Kd.R_drew));exact Kd.R_mono HO206.out (fun _ hk=>hk.2)⟩,⟨be⟩⟩
  case rest=>
   clear HC5
   try clear c1
   try clear c2
   try clear c2b0
   try clear c2b1
   try clear p2
   try clear c3
   try clear c8
   try clear c9
   obtain ⟨kq,x32_4,rfl,HA,HJ4,HO_3,HO_5,HB⟩:=hcut
   cases kq with
   | zero=>exact absurd HA.out (by simp [laws_FnExactParseDevs.j0])
   | succ kj4=>
    have H:=HA.out
    clear HA
    simp only [laws_FnExactParseDevs.j0] at H
    by_cases c16:x32_4=true
    ·subst c16
     rw [if_pos rfl] at H
     exact absurd ((Option.some.inj H).trans hr_.out) (by decide)
    ·replace c16:=Bool.eq_false_iff.mpr c16
     subst c16
     have H1:((laws_markDevS.f kj4 t203 1).bind fun bt208=>((laws_heldDevS.f kj4 bt208.2 1).bind fun t210=>(if t210 < 0 then (some false) else (if t210=bt208.1 then ((impl_ParseDevs.f kj4 a0).bind fun bt211=>((laws_eqDevS.f kj4 bt211.1 t199).bind fun t215=>(if t215=true then (laws_FnExactParseDevs.j1 kj4 bt208.2 bt208.1 (bt211.2 != t200)) else (laws_FnExactParseDevs.j1 kj4 bt208.2 bt208.1 true)))) else (some false)))))=some r:=by rw [if_neg (show ¬ (false=true) by decide)] at H;exact H
     clear H
     have H:=H1
     clear H1
     replace H:=Option.bind_eq_some_iff.mp H
     obtain ⟨⟨t208,t209⟩,A170,H⟩:=H
     try dsimp only at H
     have A17:=Aside0.mk A170
     clear A170
     replace H:=Option.bind_eq_some_iff.mp H
     obtain ⟨t210,A180,H⟩:=H
     try dsimp only at H
     have A18:=Aside0.mk A180
     clear A180
     by_cases c19:t210 < 0
     ·rw [if_pos c19] at H
      have c19b0:decide (t210 < 0)=true:=decide_eq_true c19
      clear c19
      exact absurd ((Option.some.inj H).trans hr_.out) (by decide)
     ·rw [if_neg c19] at H
      have c19b0:decide (t210 < 0)=false:=decide_eq_false c19
      clear c19
      by_cases c20:t210=t208
      ·rw [if_pos c20] at H
       have c20b0:(t210 == t208)=true:=beq_iff_eq.mpr c20
       have c20b1:(t210 != t208)=false:=bne_eq_false_iff_eq.mpr c20
       clear c20
       replace H:=Option.bind_eq_some_iff.mp H
       obtain ⟨⟨t211,t212⟩,A210,H⟩:=H
       try dsimp only at H
       have A21:=Aside0.mk A210
       clear A210
       have HC22:=Aside0.mk H
       clear H
       obtain ⟨Ao23,co23,eo23⟩:=Kd.R_slice HO_5.out
       subst eo23
       go_upto_region 16 with (first|((with_reducible refine gate_callee (f:=31) rfl ?_);refine goesL_ (some 35) rfl rfl Tryd.func31 (by kernel_rfl) rfl #[.slice Ao23 t203.length co23,.int .i64 1] rfl (by (try simp only [List.map_toArray,List.map_cons,List.map_nil]);first|done|rfl|(simp only [List.length_drop,List.length_take];rfl)) ?_;(with_reducible refine (laws_markDevS.calls kj4 (fun k_=>some k_=(.slice Ao23 t203.length co23:Value).ownBlock) (.slice Ao23 t203.length co23) t203 1 t208 t209 w _ ?side1 ?side2 A17.out).mono ?_);(case side1=>exact be);(case side2=>exact Kd.R_tight rfl HO_5.out);rintro e w24 ⟨rfl,hy0,hb,hkp⟩;refine ⟨_,rfl,?_⟩;have n0_:=Aside0.mk (Kd.R_mono (ok':=fun k_=>some k_ ≠ (.slice Ao23 t203.length co23:Value).ownBlock) (Kd.R_keptB (HO_3.out) hkp (fun k_ hk_ hs_=>(hk_) hs_)) (fun k_ hk_=>hk_.1));have n1_:=Aside0.mk (Kd.R_reok rfl hy0 (fun k_ e_=>HO_5.out.1 k_ e_));have n2_:=Aside0.mk (hb);clear HO_3;clear HO_5;clear HB;have HO_3:=n0_;have HO_5:=n1_;have HB:=n2_;clear n0_ n1_ n2_;(try clear hb);(try clear hkp);(try clear hy0))|((with_reducible refine gate_callee (f:=32) rfl ?_);refine goesL_ (some 38) rfl rfl Tryd.func32 (by kernel_rfl) rfl #[.slice Ao23 t209.length co23,.int .i64 1] rfl (by (try simp only [List.map_toArray,List.map_cons,List.map_nil]);first|done|(rw [show t209.length=t203.length from (Kd.R_reads' HO_5.out).1.symm] <;> rfl)|rfl|(simp only [List.length_drop,List.length_take];rfl)) ?_;(with_reducible refine (laws_heldDevS.calls kj4 _ _ t209 1 t210 _ ?side1 ?side2 A18.out).mono ?_);(case side1=>exact sR HO_5);(case side2=>rw [show t209.length=t203.length from (Kd.R_reads' HO_5.out).1.symm];exact (Kd.R_reads' HO_5.out).2.1);rintro e w' ⟨rfl,⟨nd,rfl⟩⟩;refine ⟨_,rfl,?_⟩)|((with_reducible refine gate_callee (f:=30) rfl ?_);refine goesL_ (some 46) rfl rfl Tryd.func30 (by kernel_rfl) rfl #[.string a0] rfl (by (try simp only [List.map_toArray,List.map_cons,List.map_nil]);first|done|rfl|(simp only [List.length_drop,List.length_take];rfl)) ?_;(with_reducible refine (impl_ParseDevs.calls kj4 a0 t211 t212 _ ?side1 A21.out).mono ?_);(case side1=>exact lb hL);rintro e w25 ⟨v213,rfl,ho0,hb⟩;refine ⟨_,rfl,?_⟩;have n0_:=Aside0.mk (Kd.R_elder' (rR HO_3) (Kd.R_base ho0) hb);have n1_:=Aside0.mk (Kd.R_elder' (rR HO_5) (Kd.R_base ho0) hb);have n2_:=Aside0.mk (Kd.R_lower (Kd.R_new' (Kd.R_new' ho0 (Kd.R_lt (rR HO_3))) (Kd.R_lt (rR HO_5))) (below_size be));have n3_:=bs hb;clear HO_3;clear HO_5;clear HB;have HO_3:=n0_;have HO_5:=n1_;have HO214:=n2_;have HB:=n3_;clear n0_ n1_ n2_ n3_;(try clear hb);(try clear hb2);(try clear hk);(try clear hi);(try clear ho0)))
       (try simp only [Act.put,List.setIfInBounds_toArray,List.set_cons_zero,List.set_cons_succ])
       go_cut [57] (fun v57 wc=>∃ (kq:Nat) (x57_21:Bool),v57 = .bool x57_21∧Aside0 (laws_FnExactParseDevs.j1 kq t209 t208 x57_21=some r)∧Aside0 (kq≤kj4)∧Aside0 (Kd.R k53 53 wc w.heap.size (fun _=>True) (.slice Ao23 t203.length co23) t209)∧Aside0 (Below w.heap.size w wc))
       case first=>
        have H:=HC22.out
        clear HC22
        replace H:=Option.bind_eq_some_iff.mp H
        obtain ⟨t215,A260,H⟩:=H
        try dsimp only at H
        have A26:=Aside0.mk A260
        clear A260
        by_cases c27:t215=true
        ·subst c27
         rw [if_pos rfl] at H
         have H':=Aside0.mk H
         clear H
         obtain ⟨Ao28,co28,eo28⟩:=Kd.R_slice HO214.out
         subst eo28
         obtain ⟨Ao29,co29,eo29⟩:=Kd.R_slice HO_3.out
         subst eo29
         go_wp2_with (first|((with_reducible refine gate_callee (f:=18) rfl ?_);refine goesL_ (some 51) rfl rfl Tryd.func18 (by kernel_rfl) rfl #[.slice Ao28 t211.length co28,.slice Ao29 t199.length co29] rfl (by (try simp only [List.map_toArray,List.map_cons,List.map_nil]);first|done|rfl|(simp only [List.length_drop,List.length_take];rfl)) ?_;(with_reducible refine (laws_eqDevS.calls kj4 _ _ t211 _ _ t199 true _ ?side1 ?side2 ?side3 ?side4 A26.out).mono ?_);(case side1=>exact sR HO214);(case side2=>exact (Kd.R_reads' HO214.out).2.1);(case side3=>exact sR HO_3);(case side4=>exact (Kd.R_reads' HO_3.out).2.1);rintro e w30 ⟨rfl,hb⟩;refine ⟨_,rfl,?_⟩;have n0_:=Aside0.mk (Kd.R_below ((rR HO_3)) hb);have n1_:=Aside0.mk (Kd.R_below ((rR HO_5)) hb);have n2_:=Aside0.mk (Kd.R_below ((rR HO214)) hb);have n3_:=bs hb;clear HO_3;clear HO_5;clear HO214;clear HB;have HO_3:=n0_;have HO_5:=n1_;have HO214:=n2_;have HB:=n3_;clear n0_ n1_ n2_ n3_;(try clear hb);(try clear hb2);(try clear hk);(try clear hi)))
         go_meet
         case rel=>exact ⟨_,((t212 != t200)),rd_,H',⟨by have:=HJ4.out;first|omega|exact Nat.le_refl _⟩,⟨by (with_reducible repeat (first|apply Kd.R_alloc|apply Kd.R_drewN|apply Kd.R_drew));exact Kd.R_mono HO_5.out (fun _ hk=>trivial)⟩,⟨be⟩⟩
        ·replace c27:=Bool.eq_false_iff.mpr c27
         subst c27
         have H1:(laws_FnExactParseDevs.j1 kj4 t209 t208 true)=some r:=by rw [if_neg (show ¬ (false=true) by decide)] at H;exact H
         clear H
         have H:=H1
         clear H1
         have H':=Aside0.mk H
         clear H
         obtain ⟨Ao31,co31,eo31⟩:=Kd.R_slice HO214.out
         subst eo31
         obtain ⟨Ao32,co32,eo32⟩:=Kd.R_slice HO_3.out
         subst eo32
         go_wp2_with (first|((with_reducible refine gate_callee (f:=18) rfl ?_);refine goesL_ (some 51) rfl rfl Tryd.func18 (by kernel_rfl) rfl #[.slice Ao31 t211.length co31,.slice Ao32 t199.length co32] rfl (by (try simp only [List.map_toArray,List.map_cons,List.map_nil]);first|done|rfl|(simp only [List.length_drop,List.length_take];rfl)) ?_;(with_reducible refine (laws_eqDevS.calls kj4 _ _ t211 _ _ t199 false _ ?side1 ?side2 ?side3 ?side4 A26.out).mono ?_);(case side1=>exact sR HO214);(case side2=>exact (Kd.R_reads' HO214.out).2.1);(case side3=>exact sR HO_3);(case side4=>exact (Kd.R_reads' HO_3.out).2.1);rintro e w33 ⟨rfl,hb⟩;refine ⟨_,rfl,?_⟩;have n0_:=Aside0.mk (Kd.R_below ((rR HO_3)) hb);have n1_:=Aside0.mk (Kd.R_below ((rR HO_5)) hb);have n2_:=Aside0.mk (Kd.R_below ((rR HO214)) hb);have n3_:=bs hb;clear HO_3;clear HO_5;clear HO214;clear HB;have HO_3:=n0_;have HO_5:=n1_;have HO214:=n2_;have HB:=n3_;clear n0_ n1_ n2_ n3_;(try clear hb);(try clear hb2);(try clear hk);(try clear hi)))
         go_meet
         case rel=>exact ⟨_,(true),rd_,H',⟨by have:=HJ4.out;first|omega|exact Nat.le_refl _⟩,⟨by (with_reducible repeat (first|apply Kd.R_alloc|apply Kd.R_drewN|apply Kd.R_drew));exact Kd.R_mono HO_5.out (fun _ hk=>trivial)⟩,⟨be⟩⟩
       case rest=>
        clear HC22
        try clear c1
        try clear c2
        try clear c2b0
        try clear c2b1
        try clear p2
        try clear c3
        try clear c8
        try clear c9
        try clear c16
        try clear c18
        try clear c19
        try clear c19b0
        try clear c20
        try clear c20b0
        try clear c20b1
        try clear c27
        try clear c29
        try clear c30
        try clear c31
        try clear c32
        try clear p2
        obtain ⟨kq,x57_21,rfl,HA,HJ21,HO_5,HB⟩:=hcut
        have hl5_21:=(Kd.R_reads' HO_5.out).1
        rw [hl5_21] at HO_5
        (try simp only [hl5_21])
        cases kq with
        | zero=>exact absurd HA.out (by simp [laws_FnExactParseDevs.j1])
        | succ kj21=>
         have H:=HA.out
         clear HA
         simp only [laws_FnExactParseDevs.j1] at H
         by_cases c34:x57_21=true
         ·subst c34
          rw [if_pos rfl] at H
          exact absurd ((Option.some.inj H).trans hr_.out) (by decide)
         ·replace c34:=Bool.eq_false_iff.mpr c34
          subst c34
          have H1:((laws_heldDevS.f kj21 t209 1).bind fun t216=>(if t216 < 0 then (some false) else (if t216=t208 then (some true) else (some false))))=some r:=by rw [if_neg (show ¬ (false=true) by decide)] at H;exact H
          clear H
          have H:=H1
          clear H1
          replace H:=Option.bind_eq_some_iff.mp H
          obtain ⟨t216,A350,H⟩:=H
          try dsimp only at H
          have A35:=Aside0.mk A350
          clear A350
          by_cases c36:t216 < 0
          ·rw [if_pos c36] at H
           have c36b0:decide (t216 < 0)=true:=decide_eq_true c36
           clear c36
           exact absurd ((Option.some.inj H).trans hr_.out) (by decide)
          ·rw [if_neg c36] at H
           have c36b0:decide (t216 < 0)=false:=decide_eq_false c36
           clear c36
           by_cases c37:t216=t208
           ·rw [if_pos c37] at H
            have c37b0:(t216 == t208)=true:=beq_iff_eq.mpr c37
            have c37b1:(t216 != t208)=false:=bne_eq_false_iff_eq.mpr c37
            clear c37
            obtain rfl:=Option.some.inj H
            go_wp2_with (first|((with_reducible refine gate_callee (f:=32) rfl ?_);refine goesL_ (some 60) rfl rfl Tryd.func32 (by kernel_rfl) rfl #[.slice Ao23 t209.length co23,.int .i64 1] rfl (by (try simp only [List.map_toArray,List.map_cons,List.map_nil]);first|done|rfl|(simp only [List.length_drop,List.length_take];rfl)) ?_;(with_reducible refine (laws_heldDevS.calls kj21 _ _ t209 1 t216 _ ?side1 ?side2 A35.out).mono ?_);(case side1=>exact sR HO_5);(case side2=>exact (Kd.R_reads' HO_5.out).2.1);rintro e w' ⟨rfl,⟨nd,rfl⟩⟩;refine ⟨_,rfl,?_⟩))
            go_ret
            exact ⟨rz,be⟩
           ·rw [if_neg c37] at H
            have c37b0:(t216 == t208)=false:=beq_eq_false_iff_ne.mpr c37
            have c37b1:(t216 != t208)=true:=bne_iff_ne.mpr c37
            exact absurd ((Option.some.inj H).trans hr_.out) (by decide)
      ·rw [if_neg c20] at H
       have c20b0:(t210 == t208)=false:=beq_eq_false_iff_ne.mpr c20
       have c20b1:(t210 != t208)=true:=bne_iff_ne.mpr c20
       exact absurd ((Option.some.inj H).trans hr_.out) (by decide)
end Go.Proofs.YtnoglmdicdpabaaDoor.PFnExactParseDevs
