/- Trimmed by a program of this session (trim.py). Not trusted: Lean checks it. -/
import Derived.Test.YtpbjbfimnfghkaaTXRebalancePFnExactRebalancex0
namespace Go.Proofs.Ytpbjbfimnfghkaa.PFnExactRebalance
open Go.RowKit Go.Proofs.YtpbjbfimnfghkaaW.PrintWords Go.Proofs.YtpbjbfimnfghkaaW.PrintLast Go.Proofs.YtpbjbfimnfghkaaW.PrintMore Go.Proofs.Ytpbjbfimnfghkaa.St
attribute [local go_sem] max2_int min2_int max_two min_two max_three min_three max_four min_four
set_option linter.unusedVariables false
set_option linter.unusedSimpArgs false
def impl_copyInts.f (l0:List Int):Option (List Int):=if ([]:List Int).length+l0.length < 17592186044416 then (some (([]:List Int) ++ l0)) else (none)
set_option maxHeartbeats 8000000 in
set_option maxRecDepth 100000 in
theorem impl_copyInts.calls (A0:Option Addr) (c0:Nat) (l0:List Int) (r:List Int) (w:World) (hr0:Kd.C (Kd.int .i64) w A0 l0.length l0) (hc0:l0.length≤c0) (h:impl_copyInts.f l0=some r) :
  Calls Try.prog 44 #[.slice A0 l0.length c0] w fun e w'=>∃ v0_:Value,e = .returned (v0_)∧Kd.R (Kd.int .i64) 3 w' w.heap.size (fun _=>True) v0_ r∧Below w.heap.size w w':=by
 have HR0:=aM hr0
 have HC0:=aM hc0
 clear hr0 hc0
 have HB:=aM (Below.refl w.heap.size w)
 have H:(if ([]:List Int).length+l0.length < 17592186044416 then (some (([]:List Int) ++ l0)) else (none))=some r:=h
 clear h
 by_cases c2:([]:List Int).length+l0.length < 17592186044416
 ·rw [if_pos c2] at H
  have LMc2:=aM c2
  clear c2
  obtain ⟨y101,hy101⟩ : ∃ y_:List Int,y_=(([]:List Int) ++ l0):=⟨_,rfl⟩
  replace H:(some y101)=some r:=by first|(rw [hy101];with_reducible exact H)|(have H2_:=(Option.bind_some _ _).symm.trans H;rw [hy101];with_reducible exact H2_)|(have H2_:=(Option.bind_some _ _).symm.trans H;with_reducible exact H2_)|with_reducible exact H|(rw [hy101];exact H)|exact H
  have Ny101:=aM hy101
  clear hy101
  obtain rfl:=Option.some.inj H
  go_enter Try.func44,Try.ntmps44
  go_wp2_with ((with_reducible refine gate_builtin (b:=.append) (xs:=#[.const (.slice none 0 0),.tmp 3]) rfl ?_);at_builtin;refine Kd.R_append_rows (Kd.int .i64) (w0:=w) w.heap.size rfl (.const (.slice none 0 0)) (.tmp 3) 33 3 (.int .i64 0) 8 rfl Try.underlying33 info3 rfl (by decide) (by omega) (.slice none 0 0) ([]:List Int) l0 _ _ _ (fun _=>True) (fun _=>False) rfl rfl ?aO ?aR (fun _ _ h=>h) (fun _ h=>h.elim) ?aF ?aB ?aS ?aL ?_;(case aR=>exact sC HR0);(case aB=>exact be);(case aF=>exact (fun _ _=>trivial));(case aO=>exact ((Kd.R_nil _ _ _ _ (fun _=>True))));(case aS=>exact (below_size be));(case aL=>have:=LMc2.out;omega);intro v102 w3 ho hb hg hat;rw [← Ny101.out] at ho;replace HB:=aM (hb);have HO103:=aM (ho);clear ho hb hg hat)
  go_ret
  exact ⟨_,rz,rR HO103,be⟩
 ·rw [if_neg c2] at H
  exact absurd H (by simp)
def impl_copyRing.l0:Nat→List (S35)→Int→Int→Int→List (S35)→Option (Int × (List (S35)))
 | 0,_,_,_,_,_=>none
 | k+1,x10,x11,x12,x107000,x107001=>if x12 < x11 then (if 0≤x12 then (if x12 < (x10.length:Int) then ((impl_copyInts.f ((rd_T35 x10 x12).f0)).bind fun t109=>(if x107001.length < 5864062014805 then (impl_copyRing.l0 k x10 x11 (wrap64 (x12+1)) x107000 (x107001 ++ [(⟨t109⟩:S35)])) else (none))) else (none)) else (none)) else (some (x107000,x107001))
def impl_copyRing.f (k:Nat) (a0_0:Int) (l0_1:List (S35)):Option (Int × (List (S35))):=impl_copyRing.l0 k l0_1 (l0_1.length:Int) 0 a0_0 ([]:List (S35))
def impl_copyRing.T5:Bool × List (List Nat × List Nat):=(true,[([],[]),([0],[0]),([],[]),([2],[2]),([3],[3]),([4],[4]),([5],[5]),([1,6,4],[1,6]),([0,1,2,3,4,5,6,7],[]),([8,7,7,0,1,2,3,4,5,6,7],[7,8])])
def impl_copyRing.B5:List Nat:=[0,1,0,4,12,28,60,127,255,511]
theorem impl_copyRing.tab5:rtab .any (opsOf Try.f41 5)=impl_copyRing.T5:=by kernel_rfl
theorem impl_copyRing.bits5:waitsOk impl_copyRing.T5.2 impl_copyRing.B5=true:=by kernel_rfl
set_option maxHeartbeats 8000000 in
set_option maxRecDepth 100000 in
theorem impl_copyRing.calls (k:Nat) (a0_0:Int) (A0_1:Option Addr) (c0_1:Nat) (l0_1:List (S35)) (r1:Int) (r2:List (S35)) (w:World) (hr0_1:Kd.C k35 w A0_1 l0_1.length l0_1) (hc0_1:l0_1.length≤c0_1) (h:impl_copyRing.f k a0_0 l0_1=some (r1,r2)) :
  Calls Try.prog 41 #[.agg #[.int .i64 a0_0,.slice A0_1 l0_1.length c0_1]] w fun e w'=>∃ v1_:Value,e = .returned (.agg #[.int .i64 r1,v1_])∧Kd.S k35 35 w' w.heap.size (fun _=>True) v1_ r2∧Below w.heap.size w w':=by
 have hu26:=Try.underlying26
 have hu35:=Try.underlying35
 have HR0_1:=aM hr0_1
 have HC0_1:=aM hc0_1
 clear hr0_1 hc0_1
 have HB:=aM (Below.refl w.heap.size w)
 have H:(impl_copyRing.l0 k l0_1 (l0_1.length:Int) 0 a0_0 ([]:List (S35)))=some (r1,r2):=h
 clear h
 have H':=Aside0.mk H
 clear H
 go_enter Try.func41,Try.ntmps41
 go_wp2_with (first|((with_reducible refine gate_dst (N:=1) rfl ?_);refine box_event ?hg (N:=1) ?hd (cs:=#[.int .i64 a0_0,.slice A0_1 l0_1.length c0_1]) (t:=26) ?hr ?_;(case hd=>rfl);(case hg=>rfl);(case hr=>first|(go_simp;done)|(go_simp;rfl));intro gb104 hg w2 hbox hb;have BK104:=aM (hbox);have GW104:=gS w hg;have GE104:=gS w hg;replace HB:=bs hb;clear hb hbox hg)|((with_reducible refine gate_dst (N:=2) rfl ?_);refine box_event ?hg (N:=2) ?hd (cs:=#[.int .i64 0,.slice none 0 0]) (t:=26) ?hr ?_;(case hd=>rfl);(case hg=>rfl);(case hr=>first|(go_simp;done)|(go_simp;rfl));intro gb105 hg w3 hbox hb;have BK105:=aM (hbox);have GW105:=gS w hg;have GE105:=gS w hg;replace HB:=bs hb;have NB104_105:=nL hg BK104;have NB105_104:=nG hg BK104;replace BK104:=bB BK104 hb;clear hb hbox hg;have hnb4:=NB104_105.out;have hnc4:=NB105_104.out;have hcz5_0:w3.cell? ⟨gb104,0,none⟩=some (.int .i64 a0_0):=(blk_cell BK104.out 0).trans rfl;have hcz5_1:w3.cell? ⟨gb104,1,none⟩=some (.slice A0_1 l0_1.length c0_1):=(blk_cell BK104.out 1).trans rfl;have hfz5_0:=blk_frozen BK104.out 0;have hfz5_1:=blk_frozen BK104.out 1)|((with_reducible refine gate_dst (N:=3) rfl ?_);refine box_event ?hg (N:=3) ?hd (cs:=#[.int .i64 0,.slice none 0 0]) (t:=26) ?hr ?_;(case hd=>rfl);(case hg=>rfl);(case hr=>first|(go_simp;done)|(go_simp;rfl));intro gb106 hg w6 hbox hb;have BK106:=aM (hbox);have GW106:=gS w hg;have GE106:=gS w hg;replace HB:=bs hb;have NB104_106:=nL hg BK104;have NB106_104:=nG hg BK104;replace BK104:=bB BK104 hb;have NB105_106:=nL hg BK105;have NB106_105:=nG hg BK105;replace BK105:=bB BK105 hb;clear hb hbox hg;have hnb7:=NB106_104.out;have hnc7:=NB104_106.out;have hnb8:=NB106_105.out;have hnc8:=NB105_106.out;have hcz9_0:w6.cell? ⟨gb106,0,none⟩=some (.int .i64 0):=(blk_cell BK106.out 0).trans rfl;have hcz9_1:w6.cell? ⟨gb106,1,none⟩=some (.slice none 0 0):=(blk_cell BK106.out 1).trans rfl;have hfz9_0:=blk_frozen BK106.out 0;have hfz9_1:=blk_frozen BK106.out 1;have hcz10_0:w6.cell? ⟨gb104,0,none⟩=some (.int .i64 a0_0):=(blk_cell BK104.out 0).trans rfl;have hcz10_1:w6.cell? ⟨gb104,1,none⟩=some (.slice A0_1 l0_1.length c0_1):=(blk_cell BK104.out 1).trans rfl;have hfz10_0:=blk_frozen BK104.out 0;have hfz10_1:=blk_frozen BK104.out 1))
 go_loopg [12] k (fun kq v12 w'=>∃ (x12_1:Int) (x107001_1:List (S35)) (u107001:Value),v12 = .int .i64 x12_1∧Aside0 (impl_copyRing.l0 kq l0_1 (l0_1.length:Int) x12_1 a0_0 x107001_1=some (r1,r2))∧Aside0 (kq≤k)∧Aside0 (Kd.S k35 35 w' w.heap.size (fun _=>True) u107001 x107001_1)∧Aside0 (w'.heap[gb104]?=some (.cells #[.int .i64 a0_0,(.slice A0_1 l0_1.length c0_1)] 26 (0,0)))∧Aside0 (w'.heap[gb105]?=some (.cells #[.int .i64 0,(.slice none 0 0)] 26 (0,0)))∧Aside0 (w'.heap[gb106]?=some (.cells #[.int .i64 a0_0,u107001] 26 (0,0)))∧Aside0 (Below w.heap.size w w'))
 case atStart=>exact ⟨(0),(([]:List (S35))),(.slice none 0 0),rd_,H',⟨Nat.le_refl _⟩,⟨by first|exact Kd.S_nil _ _ _ _ _|exact Kd.N_nil _ _ _ _ _|exact Kd.V_nil _ _ _ _ _|exact Kd.Q_nil _ _ _ _ _|exact Kd.R_nil _ _ _ _ _⟩,⟨by (with_reducible repeat (first|refine blk_drewN ?_ _|refine blk_drew ?_|refine blk_alloc ?_ _));refine blk_far ?_ NB104_106.out _;(with_reducible repeat (first|refine blk_drewN ?_ _|refine blk_drew ?_|refine blk_alloc ?_ _));refine blk_far ?_ NB104_106.out _;(with_reducible repeat (first|refine blk_drewN ?_ _|refine blk_drew ?_|refine blk_alloc ?_ _));exact BK104.out⟩,⟨by (with_reducible repeat (first|refine blk_drewN ?_ _|refine blk_drew ?_|refine blk_alloc ?_ _));refine blk_far ?_ NB105_106.out _;(with_reducible repeat (first|refine blk_drewN ?_ _|refine blk_drew ?_|refine blk_alloc ?_ _));refine blk_far ?_ NB105_106.out _;(with_reducible repeat (first|refine blk_drewN ?_ _|refine blk_drew ?_|refine blk_alloc ?_ _));exact BK105.out⟩,⟨by (with_reducible repeat (first|refine blk_drewN ?_ _|refine blk_drew ?_|refine blk_alloc ?_ _));refine blk_put (cs:=#[.int .i64 a0_0,.slice none 0 0]) ?_ 1 _ rfl;(with_reducible repeat (first|refine blk_drewN ?_ _|refine blk_drew ?_|refine blk_alloc ?_ _));refine blk_put (cs:=#[.int .i64 0,.slice none 0 0]) ?_ 0 _ rfl;(with_reducible repeat (first|refine blk_drewN ?_ _|refine blk_drew ?_|refine blk_alloc ?_ _));exact BK106.out⟩,⟨be⟩⟩
 case round=>
  clear H'
  try clear hcz10_0
  try clear hcz10_1
  try clear hcz5_0
  try clear hcz5_1
  try clear hcz9_0
  try clear hcz9_1
  try clear hfz10_0
  try clear hfz10_1
  try clear hfz5_0
  try clear hfz5_1
  try clear hfz9_0
  try clear hfz9_1
  obtain ⟨x12_1,x107001_1,u107001,rfl,HA,HK1,HO_107001,BK104,BK105,BK106,HB⟩:=hrel
  cases gk with
  | zero=>exact absurd HA.out (by simp [impl_copyRing.l0])
  | succ k1=>
   have H:=HA.out
   clear HA
   simp only [impl_copyRing.l0] at H
   by_cases c11:x12_1 < (l0_1.length:Int)
   ·rw [if_pos c11] at H
    have c11b0:decide (x12_1 < (l0_1.length:Int))=true:=decide_eq_true c11
    clear c11
    by_cases c12:0≤x12_1
    ·rw [if_pos c12] at H
     have c12b0:decide (0≤x12_1)=true:=decide_eq_true c12
     clear c12
     by_cases c13:x12_1 < (l0_1.length:Int)
     ·rw [if_pos c13] at H
      have c13b0:decide (x12_1 < (l0_1.length:Int))=true:=decide_eq_true c13
      clear c13
      replace H:=Option.bind_eq_some_iff.mp H
      obtain ⟨t109,A140,H⟩:=H
      try dsimp only at H
      have A14:=aM A140
      clear A140
      by_cases c15:x107001_1.length < 5864062014805
      ·rw [if_pos c15] at H
       have LMc15:=aM c15
       clear c15
       obtain ⟨y112,hy112⟩ : ∃ y_:List (S35),y_=(x107001_1 ++ [(⟨t109⟩:S35)]):=⟨_,rfl⟩
       replace H:(impl_copyRing.l0 k1 l0_1 (l0_1.length:Int) (wrap64 (x12_1+1)) a0_0 y112)=some (r1,r2):=by first|(rw [hy112];with_reducible exact H)|(have H2_:=(Option.bind_some _ _).symm.trans H;rw [hy112];with_reducible exact H2_)|(have H2_:=(Option.bind_some _ _).symm.trans H;with_reducible exact H2_)|with_reducible exact H|(rw [hy112];exact H)|exact H
       have Ny112:=aM hy112
       clear hy112
       have H':=Aside0.mk H
       clear H
       have p107:0≤(x12_1:Int):=of_decide_eq_true (by first|(with_reducible assumption)|assumption)
       have q107:x12_1 < (l0_1.length:Int):=of_decide_eq_true (by first|(with_reducible assumption)|assumption)
       obtain ⟨ad107,A107_0,c107_0,e107,hx107_0,hl107_0,hi107_0⟩:=at_T35 HR0_1.out x12_1 p107 q107
       cases e107
       replace hx107_0:=(HB.out.cell (World.block_lt_of_cell? w _ hx107_0)).trans hx107_0
       have HR107_0:=aM hi107_0
       have HC107_0:=aM hl107_0
       clear hi107_0 hl107_0
       replace p107:=eq_true p107
       replace q107:=eq_true q107
       try go_wp2_with ((with_reducible refine gate_dst (N:=5) rfl ?_);refine box_event ?hg (N:=5) ?hd (cs:=#[.slice none 0 0]) (t:=35) ?hr ?_;(case hd=>rfl);(case hg=>rfl);(case hr=>first|(go_simp;done)|(go_simp;rfl));intro gb108 hg w16 hbox hb;replace HO_107001:=aM (Kd.S_below (Kd.S_elderB (rS HO_107001) gb108 (Nat.le_of_eq hg.symm)) hb);have BK108:=aM (hbox);have GW108:=gS w hg;have GE108:=gS w hg;replace HB:=bs hb;have NB104_108:=nL hg BK104;have NB108_104:=nG hg BK104;replace BK104:=bB BK104 hb;have NB105_108:=nL hg BK105;have NB108_105:=nG hg BK105;replace BK105:=bB BK105 hb;have NB106_108:=nL hg BK106;have NB108_106:=nG hg BK106;replace BK106:=bB BK106 hb;clear hb hbox hg;have hnb17:=NB108_104.out;have hnc17:=NB104_108.out;have hnb18:=NB108_105.out;have hnc18:=NB105_108.out;have hnb19:=NB108_106.out;have hnc19:=NB106_108.out;have hcz20_0:w16.cell? ⟨gb108,0,none⟩=some (.slice none 0 0):=(blk_cell BK108.out 0).trans rfl;have hfz20_0:=blk_frozen BK108.out 0)
       have n0_:Aside0 (Kd.S k35 35 (w16.setCell ⟨gb108,0,none⟩ (.slice A107_0 ((rd_T35 l0_1 x12_1).f0).length c107_0)) w.heap.size (fun k_=>k_ ≠ gb108) u107001 x107001_1):=⟨by (with_reducible repeat (first|apply Kd.S_alloc|apply Kd.S_drewN|apply Kd.S_drew));exact Kd.S_mono (Kd.S_far (p:=⟨gb108,0,none⟩) (Kd.S_mono HO_107001.out (fun k_ hk=>(⟨hk,hk.2⟩:_∧k_ ≠ gb108))) (fun _ hk=>hk.2) (.slice A107_0 ((rd_T35 l0_1 x12_1).f0).length c107_0)) (fun _ hk=>hk.1.2)⟩
       have n1_:Aside0 ((w16.setCell ⟨gb108,0,none⟩ (.slice A107_0 ((rd_T35 l0_1 x12_1).f0).length c107_0)).heap[gb104]?=some (.cells #[.int .i64 a0_0,.slice (some ad107) l0_1.length c0_1] 26 (0,0))):=⟨by (with_reducible repeat (first|refine blk_drewN ?_ _|refine blk_drew ?_|refine blk_alloc ?_ _));refine blk_far ?_ NB104_108.out _;(with_reducible repeat (first|refine blk_drewN ?_ _|refine blk_drew ?_|refine blk_alloc ?_ _));exact BK104.out⟩
       have n2_:Aside0 ((w16.setCell ⟨gb108,0,none⟩ (.slice A107_0 ((rd_T35 l0_1 x12_1).f0).length c107_0)).heap[gb105]?=some (.cells #[.int .i64 0,.slice none 0 0] 26 (0,0))):=⟨by (with_reducible repeat (first|refine blk_drewN ?_ _|refine blk_drew ?_|refine blk_alloc ?_ _));refine blk_far ?_ NB105_108.out _;(with_reducible repeat (first|refine blk_drewN ?_ _|refine blk_drew ?_|refine blk_alloc ?_ _));exact BK105.out⟩
       have n3_:Aside0 ((w16.setCell ⟨gb108,0,none⟩ (.slice A107_0 ((rd_T35 l0_1 x12_1).f0).length c107_0)).heap[gb106]?=some (.cells #[.int .i64 a0_0,u107001] 26 (0,0))):=⟨by (with_reducible repeat (first|refine blk_drewN ?_ _|refine blk_drew ?_|refine blk_alloc ?_ _));refine blk_far ?_ NB106_108.out _;(with_reducible repeat (first|refine blk_drewN ?_ _|refine blk_drew ?_|refine blk_alloc ?_ _));exact BK106.out⟩
       have n4_:Aside0 ((w16.setCell ⟨gb108,0,none⟩ (.slice A107_0 ((rd_T35 l0_1 x12_1).f0).length c107_0)).heap[gb108]?=some (.cells #[.slice A107_0 ((rd_T35 l0_1 x12_1).f0).length c107_0] 35 (0,0))):=⟨by (with_reducible repeat (first|refine blk_drewN ?_ _|refine blk_drew ?_|refine blk_alloc ?_ _));refine blk_put (cs:=#[.slice none 0 0]) ?_ 0 _ rfl;(with_reducible repeat (first|refine blk_drewN ?_ _|refine blk_drew ?_|refine blk_alloc ?_ _));exact BK108.out⟩
       have n5_:Aside0 (Below w.heap.size w (w16.setCell ⟨gb108,0,none⟩ (.slice A107_0 ((rd_T35 l0_1 x12_1).f0).length c107_0))):=⟨be⟩
       (try clear HO_107001);(try clear BK104);(try clear BK105);(try clear BK106);(try clear BK108);(try clear HB)
       generalize (w16.setCell ⟨gb108,0,none⟩ (.slice A107_0 ((rd_T35 l0_1 x12_1).f0).length c107_0))=w21 at n0_ n1_ n2_ n3_ n4_ n5_ ⊢
       have HO_107001:=n0_;have BK104:=n1_;have BK105:=n2_;have BK106:=n3_;have BK108:=n4_;have HB:=n5_;clear n0_ n1_ n2_ n3_ n4_ n5_;replace HO_107001:=aM (Kd.S_drew HO_107001.out);replace BK104:=aM (blk_drew BK104.out);replace BK105:=aM (blk_drew BK105.out);replace BK106:=aM (blk_drew BK106.out);replace BK108:=aM (blk_drew BK108.out);replace HB:=aM (below_drew1 HB.out)
       refine start_ (n:=10) (S:=fun w'=>w'.cell? ⟨gb106,0,none⟩=some (.int .i64 a0_0)∧w'.cell? ⟨gb106,1,none⟩=some (u107001)∧w'.cell? ⟨gb108,0,none⟩=some (.slice A107_0 ((rd_T35 l0_1 x12_1).f0).length c107_0)) (ds:=[9]) (fl 10 0) (by kernel_rfl) rfl rfl ⟨(blk_cell BK106.out 0).trans rfl,(blk_cell BK106.out 1).trans rfl,(blk_cell BK108.out 0).trans rfl⟩ (fun hHeld=>?_);refine with_tabW impl_copyRing.tab5 impl_copyRing.bits5 (fun HT_ HW_=>?_)
       generalize w21.drew=w22 at HO_107001 BK104 BK105 BK106 BK108 HB hHeld ⊢
       refine pt 0 16 (fl 10 1) HT_ ?_
       refine pt 2 18 (fl 10 5) HT_ ?_
       refine tt 1 17 (fl 10 7) HT_ HW_ hHeld ?_
       refine tt 3 19 (fl 10 15) HT_ HW_ hHeld ?_
       refine ot 4 (some 20) (fl 10 31) HT_ (fun K hK=>?_)
       refine goes_ Try.func44 (by kernel_rfl) rfl #[.slice A107_0 ((rd_T35 l0_1 x12_1).f0).length c107_0] (by rfl) rfl rfl (by (try simp only [List.map_toArray,List.map_cons,List.map_nil]);first|done|rfl|(simp only [List.length_drop,List.length_take];rfl)) ?_
       with_reducible refine (impl_copyInts.calls _ _ ((rd_T35 l0_1 x12_1).f0) t109 _ ?side1 ?side2 A14.out).mono ?_
       (case side1=>exact rC HR107_0)
       (case side2=>exact HC107_0.out)
       rintro e w23 ⟨v110,rfl,ho0,hb⟩
       refine ⟨_,rfl,?_⟩
       replace HO_107001:=aM (Kd.S_elder' (rS HO_107001) (Kd.R_base ho0) hb);have HO111:=aM (Kd.R_lower ho0 (below_size be));replace BK104:=bB BK104 hb;replace BK105:=bB BK105 hb;replace BK106:=bB BK106 hb;replace BK108:=bB BK108 hb;replace HB:=bs hb;(try clear hb);(try clear ho0)
       obtain ⟨Ao24,co24,eo24⟩:=Kd.R_slice HO111.out
       (subst eo24)
       refine hK.out _ _ ⟨(blk_cell BK106.out 0).trans rfl,(blk_cell BK106.out 1).trans rfl,(blk_cell BK108.out 0).trans rfl⟩ (fun hHeld=>?_)
       clear hK K
       refine no 20 ?_
       refine pt 5 21 (fl 10 63) HT_ ?_
       refine ot 6 (some 22) (fl 10 127) HT_ (fun K hK=>?_)
       refine value_ (w1:=?_) (v:=?_) (by rfl) rfl ?_ ?_
       rotate_left 2
       ·go_simp
        constructor
        ·rfl
        ·rfl
       refine hK.out _ _ ⟨(blk_cell (blk_alloc BK106.out _) 0).trans rfl,(blk_cell (blk_alloc BK106.out _) 1).trans rfl,(blk_cell (blk_alloc BK108.out _) 0).trans rfl⟩ (fun hHeld=>?_)
       clear hK K
       refine no 22 ?_
       refine ot 7 (some 23) (fl 10 255) HT_ (fun K hK=>?_)
       refine Kd.S_append_step k35 (w0:=w) w.heap.size (by rfl) (.tmp 17) (.tmp 22) 24 35 (.agg #[(.slice none 0 0)]) 24 rfl Try.underlying24 info35 rfl (by decide) (by omega) u107001 x107001_1 (⟨t109⟩:S35) [.slice Ao24 t109.length co24] (fun k_=>k_ ≠ gb108) (fun k_=>some k_=(.slice Ao24 t109.length co24:Value).ownBlock) rfl rfl ?aP (fun k_ hk_=>((Kd.R_mono (ok':=fun k_=>((fun k_=>k_ ≠ gb108)) k_∧some k_ ≠ (u107001:Value).ownBlock) (Kd.R_types (Kd.R_apart' (HO111.out) (Kd.S_typed HO_107001.out) (by decide)) BK108.out (by decide)) (fun k_ hk=>⟨hk.2,hk.1.2⟩))).1 k_ hk_.symm) ?aF ?aO ?aB ?aS ?aL ?_
       (case aP=>exact k35_mkM _ _ _ (⟨t109⟩:S35) (Kd.R_mono (Kd.R_tight rfl (Kd.R_mono (ok':=fun k_=>((fun k_=>k_ ≠ gb108)) k_∧some k_ ≠ (u107001:Value).ownBlock) (Kd.R_types (Kd.R_apart' (HO111.out) (Kd.S_typed HO_107001.out) (by decide)) BK108.out (by decide)) (fun k_ hk=>⟨hk.2,hk.1.2⟩))) (fun _ h_=>h_)))
       (case aB=>exact be)
       (case aF=>exact (fun k_ hk=>Kd.freshB (g:=gb108) (o:=.cells #[.slice A107_0 ((rd_T35 l0_1 x12_1).f0).length c107_0] 35 (0,0)) (bk BK108) k_ hk))
       (case aO=>exact (by (with_reducible repeat (first|apply Kd.S_alloc|apply Kd.S_drewN|apply Kd.S_drew));exact Kd.S_mono HO_107001.out (fun k_ hk=>⟨hk.1,fun e_=>hk.2 e_⟩)))
       (case aS=>exact (below_size be))
       (case aL=>have:=LMc15.out;omega)
       intro v113 w25 ho hb hg hat
       rw [← Ny112.out] at ho
       replace BK104:=bG BK104 hg (Kd.S_ne HO_107001.out BK104.out (by decide));replace BK105:=bG BK105 hg (Kd.S_ne HO_107001.out BK105.out (by decide));replace BK106:=bG BK106 hg (Kd.S_ne HO_107001.out BK106.out (by decide));replace BK108:=bG BK108 hg (Kd.S_away HO_107001.out (fun _ hk=>hk.1));replace HB:=aM (hb);have HO114:=aM (ho);clear HO_107001 HO111;clear ho hb hg hat
       obtain ⟨Ao26,co26,eo26⟩:=Kd.S_slice HO114.out
       (subst eo26)
       refine hK.out _ _ ⟨(blk_cell BK106.out 0).trans rfl,(blk_cell BK106.out 1).trans rfl,(blk_cell BK108.out 0).trans rfl⟩ (fun hHeld=>?_)
       clear hK K
       refine no 23 ?_
       refine pt 8 24 (fl 10 511) HT_ ?_
       refine last_ (i:=9) (N:=none) (fl 10 1023) rfl rfl (one_of HT_.out (by kernel_rfl)) (by decide) (fun K hK=>?_)
       have hs27:w25.cell? ⟨gb106,1,none⟩=some (u107001):=(blk_cell BK106.out 1).trans rfl
       have hfs27:=blk_frozen BK106.out 1
       have hns27_0:=NB104_106.out
       have hns27_1:=NB105_106.out
       have hns27_3:=NB108_106.out
       have hms27_0:=NB106_104.out
       have hms27_1:=NB106_105.out
       have hms27_3:=NB106_108.out
       refine skip_ (w1:=?_) (by rfl) rfl ?_ ?_
       rotate_left
       ·go_simp
        rfl
       refine hK.out _ _ ?_
       clear hK K
       refine done_ (done_of HT_.out (by kernel_rfl)) ?_
       try go_wp2
       go_roundg k1
       case measure=>have:=HK1.out;omega
       case rel=>exact ⟨(wrap64 (x12_1+1)),(y112),(.slice Ao26 y112.length co26),rd_,H',⟨by have:=HK1.out;omega⟩,⟨by (with_reducible repeat (first|apply Kd.S_alloc|apply Kd.S_drewN|apply Kd.S_drew));exact Kd.S_mono (Kd.S_far (p:=⟨gb106,1,none⟩) (Kd.S_types HO114.out BK106.out (by decide)) (fun _ hk=>hk.2) (.slice Ao26 y112.length co26)) (fun _ hk=>trivial)⟩,⟨by (with_reducible repeat (first|refine blk_drewN ?_ _|refine blk_drew ?_|refine blk_alloc ?_ _));refine blk_far ?_ NB104_106.out _;(with_reducible repeat (first|refine blk_drewN ?_ _|refine blk_drew ?_|refine blk_alloc ?_ _));exact BK104.out⟩,⟨by (with_reducible repeat (first|refine blk_drewN ?_ _|refine blk_drew ?_|refine blk_alloc ?_ _));refine blk_far ?_ NB105_106.out _;(with_reducible repeat (first|refine blk_drewN ?_ _|refine blk_drew ?_|refine blk_alloc ?_ _));exact BK105.out⟩,⟨by (with_reducible repeat (first|refine blk_drewN ?_ _|refine blk_drew ?_|refine blk_alloc ?_ _));refine blk_put (cs:=#[.int .i64 a0_0,u107001]) ?_ 1 _ rfl;(with_reducible repeat (first|refine blk_drewN ?_ _|refine blk_drew ?_|refine blk_alloc ?_ _));exact BK106.out⟩,⟨be⟩⟩
      ·rw [if_neg c15] at H
       exact absurd H (by simp)
     ·rw [if_neg c13] at H
      exact absurd H (by simp)
    ·rw [if_neg c12] at H
     exact absurd H (by simp)
   ·rw [if_neg c11] at H
    have c11b0:decide (x12_1 < (l0_1.length:Int))=false:=decide_eq_false c11
    clear c11
    simp only [Option.some.injEq,Prod.mk.injEq] at H
    obtain ⟨rfl,rfl⟩:=H
    have hnb28:=NB106_104.out
    have hnc28:=NB104_106.out
    have hnb29:=NB106_105.out
    have hnc29:=NB105_106.out
    have hcz30_0:wr.cell? ⟨gb106,0,none⟩=some (.int .i64 a0_0):=(blk_cell BK106.out 0).trans rfl
    have hcz30_1:wr.cell? ⟨gb106,1,none⟩=some (u107001):=(blk_cell BK106.out 1).trans rfl
    have hfz30_0:=blk_frozen BK106.out 0
    have hfz30_1:=blk_frozen BK106.out 1
    have hnb31:=NB105_104.out
    have hnc31:=NB104_105.out
    have hcz32_0:wr.cell? ⟨gb105,0,none⟩=some (.int .i64 0):=(blk_cell BK105.out 0).trans rfl
    have hcz32_1:wr.cell? ⟨gb105,1,none⟩=some (.slice none 0 0):=(blk_cell BK105.out 1).trans rfl
    have hfz32_0:=blk_frozen BK105.out 0
    have hfz32_1:=blk_frozen BK105.out 1
    obtain ⟨Ao33,co33,eo33⟩:=Kd.S_slice HO_107001.out
    subst eo33
    go_wp2
    refine bodyPost_ret (results_cell_row rfl _ _ gb105 26 #[.int .i64 a0_0,.slice Ao33 x107001_1.length co33] (0,0) _ rfl (by (with_reducible repeat (first|refine blk_drewN ?_ _|refine blk_drew ?_|refine blk_alloc ?_ _));refine blk_put (cs:=#[.int .i64 a0_0,.slice none 0 0]) ?_ 1 _ rfl;(with_reducible repeat (first|refine blk_drewN ?_ _|refine blk_drew ?_|refine blk_alloc ?_ _));refine blk_put (cs:=#[.int .i64 0,.slice none 0 0]) ?_ 0 _ rfl;(with_reducible repeat (first|refine blk_drewN ?_ _|refine blk_drew ?_|refine blk_alloc ?_ _));exact BK105.out) Try.underlying26 rfl (by kernel_rfl)) rfl ?_
    exact ⟨_,rz,by (with_reducible repeat (first|apply Kd.S_alloc|apply Kd.S_drewN|apply Kd.S_drew));exact Kd.S_mono (Kd.S_far (p:=⟨gb105,1,none⟩) (Kd.S_far (p:=⟨gb105,0,none⟩) (Kd.S_types HO_107001.out BK105.out (by decide)) (fun _ hk=>hk.2) (.int .i64 a0_0)) (fun _ hk=>hk.2) (.slice Ao33 x107001_1.length co33)) (fun _ hk=>trivial),be⟩
def impl_in.f (a0:Int) (a1:Int) (a2:Int):Option (Bool):=if a0 ≥ a1 then (some (decide (a0≤a2))) else (some false)
set_option maxHeartbeats 8000000 in
set_option maxRecDepth 100000 in
theorem impl_in.calls (a0:Int) (a1:Int) (a2:Int) (r:Bool) (w:World) (h:impl_in.f a0 a1 a2=some r) :
  Calls Try.prog 58 #[.int .i64 a0,.int .i64 a1,.int .i64 a2] w fun e w'=>e = .returned (.bool r)∧Drawn0 w w':=by
 have H:(if a0 ≥ a1 then (some (decide (a0≤a2))) else (some false))=some r:=h
 clear h
 by_cases c4:a0 ≥ a1
 ·rw [if_pos c4] at H
  have c4b0:decide (a1≤a0)=true:=decide_eq_true c4
  clear c4
  obtain rfl:=Option.some.inj H
  go_enter Try.func58,Try.ntmps58
  go_wp2
  go_ret
  exact ⟨by first|rfl|(simp;done)|(simp [*];done),by repeat (exact Drawn0.refl _)⟩
 ·rw [if_neg c4] at H
  have c4b0:decide (a1≤a0)=false:=decide_eq_false c4
  clear c4
  obtain rfl:=Option.some.inj H
  go_enter Try.func58,Try.ntmps58
  go_wp2
  go_ret
  exact ⟨by first|rfl|(simp;done)|(simp [*];done),by repeat (exact Drawn0.refl _)⟩
def impl_DevsOk.l0:Nat→List (S61)→List (S61)→Int→Int→Option (Bool)
 | 0,_,_,_,_=>none
 | k+1,x0,x5,x6,x7=>if x7 < x6 then (if 0≤x7 then (if x7 < (x5.length:Int) then ((impl_in.f ((rd_T61 x5 x7).f0) 0 20).bind fun t118=>(if t118=true then ((impl_in.f ((rd_T61 x5 x7).f1) 0 20).bind fun t119=>(if t119=true then ((impl_in.f ((rd_T61 x5 x7).f2) 1 1000).bind fun t120=>(if t120=true then (if x7 > 0 then (if 0≤(wrap64 (x7 - 1)) then (if (wrap64 (x7 - 1)) < (x0.length:Int) then (if ((rd_T61 x0 (wrap64 (x7 - 1))).f0) ≥ ((rd_T61 x5 x7).f0) then (some false) else (impl_DevsOk.l0 k x0 x5 x6 (wrap64 (x7+1)))) else (none)) else (none)) else (impl_DevsOk.l0 k x0 x5 x6 (wrap64 (x7+1)))) else (some false))) else (some false))) else (some false))) else (none)) else (none)) else ((impl_in.f (x0.length:Int) 1 12).bind fun t115=>(some t115))
def impl_DevsOk.f (k:Nat) (l0:List (S61)):Option (Bool):=impl_DevsOk.l0 k l0 l0 (l0.length:Int) 0
def impl_DevsOk.T4:Bool × List (List Nat × List Nat):=(true,[([],[]),([0],[0]),([1],[1]),([2],[2]),([3,2],[3]),([4],[4]),([5,4],[4,5]),([6,4,4],[4,6]),([7,4],[4,7]),([4,8],[4,8]),([9,7],[9]),([10],[10]),([11,10],[10,11]),([12,10,10],[10,12]),([13,10],[10,13]),([10,14],[10,14]),([15,13],[15]),([16],[16]),([17,16],[16,17]),([18,16,16],[16,18]),([19],[19]),([19],[19]),([21,19],[19,21]),([20,22,19],[19,20,22]),([23,19],[19,23]),([24,19],[19,24]),([19],[19]),([26,19],[19,26]),([25,27,19],[19,25,27]),([19,28,16],[16,19,28]),([16,29],[16,29])])
def impl_DevsOk.B4:List Nat:=[0,1,3,7,15,31,63,127,255,511,1023,2047,4095,8191,16383,32767,65535,131071,262143,524287,1048575,1048575,3145727,8388607,16777215,33554431,1048575,68157439,268435455,536870911,1073741823]
theorem impl_DevsOk.tab4:rtab .any (opsOf Try.f57 4)=impl_DevsOk.T4:=by kernel_rfl
theorem impl_DevsOk.bits4:waitsOk impl_DevsOk.T4.2 impl_DevsOk.B4=true:=by kernel_rfl
set_option maxHeartbeats 8000000 in
set_option maxRecDepth 100000 in
theorem impl_DevsOk.calls (k:Nat) (A0:Option Addr) (c0:Nat) (l0:List (S61)) (r:Bool) (w:World) (hr0:Kd.C k61 w A0 l0.length l0) (hc0:l0.length≤c0) (h:impl_DevsOk.f k l0=some r) :
  Calls Try.prog 57 #[.slice A0 l0.length c0] w fun e w'=>e = .returned (.bool r)∧Below w.heap.size w w':=by
 have hu61:=Try.underlying61
 have HR0:=aM hr0
 have HC0:=aM hc0
 clear hr0 hc0
 have HB:=aM (Below.refl w.heap.size w)
 have H:(impl_DevsOk.l0 k l0 l0 (l0.length:Int) 0)=some r:=h
 clear h
 have H':=Aside0.mk H
 clear H
 go_enter Try.func57,Try.ntmps57
 go_wp2
 go_loopg [7] k (fun kq v7 w'=>∃ (x7_1:Int),v7 = .int .i64 x7_1∧Aside0 (impl_DevsOk.l0 kq l0 l0 (l0.length:Int) x7_1=some r)∧Aside0 (kq≤k)∧Aside0 (Below w.heap.size w w'))
 case atStart=>exact ⟨(0),rd_,H',⟨Nat.le_refl _⟩,⟨be⟩⟩
 case round=>
  clear H'
  obtain ⟨x7_1,rfl,HA,HK1,HB⟩:=hrel
  cases gk with
  | zero=>exact absurd HA.out (by simp [impl_DevsOk.l0])
  | succ k1=>
   have H:=HA.out
   clear HA
   simp only [impl_DevsOk.l0] at H
   by_cases c2:x7_1 < (l0.length:Int)
   ·rw [if_pos c2] at H
    have c2b0:decide (x7_1 < (l0.length:Int))=true:=decide_eq_true c2
    clear c2
    by_cases c3:0≤x7_1
    ·rw [if_pos c3] at H
     have c3b0:decide (0≤x7_1)=true:=decide_eq_true c3
     clear c3
     by_cases c4:x7_1 < (l0.length:Int)
     ·rw [if_pos c4] at H
      have c4b0:decide (x7_1 < (l0.length:Int))=true:=decide_eq_true c4
      clear c4
      replace H:=Option.bind_eq_some_iff.mp H
      obtain ⟨t118,A50,H⟩:=H
      try dsimp only at H
      have A5:=aM A50
      clear A50
      by_cases c6:t118=true
      ·subst c6
       rw [if_pos rfl] at H
       replace H:=Option.bind_eq_some_iff.mp H
       obtain ⟨t119,A70,H⟩:=H
       try dsimp only at H
       have A7:=aM A70
       clear A70
       by_cases c8:t119=true
       ·subst c8
        rw [if_pos rfl] at H
        replace H:=Option.bind_eq_some_iff.mp H
        obtain ⟨t120,A90,H⟩:=H
        try dsimp only at H
        have A9:=aM A90
        clear A90
        by_cases c10:t120=true
        ·subst c10
         rw [if_pos rfl] at H
         by_cases c11:x7_1 > 0
         ·rw [if_pos c11] at H
          have c11b0:decide (0 < x7_1)=true:=decide_eq_true c11
          clear c11
          obtain ⟨ji12,hji12⟩ : ∃ j_:Int,(wrap64 (x7_1 - 1))=j_:=⟨_,rfl⟩
          replace H:(if 0≤(ji12) then (if (ji12) < (l0.length:Int) then (if ((rd_T61 l0 (ji12)).f0) ≥ ((rd_T61 l0 x7_1).f0) then (some false) else (impl_DevsOk.l0 k1 l0 l0 (l0.length:Int) (wrap64 (x7_1+1)))) else (none)) else (none))=some r:=by first|(rw [hji12] at H;exact H)|(simp only [hji12] at H ⊢;exact H)
          (try rw [hji12] at A5)
          (try rw [hji12] at A7)
          (try rw [hji12] at A9)
          have hji12w:(IntKind.i64.wrap (x7_1 - 1))=ji12:=(i64_w _).trans hji12
          by_cases c13:0≤(ji12)
          ·rw [if_pos c13] at H
           have c13b0:decide (0≤(ji12))=true:=decide_eq_true c13
           clear c13
           by_cases c14:(ji12) < (l0.length:Int)
           ·rw [if_pos c14] at H
            have c14b0:decide ((ji12) < (l0.length:Int))=true:=decide_eq_true c14
            clear c14
            by_cases c15:((rd_T61 l0 (ji12)).f0) ≥ ((rd_T61 l0 x7_1).f0)
            ·rw [if_pos c15] at H
             have c15b0:decide (((rd_T61 l0 x7_1).f0)≤((rd_T61 l0 (ji12)).f0))=true:=decide_eq_true c15
             clear c15
             obtain rfl:=Option.some.inj H
             have p116:0≤(x7_1:Int):=of_decide_eq_true (by first|(with_reducible assumption)|assumption)
             have q116:x7_1 < (l0.length:Int):=of_decide_eq_true (by first|(with_reducible assumption)|assumption)
             obtain ⟨ad116,e116,hx116_0,hx116_1,hx116_2⟩:=at_T61 HR0.out x7_1 p116 q116
             cases e116
             replace hx116_0:=(HB.out.cell (World.block_lt_of_cell? w _ hx116_0)).trans hx116_0
             replace hx116_1:=(HB.out.cell (World.block_lt_of_cell? w _ hx116_1)).trans hx116_1
             replace hx116_2:=(HB.out.cell (World.block_lt_of_cell? w _ hx116_2)).trans hx116_2
             replace p116:=eq_true p116
             replace q116:=eq_true q116
             try go_wp2_with ((with_reducible refine gate_dst (N:=4) rfl ?_);refine box_event ?hg (N:=4) ?hd (cs:=#[.int .i64 0,.int .i64 0,.int .i64 0]) (t:=61) ?hr ?_;(case hd=>rfl);(case hg=>rfl);(case hr=>first|(go_simp;done)|(go_simp;rfl));intro gb117 hg w16 hbox hb;have BK117:=aM (hbox);have GW117:=gS w hg;have GE117:=gS w hg;replace HB:=bs hb;clear hb hbox hg;have hcz17_0:w16.cell? ⟨gb117,0,none⟩=some (.int .i64 0):=(blk_cell BK117.out 0).trans rfl;have hcz17_1:w16.cell? ⟨gb117,1,none⟩=some (.int .i64 0):=(blk_cell BK117.out 1).trans rfl;have hcz17_2:w16.cell? ⟨gb117,2,none⟩=some (.int .i64 0):=(blk_cell BK117.out 2).trans rfl;have hfz17_0:=blk_frozen BK117.out 0;have hfz17_1:=blk_frozen BK117.out 1;have hfz17_2:=blk_frozen BK117.out 2)
             have n0_:Aside0 ((((w16.setCell ⟨gb117,0,none⟩ (.int .i64 ((rd_T61 l0 x7_1).f0))).setCell ⟨gb117,1,none⟩ (.int .i64 ((rd_T61 l0 x7_1).f1))).setCell ⟨gb117,2,none⟩ (.int .i64 ((rd_T61 l0 x7_1).f2))).heap[gb117]?=some (.cells #[.int .i64 ((rd_T61 l0 x7_1).f0),.int .i64 ((rd_T61 l0 x7_1).f1),.int .i64 ((rd_T61 l0 x7_1).f2)] 61 (0,0))):=⟨by (with_reducible repeat (first|refine blk_drewN ?_ _|refine blk_drew ?_|refine blk_alloc ?_ _));refine blk_put (cs:=#[.int .i64 ((rd_T61 l0 x7_1).f0),.int .i64 ((rd_T61 l0 x7_1).f1),.int .i64 0]) ?_ 2 _ rfl;(with_reducible repeat (first|refine blk_drewN ?_ _|refine blk_drew ?_|refine blk_alloc ?_ _));refine blk_put (cs:=#[.int .i64 ((rd_T61 l0 x7_1).f0),.int .i64 0,.int .i64 0]) ?_ 1 _ rfl;(with_reducible repeat (first|refine blk_drewN ?_ _|refine blk_drew ?_|refine blk_alloc ?_ _));refine blk_put (cs:=#[.int .i64 0,.int .i64 0,.int .i64 0]) ?_ 0 _ rfl;(with_reducible repeat (first|refine blk_drewN ?_ _|refine blk_drew ?_|refine blk_alloc ?_ _));exact BK117.out⟩
             have n1_:Aside0 (Below w.heap.size w (((w16.setCell ⟨gb117,0,none⟩ (.int .i64 ((rd_T61 l0 x7_1).f0))).setCell ⟨gb117,1,none⟩ (.int .i64 ((rd_T61 l0 x7_1).f1))).setCell ⟨gb117,2,none⟩ (.int .i64 ((rd_T61 l0 x7_1).f2)))):=⟨be⟩
             (try clear BK117);(try clear HB)
             generalize (((w16.setCell ⟨gb117,0,none⟩ (.int .i64 ((rd_T61 l0 x7_1).f0))).setCell ⟨gb117,1,none⟩ (.int .i64 ((rd_T61 l0 x7_1).f1))).setCell ⟨gb117,2,none⟩ (.int .i64 ((rd_T61 l0 x7_1).f2)))=w18 at n0_ n1_ ⊢
             have BK117:=n0_;have HB:=n1_;clear n0_ n1_;replace BK117:=aM (blk_drew BK117.out);replace HB:=aM (below_drew1 HB.out)
             have p121:0≤((ji12):Int):=of_decide_eq_true (by first|(with_reducible assumption)|assumption)
             have q121:(ji12) < (l0.length:Int):=of_decide_eq_true (by first|(with_reducible assumption)|assumption)
             obtain ⟨ad121,e121,hx121_0,hx121_1,hx121_2⟩:=at_T61 HR0.out (ji12) p121 q121
             have hw121_2:=hx121_2;have hw121_1:=hx121_1;have hw121_0:=hx121_0
             obtain rfl:ad116=ad121:=(by injection e121)
             replace hx121_0:=(HB.out.cell (World.block_lt_of_cell? w _ hx121_0)).trans hx121_0
             replace hx121_1:=(HB.out.cell (World.block_lt_of_cell? w _ hx121_1)).trans hx121_1
             replace hx121_2:=(HB.out.cell (World.block_lt_of_cell? w _ hx121_2)).trans hx121_2
             replace p121:=eq_true p121
             replace q121:=eq_true q121
             refine start_ (n:=31) (S:=fun w'=>w'.cell? ⟨gb117,0,none⟩=some (.int .i64 ((rd_T61 l0 x7_1).f0))∧w'.cell? ⟨gb117,1,none⟩=some (.int .i64 ((rd_T61 l0 x7_1).f1))∧w'.cell? ⟨gb117,2,none⟩=some (.int .i64 ((rd_T61 l0 x7_1).f2))∧w'.cell? (ad116.add (((ji12)).toNat * 3))=some (.int .i64 ((rd_T61 l0 (ji12)).f0))∧w'.cell? ⟨(ad116.add (((ji12)).toNat * 3)).block,(ad116.add (((ji12)).toNat * 3)).off+1,none⟩=some (.int .i64 ((rd_T61 l0 (ji12)).f1))∧w'.cell? ⟨(ad116.add (((ji12)).toNat * 3)).block,(ad116.add (((ji12)).toNat * 3)).off+2,none⟩=some (.int .i64 ((rd_T61 l0 (ji12)).f2))) (ds:=[]) (fl 31 0) (by kernel_rfl) rfl rfl ⟨(blk_cell BK117.out 0).trans rfl,(blk_cell BK117.out 1).trans rfl,(blk_cell BK117.out 2).trans rfl,((HB.out.cell (World.block_lt_of_cell? w _ hw121_0)).trans hw121_0),((HB.out.cell (World.block_lt_of_cell? w _ hw121_1)).trans hw121_1),((HB.out.cell (World.block_lt_of_cell? w _ hw121_2)).trans hw121_2)⟩ (fun hHeld=>?_);refine with_tabW impl_DevsOk.tab4 impl_DevsOk.bits4 (fun HT_ HW_=>?_)
             generalize w18.drew=w19 at BK117 HB hx121_0 hx121_1 hx121_2 hHeld ⊢
             refine pt 0 12 (fl 31 1) HT_ ?_
             refine tt 1 13 (fl 31 3) HT_ HW_ hHeld ?_
             refine ot 2 (some 14) (fl 31 7) HT_ (fun K hK=>?_)
             refine goes_ Try.func58 (by kernel_rfl) rfl #[.int .i64 ((rd_T61 l0 x7_1).f0),.int .i64 0,.int .i64 20] (by rfl) rfl rfl (by (try simp only [List.map_toArray,List.map_cons,List.map_nil]);first|done|rfl|(simp only [List.length_drop,List.length_take];rfl)) ?_
             with_reducible refine (impl_in.calls ((rd_T61 l0 x7_1).f0) 0 20 true _ A5.out).mono ?_
             rintro e w' ⟨rfl,⟨nd,rfl⟩⟩
             refine ⟨_,rfl,?_⟩
             refine hK.out _ _ ⟨(blk_cell BK117.out 0).trans rfl,(blk_cell BK117.out 1).trans rfl,(blk_cell BK117.out 2).trans rfl,((HB.out.cell (World.block_lt_of_cell? w _ hw121_0)).trans hw121_0),((HB.out.cell (World.block_lt_of_cell? w _ hw121_1)).trans hw121_1),((HB.out.cell (World.block_lt_of_cell? w _ hw121_2)).trans hw121_2)⟩ (fun hHeld=>?_)
             clear hK K
             refine no 14 ?_
             refine pt 3 15 (fl 31 15) HT_ ?_
             refine pt 4 16 (fl 31 31) HT_ ?_
             refine pt 5 17 (fl 31 63) HT_ ?_
             refine tt 6 18 (fl 31 127) HT_ HW_ hHeld ?_
             refine ot 7 (some 19) (fl 31 255) HT_ (fun K hK=>?_)
             refine goes_ Try.func58 (by kernel_rfl) rfl #[.int .i64 ((rd_T61 l0 x7_1).f1),.int .i64 0,.int .i64 20] (by rfl) rfl rfl (by (try simp only [List.map_toArray,List.map_cons,List.map_nil]);first|done|rfl|(simp only [List.length_drop,List.length_take];rfl)) ?_
             with_reducible refine (impl_in.calls ((rd_T61 l0 x7_1).f1) 0 20 true _ A7.out).mono ?_
             rintro e w' ⟨rfl,⟨nd,rfl⟩⟩
             refine ⟨_,rfl,?_⟩
             refine hK.out _ _ ⟨(blk_cell BK117.out 0).trans rfl,(blk_cell BK117.out 1).trans rfl,(blk_cell BK117.out 2).trans rfl,((HB.out.cell (World.block_lt_of_cell? w _ hw121_0)).trans hw121_0),((HB.out.cell (World.block_lt_of_cell? w _ hw121_1)).trans hw121_1),((HB.out.cell (World.block_lt_of_cell? w _ hw121_2)).trans hw121_2)⟩ (fun hHeld=>?_)
             clear hK K
             refine no 19 ?_
             refine pt 8 20 (fl 31 511) HT_ ?_
             refine pt 9 21 (fl 31 1023) HT_ ?_
             refine pt 10 22 (fl 31 2047) HT_ ?_
             refine pt 11 23 (fl 31 4095) HT_ ?_
             refine tt 12 24 (fl 31 8191) HT_ HW_ hHeld ?_
             refine ot 13 (some 25) (fl 31 16383) HT_ (fun K hK=>?_)
             refine goes_ Try.func58 (by kernel_rfl) rfl #[.int .i64 ((rd_T61 l0 x7_1).f2),.int .i64 1,.int .i64 1000] (by rfl) rfl rfl (by (try simp only [List.map_toArray,List.map_cons,List.map_nil]);first|done|rfl|(simp only [List.length_drop,List.length_take];rfl)) ?_
             with_reducible refine (impl_in.calls ((rd_T61 l0 x7_1).f2) 1 1000 true _ A9.out).mono ?_
             rintro e w' ⟨rfl,⟨nd,rfl⟩⟩
             refine ⟨_,rfl,?_⟩
             refine hK.out _ _ ⟨(blk_cell BK117.out 0).trans rfl,(blk_cell BK117.out 1).trans rfl,(blk_cell BK117.out 2).trans rfl,((HB.out.cell (World.block_lt_of_cell? w _ hw121_0)).trans hw121_0),((HB.out.cell (World.block_lt_of_cell? w _ hw121_1)).trans hw121_1),((HB.out.cell (World.block_lt_of_cell? w _ hw121_2)).trans hw121_2)⟩ (fun hHeld=>?_)
             clear hK K
             refine no 25 ?_
             refine pt 14 26 (fl 31 32767) HT_ ?_
             refine pt 15 27 (fl 31 65535) HT_ ?_
             refine pt 16 28 (fl 31 131071) HT_ ?_
             refine pt 17 29 (fl 31 262143) HT_ ?_
             refine pt 18 30 (fl 31 524287) HT_ ?_
             refine pt 19 31 (fl 31 1048575) HT_ ?_
             refine pt 20 32 (fl 31 2097151) HT_ ?_
             refine pt 21 33 (fl 31 4194303) HT_ ?_
             refine pt 22 34 (fl 31 8388607) HT_ ?_
             refine pt 23 35 (fl 31 16777215) HT_ ?_
             refine pt 24 36 (fl 31 33554431) HT_ ?_
             refine pt 26 38 (fl 31 100663295) HT_ ?_
             refine tt 25 37 (fl 31 134217727) HT_ HW_ hHeld ?_
             refine tt 27 39 (fl 31 268435455) HT_ HW_ hHeld ?_
             refine pt 28 40 (fl 31 536870911) HT_ ?_
             refine pt 29 41 (fl 31 1073741823) HT_ ?_
             refine pt 30 42 (fl 31 2147483647) HT_ ?_
             refine done_ (done_of HT_.out (by kernel_rfl)) ?_
             try go_wp2
             go_ret
             exact ⟨by first|rfl|(simp [errW_none,errW_some] <;> rfl)|(simp only [← hji12];first|rfl|(simp [errW_none,errW_some] <;> rfl))|(simp [*,errW_none,errW_some] <;> rfl),be⟩
            ·rw [if_neg c15] at H
             have c15b0:decide (((rd_T61 l0 x7_1).f0)≤((rd_T61 l0 (ji12)).f0))=false:=decide_eq_false c15
             clear c15
             have H':=Aside0.mk H
             clear H
             have p116:0≤(x7_1:Int):=of_decide_eq_true (by first|(with_reducible assumption)|assumption)
             have q116:x7_1 < (l0.length:Int):=of_decide_eq_true (by first|(with_reducible assumption)|assumption)
             obtain ⟨ad116,e116,hx116_0,hx116_1,hx116_2⟩:=at_T61 HR0.out x7_1 p116 q116
             cases e116
             replace hx116_0:=(HB.out.cell (World.block_lt_of_cell? w _ hx116_0)).trans hx116_0
             replace hx116_1:=(HB.out.cell (World.block_lt_of_cell? w _ hx116_1)).trans hx116_1
             replace hx116_2:=(HB.out.cell (World.block_lt_of_cell? w _ hx116_2)).trans hx116_2
             replace p116:=eq_true p116
             replace q116:=eq_true q116
             try go_wp2_with ((with_reducible refine gate_dst (N:=4) rfl ?_);refine box_event ?hg (N:=4) ?hd (cs:=#[.int .i64 0,.int .i64 0,.int .i64 0]) (t:=61) ?hr ?_;(case hd=>rfl);(case hg=>rfl);(case hr=>first|(go_simp;done)|(go_simp;rfl));intro gb117 hg w20 hbox hb;have BK117:=aM (hbox);have GW117:=gS w hg;have GE117:=gS w hg;replace HB:=bs hb;clear hb hbox hg;have hcz21_0:w20.cell? ⟨gb117,0,none⟩=some (.int .i64 0):=(blk_cell BK117.out 0).trans rfl;have hcz21_1:w20.cell? ⟨gb117,1,none⟩=some (.int .i64 0):=(blk_cell BK117.out 1).trans rfl;have hcz21_2:w20.cell? ⟨gb117,2,none⟩=some (.int .i64 0):=(blk_cell BK117.out 2).trans rfl;have hfz21_0:=blk_frozen BK117.out 0;have hfz21_1:=blk_frozen BK117.out 1;have hfz21_2:=blk_frozen BK117.out 2)
             have n0_:Aside0 ((((w20.setCell ⟨gb117,0,none⟩ (.int .i64 ((rd_T61 l0 x7_1).f0))).setCell ⟨gb117,1,none⟩ (.int .i64 ((rd_T61 l0 x7_1).f1))).setCell ⟨gb117,2,none⟩ (.int .i64 ((rd_T61 l0 x7_1).f2))).heap[gb117]?=some (.cells #[.int .i64 ((rd_T61 l0 x7_1).f0),.int .i64 ((rd_T61 l0 x7_1).f1),.int .i64 ((rd_T61 l0 x7_1).f2)] 61 (0,0))):=⟨by (with_reducible repeat (first|refine blk_drewN ?_ _|refine blk_drew ?_|refine blk_alloc ?_ _));refine blk_put (cs:=#[.int .i64 ((rd_T61 l0 x7_1).f0),.int .i64 ((rd_T61 l0 x7_1).f1),.int .i64 0]) ?_ 2 _ rfl;(with_reducible repeat (first|refine blk_drewN ?_ _|refine blk_drew ?_|refine blk_alloc ?_ _));refine blk_put (cs:=#[.int .i64 ((rd_T61 l0 x7_1).f0),.int .i64 0,.int .i64 0]) ?_ 1 _ rfl;(with_reducible repeat (first|refine blk_drewN ?_ _|refine blk_drew ?_|refine blk_alloc ?_ _));refine blk_put (cs:=#[.int .i64 0,.int .i64 0,.int .i64 0]) ?_ 0 _ rfl;(with_reducible repeat (first|refine blk_drewN ?_ _|refine blk_drew ?_|refine blk_alloc ?_ _));exact BK117.out⟩
             have n1_:Aside0 (Below w.heap.size w (((w20.setCell ⟨gb117,0,none⟩ (.int .i64 ((rd_T61 l0 x7_1).f0))).setCell ⟨gb117,1,none⟩ (.int .i64 ((rd_T61 l0 x7_1).f1))).setCell ⟨gb117,2,none⟩ (.int .i64 ((rd_T61 l0 x7_1).f2)))):=⟨be⟩
             (try clear BK117);(try clear HB)
             generalize (((w20.setCell ⟨gb117,0,none⟩ (.int .i64 ((rd_T61 l0 x7_1).f0))).setCell ⟨gb117,1,none⟩ (.int .i64 ((rd_T61 l0 x7_1).f1))).setCell ⟨gb117,2,none⟩ (.int .i64 ((rd_T61 l0 x7_1).f2)))=w22 at n0_ n1_ ⊢
             have BK117:=n0_;have HB:=n1_;clear n0_ n1_;replace BK117:=aM (blk_drew BK117.out);replace HB:=aM (below_drew1 HB.out)
             have p121:0≤((ji12):Int):=of_decide_eq_true (by first|(with_reducible assumption)|assumption)
             have q121:(ji12) < (l0.length:Int):=of_decide_eq_true (by first|(with_reducible assumption)|assumption)
             obtain ⟨ad121,e121,hx121_0,hx121_1,hx121_2⟩:=at_T61 HR0.out (ji12) p121 q121
             have hw121_2:=hx121_2;have hw121_1:=hx121_1;have hw121_0:=hx121_0
             obtain rfl:ad116=ad121:=(by injection e121)
             replace hx121_0:=(HB.out.cell (World.block_lt_of_cell? w _ hx121_0)).trans hx121_0
             replace hx121_1:=(HB.out.cell (World.block_lt_of_cell? w _ hx121_1)).trans hx121_1
             replace hx121_2:=(HB.out.cell (World.block_lt_of_cell? w _ hx121_2)).trans hx121_2
             replace p121:=eq_true p121
             replace q121:=eq_true q121
             refine start_ (n:=31) (S:=fun w'=>w'.cell? ⟨gb117,0,none⟩=some (.int .i64 ((rd_T61 l0 x7_1).f0))∧w'.cell? ⟨gb117,1,none⟩=some (.int .i64 ((rd_T61 l0 x7_1).f1))∧w'.cell? ⟨gb117,2,none⟩=some (.int .i64 ((rd_T61 l0 x7_1).f2))∧w'.cell? (ad116.add (((ji12)).toNat * 3))=some (.int .i64 ((rd_T61 l0 (ji12)).f0))∧w'.cell? ⟨(ad116.add (((ji12)).toNat * 3)).block,(ad116.add (((ji12)).toNat * 3)).off+1,none⟩=some (.int .i64 ((rd_T61 l0 (ji12)).f1))∧w'.cell? ⟨(ad116.add (((ji12)).toNat * 3)).block,(ad116.add (((ji12)).toNat * 3)).off+2,none⟩=some (.int .i64 ((rd_T61 l0 (ji12)).f2))) (ds:=[]) (fl 31 0) (by kernel_rfl) rfl rfl ⟨(blk_cell BK117.out 0).trans rfl,(blk_cell BK117.out 1).trans rfl,(blk_cell BK117.out 2).trans rfl,((HB.out.cell (World.block_lt_of_cell? w _ hw121_0)).trans hw121_0),((HB.out.cell (World.block_lt_of_cell? w _ hw121_1)).trans hw121_1),((HB.out.cell (World.block_lt_of_cell? w _ hw121_2)).trans hw121_2)⟩ (fun hHeld=>?_);refine with_tabW impl_DevsOk.tab4 impl_DevsOk.bits4 (fun HT_ HW_=>?_)
             generalize w22.drew=w23 at BK117 HB hx121_0 hx121_1 hx121_2 hHeld ⊢
             refine pt 0 12 (fl 31 1) HT_ ?_
             refine tt 1 13 (fl 31 3) HT_ HW_ hHeld ?_
             refine ot 2 (some 14) (fl 31 7) HT_ (fun K hK=>?_)
             refine goes_ Try.func58 (by kernel_rfl) rfl #[.int .i64 ((rd_T61 l0 x7_1).f0),.int .i64 0,.int .i64 20] (by rfl) rfl rfl (by (try simp only [List.map_toArray,List.map_cons,List.map_nil]);first|done|rfl|(simp only [List.length_drop,List.length_take];rfl)) ?_
             with_reducible refine (impl_in.calls ((rd_T61 l0 x7_1).f0) 0 20 true _ A5.out).mono ?_
             rintro e w' ⟨rfl,⟨nd,rfl⟩⟩
             refine ⟨_,rfl,?_⟩
             refine hK.out _ _ ⟨(blk_cell BK117.out 0).trans rfl,(blk_cell BK117.out 1).trans rfl,(blk_cell BK117.out 2).trans rfl,((HB.out.cell (World.block_lt_of_cell? w _ hw121_0)).trans hw121_0),((HB.out.cell (World.block_lt_of_cell? w _ hw121_1)).trans hw121_1),((HB.out.cell (World.block_lt_of_cell? w _ hw121_2)).trans hw121_2)⟩ (fun hHeld=>?_)
             clear hK K
             refine no 14 ?_
             refine pt 3 15 (fl 31 15) HT_ ?_
             refine pt 4 16 (fl 31 31) HT_ ?_
             refine pt 5 17 (fl 31 63) HT_ ?_
             refine tt 6 18 (fl 31 127) HT_ HW_ hHeld ?_
             refine ot 7 (some 19) (fl 31 255) HT_ (fun K hK=>?_)
             refine goes_ Try.func58 (by kernel_rfl) rfl #[.int .i64 ((rd_T61 l0 x7_1).f1),.int .i64 0,.int .i64 20] (by rfl) rfl rfl (by (try simp only [List.map_toArray,List.map_cons,List.map_nil]);first|done|rfl|(simp only [List.length_drop,List.length_take];rfl)) ?_
             with_reducible refine (impl_in.calls ((rd_T61 l0 x7_1).f1) 0 20 true _ A7.out).mono ?_
             rintro e w' ⟨rfl,⟨nd,rfl⟩⟩
             refine ⟨_,rfl,?_⟩
             refine hK.out _ _ ⟨(blk_cell BK117.out 0).trans rfl,(blk_cell BK117.out 1).trans rfl,(blk_cell BK117.out 2).trans rfl,((HB.out.cell (World.block_lt_of_cell? w _ hw121_0)).trans hw121_0),((HB.out.cell (World.block_lt_of_cell? w _ hw121_1)).trans hw121_1),((HB.out.cell (World.block_lt_of_cell? w _ hw121_2)).trans hw121_2)⟩ (fun hHeld=>?_)
             clear hK K
             refine no 19 ?_
             refine pt 8 20 (fl 31 511) HT_ ?_
             refine pt 9 21 (fl 31 1023) HT_ ?_
             refine pt 10 22 (fl 31 2047) HT_ ?_
             refine pt 11 23 (fl 31 4095) HT_ ?_
             refine tt 12 24 (fl 31 8191) HT_ HW_ hHeld ?_
             refine ot 13 (some 25) (fl 31 16383) HT_ (fun K hK=>?_)
             refine goes_ Try.func58 (by kernel_rfl) rfl #[.int .i64 ((rd_T61 l0 x7_1).f2),.int .i64 1,.int .i64 1000] (by rfl) rfl rfl (by (try simp only [List.map_toArray,List.map_cons,List.map_nil]);first|done|rfl|(simp only [List.length_drop,List.length_take];rfl)) ?_
             with_reducible refine (impl_in.calls ((rd_T61 l0 x7_1).f2) 1 1000 true _ A9.out).mono ?_
             rintro e w' ⟨rfl,⟨nd,rfl⟩⟩
             refine ⟨_,rfl,?_⟩
             refine hK.out _ _ ⟨(blk_cell BK117.out 0).trans rfl,(blk_cell BK117.out 1).trans rfl,(blk_cell BK117.out 2).trans rfl,((HB.out.cell (World.block_lt_of_cell? w _ hw121_0)).trans hw121_0),((HB.out.cell (World.block_lt_of_cell? w _ hw121_1)).trans hw121_1),((HB.out.cell (World.block_lt_of_cell? w _ hw121_2)).trans hw121_2)⟩ (fun hHeld=>?_)
             clear hK K
             refine no 25 ?_
             refine pt 14 26 (fl 31 32767) HT_ ?_
             refine pt 15 27 (fl 31 65535) HT_ ?_
             refine pt 16 28 (fl 31 131071) HT_ ?_
             refine pt 17 29 (fl 31 262143) HT_ ?_
             refine pt 18 30 (fl 31 524287) HT_ ?_
             refine pt 19 31 (fl 31 1048575) HT_ ?_
             refine pt 20 32 (fl 31 2097151) HT_ ?_
             refine pt 21 33 (fl 31 4194303) HT_ ?_
             refine pt 22 34 (fl 31 8388607) HT_ ?_
             refine pt 23 35 (fl 31 16777215) HT_ ?_
             refine pt 24 36 (fl 31 33554431) HT_ ?_
             refine pt 26 38 (fl 31 100663295) HT_ ?_
             refine tt 25 37 (fl 31 134217727) HT_ HW_ hHeld ?_
             refine tt 27 39 (fl 31 268435455) HT_ HW_ hHeld ?_
             refine pt 28 40 (fl 31 536870911) HT_ ?_
             refine pt 29 41 (fl 31 1073741823) HT_ ?_
             refine pt 30 42 (fl 31 2147483647) HT_ ?_
             refine done_ (done_of HT_.out (by kernel_rfl)) ?_
             try go_wp2
             go_roundg k1
             case measure=>have:=HK1.out;omega
             case rel=>exact ⟨(wrap64 (x7_1+1)),rd_,H',⟨by have:=HK1.out;omega⟩,⟨be⟩⟩
           ·rw [if_neg c14] at H
            exact absurd H (by simp)
          ·rw [if_neg c13] at H
           exact absurd H (by simp)
         ·rw [if_neg c11] at H
          have c11b0:decide (0 < x7_1)=false:=decide_eq_false c11
          clear c11
          have H':=Aside0.mk H
          clear H
          have p116:0≤(x7_1:Int):=of_decide_eq_true (by first|(with_reducible assumption)|assumption)
          have q116:x7_1 < (l0.length:Int):=of_decide_eq_true (by first|(with_reducible assumption)|assumption)
          obtain ⟨ad116,e116,hx116_0,hx116_1,hx116_2⟩:=at_T61 HR0.out x7_1 p116 q116
          cases e116
          replace hx116_0:=(HB.out.cell (World.block_lt_of_cell? w _ hx116_0)).trans hx116_0
          replace hx116_1:=(HB.out.cell (World.block_lt_of_cell? w _ hx116_1)).trans hx116_1
          replace hx116_2:=(HB.out.cell (World.block_lt_of_cell? w _ hx116_2)).trans hx116_2
          replace p116:=eq_true p116
          replace q116:=eq_true q116
          try go_wp2_with ((with_reducible refine gate_dst (N:=4) rfl ?_);refine box_event ?hg (N:=4) ?hd (cs:=#[.int .i64 0,.int .i64 0,.int .i64 0]) (t:=61) ?hr ?_;(case hd=>rfl);(case hg=>rfl);(case hr=>first|(go_simp;done)|(go_simp;rfl));intro gb117 hg w24 hbox hb;have BK117:=aM (hbox);have GW117:=gS w hg;have GE117:=gS w hg;replace HB:=bs hb;clear hb hbox hg;have hcz25_0:w24.cell? ⟨gb117,0,none⟩=some (.int .i64 0):=(blk_cell BK117.out 0).trans rfl;have hcz25_1:w24.cell? ⟨gb117,1,none⟩=some (.int .i64 0):=(blk_cell BK117.out 1).trans rfl;have hcz25_2:w24.cell? ⟨gb117,2,none⟩=some (.int .i64 0):=(blk_cell BK117.out 2).trans rfl;have hfz25_0:=blk_frozen BK117.out 0;have hfz25_1:=blk_frozen BK117.out 1;have hfz25_2:=blk_frozen BK117.out 2)
          have n0_:Aside0 ((((w24.setCell ⟨gb117,0,none⟩ (.int .i64 ((rd_T61 l0 x7_1).f0))).setCell ⟨gb117,1,none⟩ (.int .i64 ((rd_T61 l0 x7_1).f1))).setCell ⟨gb117,2,none⟩ (.int .i64 ((rd_T61 l0 x7_1).f2))).heap[gb117]?=some (.cells #[.int .i64 ((rd_T61 l0 x7_1).f0),.int .i64 ((rd_T61 l0 x7_1).f1),.int .i64 ((rd_T61 l0 x7_1).f2)] 61 (0,0))):=⟨by (with_reducible repeat (first|refine blk_drewN ?_ _|refine blk_drew ?_|refine blk_alloc ?_ _));refine blk_put (cs:=#[.int .i64 ((rd_T61 l0 x7_1).f0),.int .i64 ((rd_T61 l0 x7_1).f1),.int .i64 0]) ?_ 2 _ rfl;(with_reducible repeat (first|refine blk_drewN ?_ _|refine blk_drew ?_|refine blk_alloc ?_ _));refine blk_put (cs:=#[.int .i64 ((rd_T61 l0 x7_1).f0),.int .i64 0,.int .i64 0]) ?_ 1 _ rfl;(with_reducible repeat (first|refine blk_drewN ?_ _|refine blk_drew ?_|refine blk_alloc ?_ _));refine blk_put (cs:=#[.int .i64 0,.int .i64 0,.int .i64 0]) ?_ 0 _ rfl;(with_reducible repeat (first|refine blk_drewN ?_ _|refine blk_drew ?_|refine blk_alloc ?_ _));exact BK117.out⟩
          have n1_:Aside0 (Below w.heap.size w (((w24.setCell ⟨gb117,0,none⟩ (.int .i64 ((rd_T61 l0 x7_1).f0))).setCell ⟨gb117,1,none⟩ (.int .i64 ((rd_T61 l0 x7_1).f1))).setCell ⟨gb117,2,none⟩ (.int .i64 ((rd_T61 l0 x7_1).f2)))):=⟨be⟩
          (try clear BK117);(try clear HB)
          generalize (((w24.setCell ⟨gb117,0,none⟩ (.int .i64 ((rd_T61 l0 x7_1).f0))).setCell ⟨gb117,1,none⟩ (.int .i64 ((rd_T61 l0 x7_1).f1))).setCell ⟨gb117,2,none⟩ (.int .i64 ((rd_T61 l0 x7_1).f2)))=w26 at n0_ n1_ ⊢
          have BK117:=n0_;have HB:=n1_;clear n0_ n1_;replace BK117:=aM (blk_drew BK117.out);replace HB:=aM (below_drew1 HB.out)
          refine start_ (n:=31) (S:=fun w'=>w'.cell? ⟨gb117,0,none⟩=some (.int .i64 ((rd_T61 l0 x7_1).f0))∧w'.cell? ⟨gb117,1,none⟩=some (.int .i64 ((rd_T61 l0 x7_1).f1))∧w'.cell? ⟨gb117,2,none⟩=some (.int .i64 ((rd_T61 l0 x7_1).f2))) (ds:=[]) (fl 31 0) (by kernel_rfl) rfl rfl ⟨(blk_cell BK117.out 0).trans rfl,(blk_cell BK117.out 1).trans rfl,(blk_cell BK117.out 2).trans rfl⟩ (fun hHeld=>?_);refine with_tabW impl_DevsOk.tab4 impl_DevsOk.bits4 (fun HT_ HW_=>?_)
          generalize w26.drew=w27 at BK117 HB hHeld ⊢
          refine pt 0 12 (fl 31 1) HT_ ?_
          refine tt 1 13 (fl 31 3) HT_ HW_ hHeld ?_
          refine ot 2 (some 14) (fl 31 7) HT_ (fun K hK=>?_)
          refine goes_ Try.func58 (by kernel_rfl) rfl #[.int .i64 ((rd_T61 l0 x7_1).f0),.int .i64 0,.int .i64 20] (by rfl) rfl rfl (by (try simp only [List.map_toArray,List.map_cons,List.map_nil]);first|done|rfl|(simp only [List.length_drop,List.length_take];rfl)) ?_
          with_reducible refine (impl_in.calls ((rd_T61 l0 x7_1).f0) 0 20 true _ A5.out).mono ?_
          rintro e w' ⟨rfl,⟨nd,rfl⟩⟩
          refine ⟨_,rfl,?_⟩
          refine hK.out _ _ ⟨(blk_cell BK117.out 0).trans rfl,(blk_cell BK117.out 1).trans rfl,(blk_cell BK117.out 2).trans rfl⟩ (fun hHeld=>?_)
          clear hK K
          refine no 14 ?_
          refine pt 3 15 (fl 31 15) HT_ ?_
          refine pt 4 16 (fl 31 31) HT_ ?_
          refine pt 5 17 (fl 31 63) HT_ ?_
          refine tt 6 18 (fl 31 127) HT_ HW_ hHeld ?_
          refine ot 7 (some 19) (fl 31 255) HT_ (fun K hK=>?_)
          refine goes_ Try.func58 (by kernel_rfl) rfl #[.int .i64 ((rd_T61 l0 x7_1).f1),.int .i64 0,.int .i64 20] (by rfl) rfl rfl (by (try simp only [List.map_toArray,List.map_cons,List.map_nil]);first|done|rfl|(simp only [List.length_drop,List.length_take];rfl)) ?_
          with_reducible refine (impl_in.calls ((rd_T61 l0 x7_1).f1) 0 20 true _ A7.out).mono ?_
          rintro e w' ⟨rfl,⟨nd,rfl⟩⟩
          refine ⟨_,rfl,?_⟩
          refine hK.out _ _ ⟨(blk_cell BK117.out 0).trans rfl,(blk_cell BK117.out 1).trans rfl,(blk_cell BK117.out 2).trans rfl⟩ (fun hHeld=>?_)
          clear hK K
          refine no 19 ?_
          refine pt 8 20 (fl 31 511) HT_ ?_
          refine pt 9 21 (fl 31 1023) HT_ ?_
          refine pt 10 22 (fl 31 2047) HT_ ?_
          refine pt 11 23 (fl 31 4095) HT_ ?_
          refine tt 12 24 (fl 31 8191) HT_ HW_ hHeld ?_
          refine ot 13 (some 25) (fl 31 16383) HT_ (fun K hK=>?_)
          refine goes_ Try.func58 (by kernel_rfl) rfl #[.int .i64 ((rd_T61 l0 x7_1).f2),.int .i64 1,.int .i64 1000] (by rfl) rfl rfl (by (try simp only [List.map_toArray,List.map_cons,List.map_nil]);first|done|rfl|(simp only [List.length_drop,List.length_take];rfl)) ?_
          with_reducible refine (impl_in.calls ((rd_T61 l0 x7_1).f2) 1 1000 true _ A9.out).mono ?_
          rintro e w' ⟨rfl,⟨nd,rfl⟩⟩
          refine ⟨_,rfl,?_⟩
          refine hK.out _ _ ⟨(blk_cell BK117.out 0).trans rfl,(blk_cell BK117.out 1).trans rfl,(blk_cell BK117.out 2).trans rfl⟩ (fun hHeld=>?_)
          clear hK K
          refine no 25 ?_
          refine pt 14 26 (fl 31 32767) HT_ ?_
          refine pt 15 27 (fl 31 65535) HT_ ?_
          refine pt 16 28 (fl 31 131071) HT_ ?_
          refine pt 17 29 (fl 31 262143) HT_ ?_
          refine pt 18 30 (fl 31 524287) HT_ ?_
          refine pt 19 31 (fl 31 1048575) HT_ ?_
          refine ut 20 32 (fl 31 2097151) HT_ ?_
          refine ut 21 33 (fl 31 4194303) HT_ ?_
          refine ut 22 34 (fl 31 8388607) HT_ ?_
          refine ut 23 35 (fl 31 16777215) HT_ ?_
          refine ut 24 36 (fl 31 33554431) HT_ ?_
          refine ut 25 37 (fl 31 67108863) HT_ ?_
          refine ut 26 38 (fl 31 134217727) HT_ ?_
          refine ut 27 39 (fl 31 268435455) HT_ ?_
          refine ut 28 40 (fl 31 536870911) HT_ ?_
          refine pt 29 41 (fl 31 1073741823) HT_ ?_
          refine pt 30 42 (fl 31 2147483647) HT_ ?_
          refine done_ (done_of HT_.out (by kernel_rfl)) ?_
          try go_wp2
          go_roundg k1
          case measure=>have:=HK1.out;omega
          case rel=>exact ⟨(wrap64 (x7_1+1)),rd_,H',⟨by have:=HK1.out;omega⟩,⟨be⟩⟩
        ·replace c10:=Bool.eq_false_iff.mpr c10
         subst c10
         replace H:=(if_neg (show ¬ (false=true) by decide)).symm.trans H
         obtain rfl:=Option.some.inj H
         have p116:0≤(x7_1:Int):=of_decide_eq_true (by first|(with_reducible assumption)|assumption)
         have q116:x7_1 < (l0.length:Int):=of_decide_eq_true (by first|(with_reducible assumption)|assumption)
         obtain ⟨ad116,e116,hx116_0,hx116_1,hx116_2⟩:=at_T61 HR0.out x7_1 p116 q116
         cases e116
         replace hx116_0:=(HB.out.cell (World.block_lt_of_cell? w _ hx116_0)).trans hx116_0
         replace hx116_1:=(HB.out.cell (World.block_lt_of_cell? w _ hx116_1)).trans hx116_1
         replace hx116_2:=(HB.out.cell (World.block_lt_of_cell? w _ hx116_2)).trans hx116_2
         replace p116:=eq_true p116
         replace q116:=eq_true q116
         try go_wp2_with ((with_reducible refine gate_dst (N:=4) rfl ?_);refine box_event ?hg (N:=4) ?hd (cs:=#[.int .i64 0,.int .i64 0,.int .i64 0]) (t:=61) ?hr ?_;(case hd=>rfl);(case hg=>rfl);(case hr=>first|(go_simp;done)|(go_simp;rfl));intro gb117 hg w28 hbox hb;have BK117:=aM (hbox);have GW117:=gS w hg;have GE117:=gS w hg;replace HB:=bs hb;clear hb hbox hg;have hcz29_0:w28.cell? ⟨gb117,0,none⟩=some (.int .i64 0):=(blk_cell BK117.out 0).trans rfl;have hcz29_1:w28.cell? ⟨gb117,1,none⟩=some (.int .i64 0):=(blk_cell BK117.out 1).trans rfl;have hcz29_2:w28.cell? ⟨gb117,2,none⟩=some (.int .i64 0):=(blk_cell BK117.out 2).trans rfl;have hfz29_0:=blk_frozen BK117.out 0;have hfz29_1:=blk_frozen BK117.out 1;have hfz29_2:=blk_frozen BK117.out 2)
         have n0_:Aside0 ((((w28.setCell ⟨gb117,0,none⟩ (.int .i64 ((rd_T61 l0 x7_1).f0))).setCell ⟨gb117,1,none⟩ (.int .i64 ((rd_T61 l0 x7_1).f1))).setCell ⟨gb117,2,none⟩ (.int .i64 ((rd_T61 l0 x7_1).f2))).heap[gb117]?=some (.cells #[.int .i64 ((rd_T61 l0 x7_1).f0),.int .i64 ((rd_T61 l0 x7_1).f1),.int .i64 ((rd_T61 l0 x7_1).f2)] 61 (0,0))):=⟨by (with_reducible repeat (first|refine blk_drewN ?_ _|refine blk_drew ?_|refine blk_alloc ?_ _));refine blk_put (cs:=#[.int .i64 ((rd_T61 l0 x7_1).f0),.int .i64 ((rd_T61 l0 x7_1).f1),.int .i64 0]) ?_ 2 _ rfl;(with_reducible repeat (first|refine blk_drewN ?_ _|refine blk_drew ?_|refine blk_alloc ?_ _));refine blk_put (cs:=#[.int .i64 ((rd_T61 l0 x7_1).f0),.int .i64 0,.int .i64 0]) ?_ 1 _ rfl;(with_reducible repeat (first|refine blk_drewN ?_ _|refine blk_drew ?_|refine blk_alloc ?_ _));refine blk_put (cs:=#[.int .i64 0,.int .i64 0,.int .i64 0]) ?_ 0 _ rfl;(with_reducible repeat (first|refine blk_drewN ?_ _|refine blk_drew ?_|refine blk_alloc ?_ _));exact BK117.out⟩
         have n1_:Aside0 (Below w.heap.size w (((w28.setCell ⟨gb117,0,none⟩ (.int .i64 ((rd_T61 l0 x7_1).f0))).setCell ⟨gb117,1,none⟩ (.int .i64 ((rd_T61 l0 x7_1).f1))).setCell ⟨gb117,2,none⟩ (.int .i64 ((rd_T61 l0 x7_1).f2)))):=⟨be⟩
         (try clear BK117);(try clear HB)
         generalize (((w28.setCell ⟨gb117,0,none⟩ (.int .i64 ((rd_T61 l0 x7_1).f0))).setCell ⟨gb117,1,none⟩ (.int .i64 ((rd_T61 l0 x7_1).f1))).setCell ⟨gb117,2,none⟩ (.int .i64 ((rd_T61 l0 x7_1).f2)))=w30 at n0_ n1_ ⊢
         have BK117:=n0_;have HB:=n1_;clear n0_ n1_;replace BK117:=aM (blk_drew BK117.out);replace HB:=aM (below_drew1 HB.out)
         refine start_ (n:=31) (S:=fun w'=>w'.cell? ⟨gb117,0,none⟩=some (.int .i64 ((rd_T61 l0 x7_1).f0))∧w'.cell? ⟨gb117,1,none⟩=some (.int .i64 ((rd_T61 l0 x7_1).f1))∧w'.cell? ⟨gb117,2,none⟩=some (.int .i64 ((rd_T61 l0 x7_1).f2))) (ds:=[]) (fl 31 0) (by kernel_rfl) rfl rfl ⟨(blk_cell BK117.out 0).trans rfl,(blk_cell BK117.out 1).trans rfl,(blk_cell BK117.out 2).trans rfl⟩ (fun hHeld=>?_);refine with_tabW impl_DevsOk.tab4 impl_DevsOk.bits4 (fun HT_ HW_=>?_)
         generalize w30.drew=w31 at BK117 HB hHeld ⊢
         refine pt 0 12 (fl 31 1) HT_ ?_
         refine tt 1 13 (fl 31 3) HT_ HW_ hHeld ?_
         refine ot 2 (some 14) (fl 31 7) HT_ (fun K hK=>?_)
         refine goes_ Try.func58 (by kernel_rfl) rfl #[.int .i64 ((rd_T61 l0 x7_1).f0),.int .i64 0,.int .i64 20] (by rfl) rfl rfl (by (try simp only [List.map_toArray,List.map_cons,List.map_nil]);first|done|rfl|(simp only [List.length_drop,List.length_take];rfl)) ?_
         with_reducible refine (impl_in.calls ((rd_T61 l0 x7_1).f0) 0 20 true _ A5.out).mono ?_
         rintro e w' ⟨rfl,⟨nd,rfl⟩⟩
         refine ⟨_,rfl,?_⟩
         refine hK.out _ _ ⟨(blk_cell BK117.out 0).trans rfl,(blk_cell BK117.out 1).trans rfl,(blk_cell BK117.out 2).trans rfl⟩ (fun hHeld=>?_)
         clear hK K
         refine no 14 ?_
         refine pt 3 15 (fl 31 15) HT_ ?_
         refine pt 4 16 (fl 31 31) HT_ ?_
         refine pt 5 17 (fl 31 63) HT_ ?_
         refine tt 6 18 (fl 31 127) HT_ HW_ hHeld ?_
         refine ot 7 (some 19) (fl 31 255) HT_ (fun K hK=>?_)
         refine goes_ Try.func58 (by kernel_rfl) rfl #[.int .i64 ((rd_T61 l0 x7_1).f1),.int .i64 0,.int .i64 20] (by rfl) rfl rfl (by (try simp only [List.map_toArray,List.map_cons,List.map_nil]);first|done|rfl|(simp only [List.length_drop,List.length_take];rfl)) ?_
         with_reducible refine (impl_in.calls ((rd_T61 l0 x7_1).f1) 0 20 true _ A7.out).mono ?_
         rintro e w' ⟨rfl,⟨nd,rfl⟩⟩
         refine ⟨_,rfl,?_⟩
         refine hK.out _ _ ⟨(blk_cell BK117.out 0).trans rfl,(blk_cell BK117.out 1).trans rfl,(blk_cell BK117.out 2).trans rfl⟩ (fun hHeld=>?_)
         clear hK K
         refine no 19 ?_
         refine pt 8 20 (fl 31 511) HT_ ?_
         refine pt 9 21 (fl 31 1023) HT_ ?_
         refine pt 10 22 (fl 31 2047) HT_ ?_
         refine pt 11 23 (fl 31 4095) HT_ ?_
         refine tt 12 24 (fl 31 8191) HT_ HW_ hHeld ?_
         refine ot 13 (some 25) (fl 31 16383) HT_ (fun K hK=>?_)
         refine goes_ Try.func58 (by kernel_rfl) rfl #[.int .i64 ((rd_T61 l0 x7_1).f2),.int .i64 1,.int .i64 1000] (by rfl) rfl rfl (by (try simp only [List.map_toArray,List.map_cons,List.map_nil]);first|done|rfl|(simp only [List.length_drop,List.length_take];rfl)) ?_
         with_reducible refine (impl_in.calls ((rd_T61 l0 x7_1).f2) 1 1000 false _ A9.out).mono ?_
         rintro e w' ⟨rfl,⟨nd,rfl⟩⟩
         refine ⟨_,rfl,?_⟩
         refine hK.out _ _ ⟨(blk_cell BK117.out 0).trans rfl,(blk_cell BK117.out 1).trans rfl,(blk_cell BK117.out 2).trans rfl⟩ (fun hHeld=>?_)
         clear hK K
         refine no 25 ?_
         refine pt 14 26 (fl 31 32767) HT_ ?_
         refine pt 15 27 (fl 31 65535) HT_ ?_
         refine pt 16 28 (fl 31 131071) HT_ ?_
         refine ut 17 29 (fl 31 262143) HT_ ?_
         refine ut 18 30 (fl 31 524287) HT_ ?_
         refine ut 19 31 (fl 31 1048575) HT_ ?_
         refine ut 20 32 (fl 31 2097151) HT_ ?_
         refine ut 21 33 (fl 31 4194303) HT_ ?_
         refine ut 22 34 (fl 31 8388607) HT_ ?_
         refine ut 23 35 (fl 31 16777215) HT_ ?_
         refine ut 24 36 (fl 31 33554431) HT_ ?_
         refine ut 25 37 (fl 31 67108863) HT_ ?_
         refine ut 26 38 (fl 31 134217727) HT_ ?_
         refine ut 27 39 (fl 31 268435455) HT_ ?_
         refine ut 28 40 (fl 31 536870911) HT_ ?_
         refine ut 29 41 (fl 31 1073741823) HT_ ?_
         refine pt 30 42 (fl 31 2147483647) HT_ ?_
         refine done_ (done_of HT_.out (by kernel_rfl)) ?_
         try go_wp2
         go_ret
         exact ⟨by first|rfl|(simp [errW_none,errW_some] <;> rfl)|(simp [*,errW_none,errW_some] <;> rfl),be⟩
       ·replace c8:=Bool.eq_false_iff.mpr c8
        subst c8
        replace H:=(if_neg (show ¬ (false=true) by decide)).symm.trans H
        obtain rfl:=Option.some.inj H
        have p116:0≤(x7_1:Int):=of_decide_eq_true (by first|(with_reducible assumption)|assumption)
        have q116:x7_1 < (l0.length:Int):=of_decide_eq_true (by first|(with_reducible assumption)|assumption)
        obtain ⟨ad116,e116,hx116_0,hx116_1,hx116_2⟩:=at_T61 HR0.out x7_1 p116 q116
        cases e116
        replace hx116_0:=(HB.out.cell (World.block_lt_of_cell? w _ hx116_0)).trans hx116_0
        replace hx116_1:=(HB.out.cell (World.block_lt_of_cell? w _ hx116_1)).trans hx116_1
        replace hx116_2:=(HB.out.cell (World.block_lt_of_cell? w _ hx116_2)).trans hx116_2
        replace p116:=eq_true p116
        replace q116:=eq_true q116
        try go_wp2_with ((with_reducible refine gate_dst (N:=4) rfl ?_);refine box_event ?hg (N:=4) ?hd (cs:=#[.int .i64 0,.int .i64 0,.int .i64 0]) (t:=61) ?hr ?_;(case hd=>rfl);(case hg=>rfl);(case hr=>first|(go_simp;done)|(go_simp;rfl));intro gb117 hg w32 hbox hb;have BK117:=aM (hbox);have GW117:=gS w hg;have GE117:=gS w hg;replace HB:=bs hb;clear hb hbox hg;have hcz33_0:w32.cell? ⟨gb117,0,none⟩=some (.int .i64 0):=(blk_cell BK117.out 0).trans rfl;have hcz33_1:w32.cell? ⟨gb117,1,none⟩=some (.int .i64 0):=(blk_cell BK117.out 1).trans rfl;have hcz33_2:w32.cell? ⟨gb117,2,none⟩=some (.int .i64 0):=(blk_cell BK117.out 2).trans rfl;have hfz33_0:=blk_frozen BK117.out 0;have hfz33_1:=blk_frozen BK117.out 1;have hfz33_2:=blk_frozen BK117.out 2)
        have n0_:Aside0 ((((w32.setCell ⟨gb117,0,none⟩ (.int .i64 ((rd_T61 l0 x7_1).f0))).setCell ⟨gb117,1,none⟩ (.int .i64 ((rd_T61 l0 x7_1).f1))).setCell ⟨gb117,2,none⟩ (.int .i64 ((rd_T61 l0 x7_1).f2))).heap[gb117]?=some (.cells #[.int .i64 ((rd_T61 l0 x7_1).f0),.int .i64 ((rd_T61 l0 x7_1).f1),.int .i64 ((rd_T61 l0 x7_1).f2)] 61 (0,0))):=⟨by (with_reducible repeat (first|refine blk_drewN ?_ _|refine blk_drew ?_|refine blk_alloc ?_ _));refine blk_put (cs:=#[.int .i64 ((rd_T61 l0 x7_1).f0),.int .i64 ((rd_T61 l0 x7_1).f1),.int .i64 0]) ?_ 2 _ rfl;(with_reducible repeat (first|refine blk_drewN ?_ _|refine blk_drew ?_|refine blk_alloc ?_ _));refine blk_put (cs:=#[.int .i64 ((rd_T61 l0 x7_1).f0),.int .i64 0,.int .i64 0]) ?_ 1 _ rfl;(with_reducible repeat (first|refine blk_drewN ?_ _|refine blk_drew ?_|refine blk_alloc ?_ _));refine blk_put (cs:=#[.int .i64 0,.int .i64 0,.int .i64 0]) ?_ 0 _ rfl;(with_reducible repeat (first|refine blk_drewN ?_ _|refine blk_drew ?_|refine blk_alloc ?_ _));exact BK117.out⟩
        have n1_:Aside0 (Below w.heap.size w (((w32.setCell ⟨gb117,0,none⟩ (.int .i64 ((rd_T61 l0 x7_1).f0))).setCell ⟨gb117,1,none⟩ (.int .i64 ((rd_T61 l0 x7_1).f1))).setCell ⟨gb117,2,none⟩ (.int .i64 ((rd_T61 l0 x7_1).f2)))):=⟨be⟩
        (try clear BK117);(try clear HB)
        generalize (((w32.setCell ⟨gb117,0,none⟩ (.int .i64 ((rd_T61 l0 x7_1).f0))).setCell ⟨gb117,1,none⟩ (.int .i64 ((rd_T61 l0 x7_1).f1))).setCell ⟨gb117,2,none⟩ (.int .i64 ((rd_T61 l0 x7_1).f2)))=w34 at n0_ n1_ ⊢
        have BK117:=n0_;have HB:=n1_;clear n0_ n1_;replace BK117:=aM (blk_drew BK117.out);replace HB:=aM (below_drew1 HB.out)
        refine start_ (n:=31) (S:=fun w'=>w'.cell? ⟨gb117,0,none⟩=some (.int .i64 ((rd_T61 l0 x7_1).f0))∧w'.cell? ⟨gb117,1,none⟩=some (.int .i64 ((rd_T61 l0 x7_1).f1))∧w'.cell? ⟨gb117,2,none⟩=some (.int .i64 ((rd_T61 l0 x7_1).f2))) (ds:=[]) (fl 31 0) (by kernel_rfl) rfl rfl ⟨(blk_cell BK117.out 0).trans rfl,(blk_cell BK117.out 1).trans rfl,(blk_cell BK117.out 2).trans rfl⟩ (fun hHeld=>?_);refine with_tabW impl_DevsOk.tab4 impl_DevsOk.bits4 (fun HT_ HW_=>?_)
        generalize w34.drew=w35 at BK117 HB hHeld ⊢
        refine pt 0 12 (fl 31 1) HT_ ?_
        refine tt 1 13 (fl 31 3) HT_ HW_ hHeld ?_
        refine ot 2 (some 14) (fl 31 7) HT_ (fun K hK=>?_)
        refine goes_ Try.func58 (by kernel_rfl) rfl #[.int .i64 ((rd_T61 l0 x7_1).f0),.int .i64 0,.int .i64 20] (by rfl) rfl rfl (by (try simp only [List.map_toArray,List.map_cons,List.map_nil]);first|done|rfl|(simp only [List.length_drop,List.length_take];rfl)) ?_
        with_reducible refine (impl_in.calls ((rd_T61 l0 x7_1).f0) 0 20 true _ A5.out).mono ?_
        rintro e w' ⟨rfl,⟨nd,rfl⟩⟩
        refine ⟨_,rfl,?_⟩
        refine hK.out _ _ ⟨(blk_cell BK117.out 0).trans rfl,(blk_cell BK117.out 1).trans rfl,(blk_cell BK117.out 2).trans rfl⟩ (fun hHeld=>?_)
        clear hK K
        refine no 14 ?_
        refine pt 3 15 (fl 31 15) HT_ ?_
        refine pt 4 16 (fl 31 31) HT_ ?_
        refine pt 5 17 (fl 31 63) HT_ ?_
        refine tt 6 18 (fl 31 127) HT_ HW_ hHeld ?_
        refine ot 7 (some 19) (fl 31 255) HT_ (fun K hK=>?_)
        refine goes_ Try.func58 (by kernel_rfl) rfl #[.int .i64 ((rd_T61 l0 x7_1).f1),.int .i64 0,.int .i64 20] (by rfl) rfl rfl (by (try simp only [List.map_toArray,List.map_cons,List.map_nil]);first|done|rfl|(simp only [List.length_drop,List.length_take];rfl)) ?_
        with_reducible refine (impl_in.calls ((rd_T61 l0 x7_1).f1) 0 20 false _ A7.out).mono ?_
        rintro e w' ⟨rfl,⟨nd,rfl⟩⟩
        refine ⟨_,rfl,?_⟩
        refine hK.out _ _ ⟨(blk_cell BK117.out 0).trans rfl,(blk_cell BK117.out 1).trans rfl,(blk_cell BK117.out 2).trans rfl⟩ (fun hHeld=>?_)
        clear hK K
        refine no 19 ?_
        refine pt 8 20 (fl 31 511) HT_ ?_
        refine pt 9 21 (fl 31 1023) HT_ ?_
        refine pt 10 22 (fl 31 2047) HT_ ?_
        refine ut 11 23 (fl 31 4095) HT_ ?_
        refine ut 12 24 (fl 31 8191) HT_ ?_
        refine ut 13 25 (fl 31 16383) HT_ ?_
        refine ut 14 26 (fl 31 32767) HT_ ?_
        refine pt 15 27 (fl 31 65535) HT_ ?_
        refine pt 16 28 (fl 31 131071) HT_ ?_
        refine ut 17 29 (fl 31 262143) HT_ ?_
        refine ut 18 30 (fl 31 524287) HT_ ?_
        refine ut 19 31 (fl 31 1048575) HT_ ?_
        refine ut 20 32 (fl 31 2097151) HT_ ?_
        refine ut 21 33 (fl 31 4194303) HT_ ?_
        refine ut 22 34 (fl 31 8388607) HT_ ?_
        refine ut 23 35 (fl 31 16777215) HT_ ?_
        refine ut 24 36 (fl 31 33554431) HT_ ?_
        refine ut 25 37 (fl 31 67108863) HT_ ?_
        refine ut 26 38 (fl 31 134217727) HT_ ?_
        refine ut 27 39 (fl 31 268435455) HT_ ?_
        refine ut 28 40 (fl 31 536870911) HT_ ?_
        refine ut 29 41 (fl 31 1073741823) HT_ ?_
        refine pt 30 42 (fl 31 2147483647) HT_ ?_
        refine done_ (done_of HT_.out (by kernel_rfl)) ?_
        try go_wp2
        go_ret
        exact ⟨by first|rfl|(simp [errW_none,errW_some] <;> rfl)|(simp [*,errW_none,errW_some] <;> rfl),be⟩
      ·replace c6:=Bool.eq_false_iff.mpr c6
       subst c6
       replace H:=(if_neg (show ¬ (false=true) by decide)).symm.trans H
       obtain rfl:=Option.some.inj H
       have p116:0≤(x7_1:Int):=of_decide_eq_true (by first|(with_reducible assumption)|assumption)
       have q116:x7_1 < (l0.length:Int):=of_decide_eq_true (by first|(with_reducible assumption)|assumption)
       obtain ⟨ad116,e116,hx116_0,hx116_1,hx116_2⟩:=at_T61 HR0.out x7_1 p116 q116
       cases e116
       replace hx116_0:=(HB.out.cell (World.block_lt_of_cell? w _ hx116_0)).trans hx116_0
       replace hx116_1:=(HB.out.cell (World.block_lt_of_cell? w _ hx116_1)).trans hx116_1
       replace hx116_2:=(HB.out.cell (World.block_lt_of_cell? w _ hx116_2)).trans hx116_2
       replace p116:=eq_true p116
       replace q116:=eq_true q116
       try go_wp2_with ((with_reducible refine gate_dst (N:=4) rfl ?_);refine box_event ?hg (N:=4) ?hd (cs:=#[.int .i64 0,.int .i64 0,.int .i64 0]) (t:=61) ?hr ?_;(case hd=>rfl);(case hg=>rfl);(case hr=>first|(go_simp;done)|(go_simp;rfl));intro gb117 hg w36 hbox hb;have BK117:=aM (hbox);have GW117:=gS w hg;have GE117:=gS w hg;replace HB:=bs hb;clear hb hbox hg;have hcz37_0:w36.cell? ⟨gb117,0,none⟩=some (.int .i64 0):=(blk_cell BK117.out 0).trans rfl;have hcz37_1:w36.cell? ⟨gb117,1,none⟩=some (.int .i64 0):=(blk_cell BK117.out 1).trans rfl;have hcz37_2:w36.cell? ⟨gb117,2,none⟩=some (.int .i64 0):=(blk_cell BK117.out 2).trans rfl;have hfz37_0:=blk_frozen BK117.out 0;have hfz37_1:=blk_frozen BK117.out 1;have hfz37_2:=blk_frozen BK117.out 2)
       have n0_:Aside0 ((((w36.setCell ⟨gb117,0,none⟩ (.int .i64 ((rd_T61 l0 x7_1).f0))).setCell ⟨gb117,1,none⟩ (.int .i64 ((rd_T61 l0 x7_1).f1))).setCell ⟨gb117,2,none⟩ (.int .i64 ((rd_T61 l0 x7_1).f2))).heap[gb117]?=some (.cells #[.int .i64 ((rd_T61 l0 x7_1).f0),.int .i64 ((rd_T61 l0 x7_1).f1),.int .i64 ((rd_T61 l0 x7_1).f2)] 61 (0,0))):=⟨by (with_reducible repeat (first|refine blk_drewN ?_ _|refine blk_drew ?_|refine blk_alloc ?_ _));refine blk_put (cs:=#[.int .i64 ((rd_T61 l0 x7_1).f0),.int .i64 ((rd_T61 l0 x7_1).f1),.int .i64 0]) ?_ 2 _ rfl;(with_reducible repeat (first|refine blk_drewN ?_ _|refine blk_drew ?_|refine blk_alloc ?_ _));refine blk_put (cs:=#[.int .i64 ((rd_T61 l0 x7_1).f0),.int .i64 0,.int .i64 0]) ?_ 1 _ rfl;(with_reducible repeat (first|refine blk_drewN ?_ _|refine blk_drew ?_|refine blk_alloc ?_ _));refine blk_put (cs:=#[.int .i64 0,.int .i64 0,.int .i64 0]) ?_ 0 _ rfl;(with_reducible repeat (first|refine blk_drewN ?_ _|refine blk_drew ?_|refine blk_alloc ?_ _));exact BK117.out⟩
       have n1_:Aside0 (Below w.heap.size w (((w36.setCell ⟨gb117,0,none⟩ (.int .i64 ((rd_T61 l0 x7_1).f0))).setCell ⟨gb117,1,none⟩ (.int .i64 ((rd_T61 l0 x7_1).f1))).setCell ⟨gb117,2,none⟩ (.int .i64 ((rd_T61 l0 x7_1).f2)))):=⟨be⟩
       (try clear BK117);(try clear HB)
       generalize (((w36.setCell ⟨gb117,0,none⟩ (.int .i64 ((rd_T61 l0 x7_1).f0))).setCell ⟨gb117,1,none⟩ (.int .i64 ((rd_T61 l0 x7_1).f1))).setCell ⟨gb117,2,none⟩ (.int .i64 ((rd_T61 l0 x7_1).f2)))=w38 at n0_ n1_ ⊢
       have BK117:=n0_;have HB:=n1_;clear n0_ n1_;replace BK117:=aM (blk_drew BK117.out);replace HB:=aM (below_drew1 HB.out)
       refine start_ (n:=31) (S:=fun w'=>w'.cell? ⟨gb117,0,none⟩=some (.int .i64 ((rd_T61 l0 x7_1).f0))∧w'.cell? ⟨gb117,1,none⟩=some (.int .i64 ((rd_T61 l0 x7_1).f1))∧w'.cell? ⟨gb117,2,none⟩=some (.int .i64 ((rd_T61 l0 x7_1).f2))) (ds:=[]) (fl 31 0) (by kernel_rfl) rfl rfl ⟨(blk_cell BK117.out 0).trans rfl,(blk_cell BK117.out 1).trans rfl,(blk_cell BK117.out 2).trans rfl⟩ (fun hHeld=>?_);refine with_tabW impl_DevsOk.tab4 impl_DevsOk.bits4 (fun HT_ HW_=>?_)
       generalize w38.drew=w39 at BK117 HB hHeld ⊢
       refine pt 0 12 (fl 31 1) HT_ ?_
       refine tt 1 13 (fl 31 3) HT_ HW_ hHeld ?_
       refine ot 2 (some 14) (fl 31 7) HT_ (fun K hK=>?_)
       refine goes_ Try.func58 (by kernel_rfl) rfl #[.int .i64 ((rd_T61 l0 x7_1).f0),.int .i64 0,.int .i64 20] (by rfl) rfl rfl (by (try simp only [List.map_toArray,List.map_cons,List.map_nil]);first|done|rfl|(simp only [List.length_drop,List.length_take];rfl)) ?_
       with_reducible refine (impl_in.calls ((rd_T61 l0 x7_1).f0) 0 20 false _ A5.out).mono ?_
       rintro e w' ⟨rfl,⟨nd,rfl⟩⟩
       refine ⟨_,rfl,?_⟩
       refine hK.out _ _ ⟨(blk_cell BK117.out 0).trans rfl,(blk_cell BK117.out 1).trans rfl,(blk_cell BK117.out 2).trans rfl⟩ (fun hHeld=>?_)
       clear hK K
       refine no 14 ?_
       refine pt 3 15 (fl 31 15) HT_ ?_
       refine pt 4 16 (fl 31 31) HT_ ?_
       refine ut 5 17 (fl 31 63) HT_ ?_
       refine ut 6 18 (fl 31 127) HT_ ?_
       refine ut 7 19 (fl 31 255) HT_ ?_
       refine ut 8 20 (fl 31 511) HT_ ?_
       refine pt 9 21 (fl 31 1023) HT_ ?_
       refine pt 10 22 (fl 31 2047) HT_ ?_
       refine ut 11 23 (fl 31 4095) HT_ ?_
       refine ut 12 24 (fl 31 8191) HT_ ?_
       refine ut 13 25 (fl 31 16383) HT_ ?_
       refine ut 14 26 (fl 31 32767) HT_ ?_
       refine pt 15 27 (fl 31 65535) HT_ ?_
       refine pt 16 28 (fl 31 131071) HT_ ?_
       refine ut 17 29 (fl 31 262143) HT_ ?_
       refine ut 18 30 (fl 31 524287) HT_ ?_
       refine ut 19 31 (fl 31 1048575) HT_ ?_
       refine ut 20 32 (fl 31 2097151) HT_ ?_
       refine ut 21 33 (fl 31 4194303) HT_ ?_
       refine ut 22 34 (fl 31 8388607) HT_ ?_
       refine ut 23 35 (fl 31 16777215) HT_ ?_
       refine ut 24 36 (fl 31 33554431) HT_ ?_
       refine ut 25 37 (fl 31 67108863) HT_ ?_
       refine ut 26 38 (fl 31 134217727) HT_ ?_
       refine ut 27 39 (fl 31 268435455) HT_ ?_
       refine ut 28 40 (fl 31 536870911) HT_ ?_
       refine ut 29 41 (fl 31 1073741823) HT_ ?_
       refine pt 30 42 (fl 31 2147483647) HT_ ?_
       refine done_ (done_of HT_.out (by kernel_rfl)) ?_
       try go_wp2
       go_ret
       exact ⟨by first|rfl|(simp [errW_none,errW_some] <;> rfl)|(simp [*,errW_none,errW_some] <;> rfl),be⟩
     ·rw [if_neg c4] at H
      exact absurd H (by simp)
    ·rw [if_neg c3] at H
     exact absurd H (by simp)
   ·rw [if_neg c2] at H
    have c2b0:decide (x7_1 < (l0.length:Int))=false:=decide_eq_false c2
    clear c2
    replace H:=Option.bind_eq_some_iff.mp H
    obtain ⟨t115,A400,H⟩:=H
    try dsimp only at H
    have A40:=aM A400
    clear A400
    obtain rfl:=Option.some.inj H
    go_wp2_with ((with_reducible refine gate_callee (f:=58) rfl ?_);refine goesL_ (some 46) rfl rfl Try.func58 (by kernel_rfl) rfl #[.int .i64 (l0.length:Int),.int .i64 1,.int .i64 12] rfl (by (try simp only [List.map_toArray,List.map_cons,List.map_nil]);first|done|rfl|(simp only [List.length_drop,List.length_take];rfl)) ?_;(with_reducible refine (impl_in.calls (l0.length:Int) 1 12 t115 _ A40.out).mono ?_);rintro e w' ⟨rfl,⟨nd,rfl⟩⟩;refine ⟨_,rfl,?_⟩)
    go_ret
    exact ⟨by first|rfl|(simp [errW_none,errW_some] <;> rfl)|(simp [*,errW_none,errW_some] <;> rfl),be⟩
end Go.Proofs.Ytpbjbfimnfghkaa.PFnExactRebalance
