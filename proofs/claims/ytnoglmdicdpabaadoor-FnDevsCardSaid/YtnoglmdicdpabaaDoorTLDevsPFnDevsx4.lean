/- Trimmed by a program of this session (trim.py). Not trusted: Lean checks it. -/
import Derived.Test.YtnoglmdicdpabaaDoorTLDevsPFnDevsx0
namespace Go.Proofs.YtnoglmdicdpabaaDoor.PFnDevs
open Go.RowKit Go.Proofs.YtnoglmdicdpabaaDoorW.PrintWords Go.Proofs.YtnoglmdicdpabaaDoorW.PrintLast Go.Proofs.YtnoglmdicdpabaaDoorW.PrintMore Go.Proofs.YtnoglmdicdpabaaDoor.St
attribute [local go_sem] max2_int min2_int max_two min_two max_three min_three max_four min_four
set_option linter.unusedVariables false
set_option linter.unusedSimpArgs false
def IsS87 (w0 W:World) (g:Nat) (f0:List Int) (f1:Int) (f2:Int):Prop:=∃ A0 c0,W.heap[g]?=some (.cells #[.slice A0 f0.length c0,.int .i64 f1,.int .i64 f2] 87 (0,0))∧w0.heap.size≤g∧Kd.C (Kd.int .u8) w0 A0 f0.length f0
theorem IsS87.grown {w0 W:World} {g:Nat} {f0:List Int} {f1:Int} {f2:Int} {W1:World} {row:Option Nat} (h:IsS87 w0 W g f0 f1 f2) (hw:W.grownBy W1 row) (hne:some g ≠ row):IsS87 w0 W1 g f0 f1 f2:=by
 obtain ⟨A0,c0,hb,hg,hr0⟩:=h
 exact ⟨A0,c0,blk_grown hb hw hne,hg,hr0⟩
theorem IsS87.kept {w0 W:World} {g:Nat} {f0:List Int} {f1:Int} {f2:Int} {W1:World} {S:Nat→Prop} (h:IsS87 w0 W g f0 f1 f2) (hk:Kept W W1 S) (hne : ¬ S g):IsS87 w0 W1 g f0 f1 f2:=by
 obtain ⟨A0,c0,hb,hg,hr0⟩:=h
 exact ⟨A0,c0,blk_kept hb hk hne,hg,hr0⟩
theorem IsS87.below {w0 W:World} {g:Nat} {f0:List Int} {f1:Int} {f2:Int} {W1:World} (h:IsS87 w0 W g f0 f1 f2) (hw:Below W.heap.size W W1):IsS87 w0 W1 g f0 f1 f2:=h.grown (grown_of_below hw none) (by simp)
theorem IsS87.alloc {w0 W:World} {g:Nat} {f0:List Int} {f1:Int} {f2:Int} (h:IsS87 w0 W g f0 f1 f2) (o:Obj):IsS87 w0 (W.alloc o) g f0 f1 f2:=h.below (below_alloc (Below.refl _ _) o)
theorem IsS87.drewN {w0 W:World} {g:Nat} {f0:List Int} {f1:Int} {f2:Int} (h:IsS87 w0 W g f0 f1 f2) (m:Nat):IsS87 w0 (W.drewN m) g f0 f1 f2:=h
theorem IsS87.drew {w0 W:World} {g:Nat} {f0:List Int} {f1:Int} {f2:Int} (h:IsS87 w0 W g f0 f1 f2):IsS87 w0 W.drew g f0 f1 f2:=h
theorem IsS87.apart {w0 W:World} {g:Nat} {f0:List Int} {f1:Int} {f2:Int} {α:Type} {d:Kd α} {e:Nat} {base:Nat} {ok:Nat→Prop} {v:Value} {xs:List α} (h:IsS87 w0 W g f0 f1 f2) (ho:d.R e W base ok v xs) (ht : ∀ q,q∈e :: d.E→q ≠ 87):d.R e W base (fun k=>ok k∧k ≠ g) v xs:=by
 obtain ⟨A0,c0,hb,hg,hr0⟩:=h
 exact Kd.R_types ho hb ht
theorem IsS87.own_ne {w0 W:World} {g:Nat} {f0:List Int} {f1:Int} {f2:Int} {α:Type} {d:Kd α} {e:Nat} {base:Nat} {ok:Nat→Prop} {v:Value} {xs:List α} (h:IsS87 w0 W g f0 f1 f2) (ho:d.R e W base ok v xs) (ht:e ≠ 87):some g ≠ v.ownBlock:=by
 obtain ⟨A0,c0,hb,hg,hr0⟩:=h
 exact Kd.R_ne ho hb ht
theorem IsS87.ge {w0 W:World} {g:Nat} {f0:List Int} {f1:Int} {f2:Int} (h:IsS87 w0 W g f0 f1 f2):w0.heap.size≤g:=by
 obtain ⟨A0,c0,hb,hg,hr0⟩:=h
 exact hg
theorem cellS87_0 {W:World} {g:Nat} {A0:Option Addr} {c0:Nat} {f0:List Int} {f1:Int} {f2:Int} (h:W.heap[g]?=some (.cells #[.slice A0 f0.length c0,.int .i64 f1,.int .i64 f2] 87 (0,0))):W.cell? ⟨g,0,none⟩=some (.slice A0 f0.length c0):=(blk_cell h 0).trans rfl
theorem cellS87_1 {W:World} {g:Nat} {A0:Option Addr} {c0:Nat} {f0:List Int} {f1:Int} {f2:Int} (h:W.heap[g]?=some (.cells #[.slice A0 f0.length c0,.int .i64 f1,.int .i64 f2] 87 (0,0))):W.cell? ⟨g,1,none⟩=some (.int .i64 f1):=(blk_cell h 1).trans rfl
theorem IsS87.set_1 {w0 W:World} {g:Nat} {f0:List Int} {f1:Int} {f2:Int} (h:IsS87 w0 W g f0 f1 f2) (x:Int):IsS87 w0 (W.setCell ⟨g,1,none⟩ (.int .i64 x)) g f0 x f2:=by
 obtain ⟨A0,c0,hb,hg,hr0⟩:=h
 exact ⟨A0,c0,by simpa using blk_set hb 1 (.int .i64 x),hg,hr0⟩
theorem cellS87_2 {W:World} {g:Nat} {A0:Option Addr} {c0:Nat} {f0:List Int} {f1:Int} {f2:Int} (h:W.heap[g]?=some (.cells #[.slice A0 f0.length c0,.int .i64 f1,.int .i64 f2] 87 (0,0))):W.cell? ⟨g,2,none⟩=some (.int .i64 f2):=(blk_cell h 2).trans rfl
theorem IsS87.set_2 {w0 W:World} {g:Nat} {f0:List Int} {f1:Int} {f2:Int} (h:IsS87 w0 W g f0 f1 f2) (x:Int):IsS87 w0 (W.setCell ⟨g,2,none⟩ (.int .i64 x)) g f0 f1 x:=by
 obtain ⟨A0,c0,hb,hg,hr0⟩:=h
 exact ⟨A0,c0,by simpa using blk_set hb 2 (.int .i64 x),hg,hr0⟩
def spec_l1New.l0:Nat→List Int→Int→Int→Option (List Int × Int × Int)
 | 0,_,_,_=>none
 | k+1,x0,x3,x4=>if x4 < (x0.length:Int) then (if x4 < 4000 then (if 0≤x4 then (spec_l1New.l0 k x0 (Go.bits .and .i64 (wrap64 ((wrap64 ((wrap64 (x3 * 137))+(wrap64 (rd x0 x4))))+11)) 1073741823) (wrap64 (x4+1))) else (none)) else (some (x0,0,x3))) else (some (x0,0,x3))
def spec_l1New.f (k:Nat) (l0:List Int):Option (List Int × Int × Int):=spec_l1New.l0 k l0 (wrap64 (378378+(l0.length:Int))) 0
set_option maxHeartbeats 8000000 in
set_option maxRecDepth 100000 in
theorem spec_l1New.calls (k:Nat) (A0:Option Addr) (c0:Nat) (l0:List Int) (r1:List Int) (r2:Int) (r3:Int) (w0 w:World) (hB:Below w0.heap.size w0 w) (hr0:Kd.C (Kd.int .u8) w0 A0 l0.length l0) (hc0:l0.length≤c0) (h:spec_l1New.f k l0=some (r1,r2,r3)) :
  Calls Tryd.prog 49 #[.slice A0 l0.length c0] w fun e w'=>∃ g_:Nat,e = .returned (.pointer (some ⟨g_,0,none⟩))∧IsS87 w0 w' g_ r1 r2 r3∧Below w0.heap.size w0 w' ∧ Below w.heap.size w w':=by
 have hu87:=Tryd.underlying87
 have HR0:=Aside0.mk hr0
 have HC0:=Aside0.mk hc0
 clear hr0 hc0
 have HBW:=Aside0.mk (Below.refl w.heap.size w)
 have HW0:=Aside0.mk hB.size
 have HB:=Aside0.mk hB
 clear hB
 have H:(spec_l1New.l0 k l0 (wrap64 (378378+(l0.length:Int))) 0)=some (r1,r2,r3):=h
 clear h
 have H':=Aside0.mk H
 clear H
 go_enter Tryd.func49,Tryd.ntmps49
 go_wp2
 go_loopg [3,4] k (fun kq v3 v4 w'=>∃ (x3_1:Int) (x4_1:Int),v3 = .int .i64 x3_1∧v4 = .int .i64 x4_1∧Aside0 (spec_l1New.l0 kq l0 x3_1 x4_1=some (r1,r2,r3))∧Aside0 (kq≤k)∧Aside0 (Below w0.heap.size w0 w')∧Aside0 (Below w.heap.size w w'))
 case atStart=>exact ⟨(wrap64 (378378+(l0.length:Int))),(0),rd_,rd_,H',⟨Nat.le_refl _⟩,⟨be⟩,⟨by repeat (first|(with_reducible first|exact HBW.out|apply below_alloc|apply pw_below_drewN|apply below_drew1)|exact HBW.out)⟩⟩
 case round=>
  clear H'
  obtain ⟨x3_1,x4_1,rfl,rfl,HA,HK1,HB,HBW⟩:=hrel
  cases gk with
  | zero=>exact absurd HA.out (by simp [spec_l1New.l0])
  | succ k1=>
   have H:=HA.out
   clear HA
   simp only [spec_l1New.l0] at H
   by_cases c2:x4_1 < (l0.length:Int)
   ·rw [if_pos c2] at H
    have c2b0:decide (x4_1 < (l0.length:Int))=true:=decide_eq_true c2
    clear c2
    by_cases c3:x4_1 < 4000
    ·rw [if_pos c3] at H
     have c3b0:decide (x4_1 < 4000)=true:=decide_eq_true c3
     clear c3
     by_cases c4:0≤x4_1
     ·rw [if_pos c4] at H
      have c4b0:decide (0≤x4_1)=true:=decide_eq_true c4
      clear c4
      have H':=Aside0.mk H
      clear H
      have p144:0≤(x4_1:Int):=of_decide_eq_true (by first|(with_reducible assumption)|assumption)
      have q144:x4_1 < (l0.length:Int):=of_decide_eq_true (by first|(with_reducible assumption)|assumption)
      obtain ⟨ad144,e144,hx144_0⟩:=Kd.at_int HR0.out x4_1 p144 q144
      cases e144
      replace hx144_0:=pw_cell_below HB.out hx144_0
      replace p144:=eq_true p144
      replace q144:=eq_true q144
      go_wp2
      go_roundg k1
      case measure=>have:=HK1.out;omega
      case rel=>exact ⟨(Go.bits .and .i64 (wrap64 ((wrap64 ((wrap64 (x3_1 * 137))+(wrap64 (rd l0 x4_1))))+11)) 1073741823),(wrap64 (x4_1+1)),rd_,rd_,H',⟨by have:=HK1.out;omega⟩,⟨be⟩,⟨by repeat (first|(with_reducible first|exact HBW.out|apply below_alloc|apply pw_below_drewN|apply below_drew1)|exact HBW.out)⟩⟩
     ·rw [if_neg c4] at H
      exact absurd H (by simp)
    ·rw [if_neg c3] at H
     have c3b0:decide (x4_1 < 4000)=false:=decide_eq_false c3
     clear c3
     simp only [Option.some.injEq,Prod.mk.injEq] at H
     obtain ⟨rfl,rfl,rfl⟩:=H
     go_wp2_with (first|((with_reducible refine gate_dst (N:=31) rfl ?_);refine box_event ?hg (N:=31) ?hd (cs:=#[.slice A0 l0.length c0,.int .i64 0,.int .i64 x3_1]) (t:=87) ?hr ?_;(case hd=>rfl);(case hg=>rfl);(case hr=>first|(go_simp;done)|(go_simp;rfl));intro gb145 hg w5 hbox hb;have n0_:=Aside0.mk (below_step HBW.out hb);have n1_:=bs (w:=w0) hb;have n2_:=Aside0.mk (hbox);have n3_:=Aside0.mk ((by rw [hg];exact (below_size (by repeat (first|(with_reducible first|exact HBW.out|apply below_alloc|apply pw_below_drewN|apply below_drew1)|exact HBW.out))):w.heap.size≤gb145));have n4_:=Aside0.mk ((Nat.le_trans HW0.out (by rw [hg];exact (below_size (by repeat (first|(with_reducible first|exact HBW.out|apply below_alloc|apply pw_below_drewN|apply below_drew1)|exact HBW.out))):w.heap.size≤gb145):w0.heap.size≤gb145));clear HBW;clear HB;have HBW:=n0_;have HB:=n1_;have BK145:=n2_;have GW145:=n3_;have GE145:=n4_;clear n0_ n1_ n2_ n3_ n4_;clear hb hbox hg))
     go_ret
     exact ⟨_,rfl,(show IsS87 w0 _ gb145 l0 0 x3_1 from ⟨_,_,bk BK145,GE145.out,HR0.out⟩),be,by repeat (first|(with_reducible first|exact HBW.out|apply below_alloc|apply pw_below_drewN|apply below_drew1|refine below_set ?_ GW145.out)|exact HBW.out)⟩
   ·rw [if_neg c2] at H
    have c2b0:decide (x4_1 < (l0.length:Int))=false:=decide_eq_false c2
    clear c2
    simp only [Option.some.injEq,Prod.mk.injEq] at H
    obtain ⟨rfl,rfl,rfl⟩:=H
    go_wp2_with (first|((with_reducible refine gate_dst (N:=31) rfl ?_);refine box_event ?hg (N:=31) ?hd (cs:=#[.slice A0 l0.length c0,.int .i64 0,.int .i64 x3_1]) (t:=87) ?hr ?_;(case hd=>rfl);(case hg=>rfl);(case hr=>first|(go_simp;done)|(go_simp;rfl));intro gb146 hg w6 hbox hb;have n0_:=Aside0.mk (below_step HBW.out hb);have n1_:=bs (w:=w0) hb;have n2_:=Aside0.mk (hbox);have n3_:=Aside0.mk ((by rw [hg];exact (below_size (by repeat (first|(with_reducible first|exact HBW.out|apply below_alloc|apply pw_below_drewN|apply below_drew1)|exact HBW.out))):w.heap.size≤gb146));have n4_:=Aside0.mk ((Nat.le_trans HW0.out (by rw [hg];exact (below_size (by repeat (first|(with_reducible first|exact HBW.out|apply below_alloc|apply pw_below_drewN|apply below_drew1)|exact HBW.out))):w.heap.size≤gb146):w0.heap.size≤gb146));clear HBW;clear HB;have HBW:=n0_;have HB:=n1_;have BK146:=n2_;have GW146:=n3_;have GE146:=n4_;clear n0_ n1_ n2_ n3_ n4_;clear hb hbox hg))
    go_ret
    exact ⟨_,rfl,(show IsS87 w0 _ gb146 l0 0 x3_1 from ⟨_,_,bk BK146,GE146.out,HR0.out⟩),be,by repeat (first|(with_reducible first|exact HBW.out|apply below_alloc|apply pw_below_drewN|apply below_drew1|refine below_set ?_ GW146.out)|exact HBW.out)⟩
def spec_l1Byte.f (s0_0:List Int) (s0_1:Int) (s0_2:Int):Option (Int × Int × Int):=if s0_1 < (s0_0.length:Int) then (if 0≤s0_1 then (some (Go.bits .and .i64 (wrap64 ((Go.bits .and .i64 (Go.bits .xor .i64 ((wrap64 ((wrap64 (s0_2 * 6364136223846793005))+1442695040888963407)) / 8589934592) ((wrap64 ((wrap64 (s0_2 * 6364136223846793005))+1442695040888963407)) / 140737488355328)) 255)+(wrap64 (rd s0_0 s0_1)))) 255,wrap64 (s0_1+1),wrap64 ((wrap64 (s0_2 * 6364136223846793005))+1442695040888963407))) else (none)) else (some (Go.bits .and .i64 (Go.bits .xor .i64 ((wrap64 ((wrap64 (s0_2 * 6364136223846793005))+1442695040888963407)) / 8589934592) ((wrap64 ((wrap64 (s0_2 * 6364136223846793005))+1442695040888963407)) / 140737488355328)) 255,s0_1,wrap64 ((wrap64 (s0_2 * 6364136223846793005))+1442695040888963407)))
set_option maxHeartbeats 8000000 in
set_option maxRecDepth 100000 in
theorem spec_l1Byte.calls (g:Nat) (s0_0:List Int) (s0_1:Int) (s0_2:Int) (r1:Int) (r2:Int) (r3:Int) (w0 w:World) (hI:IsS87 w0 w g s0_0 s0_1 s0_2) (hB:Below w0.heap.size w0 w) (h:spec_l1Byte.f s0_0 s0_1 s0_2=some (r1,r2,r3)) :
  Calls Tryd.prog 69 #[.pointer (some ⟨g,0,none⟩)] w fun e w'=>e = .returned (.int .i64 r1)∧IsS87 w0 w' g s0_0 r2 r3∧Below w0.heap.size w0 w' ∧ KeepBut w w' g none:=by
 have HI0:=Aside0.mk hI
 have HK:=Aside0.mk (KeepBut.refl w g none)
 have HL:=Aside0.mk hB.size
 clear hI
 have HW0:=Aside0.mk hB.size
 have HB:=Aside0.mk hB
 clear hB
 have H:(if s0_1 < (s0_0.length:Int) then (if 0≤s0_1 then (some (Go.bits .and .i64 (wrap64 ((Go.bits .and .i64 (Go.bits .xor .i64 ((wrap64 ((wrap64 (s0_2 * 6364136223846793005))+1442695040888963407)) / 8589934592) ((wrap64 ((wrap64 (s0_2 * 6364136223846793005))+1442695040888963407)) / 140737488355328)) 255)+(wrap64 (rd s0_0 s0_1)))) 255,wrap64 (s0_1+1),wrap64 ((wrap64 (s0_2 * 6364136223846793005))+1442695040888963407))) else (none)) else (some (Go.bits .and .i64 (Go.bits .xor .i64 ((wrap64 ((wrap64 (s0_2 * 6364136223846793005))+1442695040888963407)) / 8589934592) ((wrap64 ((wrap64 (s0_2 * 6364136223846793005))+1442695040888963407)) / 140737488355328)) 255,s0_1,wrap64 ((wrap64 (s0_2 * 6364136223846793005))+1442695040888963407))))=some (r1,r2,r3):=h
 clear h
 by_cases c2:s0_1 < (s0_0.length:Int)
 ·rw [if_pos c2] at H
  have c2b0:decide (s0_1 < (s0_0.length:Int))=true:=decide_eq_true c2
  clear c2
  by_cases c3:0≤s0_1
  ·rw [if_pos c3] at H
   have c3b0:decide (0≤s0_1)=true:=decide_eq_true c3
   clear c3
   simp only [Option.some.injEq,Prod.mk.injEq] at H
   obtain ⟨rfl,rfl,rfl⟩:=H
   obtain ⟨ASz4_0,cSz4_0,HGz4,hgz4,HSz4_0⟩:=HI0.out
   have hcz4_0:=cellS87_0 HGz4
   have hcz4_1:=cellS87_1 HGz4
   have hcz4_2:=cellS87_2 HGz4
   have hfz4_1:=blk_frozen HGz4 1
   have hfz4_2:=blk_frozen HGz4 2
   clear HGz4 hgz4
   have p147:0≤(s0_1:Int):=of_decide_eq_true (by first|(with_reducible assumption)|assumption)
   have q147:s0_1 < (s0_0.length:Int):=of_decide_eq_true (by first|(with_reducible assumption)|assumption)
   obtain ⟨ad147,e147,hx147_0⟩:=Kd.at_int HSz4_0 s0_1 p147 q147
   cases e147
   have hn147_0:ad147.block ≠ g:=Nat.ne_of_lt (Nat.lt_of_lt_of_le (by have:=World.block_lt_of_cell? _ _ hx147_0;first|rwa [add_block] at this|exact this) (IsS87.ge HI0.out))
   replace hx147_0:=pw_cell_below HB.out hx147_0
   replace hx147_0:=(cell_far (p:=⟨g,2,none⟩) (by first|(rw [add_block];exact hn147_0)|(show (Addr.add _ _).block ≠ _;rw [add_block];exact hn147_0)|exact hn147_0) (.int .i64 (wrap64 ((wrap64 (s0_2 * 6364136223846793005))+1442695040888963407)))).trans hx147_0
   (try have hy147_0:=fun (n_:Nat)=>(show (((w.drewN n_).setCell ⟨g,2,none⟩ (.int .i64 (wrap64 ((wrap64 (s0_2 * 6364136223846793005))+1442695040888963407))))).cell? _=some _ from hx147_0))
   clear hn147_0
   replace p147:=eq_true p147
   replace q147:=eq_true q147
   go_enter Tryd.func69,Tryd.ntmps69
   go_wp2
   repeat (go_quiet (fail);try go_wp2)
   go_ret
   exact ⟨rz,by repeat (first|(with_reducible first|exact HI0.out|apply IsS87.alloc|apply IsS87.drewN|apply IsS87.drew|apply IsS87.set_1|apply IsS87.set_2)|exact HI0.out),by repeat (first|(with_reducible first|exact HB.out|apply below_alloc|apply pw_below_drewN|apply below_drew1|refine below_set ?_ (IsS87.ge HI0.out))|exact HB.out),by repeat (first|(with_reducible first|exact HK.out|apply KeepBut.set_|apply keep_drewN|apply keep_drew|apply keep_alloc)|exact HK.out)⟩
  ·rw [if_neg c3] at H
   exact absurd H (by simp)
 ·rw [if_neg c2] at H
  have c2b0:decide (s0_1 < (s0_0.length:Int))=false:=decide_eq_false c2
  clear c2
  simp only [Option.some.injEq,Prod.mk.injEq] at H
  obtain ⟨rfl,rfl,rfl⟩:=H
  obtain ⟨ASz5_0,cSz5_0,HGz5,hgz5,HSz5_0⟩:=HI0.out
  have hcz5_0:=cellS87_0 HGz5
  have hcz5_1:=cellS87_1 HGz5
  have hcz5_2:=cellS87_2 HGz5
  have hfz5_1:=blk_frozen HGz5 1
  have hfz5_2:=blk_frozen HGz5 2
  clear HGz5 hgz5
  go_enter Tryd.func69,Tryd.ntmps69
  go_wp2
  repeat (go_quiet (fail);try go_wp2)
  go_ret
  exact ⟨rz,by repeat (first|(with_reducible first|exact HI0.out|apply IsS87.alloc|apply IsS87.drewN|apply IsS87.drew|apply IsS87.set_1|apply IsS87.set_2)|exact HI0.out),by repeat (first|(with_reducible first|exact HB.out|apply below_alloc|apply pw_below_drewN|apply below_drew1|refine below_set ?_ (IsS87.ge HI0.out))|exact HB.out),by repeat (first|(with_reducible first|exact HK.out|apply KeepBut.set_|apply keep_drewN|apply keep_drew|apply keep_alloc)|exact HK.out)⟩
def spec_l1Below.f (s0_0:List Int) (s0_1:Int) (s0_2:Int) (a1:Int):Option (Int × Int × Int):=if a1≤0 then (some (0,s0_1,s0_2)) else (if a1≤256 then ((spec_l1Byte.f s0_0 s0_1 s0_2).bind fun bt148=>(if a1=0 then (none) else (some (Int.tmod bt148.1 a1,bt148.2.1,bt148.2.2)))) else ((spec_l1Byte.f s0_0 s0_1 s0_2).bind fun bt151=>((spec_l1Byte.f s0_0 bt151.2.1 bt151.2.2).bind fun bt154=>((spec_l1Byte.f s0_0 bt154.2.1 bt154.2.2).bind fun bt157=>(if a1=0 then (none) else (some (Int.tmod (wrap64 ((wrap64 ((wrap64 (bt151.1 * 65536))+(wrap64 (bt154.1 * 256))))+bt157.1)) a1,bt157.2.1,bt157.2.2)))))))
set_option maxHeartbeats 8000000 in
set_option maxRecDepth 100000 in
theorem spec_l1Below.calls (g:Nat) (s0_0:List Int) (s0_1:Int) (s0_2:Int) (a1:Int) (r1:Int) (r2:Int) (r3:Int) (w0 w:World) (hI:IsS87 w0 w g s0_0 s0_1 s0_2) (hB:Below w0.heap.size w0 w) (h:spec_l1Below.f s0_0 s0_1 s0_2 a1=some (r1,r2,r3)) :
  Calls Tryd.prog 58 #[.pointer (some ⟨g,0,none⟩),.int .i64 a1] w fun e w'=>e = .returned (.int .i64 r1)∧IsS87 w0 w' g s0_0 r2 r3∧Below w0.heap.size w0 w' ∧ KeepBut w w' g none:=by
 have HI0:=Aside0.mk hI
 have HK:=Aside0.mk (KeepBut.refl w g none)
 have HL:=Aside0.mk hB.size
 clear hI
 have HW0:=Aside0.mk hB.size
 have HB:=Aside0.mk hB
 clear hB
 have H:(if a1≤0 then (some (0,s0_1,s0_2)) else (if a1≤256 then ((spec_l1Byte.f s0_0 s0_1 s0_2).bind fun bt148=>(if a1=0 then (none) else (some (Int.tmod bt148.1 a1,bt148.2.1,bt148.2.2)))) else ((spec_l1Byte.f s0_0 s0_1 s0_2).bind fun bt151=>((spec_l1Byte.f s0_0 bt151.2.1 bt151.2.2).bind fun bt154=>((spec_l1Byte.f s0_0 bt154.2.1 bt154.2.2).bind fun bt157=>(if a1=0 then (none) else (some (Int.tmod (wrap64 ((wrap64 ((wrap64 (bt151.1 * 65536))+(wrap64 (bt154.1 * 256))))+bt157.1)) a1,bt157.2.1,bt157.2.2))))))))=some (r1,r2,r3):=h
 clear h
 by_cases c3:a1≤0
 ·rw [if_pos c3] at H
  have c3b0:decide (a1≤0)=true:=decide_eq_true c3
  clear c3
  simp only [Option.some.injEq,Prod.mk.injEq] at H
  obtain ⟨rfl,rfl,rfl⟩:=H
  go_enter Tryd.func58,Tryd.ntmps58
  go_wp2
  go_ret
  exact ⟨rz,by repeat (first|(with_reducible first|exact HI0.out|apply IsS87.alloc|apply IsS87.drewN|apply IsS87.drew|apply IsS87.set_1|apply IsS87.set_2)|exact HI0.out),by repeat (first|(with_reducible first|exact HB.out|apply below_alloc|apply pw_below_drewN|apply below_drew1|refine below_set ?_ (IsS87.ge HI0.out))|exact HB.out),by repeat (first|(with_reducible first|exact HK.out|apply KeepBut.set_|apply keep_drewN|apply keep_drew|apply keep_alloc)|exact HK.out)⟩
 ·rw [if_neg c3] at H
  have c3b0:decide (a1≤0)=false:=decide_eq_false c3
  clear c3
  by_cases c4:a1≤256
  ·rw [if_pos c4] at H
   have c4b0:decide (a1≤256)=true:=decide_eq_true c4
   clear c4
   replace H:=Option.bind_eq_some_iff.mp H
   obtain ⟨⟨t148,t149,t150⟩,A50,H⟩:=H
   try dsimp only at H
   have A5:=Aside0.mk A50
   clear A50
   by_cases c6:a1=0
   ·rw [if_pos c6] at H
    exact absurd H (by simp)
   ·rw [if_neg c6] at H
    have c6b0:(a1 == 0)=false:=beq_eq_false_iff_ne.mpr c6
    have c6b1:(a1 != 0)=true:=bne_iff_ne.mpr c6
    simp only [Option.some.injEq,Prod.mk.injEq] at H
    obtain ⟨rfl,rfl,rfl⟩:=H
    go_enter Tryd.func58,Tryd.ntmps58
    go_wp2_with (first|((with_reducible refine gate_callee (f:=69) rfl ?_);refine goesL_ (some 13) rfl rfl Tryd.func69 (by kernel_rfl) rfl #[.pointer (some ⟨g,0,none⟩)] rfl (by (try simp only [List.map_toArray,List.map_cons,List.map_nil]);first|done|rfl|(simp only [List.length_drop,List.length_take];rfl)) ?_;(with_reducible refine (spec_l1Byte.calls g s0_0 s0_1 s0_2 t148 t149 t150 w0 _ ?side1 ?side2 A5.out).mono ?_);(case side1=>repeat (first|(with_reducible first|exact HI0.out|apply IsS87.alloc|apply IsS87.drewN|apply IsS87.drew|apply IsS87.set_1|apply IsS87.set_2)|exact HI0.out));(case side2=>repeat (first|(with_reducible first|exact HB.out|apply below_alloc|apply pw_below_drewN|apply below_drew1|refine below_set ?_ (IsS87.ge HI0.out))|exact HB.out));rintro e w7 ⟨rfl,hi,hb,hk⟩;refine ⟨_,rfl,?_⟩;have n0_:=Aside0.mk (KeepBut.trans (by repeat (first|(with_reducible first|exact HK.out|apply KeepBut.set_|apply keep_drewN|apply keep_drew|apply keep_alloc)|exact HK.out)) hk (.inl rfl));have n1_:=Aside0.mk (hb);have n2_:=Aside0.mk (hi);clear HK;clear HB;clear HI0;have HK:=n0_;have HB:=n1_;have HI0:=n2_;clear n0_ n1_ n2_;(try clear hb);(try clear hb2);(try clear hk);(try clear hi)))
    go_ret
    exact ⟨rz,by repeat (first|(with_reducible first|exact HI0.out|apply IsS87.alloc|apply IsS87.drewN|apply IsS87.drew|apply IsS87.set_1|apply IsS87.set_2)|exact HI0.out),by repeat (first|(with_reducible first|exact HB.out|apply below_alloc|apply pw_below_drewN|apply below_drew1|refine below_set ?_ (IsS87.ge HI0.out))|exact HB.out),by repeat (first|(with_reducible first|exact HK.out|apply KeepBut.set_|apply keep_drewN|apply keep_drew|apply keep_alloc)|exact HK.out)⟩
  ·rw [if_neg c4] at H
   have c4b0:decide (a1≤256)=false:=decide_eq_false c4
   clear c4
   replace H:=Option.bind_eq_some_iff.mp H
   obtain ⟨⟨t151,t152,t153⟩,A80,H⟩:=H
   try dsimp only at H
   have A8:=Aside0.mk A80
   clear A80
   replace H:=Option.bind_eq_some_iff.mp H
   obtain ⟨⟨t154,t155,t156⟩,A90,H⟩:=H
   try dsimp only at H
   have A9:=Aside0.mk A90
   clear A90
   replace H:=Option.bind_eq_some_iff.mp H
   obtain ⟨⟨t157,t158,t159⟩,A100,H⟩:=H
   try dsimp only at H
   have A10:=Aside0.mk A100
   clear A100
   by_cases c11:a1=0
   ·rw [if_pos c11] at H
    exact absurd H (by simp)
   ·rw [if_neg c11] at H
    have c11b0:(a1 == 0)=false:=beq_eq_false_iff_ne.mpr c11
    have c11b1:(a1 != 0)=true:=bne_iff_ne.mpr c11
    simp only [Option.some.injEq,Prod.mk.injEq] at H
    obtain ⟨rfl,rfl,rfl⟩:=H
    go_enter Tryd.func58,Tryd.ntmps58
    go_wp2_with (first|((with_reducible refine gate_callee (f:=69) rfl ?_);refine goesL_ (some 17) rfl rfl Tryd.func69 (by kernel_rfl) rfl #[.pointer (some ⟨g,0,none⟩)] rfl (by (try simp only [List.map_toArray,List.map_cons,List.map_nil]);first|done|rfl|(simp only [List.length_drop,List.length_take];rfl)) ?_;(with_reducible refine (spec_l1Byte.calls g s0_0 s0_1 s0_2 t151 t152 t153 w0 _ ?side1 ?side2 A8.out).mono ?_);(case side1=>repeat (first|(with_reducible first|exact HI0.out|apply IsS87.alloc|apply IsS87.drewN|apply IsS87.drew|apply IsS87.set_1|apply IsS87.set_2)|exact HI0.out));(case side2=>repeat (first|(with_reducible first|exact HB.out|apply below_alloc|apply pw_below_drewN|apply below_drew1|refine below_set ?_ (IsS87.ge HI0.out))|exact HB.out));rintro e w12 ⟨rfl,hi,hb,hk⟩;refine ⟨_,rfl,?_⟩;have n0_:=Aside0.mk (KeepBut.trans (by repeat (first|(with_reducible first|exact HK.out|apply KeepBut.set_|apply keep_drewN|apply keep_drew|apply keep_alloc)|exact HK.out)) hk (.inl rfl));have n1_:=Aside0.mk (hb);have n2_:=Aside0.mk (hi);clear HK;clear HB;clear HI0;have HK:=n0_;have HB:=n1_;have HI0:=n2_;clear n0_ n1_ n2_;(try clear hb);(try clear hb2);(try clear hk);(try clear hi))|((with_reducible refine gate_callee (f:=69) rfl ?_);refine goesL_ (some 19) rfl rfl Tryd.func69 (by kernel_rfl) rfl #[.pointer (some ⟨g,0,none⟩)] rfl (by (try simp only [List.map_toArray,List.map_cons,List.map_nil]);first|done|rfl|(simp only [List.length_drop,List.length_take];rfl)) ?_;(with_reducible refine (spec_l1Byte.calls g s0_0 t152 t153 t154 t155 t156 w0 _ ?side1 ?side2 A9.out).mono ?_);(case side1=>repeat (first|(with_reducible first|exact HI0.out|apply IsS87.alloc|apply IsS87.drewN|apply IsS87.drew|apply IsS87.set_1|apply IsS87.set_2)|exact HI0.out));(case side2=>repeat (first|(with_reducible first|exact HB.out|apply below_alloc|apply pw_below_drewN|apply below_drew1|refine below_set ?_ (IsS87.ge HI0.out))|exact HB.out));rintro e w13 ⟨rfl,hi,hb,hk⟩;refine ⟨_,rfl,?_⟩;have n0_:=Aside0.mk (KeepBut.trans (by repeat (first|(with_reducible first|exact HK.out|apply KeepBut.set_|apply keep_drewN|apply keep_drew|apply keep_alloc)|exact HK.out)) hk (.inl rfl));have n1_:=Aside0.mk (hb);have n2_:=Aside0.mk (hi);clear HK;clear HB;clear HI0;have HK:=n0_;have HB:=n1_;have HI0:=n2_;clear n0_ n1_ n2_;(try clear hb);(try clear hb2);(try clear hk);(try clear hi))|((with_reducible refine gate_callee (f:=69) rfl ?_);refine goesL_ (some 21) rfl rfl Tryd.func69 (by kernel_rfl) rfl #[.pointer (some ⟨g,0,none⟩)] rfl (by (try simp only [List.map_toArray,List.map_cons,List.map_nil]);first|done|rfl|(simp only [List.length_drop,List.length_take];rfl)) ?_;(with_reducible refine (spec_l1Byte.calls g s0_0 t155 t156 t157 t158 t159 w0 _ ?side1 ?side2 A10.out).mono ?_);(case side1=>repeat (first|(with_reducible first|exact HI0.out|apply IsS87.alloc|apply IsS87.drewN|apply IsS87.drew|apply IsS87.set_1|apply IsS87.set_2)|exact HI0.out));(case side2=>repeat (first|(with_reducible first|exact HB.out|apply below_alloc|apply pw_below_drewN|apply below_drew1|refine below_set ?_ (IsS87.ge HI0.out))|exact HB.out));rintro e w14 ⟨rfl,hi,hb,hk⟩;refine ⟨_,rfl,?_⟩;have n0_:=Aside0.mk (KeepBut.trans (by repeat (first|(with_reducible first|exact HK.out|apply KeepBut.set_|apply keep_drewN|apply keep_drew|apply keep_alloc)|exact HK.out)) hk (.inl rfl));have n1_:=Aside0.mk (hb);have n2_:=Aside0.mk (hi);clear HK;clear HB;clear HI0;have HK:=n0_;have HB:=n1_;have HI0:=n2_;clear n0_ n1_ n2_;(try clear hb);(try clear hb2);(try clear hk);(try clear hi)))
    go_ret
    exact ⟨rz,by repeat (first|(with_reducible first|exact HI0.out|apply IsS87.alloc|apply IsS87.drewN|apply IsS87.drew|apply IsS87.set_1|apply IsS87.set_2)|exact HI0.out),by repeat (first|(with_reducible first|exact HB.out|apply below_alloc|apply pw_below_drewN|apply below_drew1|refine below_set ?_ (IsS87.ge HI0.out))|exact HB.out),by repeat (first|(with_reducible first|exact HK.out|apply KeepBut.set_|apply keep_drewN|apply keep_drew|apply keep_alloc)|exact HK.out)⟩
def spec_l1Int.f (s0_0:List Int) (s0_1:Int) (s0_2:Int) (l1:List Int):Option (Int × Int × Int):=(spec_l1Below.f s0_0 s0_1 s0_2 (l1.length:Int)).bind fun bt160=>(if 0≤bt160.1 then (if bt160.1 < (l1.length:Int) then (some (rd l1 bt160.1,bt160.2.1,bt160.2.2)) else (none)) else (none))
set_option maxHeartbeats 8000000 in
set_option maxRecDepth 100000 in
theorem spec_l1Int.calls (g:Nat) (s0_0:List Int) (s0_1:Int) (s0_2:Int) (A1:Option Addr) (c1:Nat) (l1:List Int) (r1:Int) (r2:Int) (r3:Int) (w0 w:World) (hI:IsS87 w0 w g s0_0 s0_1 s0_2) (hB:Below w0.heap.size w0 w) (hr1:Kd.C (Kd.int .i64) w A1 l1.length l1) (hc1:l1.length≤c1) (hf1 : ∀ ad,A1=some ad→0 < l1.length→ad.block ≠ g) (h:spec_l1Int.f s0_0 s0_1 s0_2 l1=some (r1,r2,r3)) :
  Calls Tryd.prog 67 #[.pointer (some ⟨g,0,none⟩),.slice A1 l1.length c1] w fun e w'=>e = .returned (.int .i64 r1)∧IsS87 w0 w' g s0_0 r2 r3∧Below w0.heap.size w0 w' ∧ KeepBut w w' g none:=by
 have HR1:=Aside0.mk hr1
 have HC1:=Aside0.mk hc1
 clear hr1 hc1
 have HI0:=Aside0.mk hI
 have HK:=Aside0.mk (KeepBut.refl w g none)
 have HL:=Aside0.mk hB.size
 clear hI
 have HW0:=Aside0.mk hB.size
 have HB:=Aside0.mk hB
 clear hB
 have H:((spec_l1Below.f s0_0 s0_1 s0_2 (l1.length:Int)).bind fun bt160=>(if 0≤bt160.1 then (if bt160.1 < (l1.length:Int) then (some (rd l1 bt160.1,bt160.2.1,bt160.2.2)) else (none)) else (none)))=some (r1,r2,r3):=h
 clear h
 replace H:=Option.bind_eq_some_iff.mp H
 obtain ⟨⟨t160,t161,t162⟩,A30,H⟩:=H
 try dsimp only at H
 have A3:=Aside0.mk A30
 clear A30
 by_cases c4:0≤t160
 ·rw [if_pos c4] at H
  have c4b0:decide (0≤t160)=true:=decide_eq_true c4
  clear c4
  by_cases c5:t160 < (l1.length:Int)
  ·rw [if_pos c5] at H
   have c5b0:decide (t160 < (l1.length:Int))=true:=decide_eq_true c5
   clear c5
   simp only [Option.some.injEq,Prod.mk.injEq] at H
   obtain ⟨rfl,rfl,rfl⟩:=H
   go_enter Tryd.func67,Tryd.ntmps67
   go_wp2_with (first|((with_reducible refine gate_callee (f:=58) rfl ?_);refine goesL_ (some 9) rfl rfl Tryd.func58 (by kernel_rfl) rfl #[.pointer (some ⟨g,0,none⟩),.int .i64 (l1.length:Int)] rfl (by (try simp only [List.map_toArray,List.map_cons,List.map_nil]);first|done|rfl|(simp only [List.length_drop,List.length_take];rfl)) ?_;(with_reducible refine (spec_l1Below.calls g s0_0 s0_1 s0_2 (l1.length:Int) t160 t161 t162 w0 _ ?side1 ?side2 A3.out).mono ?_);(case side1=>repeat (first|(with_reducible first|exact HI0.out|apply IsS87.alloc|apply IsS87.drewN|apply IsS87.drew|apply IsS87.set_1|apply IsS87.set_2)|exact HI0.out));(case side2=>repeat (first|(with_reducible first|exact HB.out|apply below_alloc|apply pw_below_drewN|apply below_drew1|refine below_set ?_ (IsS87.ge HI0.out))|exact HB.out));rintro e w6 ⟨rfl,hi,hb,hk⟩;refine ⟨_,rfl,?_⟩;have n0_:=Aside0.mk (KeepBut.trans (by repeat (first|(with_reducible first|exact HK.out|apply KeepBut.set_|apply keep_drewN|apply keep_drew|apply keep_alloc)|exact HK.out)) hk (.inl rfl));have n1_:=Aside0.mk (hb);have n2_:=Aside0.mk (hi);clear HK;clear HB;clear HI0;have HK:=n0_;have HB:=n1_;have HI0:=n2_;clear n0_ n1_ n2_;(try clear hb);(try clear hb2);(try clear hk);(try clear hi);have p163:0≤(t160:Int):=of_decide_eq_true (by first|(with_reducible assumption)|assumption);have q163:t160 < (l1.length:Int):=of_decide_eq_true (by first|(with_reducible assumption)|assumption);obtain ⟨ad163,e163,hx163_0⟩:=Kd.at_int HR1.out t160 p163 q163;cases e163;replace hx163_0:=keep_cell HK.out hx163_0 (by first|(rw [add_block];exact hf1 _ rfl (by omega))|exact hf1 _ rfl (by omega)|exact hf1 ad163 rfl (by omega));replace p163:=eq_true p163;replace q163:=eq_true q163))
   go_ret
   exact ⟨rz,by repeat (first|(with_reducible first|exact HI0.out|apply IsS87.alloc|apply IsS87.drewN|apply IsS87.drew|apply IsS87.set_1|apply IsS87.set_2)|exact HI0.out),by repeat (first|(with_reducible first|exact HB.out|apply below_alloc|apply pw_below_drewN|apply below_drew1|refine below_set ?_ (IsS87.ge HI0.out))|exact HB.out),by repeat (first|(with_reducible first|exact HK.out|apply KeepBut.set_|apply keep_drewN|apply keep_drew|apply keep_alloc)|exact HK.out)⟩
  ·rw [if_neg c5] at H
   exact absurd H (by simp)
 ·rw [if_neg c4] at H
  exact absurd H (by simp)
def spec_l4Draw.l0:Nat→List (S53)→Int→Int→Int→List Int→Int→Int→Option ((List (S53)) × Int × Int)
 | 0,_,_,_,_,_,_,_=>none
 | k+1,x3,x4,x5,x6,x1000,x1001,x1002=>if x6 > 0 then ((spec_l1Int.f x1000 x1001 x1002 (([1,1,2]:List Int))).bind fun bt176=>((spec_l1Below.f x1000 bt176.2.1 bt176.2.2 x4).bind fun bt179=>((spec_l1Int.f x1000 bt179.2.1 bt179.2.2 (([1,1,1,2,10,100]:List Int))).bind fun bt185=>(if x3.length < 5864062014805 then (spec_l4Draw.l0 k (x3 ++ [(⟨wrap64 (x5+bt176.1),bt179.1,bt185.1⟩:S53)]) x4 (wrap64 (x5+bt176.1)) (wrap64 (x6 - 1)) x1000 bt185.2.1 bt185.2.2) else (none))))) else (some (x3,x1001,x1002))
def spec_l4Draw.f (k:Nat) (s0_0:List Int) (s0_1:Int) (s0_2:Int):Option ((List (S53)) × Int × Int):=(spec_l1Below.f s0_0 s0_1 s0_2 4).bind fun bt167=>((spec_l1Below.f s0_0 bt167.2.1 bt167.2.2 5).bind fun bt170=>(spec_l4Draw.l0 k (([]:List (S53))) (wrap64 (1+bt167.1)) 0 (wrap64 (2+bt170.1)) s0_0 bt170.2.1 bt170.2.2))
set_option maxHeartbeats 8000000 in
set_option maxRecDepth 100000 in
theorem spec_l4Draw.calls (k:Nat) (g:Nat) (s0_0:List Int) (s0_1:Int) (s0_2:Int) (r1:List (S53)) (r2:Int) (r3:Int) (w0 w:World) (hI:IsS87 w0 w g s0_0 s0_1 s0_2) (hB:Below w0.heap.size w0 w) (h:spec_l4Draw.f k s0_0 s0_1 s0_2=some (r1,r2,r3)) :
  Calls Tryd.prog 57 #[.pointer (some ⟨g,0,none⟩)] w fun e w'=>∃ v0_:Value,e = .returned (v0_)∧Kd.R k53 53 w' w.heap.size (fun _=>True) v0_ r1∧IsS87 w0 w' g s0_0 r2 r3∧Below w0.heap.size w0 w' ∧ KeepBut w w' g none:=by
 have hu53:=Tryd.underlying53
 have HI0:=Aside0.mk hI
 have HK:=Aside0.mk (KeepBut.refl w g none)
 have HL:=Aside0.mk hB.size
 clear hI
 have HW0:=Aside0.mk hB.size
 have HB:=Aside0.mk hB
 clear hB
 have H:((spec_l1Below.f s0_0 s0_1 s0_2 4).bind fun bt167=>((spec_l1Below.f s0_0 bt167.2.1 bt167.2.2 5).bind fun bt170=>(spec_l4Draw.l0 k (([]:List (S53))) (wrap64 (1+bt167.1)) 0 (wrap64 (2+bt170.1)) s0_0 bt170.2.1 bt170.2.2)))=some (r1,r2,r3):=h
 clear h
 obtain ⟨y164,hy164⟩ : ∃ y_:List (S53),y_=(([]:List (S53))):=⟨_,rfl⟩
 replace H:((spec_l1Below.f s0_0 s0_1 s0_2 4).bind fun bt167=>((spec_l1Below.f s0_0 bt167.2.1 bt167.2.2 5).bind fun bt170=>(spec_l4Draw.l0 k y164 (wrap64 (1+bt167.1)) 0 (wrap64 (2+bt170.1)) s0_0 bt170.2.1 bt170.2.2)))=some (r1,r2,r3):=by first|(rw [hy164];with_reducible exact H)|(have H2_:=(Option.bind_some _ _).symm.trans H;rw [hy164];with_reducible exact H2_)|(have H2_:=(Option.bind_some _ _).symm.trans H;with_reducible exact H2_)|with_reducible exact H|(rw [hy164];exact H)|exact H
 have Ny164:=Aside0.mk hy164
 clear hy164
 replace H:=Option.bind_eq_some_iff.mp H
 obtain ⟨⟨t167,t168,t169⟩,A20,H⟩:=H
 try dsimp only at H
 have A2:=Aside0.mk A20
 clear A20
 replace H:=Option.bind_eq_some_iff.mp H
 obtain ⟨⟨t170,t171,t172⟩,A30,H⟩:=H
 try dsimp only at H
 have A3:=Aside0.mk A30
 clear A30
 have H':=Aside0.mk H
 clear H
 go_enter Tryd.func57,Tryd.ntmps57
 go_wp2_with (first|((with_reducible refine gate_dst (N:=7) rfl ?_);refine Kd.R_lit k53 _ 53 ?hg (N:=7) ?hd (xs:=([]:List (S53))) (inner:=[]) (ok:=fun _=>True) (okp:=fun _=>True) ?hr ?hp (fun _ hk=>hk) trivial (Below.refl _ _) (Nat.le_refl _) (by simp) ?_;(case hd=>rfl);(case hg=>rfl);(case hr=>first|(go_simp;done)|(go_simp;rfl));(case hp=>exact (Reps.none _ _));intro v165 w4 ho5 hb hg_ hnew_;clear hg_ hnew_;(first|rw [← Ny164.out] at ho5|(simp only [Int.reduceToNat] at ho5;rw [← Ny164.out] at ho5));have n0_:=Aside0.mk (Kd.R_lower ho5 (keep_size (w:=w) (g:=g) (row:=none) (by repeat (first|(with_reducible first|exact HK.out|apply KeepBut.set_|apply keep_drewN|apply keep_drew|apply keep_alloc)|exact HK.out))));have n1_:=Aside0.mk (IsS87.below (by repeat (first|(with_reducible first|exact HI0.out|apply IsS87.alloc|apply IsS87.drewN|apply IsS87.drew|apply IsS87.set_1|apply IsS87.set_2)|exact HI0.out)) hb);have n2_:=Aside0.mk (KeepBut.trans (by repeat (first|(with_reducible first|exact HK.out|apply KeepBut.set_|apply keep_drewN|apply keep_drew|apply keep_alloc)|exact HK.out)) (KeepBut.of_below hb g none) (.inl rfl));have n3_:=Aside0.mk (below_step (by repeat (first|(with_reducible first|exact HB.out|apply below_alloc|apply pw_below_drewN|apply below_drew1|refine below_set ?_ (IsS87.ge HI0.out))|exact HB.out)) hb);clear HI0;clear HK;clear HB;have HO166:=n0_;have HI0:=n1_;have HK:=n2_;have HB:=n3_;clear n0_ n1_ n2_ n3_;clear hb ho5)|((with_reducible refine gate_callee (f:=58) rfl ?_);refine goesL_ (some 9) rfl rfl Tryd.func58 (by kernel_rfl) rfl #[.pointer (some ⟨g,0,none⟩),.int .i64 4] rfl (by (try simp only [List.map_toArray,List.map_cons,List.map_nil]);first|done|rfl|(simp only [List.length_drop,List.length_take];rfl)) ?_;(with_reducible refine (spec_l1Below.calls g s0_0 s0_1 s0_2 4 t167 t168 t169 w0 _ ?side1 ?side2 A2.out).mono ?_);(case side1=>repeat (first|(with_reducible first|exact HI0.out|apply IsS87.alloc|apply IsS87.drewN|apply IsS87.drew|apply IsS87.set_1|apply IsS87.set_2)|exact HI0.out));(case side2=>repeat (first|(with_reducible first|exact HB.out|apply below_alloc|apply pw_below_drewN|apply below_drew1|refine below_set ?_ (IsS87.ge HI0.out))|exact HB.out));rintro e w6 ⟨rfl,hi,hb,hk⟩;refine ⟨_,rfl,?_⟩;have n0_:=Aside0.mk (Kd.R_mono (Kd.R_keep (IsS87.apart (show IsS87 w0 _ g s0_0 s0_1 s0_2 from by repeat (first|(with_reducible first|exact HI0.out|apply IsS87.alloc|apply IsS87.drewN|apply IsS87.drew|apply IsS87.set_1|apply IsS87.set_2)|exact HI0.out)) (rR HO166) (by decide)) hk (fun _ h=>h.2)) (fun _ h=>h.1));have n1_:=Aside0.mk (KeepBut.trans (by repeat (first|(with_reducible first|exact HK.out|apply KeepBut.set_|apply keep_drewN|apply keep_drew|apply keep_alloc)|exact HK.out)) hk (.inl rfl));have n2_:=Aside0.mk (hb);have n3_:=Aside0.mk (hi);clear HO166;clear HK;clear HB;clear HI0;have HO166:=n0_;have HK:=n1_;have HB:=n2_;have HI0:=n3_;clear n0_ n1_ n2_ n3_;(try clear hb);(try clear hb2);(try clear hk);(try clear hi))|((with_reducible refine gate_callee (f:=58) rfl ?_);refine goesL_ (some 12) rfl rfl Tryd.func58 (by kernel_rfl) rfl #[.pointer (some ⟨g,0,none⟩),.int .i64 5] rfl (by (try simp only [List.map_toArray,List.map_cons,List.map_nil]);first|done|rfl|(simp only [List.length_drop,List.length_take];rfl)) ?_;(with_reducible refine (spec_l1Below.calls g s0_0 t168 t169 5 t170 t171 t172 w0 _ ?side1 ?side2 A3.out).mono ?_);(case side1=>repeat (first|(with_reducible first|exact HI0.out|apply IsS87.alloc|apply IsS87.drewN|apply IsS87.drew|apply IsS87.set_1|apply IsS87.set_2)|exact HI0.out));(case side2=>repeat (first|(with_reducible first|exact HB.out|apply below_alloc|apply pw_below_drewN|apply below_drew1|refine below_set ?_ (IsS87.ge HI0.out))|exact HB.out));rintro e w7 ⟨rfl,hi,hb,hk⟩;refine ⟨_,rfl,?_⟩;have n0_:=Aside0.mk (Kd.R_mono (Kd.R_keep (IsS87.apart (show IsS87 w0 _ g s0_0 t168 t169 from by repeat (first|(with_reducible first|exact HI0.out|apply IsS87.alloc|apply IsS87.drewN|apply IsS87.drew|apply IsS87.set_1|apply IsS87.set_2)|exact HI0.out)) (rR HO166) (by decide)) hk (fun _ h=>h.2)) (fun _ h=>h.1));have n1_:=Aside0.mk (KeepBut.trans (by repeat (first|(with_reducible first|exact HK.out|apply KeepBut.set_|apply keep_drewN|apply keep_drew|apply keep_alloc)|exact HK.out)) hk (.inl rfl));have n2_:=Aside0.mk (hb);have n3_:=Aside0.mk (hi);clear HO166;clear HK;clear HB;clear HI0;have HO166:=n0_;have HK:=n1_;have HB:=n2_;have HI0:=n3_;clear n0_ n1_ n2_ n3_;(try clear hb);(try clear hb2);(try clear hk);(try clear hi)))
 go_loopg [3,5,6] k (fun kq v3 v5 v6 w'=>∃ (x3_1:List (S53)) (x5_1:Int) (x6_1:Int) (x1001_1:Int) (x1002_1:Int),v5 = .int .i64 x5_1∧v6 = .int .i64 x6_1∧Aside0 (spec_l4Draw.l0 kq x3_1 (wrap64 (1+t167)) x5_1 x6_1 s0_0 x1001_1 x1002_1=some (r1,r2,r3))∧Aside0 (kq≤k)∧Aside0 (Kd.R k53 53 w' w.heap.size (fun _=>True) v3 x3_1)∧Aside0 (IsS87 w0 w' g s0_0 x1001_1 x1002_1)∧Aside0 (KeepBut w w' g none)∧Aside0 (Below w0.heap.size w0 w'))
 case atStart=>exact ⟨(y164),(0),(wrap64 (2+t170)),(t171),(t172),rd_,rd_,H',⟨Nat.le_refl _⟩,⟨rR HO166⟩,⟨by repeat (first|(with_reducible first|exact HI0.out|apply IsS87.alloc|apply IsS87.drewN|apply IsS87.drew|apply IsS87.set_1|apply IsS87.set_2)|exact HI0.out)⟩,⟨by repeat (first|(with_reducible first|exact HK.out|apply KeepBut.set_|apply keep_drewN|apply keep_drew|apply keep_alloc)|exact HK.out)⟩,⟨by repeat (first|(with_reducible first|exact HB.out|apply below_alloc|apply pw_below_drewN|apply below_drew1|refine below_set ?_ (IsS87.ge HI0.out))|exact HB.out)⟩⟩
 case round=>
  clear H'
  try clear p2
  try clear c5
  try clear p6
  obtain ⟨x3_1,x5_1,x6_1,x1001_1,x1002_1,rfl,rfl,HA,HK1,HO_3,HI0,HK,HB⟩:=hrel
  cases gk with
  | zero=>exact absurd HA.out (by simp [spec_l4Draw.l0])
  | succ k1=>
   have H:=HA.out
   clear HA
   simp only [spec_l4Draw.l0] at H
   by_cases c8:x6_1 > 0
   ·rw [if_pos c8] at H
    have c8b0:decide (0 < x6_1)=true:=decide_eq_true c8
    clear c8
    obtain ⟨y173,hy173⟩ : ∃ y_:List Int,y_=(([1,1,2]:List Int)):=⟨_,rfl⟩
    replace H:((spec_l1Int.f s0_0 x1001_1 x1002_1 y173).bind fun bt176=>((spec_l1Below.f s0_0 bt176.2.1 bt176.2.2 (wrap64 (1+t167))).bind fun bt179=>((spec_l1Int.f s0_0 bt179.2.1 bt179.2.2 (([1,1,1,2,10,100]:List Int))).bind fun bt185=>(if x3_1.length < 5864062014805 then (spec_l4Draw.l0 k1 (x3_1 ++ [(⟨wrap64 (x5_1+bt176.1),bt179.1,bt185.1⟩:S53)]) (wrap64 (1+t167)) (wrap64 (x5_1+bt176.1)) (wrap64 (x6_1 - 1)) s0_0 bt185.2.1 bt185.2.2) else (none)))))=some (r1,r2,r3):=by first|(rw [hy173];with_reducible exact H)|(have H2_:=(Option.bind_some _ _).symm.trans H;rw [hy173];with_reducible exact H2_)|(have H2_:=(Option.bind_some _ _).symm.trans H;with_reducible exact H2_)|with_reducible exact H|(rw [hy173];exact H)|exact H
    have Ny173:=Aside0.mk hy173
    clear hy173
    replace H:=Option.bind_eq_some_iff.mp H
    obtain ⟨⟨t176,t177,t178⟩,A90,H⟩:=H
    try dsimp only at H
    have A9:=Aside0.mk A90
    clear A90
    replace H:=Option.bind_eq_some_iff.mp H
    obtain ⟨⟨t179,t180,t181⟩,A100,H⟩:=H
    try dsimp only at H
    have A10:=Aside0.mk A100
    clear A100
    obtain ⟨y182,hy182⟩ : ∃ y_:List Int,y_=(([1,1,1,2,10,100]:List Int)):=⟨_,rfl⟩
    replace H:((spec_l1Int.f s0_0 t180 t181 y182).bind fun bt185=>(if x3_1.length < 5864062014805 then (spec_l4Draw.l0 k1 (x3_1 ++ [(⟨wrap64 (x5_1+t176),t179,bt185.1⟩:S53)]) (wrap64 (1+t167)) (wrap64 (x5_1+t176)) (wrap64 (x6_1 - 1)) s0_0 bt185.2.1 bt185.2.2) else (none)))=some (r1,r2,r3):=by first|(rw [hy182];with_reducible exact H)|(have H2_:=(Option.bind_some _ _).symm.trans H;rw [hy182];with_reducible exact H2_)|(have H2_:=(Option.bind_some _ _).symm.trans H;with_reducible exact H2_)|with_reducible exact H|(rw [hy182];exact H)|exact H
    have Ny182:=Aside0.mk hy182
    clear hy182
    replace H:=Option.bind_eq_some_iff.mp H
    obtain ⟨⟨t185,t186,t187⟩,A110,H⟩:=H
    try dsimp only at H
    have A11:=Aside0.mk A110
    clear A110
    by_cases c12:x3_1.length < 5864062014805
    ·rw [if_pos c12] at H
     have LMc12:=Aside0.mk c12
     clear c12
     obtain ⟨y188,hy188⟩ : ∃ y_:List (S53),y_=(x3_1 ++ [(⟨wrap64 (x5_1+t176),t179,t185⟩:S53)]):=⟨_,rfl⟩
     replace H:(spec_l4Draw.l0 k1 y188 (wrap64 (1+t167)) (wrap64 (x5_1+t176)) (wrap64 (x6_1 - 1)) s0_0 t186 t187)=some (r1,r2,r3):=by first|(rw [hy188];with_reducible exact H)|(have H2_:=(Option.bind_some _ _).symm.trans H;rw [hy188];with_reducible exact H2_)|(have H2_:=(Option.bind_some _ _).symm.trans H;with_reducible exact H2_)|with_reducible exact H|(rw [hy188];exact H)|exact H
     have Ny188:=Aside0.mk hy188
     clear hy188
     have H':=Aside0.mk H
     clear H
     go_wp2_with (first|((with_reducible refine gate_dst (N:=20) rfl ?_);refine Kd.R_lit (Kd.int .i64) _ 3 ?hg (N:=20) ?hd (xs:=([1,1,2]:List Int)) (inner:=[.int .i64 1,.int .i64 1,.int .i64 2]) (ok:=fun _=>True) (okp:=fun _=>True) ?hr ?hp (fun _ hk=>hk) trivial (Below.refl _ _) (Nat.le_refl _) (by simp) ?_;(case hd=>rfl);(case hg=>rfl);(case hr=>first|(go_simp;done)|(go_simp;rfl));(case hp=>exact (Reps.one (show Kd.M (Kd.int .i64) _ _ _ 1 [.int .i64 1] from rfl) (Reps.one (show Kd.M (Kd.int .i64) _ _ _ 1 [.int .i64 1] from rfl) (Reps.one (show Kd.M (Kd.int .i64) _ _ _ 2 [.int .i64 2] from rfl) (Reps.none _ _)))));intro v174 w13 ho14 hb hg_ hnew_;clear hg_ hnew_;(first|rw [← Ny173.out] at ho14|(simp only [Int.reduceToNat] at ho14;rw [← Ny173.out] at ho14));have n0_:=Aside0.mk (Kd.R_below ((rR HO_3)) hb);have n1_:=Aside0.mk (Kd.R_lower ho14 (keep_size (w:=w) (g:=g) (row:=none) (by repeat (first|(with_reducible first|exact HK.out|apply KeepBut.set_|apply keep_drewN|apply keep_drew|apply keep_alloc)|exact HK.out))));have n2_:=Aside0.mk (IsS87.below (by repeat (first|(with_reducible first|exact HI0.out|apply IsS87.alloc|apply IsS87.drewN|apply IsS87.drew|apply IsS87.set_1|apply IsS87.set_2)|exact HI0.out)) hb);have n3_:=Aside0.mk (KeepBut.trans (by repeat (first|(with_reducible first|exact HK.out|apply KeepBut.set_|apply keep_drewN|apply keep_drew|apply keep_alloc)|exact HK.out)) (KeepBut.of_below hb g none) (.inl rfl));have n4_:=Aside0.mk (below_step (by repeat (first|(with_reducible first|exact HB.out|apply below_alloc|apply pw_below_drewN|apply below_drew1|refine below_set ?_ (IsS87.ge HI0.out))|exact HB.out)) hb);clear HO_3;clear HI0;clear HK;clear HB;have HO_3:=n0_;have HO175:=n1_;have HI0:=n2_;have HK:=n3_;have HB:=n4_;clear n0_ n1_ n2_ n3_ n4_;clear hb ho14;obtain ⟨Ao15,co15,eo15⟩:=Kd.R_slice HO175.out;subst eo15)|((with_reducible refine gate_callee (f:=67) rfl ?_);refine goesL_ (some 21) rfl rfl Tryd.func67 (by kernel_rfl) rfl #[.pointer (some ⟨g,0,none⟩),.slice Ao15 y173.length co15] rfl (by (try simp only [List.map_toArray,List.map_cons,List.map_nil]);first|done|rfl|(simp only [List.length_drop,List.length_take];rfl)) ?_;(with_reducible refine (spec_l1Int.calls g s0_0 x1001_1 x1002_1 _ _ y173 t176 t177 t178 w0 _ ?side1 ?side2 ?side3 ?side4 ?side5 A9.out).mono ?_);(case side1=>repeat (first|(with_reducible first|exact HI0.out|apply IsS87.alloc|apply IsS87.drewN|apply IsS87.drew|apply IsS87.set_1|apply IsS87.set_2)|exact HI0.out));(case side2=>repeat (first|(with_reducible first|exact HB.out|apply below_alloc|apply pw_below_drewN|apply below_drew1|refine below_set ?_ (IsS87.ge HI0.out))|exact HB.out));(case side3=>exact sR HO175);(case side4=>exact (Kd.R_reads' HO175.out).2.1);(case side5=>exact far_slice (IsS87.own_ne HI0.out HO175.out (by decide)));rintro e w16 ⟨rfl,hi,hb,hk⟩;refine ⟨_,rfl,?_⟩;have n0_:=Aside0.mk (Kd.R_mono (Kd.R_keep (IsS87.apart (show IsS87 w0 _ g s0_0 x1001_1 x1002_1 from by repeat (first|(with_reducible first|exact HI0.out|apply IsS87.alloc|apply IsS87.drewN|apply IsS87.drew|apply IsS87.set_1|apply IsS87.set_2)|exact HI0.out)) (rR HO_3) (by decide)) hk (fun _ h=>h.2)) (fun _ h=>h.1));have n1_:=Aside0.mk (Kd.R_mono (Kd.R_keep (IsS87.apart (show IsS87 w0 _ g s0_0 x1001_1 x1002_1 from by repeat (first|(with_reducible first|exact HI0.out|apply IsS87.alloc|apply IsS87.drewN|apply IsS87.drew|apply IsS87.set_1|apply IsS87.set_2)|exact HI0.out)) (rR HO175) (by decide)) hk (fun _ h=>h.2)) (fun _ h=>h.1));have n2_:=Aside0.mk (KeepBut.trans (by repeat (first|(with_reducible first|exact HK.out|apply KeepBut.set_|apply keep_drewN|apply keep_drew|apply keep_alloc)|exact HK.out)) hk (.inl rfl));have n3_:=Aside0.mk (hb);have n4_:=Aside0.mk (hi);clear HO_3;clear HO175;clear HK;clear HB;clear HI0;have HO_3:=n0_;have HO175:=n1_;have HK:=n2_;have HB:=n3_;have HI0:=n4_;clear n0_ n1_ n2_ n3_ n4_;(try clear hb);(try clear hb2);(try clear hk);(try clear hi))|((with_reducible refine gate_callee (f:=58) rfl ?_);refine goesL_ (some 27) rfl rfl Tryd.func58 (by kernel_rfl) rfl #[.pointer (some ⟨g,0,none⟩),.int .i64 (wrap64 (1+t167))] rfl (by (try simp only [List.map_toArray,List.map_cons,List.map_nil]);first|done|rfl|(simp only [List.length_drop,List.length_take];rfl)) ?_;(with_reducible refine (spec_l1Below.calls g s0_0 t177 t178 (wrap64 (1+t167)) t179 t180 t181 w0 _ ?side1 ?side2 A10.out).mono ?_);(case side1=>repeat (first|(with_reducible first|exact HI0.out|apply IsS87.alloc|apply IsS87.drewN|apply IsS87.drew|apply IsS87.set_1|apply IsS87.set_2)|exact HI0.out));(case side2=>repeat (first|(with_reducible first|exact HB.out|apply below_alloc|apply pw_below_drewN|apply below_drew1|refine below_set ?_ (IsS87.ge HI0.out))|exact HB.out));rintro e w17 ⟨rfl,hi,hb,hk⟩;refine ⟨_,rfl,?_⟩;have n0_:=Aside0.mk (Kd.R_mono (Kd.R_keep (IsS87.apart (show IsS87 w0 _ g s0_0 t177 t178 from by repeat (first|(with_reducible first|exact HI0.out|apply IsS87.alloc|apply IsS87.drewN|apply IsS87.drew|apply IsS87.set_1|apply IsS87.set_2)|exact HI0.out)) (rR HO_3) (by decide)) hk (fun _ h=>h.2)) (fun _ h=>h.1));have n1_:=Aside0.mk (Kd.R_mono (Kd.R_keep (IsS87.apart (show IsS87 w0 _ g s0_0 t177 t178 from by repeat (first|(with_reducible first|exact HI0.out|apply IsS87.alloc|apply IsS87.drewN|apply IsS87.drew|apply IsS87.set_1|apply IsS87.set_2)|exact HI0.out)) (rR HO175) (by decide)) hk (fun _ h=>h.2)) (fun _ h=>h.1));have n2_:=Aside0.mk (KeepBut.trans (by repeat (first|(with_reducible first|exact HK.out|apply KeepBut.set_|apply keep_drewN|apply keep_drew|apply keep_alloc)|exact HK.out)) hk (.inl rfl));have n3_:=Aside0.mk (hb);have n4_:=Aside0.mk (hi);clear HO_3;clear HO175;clear HK;clear HB;clear HI0;have HO_3:=n0_;have HO175:=n1_;have HK:=n2_;have HB:=n3_;have HI0:=n4_;clear n0_ n1_ n2_ n3_ n4_;(try clear hb);(try clear hb2);(try clear hk);(try clear hi))|((with_reducible refine gate_dst (N:=29) rfl ?_);refine Kd.R_lit (Kd.int .i64) _ 3 ?hg (N:=29) ?hd (xs:=([1,1,1,2,10,100]:List Int)) (inner:=[.int .i64 1,.int .i64 1,.int .i64 1,.int .i64 2,.int .i64 10,.int .i64 100]) (ok:=fun _=>True) (okp:=fun _=>True) ?hr ?hp (fun _ hk=>hk) trivial (Below.refl _ _) (Nat.le_refl _) (by simp) ?_;(case hd=>rfl);(case hg=>rfl);(case hr=>first|(go_simp;done)|(go_simp;rfl));(case hp=>exact (Reps.one (show Kd.M (Kd.int .i64) _ _ _ 1 [.int .i64 1] from rfl) (Reps.one (show Kd.M (Kd.int .i64) _ _ _ 1 [.int .i64 1] from rfl) (Reps.one (show Kd.M (Kd.int .i64) _ _ _ 1 [.int .i64 1] from rfl) (Reps.one (show Kd.M (Kd.int .i64) _ _ _ 2 [.int .i64 2] from rfl) (Reps.one (show Kd.M (Kd.int .i64) _ _ _ 10 [.int .i64 10] from rfl) (Reps.one (show Kd.M (Kd.int .i64) _ _ _ 100 [.int .i64 100] from rfl) (Reps.none _ _))))))));intro v183 w18 ho19 hb hg_ hnew_;clear hg_ hnew_;(first|rw [← Ny182.out] at ho19|(simp only [Int.reduceToNat] at ho19;rw [← Ny182.out] at ho19));have n0_:=Aside0.mk (Kd.R_below ((rR HO_3)) hb);have n1_:=Aside0.mk (Kd.R_elder' (rR HO175) (Kd.R_base ho19) hb);have n2_:=Aside0.mk (Kd.R_lower (Kd.R_new' ho19 (Kd.R_lt (rR HO175))) (keep_size (w:=w) (g:=g) (row:=none) (by repeat (first|(with_reducible first|exact HK.out|apply KeepBut.set_|apply keep_drewN|apply keep_drew|apply keep_alloc)|exact HK.out))));have n3_:=Aside0.mk (IsS87.below (by repeat (first|(with_reducible first|exact HI0.out|apply IsS87.alloc|apply IsS87.drewN|apply IsS87.drew|apply IsS87.set_1|apply IsS87.set_2)|exact HI0.out)) hb);have n4_:=Aside0.mk (KeepBut.trans (by repeat (first|(with_reducible first|exact HK.out|apply KeepBut.set_|apply keep_drewN|apply keep_drew|apply keep_alloc)|exact HK.out)) (KeepBut.of_below hb g none) (.inl rfl));have n5_:=Aside0.mk (below_step (by repeat (first|(with_reducible first|exact HB.out|apply below_alloc|apply pw_below_drewN|apply below_drew1|refine below_set ?_ (IsS87.ge HI0.out))|exact HB.out)) hb);clear HO_3;clear HO175;clear HI0;clear HK;clear HB;have HO_3:=n0_;have HO175:=n1_;have HO184:=n2_;have HI0:=n3_;have HK:=n4_;have HB:=n5_;clear n0_ n1_ n2_ n3_ n4_ n5_;clear hb ho19;obtain ⟨Ao20,co20,eo20⟩:=Kd.R_slice HO184.out;subst eo20)|((with_reducible refine gate_callee (f:=67) rfl ?_);refine goesL_ (some 30) rfl rfl Tryd.func67 (by kernel_rfl) rfl #[.pointer (some ⟨g,0,none⟩),.slice Ao20 y182.length co20] rfl (by (try simp only [List.map_toArray,List.map_cons,List.map_nil]);first|done|rfl|(simp only [List.length_drop,List.length_take];rfl)) ?_;(with_reducible refine (spec_l1Int.calls g s0_0 t180 t181 _ _ y182 t185 t186 t187 w0 _ ?side1 ?side2 ?side3 ?side4 ?side5 A11.out).mono ?_);(case side1=>repeat (first|(with_reducible first|exact HI0.out|apply IsS87.alloc|apply IsS87.drewN|apply IsS87.drew|apply IsS87.set_1|apply IsS87.set_2)|exact HI0.out));(case side2=>repeat (first|(with_reducible first|exact HB.out|apply below_alloc|apply pw_below_drewN|apply below_drew1|refine below_set ?_ (IsS87.ge HI0.out))|exact HB.out));(case side3=>exact sR HO184);(case side4=>exact (Kd.R_reads' HO184.out).2.1);(case side5=>exact far_slice (IsS87.own_ne HI0.out HO184.out (by decide)));rintro e w21 ⟨rfl,hi,hb,hk⟩;refine ⟨_,rfl,?_⟩;have n0_:=Aside0.mk (Kd.R_mono (Kd.R_keep (IsS87.apart (show IsS87 w0 _ g s0_0 t180 t181 from by repeat (first|(with_reducible first|exact HI0.out|apply IsS87.alloc|apply IsS87.drewN|apply IsS87.drew|apply IsS87.set_1|apply IsS87.set_2)|exact HI0.out)) (rR HO_3) (by decide)) hk (fun _ h=>h.2)) (fun _ h=>h.1));have n1_:=Aside0.mk (Kd.R_mono (Kd.R_keep (IsS87.apart (show IsS87 w0 _ g s0_0 t180 t181 from by repeat (first|(with_reducible first|exact HI0.out|apply IsS87.alloc|apply IsS87.drewN|apply IsS87.drew|apply IsS87.set_1|apply IsS87.set_2)|exact HI0.out)) (rR HO175) (by decide)) hk (fun _ h=>h.2)) (fun _ h=>h.1));have n2_:=Aside0.mk (Kd.R_mono (Kd.R_keep (IsS87.apart (show IsS87 w0 _ g s0_0 t180 t181 from by repeat (first|(with_reducible first|exact HI0.out|apply IsS87.alloc|apply IsS87.drewN|apply IsS87.drew|apply IsS87.set_1|apply IsS87.set_2)|exact HI0.out)) (rR HO184) (by decide)) hk (fun _ h=>h.2)) (fun _ h=>h.1));have n3_:=Aside0.mk (KeepBut.trans (by repeat (first|(with_reducible first|exact HK.out|apply KeepBut.set_|apply keep_drewN|apply keep_drew|apply keep_alloc)|exact HK.out)) hk (.inl rfl));have n4_:=Aside0.mk (hb);have n5_:=Aside0.mk (hi);clear HO_3;clear HO175;clear HO184;clear HK;clear HB;clear HI0;have HO_3:=n0_;have HO175:=n1_;have HO184:=n2_;have HK:=n3_;have HB:=n4_;have HI0:=n5_;clear n0_ n1_ n2_ n3_ n4_ n5_;(try clear hb);(try clear hb2);(try clear hk);(try clear hi))|((with_reducible refine gate_builtin (b:=.append) (xs:=#[.tmp 23,.tmp 32]) rfl ?_);at_builtin;refine Kd.R_append k53 w.heap.size rfl (.tmp 23) (.tmp 32) 31 53 (.agg #[(.int .i64 0),(.int .i64 0),(.int .i64 0)]) 24 rfl Tryd.underlying31 info53 rfl (by decide) (by omega) u3 x3_1 (⟨wrap64 (x5_1+t176),t179,t185⟩:S53) [.int .i64 (wrap64 (x5_1+t176)),.int .i64 t179,.int .i64 t185] (fun _=>True) (fun _=>False) rfl rfl ?aP (fun _ hk=>hk.elim) ?aF ?aO (Below.refl _ _) ?aS ?aL ?_;(case aP=>exact k53_mkM _ _ _ (⟨wrap64 (x5_1+t176),t179,t185⟩:S53));(case aF=>exact (fun _ _=>trivial));(case aO=>exact (rR HO_3));(case aS=>exact (keep_size (w:=w) (g:=g) (row:=none) (by repeat (first|(with_reducible first|exact HK.out|apply KeepBut.set_|apply keep_drewN|apply keep_drew|apply keep_alloc)|exact HK.out))));(case aL=>have:=LMc12.out;omega);intro v189 w22 ho hb hg hat;rw [← Ny188.out] at ho;have n0_:=Aside0.mk (IsS87.grown (by repeat (first|(with_reducible first|exact HI0.out|apply IsS87.alloc|apply IsS87.drewN|apply IsS87.drew|apply IsS87.set_1|apply IsS87.set_2)|exact HI0.out)) hg (IsS87.own_ne HI0.out HO_3.out (by decide)));have n1_:=Aside0.mk (Kd.R_over' (rR HO175) (Kd.R_typed (rR HO_3)) (by decide) hg);have n2_:=Aside0.mk (Kd.R_over' (rR HO184) (Kd.R_typed (rR HO_3)) (by decide) hg);have n3_:=Aside0.mk (below_weaken (by repeat (first|(with_reducible first|exact HB.out|apply below_alloc|apply pw_below_drewN|apply below_drew1|refine below_set ?_ (IsS87.ge HI0.out))|exact HB.out)) HL.out hb);have n4_:=Aside0.mk (KeepBut.trans (by repeat (first|(with_reducible first|exact HK.out|apply KeepBut.set_|apply keep_drewN|apply keep_drew|apply keep_alloc)|exact HK.out)) (KeepBut.of_grown hg g) (Kd.R_base2 HO_3.out));have n5_:=Aside0.mk (ho);clear HI0;clear HO175;clear HO184;clear HB;clear HK;clear HO_3;have HI0:=n0_;have HO175:=n1_;have HO184:=n2_;have HB:=n3_;have HK:=n4_;have HO190:=n5_;clear n0_ n1_ n2_ n3_ n4_ n5_;clear ho hb hg hat))
     go_roundg k1
     case measure=>have:=HK1.out;omega
     case rel=>exact ⟨(y188),(wrap64 (x5_1+t176)),(wrap64 (x6_1 - 1)),(t186),(t187),rd_,rd_,H',⟨by have:=HK1.out;omega⟩,⟨rR HO190⟩,⟨by repeat (first|(with_reducible first|exact HI0.out|apply IsS87.alloc|apply IsS87.drewN|apply IsS87.drew|apply IsS87.set_1|apply IsS87.set_2)|exact HI0.out)⟩,⟨by repeat (first|(with_reducible first|exact HK.out|apply KeepBut.set_|apply keep_drewN|apply keep_drew|apply keep_alloc)|exact HK.out)⟩,⟨by repeat (first|(with_reducible first|exact HB.out|apply below_alloc|apply pw_below_drewN|apply below_drew1|refine below_set ?_ (IsS87.ge HI0.out))|exact HB.out)⟩⟩
    ·rw [if_neg c12] at H
     exact absurd H (by simp)
   ·rw [if_neg c8] at H
    have c8b0:decide (0 < x6_1)=false:=decide_eq_false c8
    clear c8
    simp only [Option.some.injEq,Prod.mk.injEq] at H
    obtain ⟨rfl,rfl,rfl⟩:=H
    go_wp2
    go_ret
    exact ⟨_,rz,rR HO_3,by repeat (first|(with_reducible first|exact HI0.out|apply IsS87.alloc|apply IsS87.drewN|apply IsS87.drew|apply IsS87.set_1|apply IsS87.set_2)|exact HI0.out),by repeat (first|(with_reducible first|exact HB.out|apply below_alloc|apply pw_below_drewN|apply below_drew1|refine below_set ?_ (IsS87.ge HI0.out))|exact HB.out),by repeat (first|(with_reducible first|exact HK.out|apply KeepBut.set_|apply keep_drewN|apply keep_drew|apply keep_alloc)|exact HK.out)⟩
def spec_l4Any.f (k:Nat) (s0_0:List Int) (s0_1:Int) (s0_2:Int):Option ((List (S53)) × Int × Int):=(spec_l4Draw.f k s0_0 s0_1 s0_2).bind fun bt191=>((spec_l1Below.f s0_0 bt191.2.1 bt191.2.2 (bt191.1.length:Int)).bind fun bt196=>((spec_l1Below.f s0_0 bt196.2.1 bt196.2.2 12).bind fun bt199=>(if bt199.1=0 then ((spec_l1Int.f s0_0 bt199.2.1 bt199.2.2 (([(-1),0,20,21]:List Int))).bind fun bt205=>(if 0≤bt196.1 then (if bt196.1 < (bt191.1.length:Int) then (some ((bt191.1.set (bt196.1:Int).toNat (⟨bt205.1,(rd_T53 bt191.1 bt196.1).f1,(rd_T53 bt191.1 bt196.1).f2⟩:S53)),bt205.2.1,bt205.2.2)) else (none)) else (none))) else (if bt199.1=1 then ((spec_l1Int.f s0_0 bt199.2.1 bt199.2.2 (([(-1),20,21]:List Int))).bind fun bt212=>(if 0≤bt196.1 then (if bt196.1 < (bt191.1.length:Int) then (some ((bt191.1.set (bt196.1:Int).toNat (⟨(rd_T53 bt191.1 bt196.1).f0,bt212.1,(rd_T53 bt191.1 bt196.1).f2⟩:S53)),bt212.2.1,bt212.2.2)) else (none)) else (none))) else (if bt199.1=2 then ((spec_l1Int.f s0_0 bt199.2.1 bt199.2.2 (([0,1000,1001]:List Int))).bind fun bt219=>(if 0≤bt196.1 then (if bt196.1 < (bt191.1.length:Int) then (some ((bt191.1.set (bt196.1:Int).toNat (⟨(rd_T53 bt191.1 bt196.1).f0,(rd_T53 bt191.1 bt196.1).f1,bt219.1⟩:S53)),bt219.2.1,bt219.2.2)) else (none)) else (none))) else (if bt199.1=3 then (if 0≤(bt191.1.length:Int) then (some ((bt191.1.take (0:Int).toNat),bt199.2.1,bt199.2.2)) else (none)) else (some (bt191.1,bt199.2.1,bt199.2.2))))))))
set_option maxHeartbeats 8000000 in
set_option maxRecDepth 100000 in
theorem spec_l4Any.calls (k:Nat) (g:Nat) (s0_0:List Int) (s0_1:Int) (s0_2:Int) (r1:List (S53)) (r2:Int) (r3:Int) (w0 w:World) (hI:IsS87 w0 w g s0_0 s0_1 s0_2) (hB:Below w0.heap.size w0 w) (h:spec_l4Any.f k s0_0 s0_1 s0_2=some (r1,r2,r3)) :
  Calls Tryd.prog 59 #[.pointer (some ⟨g,0,none⟩)] w fun e w'=>∃ v0_:Value,e = .returned (v0_)∧Kd.R k53 53 w' w.heap.size (fun _=>True) v0_ r1∧IsS87 w0 w' g s0_0 r2 r3∧Below w0.heap.size w0 w' ∧ KeepBut w w' g none:=by
 have HI0:=Aside0.mk hI
 have HK:=Aside0.mk (KeepBut.refl w g none)
 have HL:=Aside0.mk hB.size
 clear hI
 have HW0:=Aside0.mk hB.size
 have HB:=Aside0.mk hB
 clear hB
 have H:((spec_l4Draw.f k s0_0 s0_1 s0_2).bind fun bt191=>((spec_l1Below.f s0_0 bt191.2.1 bt191.2.2 (bt191.1.length:Int)).bind fun bt196=>((spec_l1Below.f s0_0 bt196.2.1 bt196.2.2 12).bind fun bt199=>(if bt199.1=0 then ((spec_l1Int.f s0_0 bt199.2.1 bt199.2.2 (([(-1),0,20,21]:List Int))).bind fun bt205=>(if 0≤bt196.1 then (if bt196.1 < (bt191.1.length:Int) then (some ((bt191.1.set (bt196.1:Int).toNat (⟨bt205.1,(rd_T53 bt191.1 bt196.1).f1,(rd_T53 bt191.1 bt196.1).f2⟩:S53)),bt205.2.1,bt205.2.2)) else (none)) else (none))) else (if bt199.1=1 then ((spec_l1Int.f s0_0 bt199.2.1 bt199.2.2 (([(-1),20,21]:List Int))).bind fun bt212=>(if 0≤bt196.1 then (if bt196.1 < (bt191.1.length:Int) then (some ((bt191.1.set (bt196.1:Int).toNat (⟨(rd_T53 bt191.1 bt196.1).f0,bt212.1,(rd_T53 bt191.1 bt196.1).f2⟩:S53)),bt212.2.1,bt212.2.2)) else (none)) else (none))) else (if bt199.1=2 then ((spec_l1Int.f s0_0 bt199.2.1 bt199.2.2 (([0,1000,1001]:List Int))).bind fun bt219=>(if 0≤bt196.1 then (if bt196.1 < (bt191.1.length:Int) then (some ((bt191.1.set (bt196.1:Int).toNat (⟨(rd_T53 bt191.1 bt196.1).f0,(rd_T53 bt191.1 bt196.1).f1,bt219.1⟩:S53)),bt219.2.1,bt219.2.2)) else (none)) else (none))) else (if bt199.1=3 then (if 0≤(bt191.1.length:Int) then (some ((bt191.1.take (0:Int).toNat),bt199.2.1,bt199.2.2)) else (none)) else (some (bt191.1,bt199.2.1,bt199.2.2)))))))))=some (r1,r2,r3):=h
 clear h
 replace H:=Option.bind_eq_some_iff.mp H
 obtain ⟨⟨t191,t194,t195⟩,A20,H⟩:=H
 try dsimp only at H
 have A2:=Aside0.mk A20
 clear A20
 replace H:=Option.bind_eq_some_iff.mp H
 obtain ⟨⟨t196,t197,t198⟩,A30,H⟩:=H
 try dsimp only at H
 have A3:=Aside0.mk A30
 clear A30
 replace H:=Option.bind_eq_some_iff.mp H
 obtain ⟨⟨t199,t200,t201⟩,A40,H⟩:=H
 try dsimp only at H
 have A4:=Aside0.mk A40
 clear A40
 by_cases c5:t199=0
 ·rw [if_pos c5] at H
  have c5b0:(t199 == 0)=true:=beq_iff_eq.mpr c5
  have c5b1:(t199 != 0)=false:=bne_eq_false_iff_eq.mpr c5
  clear c5
  obtain ⟨y202,hy202⟩ : ∃ y_:List Int,y_=(([(-1),0,20,21]:List Int)):=⟨_,rfl⟩
  replace H:((spec_l1Int.f s0_0 t200 t201 y202).bind fun bt205=>(if 0≤t196 then (if t196 < (t191.length:Int) then (some ((t191.set (t196:Int).toNat (⟨bt205.1,(rd_T53 t191 t196).f1,(rd_T53 t191 t196).f2⟩:S53)),bt205.2.1,bt205.2.2)) else (none)) else (none)))=some (r1,r2,r3):=by first|(rw [hy202];with_reducible exact H)|(have H2_:=(Option.bind_some _ _).symm.trans H;rw [hy202];with_reducible exact H2_)|(have H2_:=(Option.bind_some _ _).symm.trans H;with_reducible exact H2_)|with_reducible exact H|(rw [hy202];exact H)|exact H
  have Ny202:=Aside0.mk hy202
  clear hy202
  replace H:=Option.bind_eq_some_iff.mp H
  obtain ⟨⟨t205,t206,t207⟩,A60,H⟩:=H
  try dsimp only at H
  have A6:=Aside0.mk A60
  clear A60
  by_cases c7:0≤t196
  ·rw [if_pos c7] at H
   have c7b0:decide (0≤t196)=true:=decide_eq_true c7
   clear c7
   by_cases c8:t196 < (t191.length:Int)
   ·rw [if_pos c8] at H
    have c8b0:decide (t196 < (t191.length:Int))=true:=decide_eq_true c8
    clear c8
    obtain ⟨y208,hy208⟩ : ∃ y_:List (S53),y_=(t191.set (t196:Int).toNat (⟨t205,(rd_T53 t191 t196).f1,(rd_T53 t191 t196).f2⟩:S53)):=⟨_,rfl⟩
    replace H:(some (y208,t206,t207))=some (r1,r2,r3):=by first|(rw [hy208];with_reducible exact H)|(have H2_:=(Option.bind_some _ _).symm.trans H;rw [hy208];with_reducible exact H2_)|(have H2_:=(Option.bind_some _ _).symm.trans H;with_reducible exact H2_)|with_reducible exact H|(rw [hy208];exact H)|exact H
    have Ny208:=Aside0.mk hy208
    clear hy208
    simp only [Option.some.injEq,Prod.mk.injEq] at H
    obtain ⟨rfl,rfl,rfl⟩:=H
    go_enter Tryd.func59,Tryd.ntmps59
    go_wp2_with (first|((with_reducible refine gate_callee (f:=57) rfl ?_);refine goesL_ (some 6) rfl rfl Tryd.func57 (by kernel_rfl) rfl #[.pointer (some ⟨g,0,none⟩)] rfl (by (try simp only [List.map_toArray,List.map_cons,List.map_nil]);first|done|rfl|(simp only [List.length_drop,List.length_take];rfl)) ?_;(with_reducible refine (spec_l4Draw.calls k g s0_0 s0_1 s0_2 t191 t194 t195 w0 _ ?side1 ?side2 A2.out).mono ?_);(case side1=>repeat (first|(with_reducible first|exact HI0.out|apply IsS87.alloc|apply IsS87.drewN|apply IsS87.drew|apply IsS87.set_1|apply IsS87.set_2)|exact HI0.out));(case side2=>repeat (first|(with_reducible first|exact HB.out|apply below_alloc|apply pw_below_drewN|apply below_drew1|refine below_set ?_ (IsS87.ge HI0.out))|exact HB.out));rintro e w10 ⟨v192,rfl,ho0,hi,hb,hk⟩;refine ⟨_,rfl,?_⟩;have n0_:=Aside0.mk (Kd.R_lower ho0 (keep_size (w:=w) (g:=g) (row:=none) (by repeat (first|(with_reducible first|exact HK.out|apply KeepBut.set_|apply keep_drewN|apply keep_drew|apply keep_alloc)|exact HK.out))));have n1_:=Aside0.mk (KeepBut.trans (by repeat (first|(with_reducible first|exact HK.out|apply KeepBut.set_|apply keep_drewN|apply keep_drew|apply keep_alloc)|exact HK.out)) hk (.inl rfl));have n2_:=Aside0.mk (hb);have n3_:=Aside0.mk (hi);clear HK;clear HB;clear HI0;have HO193:=n0_;have HK:=n1_;have HB:=n2_;have HI0:=n3_;clear n0_ n1_ n2_ n3_;(try clear hb);(try clear hb2);(try clear hk);(try clear hi);(try clear ho0);obtain ⟨Ao11,co11,eo11⟩:=Kd.R_slice HO193.out;subst eo11)|((with_reducible refine gate_callee (f:=58) rfl ?_);refine goesL_ (some 10) rfl rfl Tryd.func58 (by kernel_rfl) rfl #[.pointer (some ⟨g,0,none⟩),.int .i64 (t191.length:Int)] rfl (by (try simp only [List.map_toArray,List.map_cons,List.map_nil]);first|done|rfl|(simp only [List.length_drop,List.length_take];rfl)) ?_;(with_reducible refine (spec_l1Below.calls g s0_0 t194 t195 (t191.length:Int) t196 t197 t198 w0 _ ?side1 ?side2 A3.out).mono ?_);(case side1=>repeat (first|(with_reducible first|exact HI0.out|apply IsS87.alloc|apply IsS87.drewN|apply IsS87.drew|apply IsS87.set_1|apply IsS87.set_2)|exact HI0.out));(case side2=>repeat (first|(with_reducible first|exact HB.out|apply below_alloc|apply pw_below_drewN|apply below_drew1|refine below_set ?_ (IsS87.ge HI0.out))|exact HB.out));rintro e w12 ⟨rfl,hi,hb,hk⟩;refine ⟨_,rfl,?_⟩;have n0_:=Aside0.mk (Kd.R_mono (Kd.R_keep (IsS87.apart (show IsS87 w0 _ g s0_0 t194 t195 from by repeat (first|(with_reducible first|exact HI0.out|apply IsS87.alloc|apply IsS87.drewN|apply IsS87.drew|apply IsS87.set_1|apply IsS87.set_2)|exact HI0.out)) (rR HO193) (by decide)) hk (fun _ h=>h.2)) (fun _ h=>h.1));have n1_:=Aside0.mk (KeepBut.trans (by repeat (first|(with_reducible first|exact HK.out|apply KeepBut.set_|apply keep_drewN|apply keep_drew|apply keep_alloc)|exact HK.out)) hk (.inl rfl));have n2_:=Aside0.mk (hb);have n3_:=Aside0.mk (hi);clear HO193;clear HK;clear HB;clear HI0;have HO193:=n0_;have HK:=n1_;have HB:=n2_;have HI0:=n3_;clear n0_ n1_ n2_ n3_;(try clear hb);(try clear hb2);(try clear hk);(try clear hi))|((with_reducible refine gate_callee (f:=58) rfl ?_);refine goesL_ (some 12) rfl rfl Tryd.func58 (by kernel_rfl) rfl #[.pointer (some ⟨g,0,none⟩),.int .i64 12] rfl (by (try simp only [List.map_toArray,List.map_cons,List.map_nil]);first|done|rfl|(simp only [List.length_drop,List.length_take];rfl)) ?_;(with_reducible refine (spec_l1Below.calls g s0_0 t197 t198 12 t199 t200 t201 w0 _ ?side1 ?side2 A4.out).mono ?_);(case side1=>repeat (first|(with_reducible first|exact HI0.out|apply IsS87.alloc|apply IsS87.drewN|apply IsS87.drew|apply IsS87.set_1|apply IsS87.set_2)|exact HI0.out));(case side2=>repeat (first|(with_reducible first|exact HB.out|apply below_alloc|apply pw_below_drewN|apply below_drew1|refine below_set ?_ (IsS87.ge HI0.out))|exact HB.out));rintro e w13 ⟨rfl,hi,hb,hk⟩;refine ⟨_,rfl,?_⟩;have n0_:=Aside0.mk (Kd.R_mono (Kd.R_keep (IsS87.apart (show IsS87 w0 _ g s0_0 t197 t198 from by repeat (first|(with_reducible first|exact HI0.out|apply IsS87.alloc|apply IsS87.drewN|apply IsS87.drew|apply IsS87.set_1|apply IsS87.set_2)|exact HI0.out)) (rR HO193) (by decide)) hk (fun _ h=>h.2)) (fun _ h=>h.1));have n1_:=Aside0.mk (KeepBut.trans (by repeat (first|(with_reducible first|exact HK.out|apply KeepBut.set_|apply keep_drewN|apply keep_drew|apply keep_alloc)|exact HK.out)) hk (.inl rfl));have n2_:=Aside0.mk (hb);have n3_:=Aside0.mk (hi);clear HO193;clear HK;clear HB;clear HI0;have HO193:=n0_;have HK:=n1_;have HB:=n2_;have HI0:=n3_;clear n0_ n1_ n2_ n3_;(try clear hb);(try clear hb2);(try clear hk);(try clear hi))|((with_reducible refine gate_dst (N:=18) rfl ?_);refine Kd.R_lit (Kd.int .i64) _ 3 ?hg (N:=18) ?hd (xs:=([(-1),0,20,21]:List Int)) (inner:=[.int .i64 (-1),.int .i64 0,.int .i64 20,.int .i64 21]) (ok:=fun _=>True) (okp:=fun _=>True) ?hr ?hp (fun _ hk=>hk) trivial (Below.refl _ _) (Nat.le_refl _) (by simp) ?_;(case hd=>rfl);(case hg=>rfl);(case hr=>first|(go_simp;done)|(go_simp;rfl));(case hp=>exact (Reps.one (show Kd.M (Kd.int .i64) _ _ _ (-1) [.int .i64 (-1)] from rfl) (Reps.one (show Kd.M (Kd.int .i64) _ _ _ 0 [.int .i64 0] from rfl) (Reps.one (show Kd.M (Kd.int .i64) _ _ _ 20 [.int .i64 20] from rfl) (Reps.one (show Kd.M (Kd.int .i64) _ _ _ 21 [.int .i64 21] from rfl) (Reps.none _ _))))));intro v203 w14 ho15 hb hg_ hnew_;clear hg_ hnew_;(first|rw [← Ny202.out] at ho15|(simp only [Int.reduceToNat] at ho15;rw [← Ny202.out] at ho15));have n0_:=Aside0.mk (Kd.R_below ((rR HO193)) hb);have n1_:=Aside0.mk (Kd.R_lower ho15 (keep_size (w:=w) (g:=g) (row:=none) (by repeat (first|(with_reducible first|exact HK.out|apply KeepBut.set_|apply keep_drewN|apply keep_drew|apply keep_alloc)|exact HK.out))));have n2_:=Aside0.mk (IsS87.below (by repeat (first|(with_reducible first|exact HI0.out|apply IsS87.alloc|apply IsS87.drewN|apply IsS87.drew|apply IsS87.set_1|apply IsS87.set_2)|exact HI0.out)) hb);have n3_:=Aside0.mk (KeepBut.trans (by repeat (first|(with_reducible first|exact HK.out|apply KeepBut.set_|apply keep_drewN|apply keep_drew|apply keep_alloc)|exact HK.out)) (KeepBut.of_below hb g none) (.inl rfl));have n4_:=Aside0.mk (below_step (by repeat (first|(with_reducible first|exact HB.out|apply below_alloc|apply pw_below_drewN|apply below_drew1|refine below_set ?_ (IsS87.ge HI0.out))|exact HB.out)) hb);clear HO193;clear HI0;clear HK;clear HB;have HO193:=n0_;have HO204:=n1_;have HI0:=n2_;have HK:=n3_;have HB:=n4_;clear n0_ n1_ n2_ n3_ n4_;clear hb ho15;obtain ⟨Ao16,co16,eo16⟩:=Kd.R_slice HO204.out;subst eo16)|((with_reducible refine gate_callee (f:=67) rfl ?_);refine goesL_ (some 19) rfl rfl Tryd.func67 (by kernel_rfl) rfl #[.pointer (some ⟨g,0,none⟩),.slice Ao16 y202.length co16] rfl (by (try simp only [List.map_toArray,List.map_cons,List.map_nil]);first|done|rfl|(simp only [List.length_drop,List.length_take];rfl)) ?_;(with_reducible refine (spec_l1Int.calls g s0_0 t200 t201 _ _ y202 t205 t206 t207 w0 _ ?side1 ?side2 ?side3 ?side4 ?side5 A6.out).mono ?_);(case side1=>repeat (first|(with_reducible first|exact HI0.out|apply IsS87.alloc|apply IsS87.drewN|apply IsS87.drew|apply IsS87.set_1|apply IsS87.set_2)|exact HI0.out));(case side2=>repeat (first|(with_reducible first|exact HB.out|apply below_alloc|apply pw_below_drewN|apply below_drew1|refine below_set ?_ (IsS87.ge HI0.out))|exact HB.out));(case side3=>exact sR HO204);(case side4=>exact (Kd.R_reads' HO204.out).2.1);(case side5=>exact far_slice (IsS87.own_ne HI0.out HO204.out (by decide)));rintro e w17 ⟨rfl,hi,hb,hk⟩;refine ⟨_,rfl,?_⟩;have n0_:=Aside0.mk (Kd.R_mono (Kd.R_keep (IsS87.apart (show IsS87 w0 _ g s0_0 t200 t201 from by repeat (first|(with_reducible first|exact HI0.out|apply IsS87.alloc|apply IsS87.drewN|apply IsS87.drew|apply IsS87.set_1|apply IsS87.set_2)|exact HI0.out)) (rR HO193) (by decide)) hk (fun _ h=>h.2)) (fun _ h=>h.1));have n1_:=Aside0.mk (Kd.R_mono (Kd.R_keep (IsS87.apart (show IsS87 w0 _ g s0_0 t200 t201 from by repeat (first|(with_reducible first|exact HI0.out|apply IsS87.alloc|apply IsS87.drewN|apply IsS87.drew|apply IsS87.set_1|apply IsS87.set_2)|exact HI0.out)) (rR HO204) (by decide)) hk (fun _ h=>h.2)) (fun _ h=>h.1));have n2_:=Aside0.mk (KeepBut.trans (by repeat (first|(with_reducible first|exact HK.out|apply KeepBut.set_|apply keep_drewN|apply keep_drew|apply keep_alloc)|exact HK.out)) hk (.inl rfl));have n3_:=Aside0.mk (hb);have n4_:=Aside0.mk (hi);clear HO193;clear HO204;clear HK;clear HB;clear HI0;have HO193:=n0_;have HO204:=n1_;have HK:=n2_;have HB:=n3_;have HI0:=n4_;clear n0_ n1_ n2_ n3_ n4_;(try clear hb);(try clear hb2);(try clear hk);(try clear hi);have p9:0≤(t196:Int):=of_decide_eq_true (by first|(with_reducible assumption)|assumption);have q9:(t196:Int) < ((t191.length:Int):Int):=of_decide_eq_true (by first|(with_reducible assumption)|assumption);obtain ⟨go9,co9,eo9,gb9,gl9,cl9,HG9⟩:=Kd.R_form HO193.out (by omega);(first|cases eo9|(injection eo9 with ea_ en_ ec_;(first|subst ea_|(injection ea_ with ea_;subst ea_));subst ec_;clear en_));have GB9:=Aside0.mk gb9;have GG9:=Aside0.mk HG9;clear gb9 gl9 HG9;obtain ⟨ce9,hcl9,hM9,hcc9,hfr9⟩:=Kd.R_elem HO193.out z53 (t196:Int) p9 q9;obtain rfl:=k53_openM hM9;have hx9_0:w17.cell? ⟨go9,(t196:Int).toNat * 3,none⟩=some (.int .i64 ((rd_T53 t191 t196).f0)):=hcc9 0 _ rfl;have hx9_1:w17.cell? ⟨go9,(t196:Int).toNat * 3+1,none⟩=some (.int .i64 ((rd_T53 t191 t196).f1)):=hcc9 1 _ rfl;have hx9_2:w17.cell? ⟨go9,(t196:Int).toNat * 3+2,none⟩=some (.int .i64 ((rd_T53 t191 t196).f2)):=hcc9 2 _ rfl;have hf9_0:w17.frozen? ⟨go9,(t196:Int).toNat * 3,none⟩=false:=hfr9 0;have hf9_1:w17.frozen? ⟨go9,(t196:Int).toNat * 3+1,none⟩=false:=hfr9 1;have hf9_2:w17.frozen? ⟨go9,(t196:Int).toNat * 3+2,none⟩=false:=hfr9 2;clear hcl9 hcc9 hfr9 hM9;replace p9:=eq_true p9;replace q9:=eq_true q9;have HX18:=Aside0.mk (show Kd.R k53 53 w17 w.heap.size (fun _=>True) (.slice (some ⟨go9,0,none⟩) t191.length co11) t191 from (rR HO193));obtain ⟨ce18,hcl18,hM18,hcc18,hfr18⟩:=Kd.R_elem HX18.out z53 (t196:Int) (of_decide_eq_true (by first|(with_reducible assumption)|assumption)) (by have h_:(t196:Int) < ((t191.length:Int):Int):=of_decide_eq_true (by first|(with_reducible assumption)|assumption);first|exact h_|(have e_:=(Kd.R_reads' HO193.out).1;omega)|simpa using h_);obtain rfl:=k53_openM hM18;have HP18:=Kd.R_seg HX18.out (t196:Int) (of_decide_eq_true (by first|(with_reducible assumption)|assumption)) (by have h_:(t196:Int) < ((t191.length:Int):Int):=of_decide_eq_true (by first|(with_reducible assumption)|assumption);first|exact h_|(have e_:=(Kd.R_reads' HO193.out).1;omega)|simpa using h_) (seg:=[.int .i64 t205]) (j:=0) hcl18 hcc18 (show 1≤3 from by decide) (x':=(⟨t205,(rd_T53 t191 t196).f1,(rd_T53 t191 t196).f2⟩:S53)) (k53_mkM _ _ _ (⟨t205,(rd_T53 t191 t196).f1,(rd_T53 t191 t196).f2⟩:S53) ) (fun _ hk=>hk);have hx18_0:=hcc18 0 _ rfl;(try simp only [show (k53).sz=3 from rfl,Nat.mul_one,Nat.add_zero] at hx18_0);have hf18_0:=hfr18 0;(try simp only [show (k53).sz=3 from rfl,Nat.mul_one,Nat.add_zero] at hf18_0);clear hcl18 hcc18 hfr18 hM18)|((with_reducible refine gate_store (t:=3) (p:=21) rfl ?_);refine store_event (t:=3) (p:=21) (v:=?vo_w19) (w1:=(w17.setCell ⟨go9,(t196:Int).toNat * 3,none⟩ (.int .i64 t205))) ?hg ?ho ?hn ?hr ?_;(case ho=>rfl);(case hg=>rfl);(case hn=>rfl);(case hr=>first|(go_simp;done)|(go_simp;rfl));intro w19 hw;have hg:w17.grownBy w19 (some go9):=(by rw [hw];exact HP18.2);have hp_:Kd.R k53 53 w19 w.heap.size (fun _=>True) (.slice (some ⟨go9,0,none⟩) t191.length co11) y208:=(by rw [hw,Ny208.out];exact HP18.1);clear HP18;have n0_:=Aside0.mk (IsS87.grown (by repeat (first|(with_reducible first|exact HI0.out|apply IsS87.alloc|apply IsS87.drewN|apply IsS87.drew|apply IsS87.set_1|apply IsS87.set_2)|exact HI0.out)) hg (IsS87.own_ne HI0.out HO193.out (by decide)));have n1_:=Aside0.mk (hp_);have n2_:=Aside0.mk (Kd.R_over' (v:=(.slice (some ⟨go9,0,none⟩) t191.length co11)) (rR HO204) (Kd.R_typed HO193.out) (by decide) hg);have n3_:=Aside0.mk ((by rw [hw];exact below_set (HB.out) (Nat.le_trans HL.out GB9.out):Below w0.heap.size w0 w19));have n4_:=Aside0.mk (KeepBut.trans (by repeat (first|(with_reducible first|exact HK.out|apply KeepBut.set_|apply keep_drewN|apply keep_drew|apply keep_alloc)|exact HK.out)) (KeepBut.of_grown hg g) (Kd.R_base2 HO193.out));clear HI0;clear HO193;clear HO204;clear HB;clear HK;have HI0:=n0_;have HO193:=n1_;have HO204:=n2_;have HB:=n3_;have HK:=n4_;clear n0_ n1_ n2_ n3_ n4_;clear hg hw hp_))
    go_ret
    exact ⟨_,rz,rR HO193,by repeat (first|(with_reducible first|exact HI0.out|apply IsS87.alloc|apply IsS87.drewN|apply IsS87.drew|apply IsS87.set_1|apply IsS87.set_2)|exact HI0.out),by repeat (first|(with_reducible first|exact HB.out|apply below_alloc|apply pw_below_drewN|apply below_drew1|refine below_set ?_ (IsS87.ge HI0.out))|exact HB.out),by repeat (first|(with_reducible first|exact HK.out|apply KeepBut.set_|apply keep_drewN|apply keep_drew|apply keep_alloc)|exact HK.out)⟩
   ·rw [if_neg c8] at H
    exact absurd H (by simp)
  ·rw [if_neg c7] at H
   exact absurd H (by simp)
 ·rw [if_neg c5] at H
  have c5b0:(t199 == 0)=false:=beq_eq_false_iff_ne.mpr c5
  have c5b1:(t199 != 0)=true:=bne_iff_ne.mpr c5
  by_cases c20:t199=1
  ·rw [if_pos c20] at H
   have c20b0:(t199 == 1)=true:=beq_iff_eq.mpr c20
   have c20b1:(t199 != 1)=false:=bne_eq_false_iff_eq.mpr c20
   clear c20
   obtain ⟨y209,hy209⟩ : ∃ y_:List Int,y_=(([(-1),20,21]:List Int)):=⟨_,rfl⟩
   replace H:((spec_l1Int.f s0_0 t200 t201 y209).bind fun bt212=>(if 0≤t196 then (if t196 < (t191.length:Int) then (some ((t191.set (t196:Int).toNat (⟨(rd_T53 t191 t196).f0,bt212.1,(rd_T53 t191 t196).f2⟩:S53)),bt212.2.1,bt212.2.2)) else (none)) else (none)))=some (r1,r2,r3):=by first|(rw [hy209];with_reducible exact H)|(have H2_:=(Option.bind_some _ _).symm.trans H;rw [hy209];with_reducible exact H2_)|(have H2_:=(Option.bind_some _ _).symm.trans H;with_reducible exact H2_)|with_reducible exact H|(rw [hy209];exact H)|exact H
   have Ny209:=Aside0.mk hy209
   clear hy209
   replace H:=Option.bind_eq_some_iff.mp H
   obtain ⟨⟨t212,t213,t214⟩,A210,H⟩:=H
   try dsimp only at H
   have A21:=Aside0.mk A210
   clear A210
   by_cases c22:0≤t196
   ·rw [if_pos c22] at H
    have c22b0:decide (0≤t196)=true:=decide_eq_true c22
    clear c22
    by_cases c23:t196 < (t191.length:Int)
    ·rw [if_pos c23] at H
     have c23b0:decide (t196 < (t191.length:Int))=true:=decide_eq_true c23
     clear c23
     obtain ⟨y215,hy215⟩ : ∃ y_:List (S53),y_=(t191.set (t196:Int).toNat (⟨(rd_T53 t191 t196).f0,t212,(rd_T53 t191 t196).f2⟩:S53)):=⟨_,rfl⟩
     replace H:(some (y215,t213,t214))=some (r1,r2,r3):=by first|(rw [hy215];with_reducible exact H)|(have H2_:=(Option.bind_some _ _).symm.trans H;rw [hy215];with_reducible exact H2_)|(have H2_:=(Option.bind_some _ _).symm.trans H;with_reducible exact H2_)|with_reducible exact H|(rw [hy215];exact H)|exact H
     have Ny215:=Aside0.mk hy215
     clear hy215
     simp only [Option.some.injEq,Prod.mk.injEq] at H
     obtain ⟨rfl,rfl,rfl⟩:=H
     go_enter Tryd.func59,Tryd.ntmps59
     go_wp2_with (first|((with_reducible refine gate_callee (f:=57) rfl ?_);refine goesL_ (some 6) rfl rfl Tryd.func57 (by kernel_rfl) rfl #[.pointer (some ⟨g,0,none⟩)] rfl (by (try simp only [List.map_toArray,List.map_cons,List.map_nil]);first|done|rfl|(simp only [List.length_drop,List.length_take];rfl)) ?_;(with_reducible refine (spec_l4Draw.calls k g s0_0 s0_1 s0_2 t191 t194 t195 w0 _ ?side1 ?side2 A2.out).mono ?_);(case side1=>repeat (first|(with_reducible first|exact HI0.out|apply IsS87.alloc|apply IsS87.drewN|apply IsS87.drew|apply IsS87.set_1|apply IsS87.set_2)|exact HI0.out));(case side2=>repeat (first|(with_reducible first|exact HB.out|apply below_alloc|apply pw_below_drewN|apply below_drew1|refine below_set ?_ (IsS87.ge HI0.out))|exact HB.out));rintro e w25 ⟨v192,rfl,ho0,hi,hb,hk⟩;refine ⟨_,rfl,?_⟩;have n0_:=Aside0.mk (Kd.R_lower ho0 (keep_size (w:=w) (g:=g) (row:=none) (by repeat (first|(with_reducible first|exact HK.out|apply KeepBut.set_|apply keep_drewN|apply keep_drew|apply keep_alloc)|exact HK.out))));have n1_:=Aside0.mk (KeepBut.trans (by repeat (first|(with_reducible first|exact HK.out|apply KeepBut.set_|apply keep_drewN|apply keep_drew|apply keep_alloc)|exact HK.out)) hk (.inl rfl));have n2_:=Aside0.mk (hb);have n3_:=Aside0.mk (hi);clear HK;clear HB;clear HI0;have HO193:=n0_;have HK:=n1_;have HB:=n2_;have HI0:=n3_;clear n0_ n1_ n2_ n3_;(try clear hb);(try clear hb2);(try clear hk);(try clear hi);(try clear ho0);obtain ⟨Ao26,co26,eo26⟩:=Kd.R_slice HO193.out;subst eo26)|((with_reducible refine gate_callee (f:=58) rfl ?_);refine goesL_ (some 10) rfl rfl Tryd.func58 (by kernel_rfl) rfl #[.pointer (some ⟨g,0,none⟩),.int .i64 (t191.length:Int)] rfl (by (try simp only [List.map_toArray,List.map_cons,List.map_nil]);first|done|rfl|(simp only [List.length_drop,List.length_take];rfl)) ?_;(with_reducible refine (spec_l1Below.calls g s0_0 t194 t195 (t191.length:Int) t196 t197 t198 w0 _ ?side1 ?side2 A3.out).mono ?_);(case side1=>repeat (first|(with_reducible first|exact HI0.out|apply IsS87.alloc|apply IsS87.drewN|apply IsS87.drew|apply IsS87.set_1|apply IsS87.set_2)|exact HI0.out));(case side2=>repeat (first|(with_reducible first|exact HB.out|apply below_alloc|apply pw_below_drewN|apply below_drew1|refine below_set ?_ (IsS87.ge HI0.out))|exact HB.out));rintro e w27 ⟨rfl,hi,hb,hk⟩;refine ⟨_,rfl,?_⟩;have n0_:=Aside0.mk (Kd.R_mono (Kd.R_keep (IsS87.apart (show IsS87 w0 _ g s0_0 t194 t195 from by repeat (first|(with_reducible first|exact HI0.out|apply IsS87.alloc|apply IsS87.drewN|apply IsS87.drew|apply IsS87.set_1|apply IsS87.set_2)|exact HI0.out)) (rR HO193) (by decide)) hk (fun _ h=>h.2)) (fun _ h=>h.1));have n1_:=Aside0.mk (KeepBut.trans (by repeat (first|(with_reducible first|exact HK.out|apply KeepBut.set_|apply keep_drewN|apply keep_drew|apply keep_alloc)|exact HK.out)) hk (.inl rfl));have n2_:=Aside0.mk (hb);have n3_:=Aside0.mk (hi);clear HO193;clear HK;clear HB;clear HI0;have HO193:=n0_;have HK:=n1_;have HB:=n2_;have HI0:=n3_;clear n0_ n1_ n2_ n3_;(try clear hb);(try clear hb2);(try clear hk);(try clear hi))|((with_reducible refine gate_callee (f:=58) rfl ?_);refine goesL_ (some 12) rfl rfl Tryd.func58 (by kernel_rfl) rfl #[.pointer (some ⟨g,0,none⟩),.int .i64 12] rfl (by (try simp only [List.map_toArray,List.map_cons,List.map_nil]);first|done|rfl|(simp only [List.length_drop,List.length_take];rfl)) ?_;(with_reducible refine (spec_l1Below.calls g s0_0 t197 t198 12 t199 t200 t201 w0 _ ?side1 ?side2 A4.out).mono ?_);(case side1=>repeat (first|(with_reducible first|exact HI0.out|apply IsS87.alloc|apply IsS87.drewN|apply IsS87.drew|apply IsS87.set_1|apply IsS87.set_2)|exact HI0.out));(case side2=>repeat (first|(with_reducible first|exact HB.out|apply below_alloc|apply pw_below_drewN|apply below_drew1|refine below_set ?_ (IsS87.ge HI0.out))|exact HB.out));rintro e w28 ⟨rfl,hi,hb,hk⟩;refine ⟨_,rfl,?_⟩;have n0_:=Aside0.mk (Kd.R_mono (Kd.R_keep (IsS87.apart (show IsS87 w0 _ g s0_0 t197 t198 from by repeat (first|(with_reducible first|exact HI0.out|apply IsS87.alloc|apply IsS87.drewN|apply IsS87.drew|apply IsS87.set_1|apply IsS87.set_2)|exact HI0.out)) (rR HO193) (by decide)) hk (fun _ h=>h.2)) (fun _ h=>h.1));have n1_:=Aside0.mk (KeepBut.trans (by repeat (first|(with_reducible first|exact HK.out|apply KeepBut.set_|apply keep_drewN|apply keep_drew|apply keep_alloc)|exact HK.out)) hk (.inl rfl));have n2_:=Aside0.mk (hb);have n3_:=Aside0.mk (hi);clear HO193;clear HK;clear HB;clear HI0;have HO193:=n0_;have HK:=n1_;have HB:=n2_;have HI0:=n3_;clear n0_ n1_ n2_ n3_;(try clear hb);(try clear hb2);(try clear hk);(try clear hi))|((with_reducible refine gate_dst (N:=27) rfl ?_);refine Kd.R_lit (Kd.int .i64) _ 3 ?hg (N:=27) ?hd (xs:=([(-1),20,21]:List Int)) (inner:=[.int .i64 (-1),.int .i64 20,.int .i64 21]) (ok:=fun _=>True) (okp:=fun _=>True) ?hr ?hp (fun _ hk=>hk) trivial (Below.refl _ _) (Nat.le_refl _) (by simp) ?_;(case hd=>rfl);(case hg=>rfl);(case hr=>first|(go_simp;done)|(go_simp;rfl));(case hp=>exact (Reps.one (show Kd.M (Kd.int .i64) _ _ _ (-1) [.int .i64 (-1)] from rfl) (Reps.one (show Kd.M (Kd.int .i64) _ _ _ 20 [.int .i64 20] from rfl) (Reps.one (show Kd.M (Kd.int .i64) _ _ _ 21 [.int .i64 21] from rfl) (Reps.none _ _)))));intro v210 w29 ho30 hb hg_ hnew_;clear hg_ hnew_;(first|rw [← Ny209.out] at ho30|(simp only [Int.reduceToNat] at ho30;rw [← Ny209.out] at ho30));have n0_:=Aside0.mk (Kd.R_below ((rR HO193)) hb);have n1_:=Aside0.mk (Kd.R_lower ho30 (keep_size (w:=w) (g:=g) (row:=none) (by repeat (first|(with_reducible first|exact HK.out|apply KeepBut.set_|apply keep_drewN|apply keep_drew|apply keep_alloc)|exact HK.out))));have n2_:=Aside0.mk (IsS87.below (by repeat (first|(with_reducible first|exact HI0.out|apply IsS87.alloc|apply IsS87.drewN|apply IsS87.drew|apply IsS87.set_1|apply IsS87.set_2)|exact HI0.out)) hb);have n3_:=Aside0.mk (KeepBut.trans (by repeat (first|(with_reducible first|exact HK.out|apply KeepBut.set_|apply keep_drewN|apply keep_drew|apply keep_alloc)|exact HK.out)) (KeepBut.of_below hb g none) (.inl rfl));have n4_:=Aside0.mk (below_step (by repeat (first|(with_reducible first|exact HB.out|apply below_alloc|apply pw_below_drewN|apply below_drew1|refine below_set ?_ (IsS87.ge HI0.out))|exact HB.out)) hb);clear HO193;clear HI0;clear HK;clear HB;have HO193:=n0_;have HO211:=n1_;have HI0:=n2_;have HK:=n3_;have HB:=n4_;clear n0_ n1_ n2_ n3_ n4_;clear hb ho30;obtain ⟨Ao31,co31,eo31⟩:=Kd.R_slice HO211.out;subst eo31)|((with_reducible refine gate_callee (f:=67) rfl ?_);refine goesL_ (some 28) rfl rfl Tryd.func67 (by kernel_rfl) rfl #[.pointer (some ⟨g,0,none⟩),.slice Ao31 y209.length co31] rfl (by (try simp only [List.map_toArray,List.map_cons,List.map_nil]);first|done|rfl|(simp only [List.length_drop,List.length_take];rfl)) ?_;(with_reducible refine (spec_l1Int.calls g s0_0 t200 t201 _ _ y209 t212 t213 t214 w0 _ ?side1 ?side2 ?side3 ?side4 ?side5 A21.out).mono ?_);(case side1=>repeat (first|(with_reducible first|exact HI0.out|apply IsS87.alloc|apply IsS87.drewN|apply IsS87.drew|apply IsS87.set_1|apply IsS87.set_2)|exact HI0.out));(case side2=>repeat (first|(with_reducible first|exact HB.out|apply below_alloc|apply pw_below_drewN|apply below_drew1|refine below_set ?_ (IsS87.ge HI0.out))|exact HB.out));(case side3=>exact sR HO211);(case side4=>exact (Kd.R_reads' HO211.out).2.1);(case side5=>exact far_slice (IsS87.own_ne HI0.out HO211.out (by decide)));rintro e w32 ⟨rfl,hi,hb,hk⟩;refine ⟨_,rfl,?_⟩;have n0_:=Aside0.mk (Kd.R_mono (Kd.R_keep (IsS87.apart (show IsS87 w0 _ g s0_0 t200 t201 from by repeat (first|(with_reducible first|exact HI0.out|apply IsS87.alloc|apply IsS87.drewN|apply IsS87.drew|apply IsS87.set_1|apply IsS87.set_2)|exact HI0.out)) (rR HO193) (by decide)) hk (fun _ h=>h.2)) (fun _ h=>h.1));have n1_:=Aside0.mk (Kd.R_mono (Kd.R_keep (IsS87.apart (show IsS87 w0 _ g s0_0 t200 t201 from by repeat (first|(with_reducible first|exact HI0.out|apply IsS87.alloc|apply IsS87.drewN|apply IsS87.drew|apply IsS87.set_1|apply IsS87.set_2)|exact HI0.out)) (rR HO211) (by decide)) hk (fun _ h=>h.2)) (fun _ h=>h.1));have n2_:=Aside0.mk (KeepBut.trans (by repeat (first|(with_reducible first|exact HK.out|apply KeepBut.set_|apply keep_drewN|apply keep_drew|apply keep_alloc)|exact HK.out)) hk (.inl rfl));have n3_:=Aside0.mk (hb);have n4_:=Aside0.mk (hi);clear HO193;clear HO211;clear HK;clear HB;clear HI0;have HO193:=n0_;have HO211:=n1_;have HK:=n2_;have HB:=n3_;have HI0:=n4_;clear n0_ n1_ n2_ n3_ n4_;(try clear hb);(try clear hb2);(try clear hk);(try clear hi);have p24:0≤(t196:Int):=of_decide_eq_true (by first|(with_reducible assumption)|assumption);have q24:(t196:Int) < ((t191.length:Int):Int):=of_decide_eq_true (by first|(with_reducible assumption)|assumption);obtain ⟨go24,co24,eo24,gb24,gl24,cl24,HG24⟩:=Kd.R_form HO193.out (by omega);(first|cases eo24|(injection eo24 with ea_ en_ ec_;(first|subst ea_|(injection ea_ with ea_;subst ea_));subst ec_;clear en_));have GB24:=Aside0.mk gb24;have GG24:=Aside0.mk HG24;clear gb24 gl24 HG24;obtain ⟨ce24,hcl24,hM24,hcc24,hfr24⟩:=Kd.R_elem HO193.out z53 (t196:Int) p24 q24;obtain rfl:=k53_openM hM24;have hx24_0:w32.cell? ⟨go24,(t196:Int).toNat * 3,none⟩=some (.int .i64 ((rd_T53 t191 t196).f0)):=hcc24 0 _ rfl;have hx24_1:w32.cell? ⟨go24,(t196:Int).toNat * 3+1,none⟩=some (.int .i64 ((rd_T53 t191 t196).f1)):=hcc24 1 _ rfl;have hx24_2:w32.cell? ⟨go24,(t196:Int).toNat * 3+2,none⟩=some (.int .i64 ((rd_T53 t191 t196).f2)):=hcc24 2 _ rfl;have hf24_0:w32.frozen? ⟨go24,(t196:Int).toNat * 3,none⟩=false:=hfr24 0;have hf24_1:w32.frozen? ⟨go24,(t196:Int).toNat * 3+1,none⟩=false:=hfr24 1;have hf24_2:w32.frozen? ⟨go24,(t196:Int).toNat * 3+2,none⟩=false:=hfr24 2;clear hcl24 hcc24 hfr24 hM24;replace p24:=eq_true p24;replace q24:=eq_true q24;have HX33:=Aside0.mk (show Kd.R k53 53 w32 w.heap.size (fun _=>True) (.slice (some ⟨go24,0,none⟩) t191.length co26) t191 from (rR HO193));obtain ⟨ce33,hcl33,hM33,hcc33,hfr33⟩:=Kd.R_elem HX33.out z53 (t196:Int) (of_decide_eq_true (by first|(with_reducible assumption)|assumption)) (by have h_:(t196:Int) < ((t191.length:Int):Int):=of_decide_eq_true (by first|(with_reducible assumption)|assumption);first|exact h_|(have e_:=(Kd.R_reads' HO193.out).1;omega)|simpa using h_);obtain rfl:=k53_openM hM33;have HP33:=Kd.R_seg HX33.out (t196:Int) (of_decide_eq_true (by first|(with_reducible assumption)|assumption)) (by have h_:(t196:Int) < ((t191.length:Int):Int):=of_decide_eq_true (by first|(with_reducible assumption)|assumption);first|exact h_|(have e_:=(Kd.R_reads' HO193.out).1;omega)|simpa using h_) (seg:=[.int .i64 t212]) (j:=1) hcl33 hcc33 (show 2≤3 from by decide) (x':=(⟨(rd_T53 t191 t196).f0,t212,(rd_T53 t191 t196).f2⟩:S53)) (k53_mkM _ _ _ (⟨(rd_T53 t191 t196).f0,t212,(rd_T53 t191 t196).f2⟩:S53) ) (fun _ hk=>hk);have hx33_1:=hcc33 1 _ rfl;(try simp only [show (k53).sz=3 from rfl,Nat.mul_one,Nat.add_zero] at hx33_1);have hf33_1:=hfr33 1;(try simp only [show (k53).sz=3 from rfl,Nat.mul_one,Nat.add_zero] at hf33_1);clear hcl33 hcc33 hfr33 hM33)|((with_reducible refine gate_store (t:=3) (p:=30) rfl ?_);refine store_event (t:=3) (p:=30) (v:=?vo_w34) (w1:=(w32.setCell ⟨go24,(t196:Int).toNat * 3+1,none⟩ (.int .i64 t212))) ?hg ?ho ?hn ?hr ?_;(case ho=>rfl);(case hg=>rfl);(case hn=>rfl);(case hr=>first|(go_simp;done)|(go_simp;rfl));intro w34 hw;have hg:w32.grownBy w34 (some go24):=(by rw [hw];exact HP33.2);have hp_:Kd.R k53 53 w34 w.heap.size (fun _=>True) (.slice (some ⟨go24,0,none⟩) t191.length co26) y215:=(by rw [hw,Ny215.out];exact HP33.1);clear HP33;have n0_:=Aside0.mk (IsS87.grown (by repeat (first|(with_reducible first|exact HI0.out|apply IsS87.alloc|apply IsS87.drewN|apply IsS87.drew|apply IsS87.set_1|apply IsS87.set_2)|exact HI0.out)) hg (IsS87.own_ne HI0.out HO193.out (by decide)));have n1_:=Aside0.mk (hp_);have n2_:=Aside0.mk (Kd.R_over' (v:=(.slice (some ⟨go24,0,none⟩) t191.length co26)) (rR HO211) (Kd.R_typed HO193.out) (by decide) hg);have n3_:=Aside0.mk ((by rw [hw];exact below_set (HB.out) (Nat.le_trans HL.out GB24.out):Below w0.heap.size w0 w34));have n4_:=Aside0.mk (KeepBut.trans (by repeat (first|(with_reducible first|exact HK.out|apply KeepBut.set_|apply keep_drewN|apply keep_drew|apply keep_alloc)|exact HK.out)) (KeepBut.of_grown hg g) (Kd.R_base2 HO193.out));clear HI0;clear HO193;clear HO211;clear HB;clear HK;have HI0:=n0_;have HO193:=n1_;have HO211:=n2_;have HB:=n3_;have HK:=n4_;clear n0_ n1_ n2_ n3_ n4_;clear hg hw hp_))
     go_ret
     exact ⟨_,rz,rR HO193,by repeat (first|(with_reducible first|exact HI0.out|apply IsS87.alloc|apply IsS87.drewN|apply IsS87.drew|apply IsS87.set_1|apply IsS87.set_2)|exact HI0.out),by repeat (first|(with_reducible first|exact HB.out|apply below_alloc|apply pw_below_drewN|apply below_drew1|refine below_set ?_ (IsS87.ge HI0.out))|exact HB.out),by repeat (first|(with_reducible first|exact HK.out|apply KeepBut.set_|apply keep_drewN|apply keep_drew|apply keep_alloc)|exact HK.out)⟩
    ·rw [if_neg c23] at H
     exact absurd H (by simp)
   ·rw [if_neg c22] at H
    exact absurd H (by simp)
  ·rw [if_neg c20] at H
   have c20b0:(t199 == 1)=false:=beq_eq_false_iff_ne.mpr c20
   have c20b1:(t199 != 1)=true:=bne_iff_ne.mpr c20
   by_cases c35:t199=2
   ·rw [if_pos c35] at H
    have c35b0:(t199 == 2)=true:=beq_iff_eq.mpr c35
    have c35b1:(t199 != 2)=false:=bne_eq_false_iff_eq.mpr c35
    clear c35
    obtain ⟨y216,hy216⟩ : ∃ y_:List Int,y_=(([0,1000,1001]:List Int)):=⟨_,rfl⟩
    replace H:((spec_l1Int.f s0_0 t200 t201 y216).bind fun bt219=>(if 0≤t196 then (if t196 < (t191.length:Int) then (some ((t191.set (t196:Int).toNat (⟨(rd_T53 t191 t196).f0,(rd_T53 t191 t196).f1,bt219.1⟩:S53)),bt219.2.1,bt219.2.2)) else (none)) else (none)))=some (r1,r2,r3):=by first|(rw [hy216];with_reducible exact H)|(have H2_:=(Option.bind_some _ _).symm.trans H;rw [hy216];with_reducible exact H2_)|(have H2_:=(Option.bind_some _ _).symm.trans H;with_reducible exact H2_)|with_reducible exact H|(rw [hy216];exact H)|exact H
    have Ny216:=Aside0.mk hy216
    clear hy216
    replace H:=Option.bind_eq_some_iff.mp H
    obtain ⟨⟨t219,t220,t221⟩,A360,H⟩:=H
    try dsimp only at H
    have A36:=Aside0.mk A360
    clear A360
    by_cases c37:0≤t196
    ·rw [if_pos c37] at H
     have c37b0:decide (0≤t196)=true:=decide_eq_true c37
     clear c37
     by_cases c38:t196 < (t191.length:Int)
     ·rw [if_pos c38] at H
      have c38b0:decide (t196 < (t191.length:Int))=true:=decide_eq_true c38
      clear c38
      obtain ⟨y222,hy222⟩ : ∃ y_:List (S53),y_=(t191.set (t196:Int).toNat (⟨(rd_T53 t191 t196).f0,(rd_T53 t191 t196).f1,t219⟩:S53)):=⟨_,rfl⟩
      replace H:(some (y222,t220,t221))=some (r1,r2,r3):=by first|(rw [hy222];with_reducible exact H)|(have H2_:=(Option.bind_some _ _).symm.trans H;rw [hy222];with_reducible exact H2_)|(have H2_:=(Option.bind_some _ _).symm.trans H;with_reducible exact H2_)|with_reducible exact H|(rw [hy222];exact H)|exact H
      have Ny222:=Aside0.mk hy222
      clear hy222
      simp only [Option.some.injEq,Prod.mk.injEq] at H
      obtain ⟨rfl,rfl,rfl⟩:=H
      go_enter Tryd.func59,Tryd.ntmps59
      go_wp2_with (first|((with_reducible refine gate_callee (f:=57) rfl ?_);refine goesL_ (some 6) rfl rfl Tryd.func57 (by kernel_rfl) rfl #[.pointer (some ⟨g,0,none⟩)] rfl (by (try simp only [List.map_toArray,List.map_cons,List.map_nil]);first|done|rfl|(simp only [List.length_drop,List.length_take];rfl)) ?_;(with_reducible refine (spec_l4Draw.calls k g s0_0 s0_1 s0_2 t191 t194 t195 w0 _ ?side1 ?side2 A2.out).mono ?_);(case side1=>repeat (first|(with_reducible first|exact HI0.out|apply IsS87.alloc|apply IsS87.drewN|apply IsS87.drew|apply IsS87.set_1|apply IsS87.set_2)|exact HI0.out));(case side2=>repeat (first|(with_reducible first|exact HB.out|apply below_alloc|apply pw_below_drewN|apply below_drew1|refine below_set ?_ (IsS87.ge HI0.out))|exact HB.out));rintro e w40 ⟨v192,rfl,ho0,hi,hb,hk⟩;refine ⟨_,rfl,?_⟩;have n0_:=Aside0.mk (Kd.R_lower ho0 (keep_size (w:=w) (g:=g) (row:=none) (by repeat (first|(with_reducible first|exact HK.out|apply KeepBut.set_|apply keep_drewN|apply keep_drew|apply keep_alloc)|exact HK.out))));have n1_:=Aside0.mk (KeepBut.trans (by repeat (first|(with_reducible first|exact HK.out|apply KeepBut.set_|apply keep_drewN|apply keep_drew|apply keep_alloc)|exact HK.out)) hk (.inl rfl));have n2_:=Aside0.mk (hb);have n3_:=Aside0.mk (hi);clear HK;clear HB;clear HI0;have HO193:=n0_;have HK:=n1_;have HB:=n2_;have HI0:=n3_;clear n0_ n1_ n2_ n3_;(try clear hb);(try clear hb2);(try clear hk);(try clear hi);(try clear ho0);obtain ⟨Ao41,co41,eo41⟩:=Kd.R_slice HO193.out;subst eo41)|((with_reducible refine gate_callee (f:=58) rfl ?_);refine goesL_ (some 10) rfl rfl Tryd.func58 (by kernel_rfl) rfl #[.pointer (some ⟨g,0,none⟩),.int .i64 (t191.length:Int)] rfl (by (try simp only [List.map_toArray,List.map_cons,List.map_nil]);first|done|rfl|(simp only [List.length_drop,List.length_take];rfl)) ?_;(with_reducible refine (spec_l1Below.calls g s0_0 t194 t195 (t191.length:Int) t196 t197 t198 w0 _ ?side1 ?side2 A3.out).mono ?_);(case side1=>repeat (first|(with_reducible first|exact HI0.out|apply IsS87.alloc|apply IsS87.drewN|apply IsS87.drew|apply IsS87.set_1|apply IsS87.set_2)|exact HI0.out));(case side2=>repeat (first|(with_reducible first|exact HB.out|apply below_alloc|apply pw_below_drewN|apply below_drew1|refine below_set ?_ (IsS87.ge HI0.out))|exact HB.out));rintro e w42 ⟨rfl,hi,hb,hk⟩;refine ⟨_,rfl,?_⟩;have n0_:=Aside0.mk (Kd.R_mono (Kd.R_keep (IsS87.apart (show IsS87 w0 _ g s0_0 t194 t195 from by repeat (first|(with_reducible first|exact HI0.out|apply IsS87.alloc|apply IsS87.drewN|apply IsS87.drew|apply IsS87.set_1|apply IsS87.set_2)|exact HI0.out)) (rR HO193) (by decide)) hk (fun _ h=>h.2)) (fun _ h=>h.1));have n1_:=Aside0.mk (KeepBut.trans (by repeat (first|(with_reducible first|exact HK.out|apply KeepBut.set_|apply keep_drewN|apply keep_drew|apply keep_alloc)|exact HK.out)) hk (.inl rfl));have n2_:=Aside0.mk (hb);have n3_:=Aside0.mk (hi);clear HO193;clear HK;clear HB;clear HI0;have HO193:=n0_;have HK:=n1_;have HB:=n2_;have HI0:=n3_;clear n0_ n1_ n2_ n3_;(try clear hb);(try clear hb2);(try clear hk);(try clear hi))|((with_reducible refine gate_callee (f:=58) rfl ?_);refine goesL_ (some 12) rfl rfl Tryd.func58 (by kernel_rfl) rfl #[.pointer (some ⟨g,0,none⟩),.int .i64 12] rfl (by (try simp only [List.map_toArray,List.map_cons,List.map_nil]);first|done|rfl|(simp only [List.length_drop,List.length_take];rfl)) ?_;(with_reducible refine (spec_l1Below.calls g s0_0 t197 t198 12 t199 t200 t201 w0 _ ?side1 ?side2 A4.out).mono ?_);(case side1=>repeat (first|(with_reducible first|exact HI0.out|apply IsS87.alloc|apply IsS87.drewN|apply IsS87.drew|apply IsS87.set_1|apply IsS87.set_2)|exact HI0.out));(case side2=>repeat (first|(with_reducible first|exact HB.out|apply below_alloc|apply pw_below_drewN|apply below_drew1|refine below_set ?_ (IsS87.ge HI0.out))|exact HB.out));rintro e w43 ⟨rfl,hi,hb,hk⟩;refine ⟨_,rfl,?_⟩;have n0_:=Aside0.mk (Kd.R_mono (Kd.R_keep (IsS87.apart (show IsS87 w0 _ g s0_0 t197 t198 from by repeat (first|(with_reducible first|exact HI0.out|apply IsS87.alloc|apply IsS87.drewN|apply IsS87.drew|apply IsS87.set_1|apply IsS87.set_2)|exact HI0.out)) (rR HO193) (by decide)) hk (fun _ h=>h.2)) (fun _ h=>h.1));have n1_:=Aside0.mk (KeepBut.trans (by repeat (first|(with_reducible first|exact HK.out|apply KeepBut.set_|apply keep_drewN|apply keep_drew|apply keep_alloc)|exact HK.out)) hk (.inl rfl));have n2_:=Aside0.mk (hb);have n3_:=Aside0.mk (hi);clear HO193;clear HK;clear HB;clear HI0;have HO193:=n0_;have HK:=n1_;have HB:=n2_;have HI0:=n3_;clear n0_ n1_ n2_ n3_;(try clear hb);(try clear hb2);(try clear hk);(try clear hi))|((with_reducible refine gate_dst (N:=36) rfl ?_);refine Kd.R_lit (Kd.int .i64) _ 3 ?hg (N:=36) ?hd (xs:=([0,1000,1001]:List Int)) (inner:=[.int .i64 0,.int .i64 1000,.int .i64 1001]) (ok:=fun _=>True) (okp:=fun _=>True) ?hr ?hp (fun _ hk=>hk) trivial (Below.refl _ _) (Nat.le_refl _) (by simp) ?_;(case hd=>rfl);(case hg=>rfl);(case hr=>first|(go_simp;done)|(go_simp;rfl));(case hp=>exact (Reps.one (show Kd.M (Kd.int .i64) _ _ _ 0 [.int .i64 0] from rfl) (Reps.one (show Kd.M (Kd.int .i64) _ _ _ 1000 [.int .i64 1000] from rfl) (Reps.one (show Kd.M (Kd.int .i64) _ _ _ 1001 [.int .i64 1001] from rfl) (Reps.none _ _)))));intro v217 w44 ho45 hb hg_ hnew_;clear hg_ hnew_;(first|rw [← Ny216.out] at ho45|(simp only [Int.reduceToNat] at ho45;rw [← Ny216.out] at ho45));have n0_:=Aside0.mk (Kd.R_below ((rR HO193)) hb);have n1_:=Aside0.mk (Kd.R_lower ho45 (keep_size (w:=w) (g:=g) (row:=none) (by repeat (first|(with_reducible first|exact HK.out|apply KeepBut.set_|apply keep_drewN|apply keep_drew|apply keep_alloc)|exact HK.out))));have n2_:=Aside0.mk (IsS87.below (by repeat (first|(with_reducible first|exact HI0.out|apply IsS87.alloc|apply IsS87.drewN|apply IsS87.drew|apply IsS87.set_1|apply IsS87.set_2)|exact HI0.out)) hb);have n3_:=Aside0.mk (KeepBut.trans (by repeat (first|(with_reducible first|exact HK.out|apply KeepBut.set_|apply keep_drewN|apply keep_drew|apply keep_alloc)|exact HK.out)) (KeepBut.of_below hb g none) (.inl rfl));have n4_:=Aside0.mk (below_step (by repeat (first|(with_reducible first|exact HB.out|apply below_alloc|apply pw_below_drewN|apply below_drew1|refine below_set ?_ (IsS87.ge HI0.out))|exact HB.out)) hb);clear HO193;clear HI0;clear HK;clear HB;have HO193:=n0_;have HO218:=n1_;have HI0:=n2_;have HK:=n3_;have HB:=n4_;clear n0_ n1_ n2_ n3_ n4_;clear hb ho45;obtain ⟨Ao46,co46,eo46⟩:=Kd.R_slice HO218.out;subst eo46)|((with_reducible refine gate_callee (f:=67) rfl ?_);refine goesL_ (some 37) rfl rfl Tryd.func67 (by kernel_rfl) rfl #[.pointer (some ⟨g,0,none⟩),.slice Ao46 y216.length co46] rfl (by (try simp only [List.map_toArray,List.map_cons,List.map_nil]);first|done|rfl|(simp only [List.length_drop,List.length_take];rfl)) ?_;(with_reducible refine (spec_l1Int.calls g s0_0 t200 t201 _ _ y216 t219 t220 t221 w0 _ ?side1 ?side2 ?side3 ?side4 ?side5 A36.out).mono ?_);(case side1=>repeat (first|(with_reducible first|exact HI0.out|apply IsS87.alloc|apply IsS87.drewN|apply IsS87.drew|apply IsS87.set_1|apply IsS87.set_2)|exact HI0.out));(case side2=>repeat (first|(with_reducible first|exact HB.out|apply below_alloc|apply pw_below_drewN|apply below_drew1|refine below_set ?_ (IsS87.ge HI0.out))|exact HB.out));(case side3=>exact sR HO218);(case side4=>exact (Kd.R_reads' HO218.out).2.1);(case side5=>exact far_slice (IsS87.own_ne HI0.out HO218.out (by decide)));rintro e w47 ⟨rfl,hi,hb,hk⟩;refine ⟨_,rfl,?_⟩;have n0_:=Aside0.mk (Kd.R_mono (Kd.R_keep (IsS87.apart (show IsS87 w0 _ g s0_0 t200 t201 from by repeat (first|(with_reducible first|exact HI0.out|apply IsS87.alloc|apply IsS87.drewN|apply IsS87.drew|apply IsS87.set_1|apply IsS87.set_2)|exact HI0.out)) (rR HO193) (by decide)) hk (fun _ h=>h.2)) (fun _ h=>h.1));have n1_:=Aside0.mk (Kd.R_mono (Kd.R_keep (IsS87.apart (show IsS87 w0 _ g s0_0 t200 t201 from by repeat (first|(with_reducible first|exact HI0.out|apply IsS87.alloc|apply IsS87.drewN|apply IsS87.drew|apply IsS87.set_1|apply IsS87.set_2)|exact HI0.out)) (rR HO218) (by decide)) hk (fun _ h=>h.2)) (fun _ h=>h.1));have n2_:=Aside0.mk (KeepBut.trans (by repeat (first|(with_reducible first|exact HK.out|apply KeepBut.set_|apply keep_drewN|apply keep_drew|apply keep_alloc)|exact HK.out)) hk (.inl rfl));have n3_:=Aside0.mk (hb);have n4_:=Aside0.mk (hi);clear HO193;clear HO218;clear HK;clear HB;clear HI0;have HO193:=n0_;have HO218:=n1_;have HK:=n2_;have HB:=n3_;have HI0:=n4_;clear n0_ n1_ n2_ n3_ n4_;(try clear hb);(try clear hb2);(try clear hk);(try clear hi);have p39:0≤(t196:Int):=of_decide_eq_true (by first|(with_reducible assumption)|assumption);have q39:(t196:Int) < ((t191.length:Int):Int):=of_decide_eq_true (by first|(with_reducible assumption)|assumption);obtain ⟨go39,co39,eo39,gb39,gl39,cl39,HG39⟩:=Kd.R_form HO193.out (by omega);(first|cases eo39|(injection eo39 with ea_ en_ ec_;(first|subst ea_|(injection ea_ with ea_;subst ea_));subst ec_;clear en_));have GB39:=Aside0.mk gb39;have GG39:=Aside0.mk HG39;clear gb39 gl39 HG39;obtain ⟨ce39,hcl39,hM39,hcc39,hfr39⟩:=Kd.R_elem HO193.out z53 (t196:Int) p39 q39;obtain rfl:=k53_openM hM39;have hx39_0:w47.cell? ⟨go39,(t196:Int).toNat * 3,none⟩=some (.int .i64 ((rd_T53 t191 t196).f0)):=hcc39 0 _ rfl;have hx39_1:w47.cell? ⟨go39,(t196:Int).toNat * 3+1,none⟩=some (.int .i64 ((rd_T53 t191 t196).f1)):=hcc39 1 _ rfl;have hx39_2:w47.cell? ⟨go39,(t196:Int).toNat * 3+2,none⟩=some (.int .i64 ((rd_T53 t191 t196).f2)):=hcc39 2 _ rfl;have hf39_0:w47.frozen? ⟨go39,(t196:Int).toNat * 3,none⟩=false:=hfr39 0;have hf39_1:w47.frozen? ⟨go39,(t196:Int).toNat * 3+1,none⟩=false:=hfr39 1;have hf39_2:w47.frozen? ⟨go39,(t196:Int).toNat * 3+2,none⟩=false:=hfr39 2;clear hcl39 hcc39 hfr39 hM39;replace p39:=eq_true p39;replace q39:=eq_true q39;have HX48:=Aside0.mk (show Kd.R k53 53 w47 w.heap.size (fun _=>True) (.slice (some ⟨go39,0,none⟩) t191.length co41) t191 from (rR HO193));obtain ⟨ce48,hcl48,hM48,hcc48,hfr48⟩:=Kd.R_elem HX48.out z53 (t196:Int) (of_decide_eq_true (by first|(with_reducible assumption)|assumption)) (by have h_:(t196:Int) < ((t191.length:Int):Int):=of_decide_eq_true (by first|(with_reducible assumption)|assumption);first|exact h_|(have e_:=(Kd.R_reads' HO193.out).1;omega)|simpa using h_);obtain rfl:=k53_openM hM48;have HP48:=Kd.R_seg HX48.out (t196:Int) (of_decide_eq_true (by first|(with_reducible assumption)|assumption)) (by have h_:(t196:Int) < ((t191.length:Int):Int):=of_decide_eq_true (by first|(with_reducible assumption)|assumption);first|exact h_|(have e_:=(Kd.R_reads' HO193.out).1;omega)|simpa using h_) (seg:=[.int .i64 t219]) (j:=2) hcl48 hcc48 (show 3≤3 from by decide) (x':=(⟨(rd_T53 t191 t196).f0,(rd_T53 t191 t196).f1,t219⟩:S53)) (k53_mkM _ _ _ (⟨(rd_T53 t191 t196).f0,(rd_T53 t191 t196).f1,t219⟩:S53) ) (fun _ hk=>hk);have hx48_2:=hcc48 2 _ rfl;(try simp only [show (k53).sz=3 from rfl,Nat.mul_one,Nat.add_zero] at hx48_2);have hf48_2:=hfr48 2;(try simp only [show (k53).sz=3 from rfl,Nat.mul_one,Nat.add_zero] at hf48_2);clear hcl48 hcc48 hfr48 hM48)|((with_reducible refine gate_store (t:=3) (p:=39) rfl ?_);refine store_event (t:=3) (p:=39) (v:=?vo_w49) (w1:=(w47.setCell ⟨go39,(t196:Int).toNat * 3+2,none⟩ (.int .i64 t219))) ?hg ?ho ?hn ?hr ?_;(case ho=>rfl);(case hg=>rfl);(case hn=>rfl);(case hr=>first|(go_simp;done)|(go_simp;rfl));intro w49 hw;have hg:w47.grownBy w49 (some go39):=(by rw [hw];exact HP48.2);have hp_:Kd.R k53 53 w49 w.heap.size (fun _=>True) (.slice (some ⟨go39,0,none⟩) t191.length co41) y222:=(by rw [hw,Ny222.out];exact HP48.1);clear HP48;have n0_:=Aside0.mk (IsS87.grown (by repeat (first|(with_reducible first|exact HI0.out|apply IsS87.alloc|apply IsS87.drewN|apply IsS87.drew|apply IsS87.set_1|apply IsS87.set_2)|exact HI0.out)) hg (IsS87.own_ne HI0.out HO193.out (by decide)));have n1_:=Aside0.mk (hp_);have n2_:=Aside0.mk (Kd.R_over' (v:=(.slice (some ⟨go39,0,none⟩) t191.length co41)) (rR HO218) (Kd.R_typed HO193.out) (by decide) hg);have n3_:=Aside0.mk ((by rw [hw];exact below_set (HB.out) (Nat.le_trans HL.out GB39.out):Below w0.heap.size w0 w49));have n4_:=Aside0.mk (KeepBut.trans (by repeat (first|(with_reducible first|exact HK.out|apply KeepBut.set_|apply keep_drewN|apply keep_drew|apply keep_alloc)|exact HK.out)) (KeepBut.of_grown hg g) (Kd.R_base2 HO193.out));clear HI0;clear HO193;clear HO218;clear HB;clear HK;have HI0:=n0_;have HO193:=n1_;have HO218:=n2_;have HB:=n3_;have HK:=n4_;clear n0_ n1_ n2_ n3_ n4_;clear hg hw hp_))
      go_ret
      exact ⟨_,rz,rR HO193,by repeat (first|(with_reducible first|exact HI0.out|apply IsS87.alloc|apply IsS87.drewN|apply IsS87.drew|apply IsS87.set_1|apply IsS87.set_2)|exact HI0.out),by repeat (first|(with_reducible first|exact HB.out|apply below_alloc|apply pw_below_drewN|apply below_drew1|refine below_set ?_ (IsS87.ge HI0.out))|exact HB.out),by repeat (first|(with_reducible first|exact HK.out|apply KeepBut.set_|apply keep_drewN|apply keep_drew|apply keep_alloc)|exact HK.out)⟩
     ·rw [if_neg c38] at H
      exact absurd H (by simp)
    ·rw [if_neg c37] at H
     exact absurd H (by simp)
   ·rw [if_neg c35] at H
    have c35b0:(t199 == 2)=false:=beq_eq_false_iff_ne.mpr c35
    have c35b1:(t199 != 2)=true:=bne_iff_ne.mpr c35
    by_cases c50:t199=3
    ·rw [if_pos c50] at H
     have c50b0:(t199 == 3)=true:=beq_iff_eq.mpr c50
     have c50b1:(t199 != 3)=false:=bne_eq_false_iff_eq.mpr c50
     clear c50
     by_cases c51:0≤(t191.length:Int)
     ·rw [if_pos c51] at H
      have c51b0:=eq_true c51
      have c51b1:decide (0≤(t191.length:Int))=true:=decide_eq_true c51
      clear c51
      obtain ⟨y223,hy223⟩ : ∃ y_:List (S53),y_=(t191.take (0:Int).toNat):=⟨_,rfl⟩
      replace H:(some (y223,t200,t201))=some (r1,r2,r3):=by first|(rw [hy223];with_reducible exact H)|(have H2_:=(Option.bind_some _ _).symm.trans H;rw [hy223];with_reducible exact H2_)|(have H2_:=(Option.bind_some _ _).symm.trans H;with_reducible exact H2_)|with_reducible exact H|(rw [hy223];exact H)|exact H
      have Ny223:=Aside0.mk hy223
      clear hy223
      simp only [Option.some.injEq,Prod.mk.injEq] at H
      obtain ⟨rfl,rfl,rfl⟩:=H
      go_enter Tryd.func59,Tryd.ntmps59
      go_wp2_with (first|((with_reducible refine gate_callee (f:=57) rfl ?_);refine goesL_ (some 6) rfl rfl Tryd.func57 (by kernel_rfl) rfl #[.pointer (some ⟨g,0,none⟩)] rfl (by (try simp only [List.map_toArray,List.map_cons,List.map_nil]);first|done|rfl|(simp only [List.length_drop,List.length_take];rfl)) ?_;(with_reducible refine (spec_l4Draw.calls k g s0_0 s0_1 s0_2 t191 t194 t195 w0 _ ?side1 ?side2 A2.out).mono ?_);(case side1=>repeat (first|(with_reducible first|exact HI0.out|apply IsS87.alloc|apply IsS87.drewN|apply IsS87.drew|apply IsS87.set_1|apply IsS87.set_2)|exact HI0.out));(case side2=>repeat (first|(with_reducible first|exact HB.out|apply below_alloc|apply pw_below_drewN|apply below_drew1|refine below_set ?_ (IsS87.ge HI0.out))|exact HB.out));rintro e w52 ⟨v192,rfl,ho0,hi,hb,hk⟩;refine ⟨_,rfl,?_⟩;have n0_:=Aside0.mk (Kd.R_lower ho0 (keep_size (w:=w) (g:=g) (row:=none) (by repeat (first|(with_reducible first|exact HK.out|apply KeepBut.set_|apply keep_drewN|apply keep_drew|apply keep_alloc)|exact HK.out))));have n1_:=Aside0.mk (KeepBut.trans (by repeat (first|(with_reducible first|exact HK.out|apply KeepBut.set_|apply keep_drewN|apply keep_drew|apply keep_alloc)|exact HK.out)) hk (.inl rfl));have n2_:=Aside0.mk (hb);have n3_:=Aside0.mk (hi);clear HK;clear HB;clear HI0;have HO193:=n0_;have HK:=n1_;have HB:=n2_;have HI0:=n3_;clear n0_ n1_ n2_ n3_;(try clear hb);(try clear hb2);(try clear hk);(try clear hi);(try clear ho0);obtain ⟨Ao53,co53,eo53⟩:=Kd.R_slice HO193.out;subst eo53)|((with_reducible refine gate_callee (f:=58) rfl ?_);refine goesL_ (some 10) rfl rfl Tryd.func58 (by kernel_rfl) rfl #[.pointer (some ⟨g,0,none⟩),.int .i64 (t191.length:Int)] rfl (by (try simp only [List.map_toArray,List.map_cons,List.map_nil]);first|done|rfl|(simp only [List.length_drop,List.length_take];rfl)) ?_;(with_reducible refine (spec_l1Below.calls g s0_0 t194 t195 (t191.length:Int) t196 t197 t198 w0 _ ?side1 ?side2 A3.out).mono ?_);(case side1=>repeat (first|(with_reducible first|exact HI0.out|apply IsS87.alloc|apply IsS87.drewN|apply IsS87.drew|apply IsS87.set_1|apply IsS87.set_2)|exact HI0.out));(case side2=>repeat (first|(with_reducible first|exact HB.out|apply below_alloc|apply pw_below_drewN|apply below_drew1|refine below_set ?_ (IsS87.ge HI0.out))|exact HB.out));rintro e w54 ⟨rfl,hi,hb,hk⟩;refine ⟨_,rfl,?_⟩;have n0_:=Aside0.mk (Kd.R_mono (Kd.R_keep (IsS87.apart (show IsS87 w0 _ g s0_0 t194 t195 from by repeat (first|(with_reducible first|exact HI0.out|apply IsS87.alloc|apply IsS87.drewN|apply IsS87.drew|apply IsS87.set_1|apply IsS87.set_2)|exact HI0.out)) (rR HO193) (by decide)) hk (fun _ h=>h.2)) (fun _ h=>h.1));have n1_:=Aside0.mk (KeepBut.trans (by repeat (first|(with_reducible first|exact HK.out|apply KeepBut.set_|apply keep_drewN|apply keep_drew|apply keep_alloc)|exact HK.out)) hk (.inl rfl));have n2_:=Aside0.mk (hb);have n3_:=Aside0.mk (hi);clear HO193;clear HK;clear HB;clear HI0;have HO193:=n0_;have HK:=n1_;have HB:=n2_;have HI0:=n3_;clear n0_ n1_ n2_ n3_;(try clear hb);(try clear hb2);(try clear hk);(try clear hi))|((with_reducible refine gate_callee (f:=58) rfl ?_);refine goesL_ (some 12) rfl rfl Tryd.func58 (by kernel_rfl) rfl #[.pointer (some ⟨g,0,none⟩),.int .i64 12] rfl (by (try simp only [List.map_toArray,List.map_cons,List.map_nil]);first|done|rfl|(simp only [List.length_drop,List.length_take];rfl)) ?_;(with_reducible refine (spec_l1Below.calls g s0_0 t197 t198 12 t199 t200 t201 w0 _ ?side1 ?side2 A4.out).mono ?_);(case side1=>repeat (first|(with_reducible first|exact HI0.out|apply IsS87.alloc|apply IsS87.drewN|apply IsS87.drew|apply IsS87.set_1|apply IsS87.set_2)|exact HI0.out));(case side2=>repeat (first|(with_reducible first|exact HB.out|apply below_alloc|apply pw_below_drewN|apply below_drew1|refine below_set ?_ (IsS87.ge HI0.out))|exact HB.out));rintro e w55 ⟨rfl,hi,hb,hk⟩;refine ⟨_,rfl,?_⟩;have n0_:=Aside0.mk (Kd.R_mono (Kd.R_keep (IsS87.apart (show IsS87 w0 _ g s0_0 t197 t198 from by repeat (first|(with_reducible first|exact HI0.out|apply IsS87.alloc|apply IsS87.drewN|apply IsS87.drew|apply IsS87.set_1|apply IsS87.set_2)|exact HI0.out)) (rR HO193) (by decide)) hk (fun _ h=>h.2)) (fun _ h=>h.1));have n1_:=Aside0.mk (KeepBut.trans (by repeat (first|(with_reducible first|exact HK.out|apply KeepBut.set_|apply keep_drewN|apply keep_drew|apply keep_alloc)|exact HK.out)) hk (.inl rfl));have n2_:=Aside0.mk (hb);have n3_:=Aside0.mk (hi);clear HO193;clear HK;clear HB;clear HI0;have HO193:=n0_;have HK:=n1_;have HB:=n2_;have HI0:=n3_;clear n0_ n1_ n2_ n3_;(try clear hb);(try clear hb2);(try clear hk);(try clear hi);have q56:(0:Int)≤((t191.length:Int):Int):=of_decide_eq_true (by first|(with_reducible assumption)|assumption);obtain ⟨i056,hi056,_,hsz56,_⟩:=info_parts info53;have hcut56:=cut_to (P:=Tryd.prog) 31 53 .i64 Tryd.underlying31 hi056 Ao53 t191.length co53 0 (by omega) q56 (Kd.R_reads' HO193.out).2.1;have hr56:=Kd.R_take (m:=(0:Int).toNat) HO193.out (by omega);have hy56:y223.length=(0:Int).toNat:=(by rw [Ny223.out,List.length_take];omega);rw [← Ny223.out] at hr56;rw [← hy56] at hr56 hcut56;clear hy56 hi056 hsz56 HO193;have HO225:=Aside0.mk hr56;clear hr56;replace q56:=eq_true q56))
      go_ret
      exact ⟨_,rz,rR HO225,by repeat (first|(with_reducible first|exact HI0.out|apply IsS87.alloc|apply IsS87.drewN|apply IsS87.drew|apply IsS87.set_1|apply IsS87.set_2)|exact HI0.out),by repeat (first|(with_reducible first|exact HB.out|apply below_alloc|apply pw_below_drewN|apply below_drew1|refine below_set ?_ (IsS87.ge HI0.out))|exact HB.out),by repeat (first|(with_reducible first|exact HK.out|apply KeepBut.set_|apply keep_drewN|apply keep_drew|apply keep_alloc)|exact HK.out)⟩
     ·rw [if_neg c51] at H
      exact absurd H (by simp)
    ·rw [if_neg c50] at H
     have c50b0:(t199 == 3)=false:=beq_eq_false_iff_ne.mpr c50
     have c50b1:(t199 != 3)=true:=bne_iff_ne.mpr c50
     simp only [Option.some.injEq,Prod.mk.injEq] at H
     obtain ⟨rfl,rfl,rfl⟩:=H
     go_enter Tryd.func59,Tryd.ntmps59
     go_wp2_with (first|((with_reducible refine gate_callee (f:=57) rfl ?_);refine goesL_ (some 6) rfl rfl Tryd.func57 (by kernel_rfl) rfl #[.pointer (some ⟨g,0,none⟩)] rfl (by (try simp only [List.map_toArray,List.map_cons,List.map_nil]);first|done|rfl|(simp only [List.length_drop,List.length_take];rfl)) ?_;(with_reducible refine (spec_l4Draw.calls k g s0_0 s0_1 s0_2 t191 t194 t195 w0 _ ?side1 ?side2 A2.out).mono ?_);(case side1=>repeat (first|(with_reducible first|exact HI0.out|apply IsS87.alloc|apply IsS87.drewN|apply IsS87.drew|apply IsS87.set_1|apply IsS87.set_2)|exact HI0.out));(case side2=>repeat (first|(with_reducible first|exact HB.out|apply below_alloc|apply pw_below_drewN|apply below_drew1|refine below_set ?_ (IsS87.ge HI0.out))|exact HB.out));rintro e w57 ⟨v192,rfl,ho0,hi,hb,hk⟩;refine ⟨_,rfl,?_⟩;have n0_:=Aside0.mk (Kd.R_lower ho0 (keep_size (w:=w) (g:=g) (row:=none) (by repeat (first|(with_reducible first|exact HK.out|apply KeepBut.set_|apply keep_drewN|apply keep_drew|apply keep_alloc)|exact HK.out))));have n1_:=Aside0.mk (KeepBut.trans (by repeat (first|(with_reducible first|exact HK.out|apply KeepBut.set_|apply keep_drewN|apply keep_drew|apply keep_alloc)|exact HK.out)) hk (.inl rfl));have n2_:=Aside0.mk (hb);have n3_:=Aside0.mk (hi);clear HK;clear HB;clear HI0;have HO193:=n0_;have HK:=n1_;have HB:=n2_;have HI0:=n3_;clear n0_ n1_ n2_ n3_;(try clear hb);(try clear hb2);(try clear hk);(try clear hi);(try clear ho0);obtain ⟨Ao58,co58,eo58⟩:=Kd.R_slice HO193.out;subst eo58)|((with_reducible refine gate_callee (f:=58) rfl ?_);refine goesL_ (some 10) rfl rfl Tryd.func58 (by kernel_rfl) rfl #[.pointer (some ⟨g,0,none⟩),.int .i64 (t191.length:Int)] rfl (by (try simp only [List.map_toArray,List.map_cons,List.map_nil]);first|done|rfl|(simp only [List.length_drop,List.length_take];rfl)) ?_;(with_reducible refine (spec_l1Below.calls g s0_0 t194 t195 (t191.length:Int) t196 t197 t198 w0 _ ?side1 ?side2 A3.out).mono ?_);(case side1=>repeat (first|(with_reducible first|exact HI0.out|apply IsS87.alloc|apply IsS87.drewN|apply IsS87.drew|apply IsS87.set_1|apply IsS87.set_2)|exact HI0.out));(case side2=>repeat (first|(with_reducible first|exact HB.out|apply below_alloc|apply pw_below_drewN|apply below_drew1|refine below_set ?_ (IsS87.ge HI0.out))|exact HB.out));rintro e w59 ⟨rfl,hi,hb,hk⟩;refine ⟨_,rfl,?_⟩;have n0_:=Aside0.mk (Kd.R_mono (Kd.R_keep (IsS87.apart (show IsS87 w0 _ g s0_0 t194 t195 from by repeat (first|(with_reducible first|exact HI0.out|apply IsS87.alloc|apply IsS87.drewN|apply IsS87.drew|apply IsS87.set_1|apply IsS87.set_2)|exact HI0.out)) (rR HO193) (by decide)) hk (fun _ h=>h.2)) (fun _ h=>h.1));have n1_:=Aside0.mk (KeepBut.trans (by repeat (first|(with_reducible first|exact HK.out|apply KeepBut.set_|apply keep_drewN|apply keep_drew|apply keep_alloc)|exact HK.out)) hk (.inl rfl));have n2_:=Aside0.mk (hb);have n3_:=Aside0.mk (hi);clear HO193;clear HK;clear HB;clear HI0;have HO193:=n0_;have HK:=n1_;have HB:=n2_;have HI0:=n3_;clear n0_ n1_ n2_ n3_;(try clear hb);(try clear hb2);(try clear hk);(try clear hi))|((with_reducible refine gate_callee (f:=58) rfl ?_);refine goesL_ (some 12) rfl rfl Tryd.func58 (by kernel_rfl) rfl #[.pointer (some ⟨g,0,none⟩),.int .i64 12] rfl (by (try simp only [List.map_toArray,List.map_cons,List.map_nil]);first|done|rfl|(simp only [List.length_drop,List.length_take];rfl)) ?_;(with_reducible refine (spec_l1Below.calls g s0_0 t197 t198 12 t199 t200 t201 w0 _ ?side1 ?side2 A4.out).mono ?_);(case side1=>repeat (first|(with_reducible first|exact HI0.out|apply IsS87.alloc|apply IsS87.drewN|apply IsS87.drew|apply IsS87.set_1|apply IsS87.set_2)|exact HI0.out));(case side2=>repeat (first|(with_reducible first|exact HB.out|apply below_alloc|apply pw_below_drewN|apply below_drew1|refine below_set ?_ (IsS87.ge HI0.out))|exact HB.out));rintro e w60 ⟨rfl,hi,hb,hk⟩;refine ⟨_,rfl,?_⟩;have n0_:=Aside0.mk (Kd.R_mono (Kd.R_keep (IsS87.apart (show IsS87 w0 _ g s0_0 t197 t198 from by repeat (first|(with_reducible first|exact HI0.out|apply IsS87.alloc|apply IsS87.drewN|apply IsS87.drew|apply IsS87.set_1|apply IsS87.set_2)|exact HI0.out)) (rR HO193) (by decide)) hk (fun _ h=>h.2)) (fun _ h=>h.1));have n1_:=Aside0.mk (KeepBut.trans (by repeat (first|(with_reducible first|exact HK.out|apply KeepBut.set_|apply keep_drewN|apply keep_drew|apply keep_alloc)|exact HK.out)) hk (.inl rfl));have n2_:=Aside0.mk (hb);have n3_:=Aside0.mk (hi);clear HO193;clear HK;clear HB;clear HI0;have HO193:=n0_;have HK:=n1_;have HB:=n2_;have HI0:=n3_;clear n0_ n1_ n2_ n3_;(try clear hb);(try clear hb2);(try clear hk);(try clear hi)))
     go_ret
     exact ⟨_,rz,rR HO193,by repeat (first|(with_reducible first|exact HI0.out|apply IsS87.alloc|apply IsS87.drewN|apply IsS87.drew|apply IsS87.set_1|apply IsS87.set_2)|exact HI0.out),by repeat (first|(with_reducible first|exact HB.out|apply below_alloc|apply pw_below_drewN|apply below_drew1|refine below_set ?_ (IsS87.ge HI0.out))|exact HB.out),by repeat (first|(with_reducible first|exact HK.out|apply KeepBut.set_|apply keep_drewN|apply keep_drew|apply keep_alloc)|exact HK.out)⟩
def spec_DrawDevsText.f (k:Nat) (l0:List Int):Option ((List (S53))):=(spec_l1New.f k l0).bind fun bt226=>((spec_l4Any.f k bt226.1 bt226.2.1 bt226.2.2).bind fun bt230=>(some bt230.1))
set_option maxHeartbeats 8000000 in
set_option maxRecDepth 100000 in
theorem spec_DrawDevsText.calls (k:Nat) (A0:Option Addr) (c0:Nat) (l0:List Int) (r:List (S53)) (w:World) (hr0:Kd.C (Kd.int .u8) w A0 l0.length l0) (hc0:l0.length≤c0) (h:spec_DrawDevsText.f k l0=some r) :
  Calls Tryd.prog 35 #[.slice A0 l0.length c0] w fun e w'=>∃ v0_:Value,e = .returned (v0_)∧Kd.R k53 53 w' w.heap.size (fun _=>True) v0_ r∧Below w.heap.size w w':=by
 have HR0:=Aside0.mk hr0
 have HC0:=Aside0.mk hc0
 clear hr0 hc0
 have HB:=Aside0.mk (Below.refl w.heap.size w)
 have H:((spec_l1New.f k l0).bind fun bt226=>((spec_l4Any.f k bt226.1 bt226.2.1 bt226.2.2).bind fun bt230=>(some bt230.1)))=some r:=h
 clear h
 replace H:=Option.bind_eq_some_iff.mp H
 obtain ⟨⟨t226,t227,t228⟩,A20,H⟩:=H
 try dsimp only at H
 have A2:=Aside0.mk A20
 clear A20
 replace H:=Option.bind_eq_some_iff.mp H
 obtain ⟨⟨t230,t233,t234⟩,A30,H⟩:=H
 try dsimp only at H
 have A3:=Aside0.mk A30
 clear A30
 obtain rfl:=Option.some.inj H
 go_enter Tryd.func35,Tryd.ntmps35
 go_wp2_with (first|((with_reducible refine gate_callee (f:=49) rfl ?_);refine goesL_ (some 5) rfl rfl Tryd.func49 (by kernel_rfl) rfl #[.slice A0 l0.length c0] rfl (by (try simp only [List.map_toArray,List.map_cons,List.map_nil]);first|done|rfl|(simp only [List.length_drop,List.length_take];rfl)) ?_;(with_reducible refine (spec_l1New.calls k _ _ l0 t226 t227 t228 w _ ?side1 ?side2 ?side3 A2.out).mono ?_);(case side1=>exact be);(case side2=>exact HR0.out);(case side3=>exact HC0.out);rintro e w4 ⟨g229,rfl,hi,hb,hb2⟩;refine ⟨_,rfl,?_⟩;have n0_:=Aside0.mk (hb);have n1_:=Aside0.mk (hi);clear HB;have HB:=n0_;have HI229:=n1_;clear n0_ n1_;(try clear hb);(try clear hb2);(try clear hk);(try clear hi))|((with_reducible refine gate_callee (f:=59) rfl ?_);refine goesL_ (some 7) rfl rfl Tryd.func59 (by kernel_rfl) rfl #[.pointer (some ⟨g229,0,none⟩)] rfl (by (try simp only [List.map_toArray,List.map_cons,List.map_nil]);first|done|rfl|(simp only [List.length_drop,List.length_take];rfl)) ?_;(with_reducible refine (spec_l4Any.calls k g229 t226 t227 t228 t230 t233 t234 w _ ?side1 ?side2 A3.out).mono ?_);(case side1=>repeat (first|(with_reducible first|exact HI229.out|apply IsS87.alloc|apply IsS87.drewN|apply IsS87.drew|apply IsS87.set_1|apply IsS87.set_2)|exact HI229.out));(case side2=>repeat (first|(with_reducible first|exact HB.out|apply below_alloc|apply pw_below_drewN|apply below_drew1|refine below_set ?_ (IsS87.ge HI229.out))|exact HB.out));rintro e w5 ⟨v231,rfl,ho0,hi,hb,hk⟩;refine ⟨_,rfl,?_⟩;have n0_:=Aside0.mk (Kd.R_lower ho0 (below_size (by repeat (first|(with_reducible first|exact HB.out|apply below_alloc|apply pw_below_drewN|apply below_drew1|refine below_set ?_ (IsS87.ge HI229.out))|exact HB.out))));have n1_:=Aside0.mk (hb);have n2_:=Aside0.mk (hi);clear HB;clear HI229;have HO232:=n0_;have HB:=n1_;have HI229:=n2_;clear n0_ n1_ n2_;(try clear hb);(try clear hb2);(try clear hk);(try clear hi);(try clear ho0)))
 go_ret
 exact ⟨_,rz,rR HO232,by repeat (first|(with_reducible first|exact HB.out|apply below_alloc|apply pw_below_drewN|apply below_drew1|refine below_set ?_ (IsS87.ge HI229.out))|exact HB.out)⟩
def spec_l1In.f (a0:Int) (a1:Int) (a2:Int):Option (Bool):=if a0 ≥ a1 then (some (decide (a0≤a2))) else (some false)
set_option maxHeartbeats 8000000 in
set_option maxRecDepth 100000 in
theorem spec_l1In.calls (a0:Int) (a1:Int) (a2:Int) (r:Bool) (w:World) (h:spec_l1In.f a0 a1 a2=some r) :
  Calls Tryd.prog 52 #[.int .i64 a0,.int .i64 a1,.int .i64 a2] w fun e w'=>e = .returned (.bool r)∧Drawn0 w w':=by
 have H:(if a0 ≥ a1 then (some (decide (a0≤a2))) else (some false))=some r:=h
 clear h
 by_cases c4:a0 ≥ a1
 ·rw [if_pos c4] at H
  have c4b0:decide (a1≤a0)=true:=decide_eq_true c4
  clear c4
  obtain rfl:=Option.some.inj H
  go_enter Tryd.func52,Tryd.ntmps52
  go_wp2
  go_ret
  exact ⟨by first|rfl|(simp;done)|(simp [*];done),by repeat (first|exact Drawn0.refl _|apply Drawn0.step)⟩
 ·rw [if_neg c4] at H
  have c4b0:decide (a1≤a0)=false:=decide_eq_false c4
  clear c4
  obtain rfl:=Option.some.inj H
  go_enter Tryd.func52,Tryd.ntmps52
  go_wp2
  go_ret
  exact ⟨by first|rfl|(simp;done)|(simp [*];done),by repeat (first|exact Drawn0.refl _|apply Drawn0.step)⟩
end Go.Proofs.YtnoglmdicdpabaaDoor.PFnDevs
