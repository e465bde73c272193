/- Trimmed by a program of this session (trim.py). Not trusted: Lean checks it. -/
import Derived.Test.YtpbjbfimnfghkaaTLRebalancedPFnRebalancedx0
namespace Go.Proofs.Ytpbjbfimnfghkaa.PFnRebalanced
open Go.RowKit Go.Proofs.YtpbjbfimnfghkaaW.PrintWords Go.Proofs.YtpbjbfimnfghkaaW.PrintLast Go.Proofs.YtpbjbfimnfghkaaW.PrintMore Go.Proofs.Ytpbjbfimnfghkaa.St
attribute [local go_sem] max2_int min2_int max_two min_two max_three min_three max_four min_four
set_option linter.unusedVariables false
set_option linter.unusedSimpArgs false
def laws_big.f (l0:List Int):Option (Bool):=some (decide ((l0.length:Int) > 1048576))
set_option maxHeartbeats 8000000 in
set_option maxRecDepth 100000 in
theorem laws_big.calls (A0:Option Addr) (c0:Nat) (l0:List Int) (r:Bool) (w:World) (hr0:Kd.C (Kd.int .u8) w A0 l0.length l0) (hc0:l0.length≤c0) (h:laws_big.f l0=some r) :
  Calls Try.prog 8 #[.slice A0 l0.length c0] w fun e w'=>e = .returned (.bool r)∧Drawn0 w w':=by
 have HR0:=aM hr0
 have HC0:=aM hc0
 clear hr0 hc0
 have H:(some (decide ((l0.length:Int) > 1048576)))=some r:=h
 clear h
 obtain rfl:=Option.some.inj H
 go_enter Try.func8,Try.ntmps8
 go_wp2
 go_ret
 exact ⟨by rfl,by repeat (exact Drawn0.refl _)⟩
def IsS93 (w0 W:World) (g:Nat) (f0:List Int) (f1:Int) (f2:Int):Prop:=∃ A0 c0,W.heap[g]?=some (.cells #[.slice A0 f0.length c0,.int .i64 f1,.int .i64 f2] 93 (0,0))∧w0.heap.size≤g∧Kd.C (Kd.int .u8) w0 A0 f0.length f0
theorem IsS93.grown {w0 W:World} {g:Nat} {f0:List Int} {f1:Int} {f2:Int} {W1:World} {row:Option Nat} (h:IsS93 w0 W g f0 f1 f2) (hw:W.grownBy W1 row) (hne:some g ≠ row):IsS93 w0 W1 g f0 f1 f2:=by
 obtain ⟨A0,c0,hb,hg,hr0⟩:=h
 exact ⟨A0,c0,blk_grown hb hw hne,hg,hr0⟩
theorem IsS93.kept {w0 W:World} {g:Nat} {f0:List Int} {f1:Int} {f2:Int} {W1:World} {S:Nat→Prop} (h:IsS93 w0 W g f0 f1 f2) (hk:Kept W W1 S) (hne : ¬ S g):IsS93 w0 W1 g f0 f1 f2:=by
 obtain ⟨A0,c0,hb,hg,hr0⟩:=h
 exact ⟨A0,c0,blk_kept hb hk hne,hg,hr0⟩
theorem IsS93.below {w0 W:World} {g:Nat} {f0:List Int} {f1:Int} {f2:Int} {W1:World} (h:IsS93 w0 W g f0 f1 f2) (hw:Below W.heap.size W W1):IsS93 w0 W1 g f0 f1 f2:=h.grown (grown_of_below hw none) (by simp)
theorem IsS93.alloc {w0 W:World} {g:Nat} {f0:List Int} {f1:Int} {f2:Int} (h:IsS93 w0 W g f0 f1 f2) (o:Obj):IsS93 w0 (W.alloc o) g f0 f1 f2:=h.below (below_alloc (Below.refl _ _) o)
theorem IsS93.drewN {w0 W:World} {g:Nat} {f0:List Int} {f1:Int} {f2:Int} (h:IsS93 w0 W g f0 f1 f2) (m:Nat):IsS93 w0 (W.drewN m) g f0 f1 f2:=h
theorem IsS93.drew {w0 W:World} {g:Nat} {f0:List Int} {f1:Int} {f2:Int} (h:IsS93 w0 W g f0 f1 f2):IsS93 w0 W.drew g f0 f1 f2:=h
theorem IsS93.apart {w0 W:World} {g:Nat} {f0:List Int} {f1:Int} {f2:Int} {α:Type} {d:Kd α} {e:Nat} {base:Nat} {ok:Nat→Prop} {v:Value} {xs:List α} (h:IsS93 w0 W g f0 f1 f2) (ho:d.R e W base ok v xs) (ht : ∀ q,q∈e :: d.E→q ≠ 93):d.R e W base (fun k=>ok k∧k ≠ g) v xs:=by
 obtain ⟨A0,c0,hb,hg,hr0⟩:=h
 exact Kd.R_types ho hb ht
theorem IsS93.own_ne {w0 W:World} {g:Nat} {f0:List Int} {f1:Int} {f2:Int} {α:Type} {d:Kd α} {e:Nat} {base:Nat} {ok:Nat→Prop} {v:Value} {xs:List α} (h:IsS93 w0 W g f0 f1 f2) (ho:d.R e W base ok v xs) (ht:e ≠ 93):some g ≠ v.ownBlock:=by
 obtain ⟨A0,c0,hb,hg,hr0⟩:=h
 exact Kd.R_ne ho hb ht
theorem IsS93.apartS {w0 W:World} {g:Nat} {f0:List Int} {f1:Int} {f2:Int} {α:Type} {d:Kd α} {e:Nat} {base:Nat} {ok:Nat→Prop} {v:Value} {xs:List α} (h:IsS93 w0 W g f0 f1 f2) (ho:d.S e W base ok v xs) (ht : ∀ q,q∈e :: d.E→q ≠ 93):d.S e W base (fun k=>ok k∧k ≠ g) v xs:=by
 obtain ⟨A0,c0,hb,hg,hr0⟩:=h
 exact Kd.S_types ho hb ht
theorem IsS93.own_neS {w0 W:World} {g:Nat} {f0:List Int} {f1:Int} {f2:Int} {α:Type} {d:Kd α} {e:Nat} {base:Nat} {ok:Nat→Prop} {v:Value} {xs:List α} (h:IsS93 w0 W g f0 f1 f2) (ho:d.S e W base ok v xs) (ht:e ≠ 93):some g ≠ v.ownBlock:=by
 obtain ⟨A0,c0,hb,hg,hr0⟩:=h
 exact Kd.S_ne ho hb ht
theorem IsS93.lt {w0 W:World} {g:Nat} {f0:List Int} {f1:Int} {f2:Int} (h:IsS93 w0 W g f0 f1 f2):g < W.heap.size:=by
 obtain ⟨A0,c0,hb,hg,hr0⟩:=h
 exact blk_lt hb
theorem IsS93.ge {w0 W:World} {g:Nat} {f0:List Int} {f1:Int} {f2:Int} (h:IsS93 w0 W g f0 f1 f2):w0.heap.size≤g:=by
 obtain ⟨A0,c0,hb,hg,hr0⟩:=h
 exact hg
theorem IsS93.ne_blk {w0 W:World} {g:Nat} {f0:List Int} {f1:Int} {f2:Int} {a:Nat} {cs:Array Value} {t:TypeId} {fr:Nat × Nat} (h:IsS93 w0 W g f0 f1 f2) (hb2:W.heap[a]?=some (.cells cs t fr)) (ht:t ≠ 93):g ≠ a:=by
 obtain ⟨A0,c0,hb,hg,hr0⟩:=h
 rintro rfl
 rw [hb] at hb2
 injection hb2 with hb2
 injection hb2 with _ ht2
 exact ht ht2.symm
theorem IsS93.far {w0 W:World} {g:Nat} {f0:List Int} {f1:Int} {f2:Int} {p:Addr} (h:IsS93 w0 W g f0 f1 f2) (hne:g ≠ p.block) (u:Value):IsS93 w0 (W.setCell p u) g f0 f1 f2:=by
 obtain ⟨A0,c0,hb,hg,hr0⟩:=h
 exact ⟨A0,c0,blk_far hb hne u,hg,hr0⟩
theorem cellS93_0 {W:World} {g:Nat} {A0:Option Addr} {c0:Nat} {f0:List Int} {f1:Int} {f2:Int} (h:W.heap[g]?=some (.cells #[.slice A0 f0.length c0,.int .i64 f1,.int .i64 f2] 93 (0,0))):W.cell? ⟨g,0,none⟩=some (.slice A0 f0.length c0):=(blk_cell h 0).trans rfl
theorem cellS93_1 {W:World} {g:Nat} {A0:Option Addr} {c0:Nat} {f0:List Int} {f1:Int} {f2:Int} (h:W.heap[g]?=some (.cells #[.slice A0 f0.length c0,.int .i64 f1,.int .i64 f2] 93 (0,0))):W.cell? ⟨g,1,none⟩=some (.int .i64 f1):=(blk_cell h 1).trans rfl
theorem IsS93.set_1 {w0 W:World} {g:Nat} {f0:List Int} {f1:Int} {f2:Int} (h:IsS93 w0 W g f0 f1 f2) (x:Int):IsS93 w0 (W.setCell ⟨g,1,none⟩ (.int .i64 x)) g f0 x f2:=by
 obtain ⟨A0,c0,hb,hg,hr0⟩:=h
 exact ⟨A0,c0,by simpa using blk_set hb 1 (.int .i64 x),hg,hr0⟩
theorem cellS93_2 {W:World} {g:Nat} {A0:Option Addr} {c0:Nat} {f0:List Int} {f1:Int} {f2:Int} (h:W.heap[g]?=some (.cells #[.slice A0 f0.length c0,.int .i64 f1,.int .i64 f2] 93 (0,0))):W.cell? ⟨g,2,none⟩=some (.int .i64 f2):=(blk_cell h 2).trans rfl
theorem IsS93.set_2 {w0 W:World} {g:Nat} {f0:List Int} {f1:Int} {f2:Int} (h:IsS93 w0 W g f0 f1 f2) (x:Int):IsS93 w0 (W.setCell ⟨g,2,none⟩ (.int .i64 x)) g f0 f1 x:=by
 obtain ⟨A0,c0,hb,hg,hr0⟩:=h
 exact ⟨A0,c0,by simpa using blk_set hb 2 (.int .i64 x),hg,hr0⟩
def spec_l1New.l0:Nat→List Int→Int→Int→Option (List Int × Int × Int)
 | 0,_,_,_=>none
 | k+1,x0,x3,x4=>if x4 < (x0.length:Int) then (if x4 < 4000 then (if 0≤x4 then (spec_l1New.l0 k x0 (Go.bits .and .i64 (wrap64 ((wrap64 ((wrap64 (x3 * 137))+(wrap64 (rd x0 x4))))+11)) 1073741823) (wrap64 (x4+1))) else (none)) else (some (x0,0,x3))) else (some (x0,0,x3))
def spec_l1New.f (k:Nat) (l0:List Int):Option (List Int × Int × Int):=spec_l1New.l0 k l0 (wrap64 (378378+(l0.length:Int))) 0
set_option maxHeartbeats 8000000 in
set_option maxRecDepth 100000 in
theorem spec_l1New.calls (k:Nat) (A0:Option Addr) (c0:Nat) (l0:List Int) (r1:List Int) (r2:Int) (r3:Int) (w0 w:World) (hB:Below w0.heap.size w0 w) (hr0:Kd.C (Kd.int .u8) w0 A0 l0.length l0) (hc0:l0.length≤c0) (h:spec_l1New.f k l0=some (r1,r2,r3)) :
  Calls Try.prog 36 #[.slice A0 l0.length c0] w fun e w'=>∃ g_:Nat,e = .returned (.pointer (some ⟨g_,0,none⟩))∧IsS93 w0 w' g_ r1 r2 r3∧Below w0.heap.size w0 w' ∧ Below w.heap.size w w':=by
 have hu93:=Try.underlying93
 have HR0:=aM hr0
 have HC0:=aM hc0
 clear hr0 hc0
 have HBW:=aM (Below.refl w.heap.size w)
 have HW0:=aM hB.size
 have HB:=aM hB
 clear hB
 have H:(spec_l1New.l0 k l0 (wrap64 (378378+(l0.length:Int))) 0)=some (r1,r2,r3):=h
 clear h
 have H':=Aside0.mk H
 clear H
 go_enter Try.func36,Try.ntmps36
 go_wp2
 go_loopg [3,4] k (fun kq v3 v4 w'=>∃ (x3_1:Int) (x4_1:Int),v3 = .int .i64 x3_1∧v4 = .int .i64 x4_1∧Aside0 (spec_l1New.l0 kq l0 x3_1 x4_1=some (r1,r2,r3))∧Aside0 (kq≤k)∧Aside0 (Below w0.heap.size w0 w')∧Aside0 (Below w.heap.size w w'))
 case atStart=>exact ⟨(wrap64 (378378+(l0.length:Int))),(0),rd_,rd_,H',⟨Nat.le_refl _⟩,⟨be⟩,⟨by repeat ((with_reducible exact HBW.out))⟩⟩
 case round=>
  clear H'
  obtain ⟨x3_1,x4_1,rfl,rfl,HA,HK1,HB,HBW⟩:=hrel
  cases gk with
  | zero=>exact absurd HA.out (by simp [spec_l1New.l0])
  | succ k1=>
   have H:=HA.out
   clear HA
   simp only [spec_l1New.l0] at H
   by_cases c2:x4_1 < (l0.length:Int)
   ·rw [if_pos c2] at H
    have c2b0:decide (x4_1 < (l0.length:Int))=true:=decide_eq_true c2
    clear c2
    by_cases c3:x4_1 < 4000
    ·rw [if_pos c3] at H
     have c3b0:decide (x4_1 < 4000)=true:=decide_eq_true c3
     clear c3
     obtain ⟨c4,H⟩:=ifs H
     have c4b0:decide (0≤x4_1)=true:=decide_eq_true c4
     clear c4
     have H':=Aside0.mk H
     clear H
     have p101:0≤(x4_1:Int):=od
     have q101:x4_1 < (l0.length:Int):=od
     obtain ⟨ad101,e101,hx101_0⟩:=Kd.at_int HR0.out x4_1 p101 q101
     cases e101
     replace hx101_0:=pw_cell_below HB.out hx101_0
     replace p101:=eq_true p101
     replace q101:=eq_true q101
     go_wp2
     go_roundg k1
     case measure=>have:=HK1.out;omega
     case rel=>exact ⟨(Go.bits .and .i64 (wrap64 ((wrap64 ((wrap64 (x3_1 * 137))+(wrap64 (rd l0 x4_1))))+11)) 1073741823),(wrap64 (x4_1+1)),rd_,rd_,H',⟨by have:=HK1.out;omega⟩,⟨be⟩,⟨by repeat ((with_reducible exact HBW.out))⟩⟩
    ·rw [if_neg c3] at H
     have c3b0:decide (x4_1 < 4000)=false:=decide_eq_false c3
     clear c3
     simp only [Option.some.injEq,Prod.mk.injEq] at H
     obtain ⟨rfl,rfl,rfl⟩:=H
     go_wp2_with ((with_reducible refine gate_dst (N:=31) rfl ?_);refine box_event ?hg (N:=31) ?hd (cs:=#[.slice A0 l0.length c0,.int .i64 0,.int .i64 x3_1]) (t:=93) ?hr ?_;(case hd=>rfl);(case hg=>rfl);(case hr=>(go_simp;done));intro gb102 hg w5 hbox hb;replace HB:=bs (w:=w0) hb;have BK102:=aM (hbox);have GW102:=aM ((by rw [hg];exact (below_size HBW.out):w.heap.size≤gb102));have GE102:=aM ((Nat.le_trans HW0.out (by rw [hg];exact (below_size HBW.out):w.heap.size≤gb102):w0.heap.size≤gb102));replace HBW:=aM (below_step HBW.out hb);clear hb hbox hg)
     go_ret
     exact ⟨_,rfl,(show IsS93 w0 _ gb102 l0 0 x3_1 from ⟨_,_,bk BK102,GE102.out,HR0.out⟩),be,by repeat ((with_reducible exact HBW.out))⟩
   ·rw [if_neg c2] at H
    have c2b0:decide (x4_1 < (l0.length:Int))=false:=decide_eq_false c2
    clear c2
    simp only [Option.some.injEq,Prod.mk.injEq] at H
    obtain ⟨rfl,rfl,rfl⟩:=H
    go_wp2_with ((with_reducible refine gate_dst (N:=31) rfl ?_);refine box_event ?hg (N:=31) ?hd (cs:=#[.slice A0 l0.length c0,.int .i64 0,.int .i64 x3_1]) (t:=93) ?hr ?_;(case hd=>rfl);(case hg=>rfl);(case hr=>(go_simp;done));intro gb103 hg w6 hbox hb;replace HB:=bs (w:=w0) hb;have BK103:=aM (hbox);have GW103:=aM ((by rw [hg];exact (below_size HBW.out):w.heap.size≤gb103));have GE103:=aM ((Nat.le_trans HW0.out (by rw [hg];exact (below_size HBW.out):w.heap.size≤gb103):w0.heap.size≤gb103));replace HBW:=aM (below_step HBW.out hb);clear hb hbox hg)
    go_ret
    exact ⟨_,rfl,(show IsS93 w0 _ gb103 l0 0 x3_1 from ⟨_,_,bk BK103,GE103.out,HR0.out⟩),be,by repeat ((with_reducible exact HBW.out))⟩
def spec_l1In.f (a0:Int) (a1:Int) (a2:Int):Option (Bool):=if a0 ≥ a1 then (some (decide (a0≤a2))) else (some false)
set_option maxHeartbeats 8000000 in
set_option maxRecDepth 100000 in
theorem spec_l1In.calls (a0:Int) (a1:Int) (a2:Int) (r:Bool) (w:World) (h:spec_l1In.f a0 a1 a2=some r) :
  Calls Try.prog 54 #[.int .i64 a0,.int .i64 a1,.int .i64 a2] w fun e w'=>e = .returned (.bool r)∧Drawn0 w w':=by
 have H:(if a0 ≥ a1 then (some (decide (a0≤a2))) else (some false))=some r:=h
 clear h
 by_cases c4:a0 ≥ a1
 ·rw [if_pos c4] at H
  have c4b0:decide (a1≤a0)=true:=decide_eq_true c4
  clear c4
  obtain rfl:=Option.some.inj H
  go_enter Try.func54,Try.ntmps54
  go_wp2
  go_ret
  exact ⟨by rfl,by repeat (exact Drawn0.refl _)⟩
 ·rw [if_neg c4] at H
  have c4b0:decide (a1≤a0)=false:=decide_eq_false c4
  clear c4
  obtain rfl:=Option.some.inj H
  go_enter Try.func54,Try.ntmps54
  go_wp2
  go_ret
  exact ⟨by rfl,by repeat (exact Drawn0.refl _)⟩
def spec_DevsOk.l0:Nat→List (S61)→Int→Option (Bool)
 | 0,_,_=>none
 | k+1,x0,x3=>if x3 < (x0.length:Int) then (if 0≤x3 then ((spec_l1In.f ((rd_T61 x0 x3).f0) 0 20).bind fun t107=>(if t107=true then ((spec_l1In.f ((rd_T61 x0 x3).f1) 0 20).bind fun t108=>(if t108=true then ((spec_l1In.f ((rd_T61 x0 x3).f2) 1 1000).bind fun t109=>(if t109=true then (if x3 > 0 then (if 0≤(wrap64 (x3 - 1)) then (if (wrap64 (x3 - 1)) < (x0.length:Int) then (if ((rd_T61 x0 (wrap64 (x3 - 1))).f0) ≥ ((rd_T61 x0 x3).f0) then (some false) else (spec_DevsOk.l0 k x0 (wrap64 (x3+1)))) else (none)) else (none)) else (spec_DevsOk.l0 k x0 (wrap64 (x3+1)))) else (some false))) else (some false))) else (some false))) else (none)) else ((spec_l1In.f (x0.length:Int) 1 12).bind fun t104=>(some t104))
def spec_DevsOk.f (k:Nat) (l0:List (S61)):Option (Bool):=spec_DevsOk.l0 k l0 0
def spec_DevsOk.T5:Bool × List (List Nat × List Nat):=(true,[([],[]),([0],[0]),([1],[1]),([2],[2]),([3,2],[3]),([4],[4]),([5,4],[4,5]),([6,4,4],[4,6]),([7,4],[4,7]),([4,8],[4,8]),([9,7],[9]),([10],[10]),([11,10],[10,11]),([12,10,10],[10,12]),([13,10],[10,13]),([10,14],[10,14]),([15,13],[15]),([16],[16]),([17,16],[16,17]),([18,16,16],[16,18]),([19],[19]),([19],[19]),([21,19],[19,21]),([20,22,19],[19,20,22]),([23,19],[19,23]),([24,19],[19,24]),([19],[19]),([26,19],[19,26]),([25,27,19],[19,25,27]),([19,28,16],[16,19,28]),([16,29],[16,29])])
def spec_DevsOk.B5:List Nat:=[0,1,3,7,15,31,63,127,255,511,1023,2047,4095,8191,16383,32767,65535,131071,262143,524287,1048575,1048575,3145727,8388607,16777215,33554431,1048575,68157439,268435455,536870911,1073741823]
theorem spec_DevsOk.tab5:rtab .any (opsOf Try.f53 5)=spec_DevsOk.T5:=by kernel_rfl
theorem spec_DevsOk.bits5:waitsOk spec_DevsOk.T5.2 spec_DevsOk.B5=true:=by kernel_rfl
set_option maxHeartbeats 8000000 in
set_option maxRecDepth 100000 in
theorem spec_DevsOk.calls (k:Nat) (A0:Option Addr) (c0:Nat) (l0:List (S61)) (r:Bool) (w:World) (hr0:Kd.C k61 w A0 l0.length l0) (hc0:l0.length≤c0) (h:spec_DevsOk.f k l0=some r) :
  Calls Try.prog 53 #[.slice A0 l0.length c0] w fun e w'=>e = .returned (.bool r)∧Below w.heap.size w w':=by
 have hu61:=Try.underlying61
 have HR0:=aM hr0
 have HC0:=aM hc0
 clear hr0 hc0
 have HB:=aM (Below.refl w.heap.size w)
 have H:(spec_DevsOk.l0 k l0 0)=some r:=h
 clear h
 have H':=Aside0.mk H
 clear H
 go_enter Try.func53,Try.ntmps53
 go_wp2
 go_loopg [3] k (fun kq v3 w'=>∃ (x3_1:Int),v3 = .int .i64 x3_1∧Aside0 (spec_DevsOk.l0 kq l0 x3_1=some r)∧Aside0 (kq≤k)∧Aside0 (Below w.heap.size w w'))
 case atStart=>exact ⟨(0),rd_,H',⟨Nat.le_refl _⟩,⟨be⟩⟩
 case round=>
  clear H'
  obtain ⟨x3_1,rfl,HA,HK1,HB⟩:=hrel
  cases gk with
  | zero=>exact absurd HA.out (by simp [spec_DevsOk.l0])
  | succ k1=>
   have H:=HA.out
   clear HA
   simp only [spec_DevsOk.l0] at H
   by_cases c2:x3_1 < (l0.length:Int)
   ·rw [if_pos c2] at H
    have c2b0:decide (x3_1 < (l0.length:Int))=true:=decide_eq_true c2
    clear c2
    obtain ⟨c3,H⟩:=ifs H
    have c3b0:decide (0≤x3_1)=true:=decide_eq_true c3
    clear c3
    replace H:=Option.bind_eq_some_iff.mp H
    obtain ⟨t107,A40,H⟩:=H
    try dsimp only at H
    have A4:=aM A40
    clear A40
    by_cases c5:t107=true
    ·subst c5
     rw [if_pos rfl] at H
     replace H:=Option.bind_eq_some_iff.mp H
     obtain ⟨t108,A60,H⟩:=H
     try dsimp only at H
     have A6:=aM A60
     clear A60
     by_cases c7:t108=true
     ·subst c7
      rw [if_pos rfl] at H
      replace H:=Option.bind_eq_some_iff.mp H
      obtain ⟨t109,A80,H⟩:=H
      try dsimp only at H
      have A8:=aM A80
      clear A80
      by_cases c9:t109=true
      ·subst c9
       rw [if_pos rfl] at H
       by_cases c10:x3_1 > 0
       ·rw [if_pos c10] at H
        have c10b0:decide (0 < x3_1)=true:=decide_eq_true c10
        clear c10
        obtain ⟨ji11,hji11⟩ : ∃ j_:Int,(wrap64 (x3_1 - 1))=j_:=⟨_,rfl⟩
        replace H:(if 0≤(ji11) then (if (ji11) < (l0.length:Int) then (if ((rd_T61 l0 (ji11)).f0) ≥ ((rd_T61 l0 x3_1).f0) then (some false) else (spec_DevsOk.l0 k1 l0 (wrap64 (x3_1+1)))) else (none)) else (none))=some r:=by (rw [hji11] at H;exact H)
        skip
        skip
        skip
        have hji11w:(IntKind.i64.wrap (x3_1 - 1))=ji11:=(i64_w _).trans hji11
        obtain ⟨c12,H⟩:=ifs H
        have c12b0:decide (0≤(ji11))=true:=decide_eq_true c12
        clear c12
        obtain ⟨c13,H⟩:=ifs H
        have c13b0:decide ((ji11) < (l0.length:Int))=true:=decide_eq_true c13
        clear c13
        by_cases c14:((rd_T61 l0 (ji11)).f0) ≥ ((rd_T61 l0 x3_1).f0)
        ·rw [if_pos c14] at H
         have c14b0:decide (((rd_T61 l0 x3_1).f0)≤((rd_T61 l0 (ji11)).f0))=true:=decide_eq_true c14
         clear c14
         obtain rfl:=Option.some.inj H
         have p105:0≤(x3_1:Int):=od
         have q105:x3_1 < (l0.length:Int):=od
         obtain ⟨ad105,e105,hx105_0,hx105_1,hx105_2⟩:=at_T61 HR0.out x3_1 p105 q105
         cases e105
         replace hx105_0:=xH HB hx105_0
         replace hx105_1:=xH HB hx105_1
         replace hx105_2:=xH HB hx105_2
         replace p105:=eq_true p105
         replace q105:=eq_true q105
         try go_wp2_with ((with_reducible refine gate_dst (N:=4) rfl ?_);refine box_event ?hg (N:=4) ?hd (cs:=#[.int .i64 0,.int .i64 0,.int .i64 0]) (t:=61) ?hr ?_;(case hd=>rfl);(case hg=>rfl);(case hr=>(go_simp;done));intro gb106 hg w15 hbox hb;have BK106:=aM (hbox);have GW106:=gS w hg;have GE106:=gS w hg;replace HB:=bs hb;clear hb hbox hg;obtain ⟨hcz16_0,hcz16_1,hcz16_2,hfz16_0,hfz16_1,hfz16_2⟩:=b3 BK106)
         obtain ⟨w17,hW_⟩ : ∃ W_:World,W_=(((w15.setCell ⟨gb106,0,none⟩ (.int .i64 ((rd_T61 l0 x3_1).f0))).setCell ⟨gb106,1,none⟩ (.int .i64 ((rd_T61 l0 x3_1).f1))).setCell ⟨gb106,2,none⟩ (.int .i64 ((rd_T61 l0 x3_1).f2))):=⟨_,rfl⟩
         have n0_:Aside0 (w17.heap[gb106]?=some (.cells #[.int .i64 ((rd_T61 l0 x3_1).f0),.int .i64 ((rd_T61 l0 x3_1).f1),.int .i64 ((rd_T61 l0 x3_1).f2)] 61 (0,0))):=⟨by rw [hW_];refine blk_put (cs:=#[.int .i64 ((rd_T61 l0 x3_1).f0),.int .i64 ((rd_T61 l0 x3_1).f1),.int .i64 0]) ?_ 2 _ rfl;refine blk_put (cs:=#[.int .i64 ((rd_T61 l0 x3_1).f0),.int .i64 0,.int .i64 0]) ?_ 1 _ rfl;refine blk_put (cs:=#[.int .i64 0,.int .i64 0,.int .i64 0]) ?_ 0 _ rfl;exact BK106.out⟩
         have n1_:Aside0 (Below w.heap.size w w17):=⟨by rw [hW_];exact be⟩
         (try clear BK106)
         (try clear HB)
         rw [← hW_];clear hW_
         have BK106:=n0_;have HB:=n1_;clear n0_ n1_;replace BK106:=aM (blk_drew BK106.out);replace HB:=aM (below_drew1 HB.out)
         have p110:0≤((ji11):Int):=od
         have q110:(ji11) < (l0.length:Int):=od
         obtain ⟨ad110,e110,hx110_0,hx110_1,hx110_2⟩:=at_T61 HR0.out (ji11) p110 q110
         have hw110_2:=hx110_2;have hw110_1:=hx110_1;have hw110_0:=hx110_0
         obtain rfl:ad105=ad110:=(by injection e110)
         replace hx110_0:=xH HB hx110_0
         replace hx110_1:=xH HB hx110_1
         replace hx110_2:=xH HB hx110_2
         replace p110:=eq_true p110
         replace q110:=eq_true q110
         refine start_ (n:=31) (S:=fun w'=>w'.cell? ⟨gb106,0,none⟩=some (.int .i64 ((rd_T61 l0 x3_1).f0))∧w'.cell? ⟨gb106,1,none⟩=some (.int .i64 ((rd_T61 l0 x3_1).f1))∧w'.cell? ⟨gb106,2,none⟩=some (.int .i64 ((rd_T61 l0 x3_1).f2))∧w'.cell? (ad105.add (((ji11)).toNat * 3))=some (.int .i64 ((rd_T61 l0 (ji11)).f0))∧w'.cell? ⟨(ad105.add (((ji11)).toNat * 3)).block,(ad105.add (((ji11)).toNat * 3)).off+1,none⟩=some (.int .i64 ((rd_T61 l0 (ji11)).f1))∧w'.cell? ⟨(ad105.add (((ji11)).toNat * 3)).block,(ad105.add (((ji11)).toNat * 3)).off+2,none⟩=some (.int .i64 ((rd_T61 l0 (ji11)).f2))) (ds:=[]) (fl 31 0) (by kernel_rfl) rfl rfl ⟨bq BK106 0,bq BK106 1,bq BK106 2,(xH HB hw110_0),(xH HB hw110_1),(xH HB hw110_2)⟩ (fun hHeld=>?_);refine with_tabW spec_DevsOk.tab5 spec_DevsOk.bits5 (fun HT_ HW_=>?_)
         generalize w17.drew=w18 at BK106 HB hx110_0 hx110_1 hx110_2 hHeld ⊢
         refine pt 0 15 (fl 31 1) HT_ ?_
         refine tt 1 16 (fl 31 3) HT_ HW_ hHeld ?_
         refine ot 2 (some 17) (fl 31 7) HT_ (fun K hK=>?_)
         refine goes_ Try.func54 (by kernel_rfl) rfl #[.int .i64 ((rd_T61 l0 x3_1).f0),.int .i64 0,.int .i64 20] (by rfl) rfl rfl (by (try simp only [List.map_toArray,List.map_cons,List.map_nil]);rfl) ?_
         with_reducible refine (spec_l1In.calls ((rd_T61 l0 x3_1).f0) 0 20 true _ A4.out).mono ?_
         rintro e w' ⟨rfl,⟨nd,rfl⟩⟩
         refine ⟨_,rfl,?_⟩
         refine hK.out _ _ ⟨bq BK106 0,bq BK106 1,bq BK106 2,(xH HB hw110_0),(xH HB hw110_1),(xH HB hw110_2)⟩ (fun hHeld=>?_)
         clear hK K
         refine no 17 ?_
         refine pt 3 18 (fl 31 15) HT_ ?_
         refine pt 4 19 (fl 31 31) HT_ ?_
         refine pt 5 20 (fl 31 63) HT_ ?_
         refine tt 6 21 (fl 31 127) HT_ HW_ hHeld ?_
         refine ot 7 (some 22) (fl 31 255) HT_ (fun K hK=>?_)
         refine goes_ Try.func54 (by kernel_rfl) rfl #[.int .i64 ((rd_T61 l0 x3_1).f1),.int .i64 0,.int .i64 20] (by rfl) rfl rfl (by (try simp only [List.map_toArray,List.map_cons,List.map_nil]);rfl) ?_
         with_reducible refine (spec_l1In.calls ((rd_T61 l0 x3_1).f1) 0 20 true _ A6.out).mono ?_
         rintro e w' ⟨rfl,⟨nd,rfl⟩⟩
         refine ⟨_,rfl,?_⟩
         refine hK.out _ _ ⟨bq BK106 0,bq BK106 1,bq BK106 2,(xH HB hw110_0),(xH HB hw110_1),(xH HB hw110_2)⟩ (fun hHeld=>?_)
         clear hK K
         refine no 22 ?_
         refine pt 8 23 (fl 31 511) HT_ ?_
         refine pt 9 24 (fl 31 1023) HT_ ?_
         refine pt 10 25 (fl 31 2047) HT_ ?_
         refine pt 11 26 (fl 31 4095) HT_ ?_
         refine tt 12 27 (fl 31 8191) HT_ HW_ hHeld ?_
         refine ot 13 (some 28) (fl 31 16383) HT_ (fun K hK=>?_)
         refine goes_ Try.func54 (by kernel_rfl) rfl #[.int .i64 ((rd_T61 l0 x3_1).f2),.int .i64 1,.int .i64 1000] (by rfl) rfl rfl (by (try simp only [List.map_toArray,List.map_cons,List.map_nil]);rfl) ?_
         with_reducible refine (spec_l1In.calls ((rd_T61 l0 x3_1).f2) 1 1000 true _ A8.out).mono ?_
         rintro e w' ⟨rfl,⟨nd,rfl⟩⟩
         refine ⟨_,rfl,?_⟩
         refine hK.out _ _ ⟨bq BK106 0,bq BK106 1,bq BK106 2,(xH HB hw110_0),(xH HB hw110_1),(xH HB hw110_2)⟩ (fun hHeld=>?_)
         clear hK K
         refine no 28 ?_
         refine pt 14 29 (fl 31 32767) HT_ ?_
         refine pt 15 30 (fl 31 65535) HT_ ?_
         refine pt 16 31 (fl 31 131071) HT_ ?_
         refine pt 17 32 (fl 31 262143) HT_ ?_
         refine pt 18 33 (fl 31 524287) HT_ ?_
         refine pt 19 34 (fl 31 1048575) HT_ ?_
         refine pt 20 35 (fl 31 2097151) HT_ ?_
         refine pt 21 36 (fl 31 4194303) HT_ ?_
         refine pt 22 37 (fl 31 8388607) HT_ ?_
         refine pt 23 38 (fl 31 16777215) HT_ ?_
         refine pt 24 39 (fl 31 33554431) HT_ ?_
         refine pt 26 41 (fl 31 100663295) HT_ ?_
         refine tt 25 40 (fl 31 134217727) HT_ HW_ hHeld ?_
         refine tt 27 42 (fl 31 268435455) HT_ HW_ hHeld ?_
         refine pt 28 43 (fl 31 536870911) HT_ ?_
         refine pt 29 44 (fl 31 1073741823) HT_ ?_
         refine pt 30 45 (fl 31 2147483647) HT_ ?_
         refine done_ (done_of HT_.out (by kernel_rfl)) ?_
         try go_wp2
         go_ret
         exact ⟨by rfl,be⟩
        ·rw [if_neg c14] at H
         have c14b0:decide (((rd_T61 l0 x3_1).f0)≤((rd_T61 l0 (ji11)).f0))=false:=decide_eq_false c14
         clear c14
         have H':=Aside0.mk H
         clear H
         have p105:0≤(x3_1:Int):=od
         have q105:x3_1 < (l0.length:Int):=od
         obtain ⟨ad105,e105,hx105_0,hx105_1,hx105_2⟩:=at_T61 HR0.out x3_1 p105 q105
         cases e105
         replace hx105_0:=xH HB hx105_0
         replace hx105_1:=xH HB hx105_1
         replace hx105_2:=xH HB hx105_2
         replace p105:=eq_true p105
         replace q105:=eq_true q105
         try go_wp2_with ((with_reducible refine gate_dst (N:=4) rfl ?_);refine box_event ?hg (N:=4) ?hd (cs:=#[.int .i64 0,.int .i64 0,.int .i64 0]) (t:=61) ?hr ?_;(case hd=>rfl);(case hg=>rfl);(case hr=>(go_simp;done));intro gb106 hg w19 hbox hb;have BK106:=aM (hbox);have GW106:=gS w hg;have GE106:=gS w hg;replace HB:=bs hb;clear hb hbox hg;obtain ⟨hcz20_0,hcz20_1,hcz20_2,hfz20_0,hfz20_1,hfz20_2⟩:=b3 BK106)
         obtain ⟨w21,hW_⟩ : ∃ W_:World,W_=(((w19.setCell ⟨gb106,0,none⟩ (.int .i64 ((rd_T61 l0 x3_1).f0))).setCell ⟨gb106,1,none⟩ (.int .i64 ((rd_T61 l0 x3_1).f1))).setCell ⟨gb106,2,none⟩ (.int .i64 ((rd_T61 l0 x3_1).f2))):=⟨_,rfl⟩
         have n0_:Aside0 (w21.heap[gb106]?=some (.cells #[.int .i64 ((rd_T61 l0 x3_1).f0),.int .i64 ((rd_T61 l0 x3_1).f1),.int .i64 ((rd_T61 l0 x3_1).f2)] 61 (0,0))):=⟨by rw [hW_];refine blk_put (cs:=#[.int .i64 ((rd_T61 l0 x3_1).f0),.int .i64 ((rd_T61 l0 x3_1).f1),.int .i64 0]) ?_ 2 _ rfl;refine blk_put (cs:=#[.int .i64 ((rd_T61 l0 x3_1).f0),.int .i64 0,.int .i64 0]) ?_ 1 _ rfl;refine blk_put (cs:=#[.int .i64 0,.int .i64 0,.int .i64 0]) ?_ 0 _ rfl;exact BK106.out⟩
         have n1_:Aside0 (Below w.heap.size w w21):=⟨by rw [hW_];exact be⟩
         (try clear BK106)
         (try clear HB)
         rw [← hW_];clear hW_
         have BK106:=n0_;have HB:=n1_;clear n0_ n1_;replace BK106:=aM (blk_drew BK106.out);replace HB:=aM (below_drew1 HB.out)
         have p110:0≤((ji11):Int):=od
         have q110:(ji11) < (l0.length:Int):=od
         obtain ⟨ad110,e110,hx110_0,hx110_1,hx110_2⟩:=at_T61 HR0.out (ji11) p110 q110
         have hw110_2:=hx110_2;have hw110_1:=hx110_1;have hw110_0:=hx110_0
         obtain rfl:ad105=ad110:=(by injection e110)
         replace hx110_0:=xH HB hx110_0
         replace hx110_1:=xH HB hx110_1
         replace hx110_2:=xH HB hx110_2
         replace p110:=eq_true p110
         replace q110:=eq_true q110
         refine start_ (n:=31) (S:=fun w'=>w'.cell? ⟨gb106,0,none⟩=some (.int .i64 ((rd_T61 l0 x3_1).f0))∧w'.cell? ⟨gb106,1,none⟩=some (.int .i64 ((rd_T61 l0 x3_1).f1))∧w'.cell? ⟨gb106,2,none⟩=some (.int .i64 ((rd_T61 l0 x3_1).f2))∧w'.cell? (ad105.add (((ji11)).toNat * 3))=some (.int .i64 ((rd_T61 l0 (ji11)).f0))∧w'.cell? ⟨(ad105.add (((ji11)).toNat * 3)).block,(ad105.add (((ji11)).toNat * 3)).off+1,none⟩=some (.int .i64 ((rd_T61 l0 (ji11)).f1))∧w'.cell? ⟨(ad105.add (((ji11)).toNat * 3)).block,(ad105.add (((ji11)).toNat * 3)).off+2,none⟩=some (.int .i64 ((rd_T61 l0 (ji11)).f2))) (ds:=[]) (fl 31 0) (by kernel_rfl) rfl rfl ⟨bq BK106 0,bq BK106 1,bq BK106 2,(xH HB hw110_0),(xH HB hw110_1),(xH HB hw110_2)⟩ (fun hHeld=>?_);refine with_tabW spec_DevsOk.tab5 spec_DevsOk.bits5 (fun HT_ HW_=>?_)
         generalize w21.drew=w22 at BK106 HB hx110_0 hx110_1 hx110_2 hHeld ⊢
         refine pt 0 15 (fl 31 1) HT_ ?_
         refine tt 1 16 (fl 31 3) HT_ HW_ hHeld ?_
         refine ot 2 (some 17) (fl 31 7) HT_ (fun K hK=>?_)
         refine goes_ Try.func54 (by kernel_rfl) rfl #[.int .i64 ((rd_T61 l0 x3_1).f0),.int .i64 0,.int .i64 20] (by rfl) rfl rfl (by (try simp only [List.map_toArray,List.map_cons,List.map_nil]);rfl) ?_
         with_reducible refine (spec_l1In.calls ((rd_T61 l0 x3_1).f0) 0 20 true _ A4.out).mono ?_
         rintro e w' ⟨rfl,⟨nd,rfl⟩⟩
         refine ⟨_,rfl,?_⟩
         refine hK.out _ _ ⟨bq BK106 0,bq BK106 1,bq BK106 2,(xH HB hw110_0),(xH HB hw110_1),(xH HB hw110_2)⟩ (fun hHeld=>?_)
         clear hK K
         refine no 17 ?_
         refine pt 3 18 (fl 31 15) HT_ ?_
         refine pt 4 19 (fl 31 31) HT_ ?_
         refine pt 5 20 (fl 31 63) HT_ ?_
         refine tt 6 21 (fl 31 127) HT_ HW_ hHeld ?_
         refine ot 7 (some 22) (fl 31 255) HT_ (fun K hK=>?_)
         refine goes_ Try.func54 (by kernel_rfl) rfl #[.int .i64 ((rd_T61 l0 x3_1).f1),.int .i64 0,.int .i64 20] (by rfl) rfl rfl (by (try simp only [List.map_toArray,List.map_cons,List.map_nil]);rfl) ?_
         with_reducible refine (spec_l1In.calls ((rd_T61 l0 x3_1).f1) 0 20 true _ A6.out).mono ?_
         rintro e w' ⟨rfl,⟨nd,rfl⟩⟩
         refine ⟨_,rfl,?_⟩
         refine hK.out _ _ ⟨bq BK106 0,bq BK106 1,bq BK106 2,(xH HB hw110_0),(xH HB hw110_1),(xH HB hw110_2)⟩ (fun hHeld=>?_)
         clear hK K
         refine no 22 ?_
         refine pt 8 23 (fl 31 511) HT_ ?_
         refine pt 9 24 (fl 31 1023) HT_ ?_
         refine pt 10 25 (fl 31 2047) HT_ ?_
         refine pt 11 26 (fl 31 4095) HT_ ?_
         refine tt 12 27 (fl 31 8191) HT_ HW_ hHeld ?_
         refine ot 13 (some 28) (fl 31 16383) HT_ (fun K hK=>?_)
         refine goes_ Try.func54 (by kernel_rfl) rfl #[.int .i64 ((rd_T61 l0 x3_1).f2),.int .i64 1,.int .i64 1000] (by rfl) rfl rfl (by (try simp only [List.map_toArray,List.map_cons,List.map_nil]);rfl) ?_
         with_reducible refine (spec_l1In.calls ((rd_T61 l0 x3_1).f2) 1 1000 true _ A8.out).mono ?_
         rintro e w' ⟨rfl,⟨nd,rfl⟩⟩
         refine ⟨_,rfl,?_⟩
         refine hK.out _ _ ⟨bq BK106 0,bq BK106 1,bq BK106 2,(xH HB hw110_0),(xH HB hw110_1),(xH HB hw110_2)⟩ (fun hHeld=>?_)
         clear hK K
         refine no 28 ?_
         refine pt 14 29 (fl 31 32767) HT_ ?_
         refine pt 15 30 (fl 31 65535) HT_ ?_
         refine pt 16 31 (fl 31 131071) HT_ ?_
         refine pt 17 32 (fl 31 262143) HT_ ?_
         refine pt 18 33 (fl 31 524287) HT_ ?_
         refine pt 19 34 (fl 31 1048575) HT_ ?_
         refine pt 20 35 (fl 31 2097151) HT_ ?_
         refine pt 21 36 (fl 31 4194303) HT_ ?_
         refine pt 22 37 (fl 31 8388607) HT_ ?_
         refine pt 23 38 (fl 31 16777215) HT_ ?_
         refine pt 24 39 (fl 31 33554431) HT_ ?_
         refine pt 26 41 (fl 31 100663295) HT_ ?_
         refine tt 25 40 (fl 31 134217727) HT_ HW_ hHeld ?_
         refine tt 27 42 (fl 31 268435455) HT_ HW_ hHeld ?_
         refine pt 28 43 (fl 31 536870911) HT_ ?_
         refine pt 29 44 (fl 31 1073741823) HT_ ?_
         refine pt 30 45 (fl 31 2147483647) HT_ ?_
         refine done_ (done_of HT_.out (by kernel_rfl)) ?_
         try go_wp2
         go_roundg k1
         case measure=>have:=HK1.out;omega
         case rel=>exact ⟨(wrap64 (x3_1+1)),rd_,H',⟨by have:=HK1.out;omega⟩,⟨be⟩⟩
       ·rw [if_neg c10] at H
        have c10b0:decide (0 < x3_1)=false:=decide_eq_false c10
        clear c10
        have H':=Aside0.mk H
        clear H
        have p105:0≤(x3_1:Int):=od
        have q105:x3_1 < (l0.length:Int):=od
        obtain ⟨ad105,e105,hx105_0,hx105_1,hx105_2⟩:=at_T61 HR0.out x3_1 p105 q105
        cases e105
        replace hx105_0:=xH HB hx105_0
        replace hx105_1:=xH HB hx105_1
        replace hx105_2:=xH HB hx105_2
        replace p105:=eq_true p105
        replace q105:=eq_true q105
        try go_wp2_with ((with_reducible refine gate_dst (N:=4) rfl ?_);refine box_event ?hg (N:=4) ?hd (cs:=#[.int .i64 0,.int .i64 0,.int .i64 0]) (t:=61) ?hr ?_;(case hd=>rfl);(case hg=>rfl);(case hr=>(go_simp;done));intro gb106 hg w23 hbox hb;have BK106:=aM (hbox);have GW106:=gS w hg;have GE106:=gS w hg;replace HB:=bs hb;clear hb hbox hg;obtain ⟨hcz24_0,hcz24_1,hcz24_2,hfz24_0,hfz24_1,hfz24_2⟩:=b3 BK106)
        obtain ⟨w25,hW_⟩ : ∃ W_:World,W_=(((w23.setCell ⟨gb106,0,none⟩ (.int .i64 ((rd_T61 l0 x3_1).f0))).setCell ⟨gb106,1,none⟩ (.int .i64 ((rd_T61 l0 x3_1).f1))).setCell ⟨gb106,2,none⟩ (.int .i64 ((rd_T61 l0 x3_1).f2))):=⟨_,rfl⟩
        have n0_:Aside0 (w25.heap[gb106]?=some (.cells #[.int .i64 ((rd_T61 l0 x3_1).f0),.int .i64 ((rd_T61 l0 x3_1).f1),.int .i64 ((rd_T61 l0 x3_1).f2)] 61 (0,0))):=⟨by rw [hW_];refine blk_put (cs:=#[.int .i64 ((rd_T61 l0 x3_1).f0),.int .i64 ((rd_T61 l0 x3_1).f1),.int .i64 0]) ?_ 2 _ rfl;refine blk_put (cs:=#[.int .i64 ((rd_T61 l0 x3_1).f0),.int .i64 0,.int .i64 0]) ?_ 1 _ rfl;refine blk_put (cs:=#[.int .i64 0,.int .i64 0,.int .i64 0]) ?_ 0 _ rfl;exact BK106.out⟩
        have n1_:Aside0 (Below w.heap.size w w25):=⟨by rw [hW_];exact be⟩
        (try clear BK106)
        (try clear HB)
        rw [← hW_];clear hW_
        have BK106:=n0_;have HB:=n1_;clear n0_ n1_;replace BK106:=aM (blk_drew BK106.out);replace HB:=aM (below_drew1 HB.out)
        refine start_ (n:=31) (S:=fun w'=>w'.cell? ⟨gb106,0,none⟩=some (.int .i64 ((rd_T61 l0 x3_1).f0))∧w'.cell? ⟨gb106,1,none⟩=some (.int .i64 ((rd_T61 l0 x3_1).f1))∧w'.cell? ⟨gb106,2,none⟩=some (.int .i64 ((rd_T61 l0 x3_1).f2))) (ds:=[]) (fl 31 0) (by kernel_rfl) rfl rfl ⟨bq BK106 0,bq BK106 1,bq BK106 2⟩ (fun hHeld=>?_);refine with_tabW spec_DevsOk.tab5 spec_DevsOk.bits5 (fun HT_ HW_=>?_)
        generalize w25.drew=w26 at BK106 HB hHeld ⊢
        refine pt 0 15 (fl 31 1) HT_ ?_
        refine tt 1 16 (fl 31 3) HT_ HW_ hHeld ?_
        refine ot 2 (some 17) (fl 31 7) HT_ (fun K hK=>?_)
        refine goes_ Try.func54 (by kernel_rfl) rfl #[.int .i64 ((rd_T61 l0 x3_1).f0),.int .i64 0,.int .i64 20] (by rfl) rfl rfl (by (try simp only [List.map_toArray,List.map_cons,List.map_nil]);rfl) ?_
        with_reducible refine (spec_l1In.calls ((rd_T61 l0 x3_1).f0) 0 20 true _ A4.out).mono ?_
        rintro e w' ⟨rfl,⟨nd,rfl⟩⟩
        refine ⟨_,rfl,?_⟩
        refine hK.out _ _ ⟨bq BK106 0,bq BK106 1,bq BK106 2⟩ (fun hHeld=>?_)
        clear hK K
        refine no 17 ?_
        refine pt 3 18 (fl 31 15) HT_ ?_
        refine pt 4 19 (fl 31 31) HT_ ?_
        refine pt 5 20 (fl 31 63) HT_ ?_
        refine tt 6 21 (fl 31 127) HT_ HW_ hHeld ?_
        refine ot 7 (some 22) (fl 31 255) HT_ (fun K hK=>?_)
        refine goes_ Try.func54 (by kernel_rfl) rfl #[.int .i64 ((rd_T61 l0 x3_1).f1),.int .i64 0,.int .i64 20] (by rfl) rfl rfl (by (try simp only [List.map_toArray,List.map_cons,List.map_nil]);rfl) ?_
        with_reducible refine (spec_l1In.calls ((rd_T61 l0 x3_1).f1) 0 20 true _ A6.out).mono ?_
        rintro e w' ⟨rfl,⟨nd,rfl⟩⟩
        refine ⟨_,rfl,?_⟩
        refine hK.out _ _ ⟨bq BK106 0,bq BK106 1,bq BK106 2⟩ (fun hHeld=>?_)
        clear hK K
        refine no 22 ?_
        refine pt 8 23 (fl 31 511) HT_ ?_
        refine pt 9 24 (fl 31 1023) HT_ ?_
        refine pt 10 25 (fl 31 2047) HT_ ?_
        refine pt 11 26 (fl 31 4095) HT_ ?_
        refine tt 12 27 (fl 31 8191) HT_ HW_ hHeld ?_
        refine ot 13 (some 28) (fl 31 16383) HT_ (fun K hK=>?_)
        refine goes_ Try.func54 (by kernel_rfl) rfl #[.int .i64 ((rd_T61 l0 x3_1).f2),.int .i64 1,.int .i64 1000] (by rfl) rfl rfl (by (try simp only [List.map_toArray,List.map_cons,List.map_nil]);rfl) ?_
        with_reducible refine (spec_l1In.calls ((rd_T61 l0 x3_1).f2) 1 1000 true _ A8.out).mono ?_
        rintro e w' ⟨rfl,⟨nd,rfl⟩⟩
        refine ⟨_,rfl,?_⟩
        refine hK.out _ _ ⟨bq BK106 0,bq BK106 1,bq BK106 2⟩ (fun hHeld=>?_)
        clear hK K
        refine no 28 ?_
        refine pt 14 29 (fl 31 32767) HT_ ?_
        refine pt 15 30 (fl 31 65535) HT_ ?_
        refine pt 16 31 (fl 31 131071) HT_ ?_
        refine pt 17 32 (fl 31 262143) HT_ ?_
        refine pt 18 33 (fl 31 524287) HT_ ?_
        refine pt 19 34 (fl 31 1048575) HT_ ?_
        refine ut 20 35 (fl 31 2097151) HT_ ?_
        refine ut 21 36 (fl 31 4194303) HT_ ?_
        refine ut 22 37 (fl 31 8388607) HT_ ?_
        refine ut 23 38 (fl 31 16777215) HT_ ?_
        refine ut 24 39 (fl 31 33554431) HT_ ?_
        refine ut 25 40 (fl 31 67108863) HT_ ?_
        refine ut 26 41 (fl 31 134217727) HT_ ?_
        refine ut 27 42 (fl 31 268435455) HT_ ?_
        refine ut 28 43 (fl 31 536870911) HT_ ?_
        refine pt 29 44 (fl 31 1073741823) HT_ ?_
        refine pt 30 45 (fl 31 2147483647) HT_ ?_
        refine done_ (done_of HT_.out (by kernel_rfl)) ?_
        try go_wp2
        go_roundg k1
        case measure=>have:=HK1.out;omega
        case rel=>exact ⟨(wrap64 (x3_1+1)),rd_,H',⟨by have:=HK1.out;omega⟩,⟨be⟩⟩
      ·replace c9:=Bool.eq_false_iff.mpr c9
       subst c9
       replace H:=(if_neg (show ¬ (false=true) by decide)).symm.trans H
       obtain rfl:=Option.some.inj H
       have p105:0≤(x3_1:Int):=od
       have q105:x3_1 < (l0.length:Int):=od
       obtain ⟨ad105,e105,hx105_0,hx105_1,hx105_2⟩:=at_T61 HR0.out x3_1 p105 q105
       cases e105
       replace hx105_0:=xH HB hx105_0
       replace hx105_1:=xH HB hx105_1
       replace hx105_2:=xH HB hx105_2
       replace p105:=eq_true p105
       replace q105:=eq_true q105
       try go_wp2_with ((with_reducible refine gate_dst (N:=4) rfl ?_);refine box_event ?hg (N:=4) ?hd (cs:=#[.int .i64 0,.int .i64 0,.int .i64 0]) (t:=61) ?hr ?_;(case hd=>rfl);(case hg=>rfl);(case hr=>(go_simp;done));intro gb106 hg w27 hbox hb;have BK106:=aM (hbox);have GW106:=gS w hg;have GE106:=gS w hg;replace HB:=bs hb;clear hb hbox hg;obtain ⟨hcz28_0,hcz28_1,hcz28_2,hfz28_0,hfz28_1,hfz28_2⟩:=b3 BK106)
       obtain ⟨w29,hW_⟩ : ∃ W_:World,W_=(((w27.setCell ⟨gb106,0,none⟩ (.int .i64 ((rd_T61 l0 x3_1).f0))).setCell ⟨gb106,1,none⟩ (.int .i64 ((rd_T61 l0 x3_1).f1))).setCell ⟨gb106,2,none⟩ (.int .i64 ((rd_T61 l0 x3_1).f2))):=⟨_,rfl⟩
       have n0_:Aside0 (w29.heap[gb106]?=some (.cells #[.int .i64 ((rd_T61 l0 x3_1).f0),.int .i64 ((rd_T61 l0 x3_1).f1),.int .i64 ((rd_T61 l0 x3_1).f2)] 61 (0,0))):=⟨by rw [hW_];refine blk_put (cs:=#[.int .i64 ((rd_T61 l0 x3_1).f0),.int .i64 ((rd_T61 l0 x3_1).f1),.int .i64 0]) ?_ 2 _ rfl;refine blk_put (cs:=#[.int .i64 ((rd_T61 l0 x3_1).f0),.int .i64 0,.int .i64 0]) ?_ 1 _ rfl;refine blk_put (cs:=#[.int .i64 0,.int .i64 0,.int .i64 0]) ?_ 0 _ rfl;exact BK106.out⟩
       have n1_:Aside0 (Below w.heap.size w w29):=⟨by rw [hW_];exact be⟩
       (try clear BK106)
       (try clear HB)
       rw [← hW_];clear hW_
       have BK106:=n0_;have HB:=n1_;clear n0_ n1_;replace BK106:=aM (blk_drew BK106.out);replace HB:=aM (below_drew1 HB.out)
       refine start_ (n:=31) (S:=fun w'=>w'.cell? ⟨gb106,0,none⟩=some (.int .i64 ((rd_T61 l0 x3_1).f0))∧w'.cell? ⟨gb106,1,none⟩=some (.int .i64 ((rd_T61 l0 x3_1).f1))∧w'.cell? ⟨gb106,2,none⟩=some (.int .i64 ((rd_T61 l0 x3_1).f2))) (ds:=[]) (fl 31 0) (by kernel_rfl) rfl rfl ⟨bq BK106 0,bq BK106 1,bq BK106 2⟩ (fun hHeld=>?_);refine with_tabW spec_DevsOk.tab5 spec_DevsOk.bits5 (fun HT_ HW_=>?_)
       generalize w29.drew=w30 at BK106 HB hHeld ⊢
       refine pt 0 15 (fl 31 1) HT_ ?_
       refine tt 1 16 (fl 31 3) HT_ HW_ hHeld ?_
       refine ot 2 (some 17) (fl 31 7) HT_ (fun K hK=>?_)
       refine goes_ Try.func54 (by kernel_rfl) rfl #[.int .i64 ((rd_T61 l0 x3_1).f0),.int .i64 0,.int .i64 20] (by rfl) rfl rfl (by (try simp only [List.map_toArray,List.map_cons,List.map_nil]);rfl) ?_
       with_reducible refine (spec_l1In.calls ((rd_T61 l0 x3_1).f0) 0 20 true _ A4.out).mono ?_
       rintro e w' ⟨rfl,⟨nd,rfl⟩⟩
       refine ⟨_,rfl,?_⟩
       refine hK.out _ _ ⟨bq BK106 0,bq BK106 1,bq BK106 2⟩ (fun hHeld=>?_)
       clear hK K
       refine no 17 ?_
       refine pt 3 18 (fl 31 15) HT_ ?_
       refine pt 4 19 (fl 31 31) HT_ ?_
       refine pt 5 20 (fl 31 63) HT_ ?_
       refine tt 6 21 (fl 31 127) HT_ HW_ hHeld ?_
       refine ot 7 (some 22) (fl 31 255) HT_ (fun K hK=>?_)
       refine goes_ Try.func54 (by kernel_rfl) rfl #[.int .i64 ((rd_T61 l0 x3_1).f1),.int .i64 0,.int .i64 20] (by rfl) rfl rfl (by (try simp only [List.map_toArray,List.map_cons,List.map_nil]);rfl) ?_
       with_reducible refine (spec_l1In.calls ((rd_T61 l0 x3_1).f1) 0 20 true _ A6.out).mono ?_
       rintro e w' ⟨rfl,⟨nd,rfl⟩⟩
       refine ⟨_,rfl,?_⟩
       refine hK.out _ _ ⟨bq BK106 0,bq BK106 1,bq BK106 2⟩ (fun hHeld=>?_)
       clear hK K
       refine no 22 ?_
       refine pt 8 23 (fl 31 511) HT_ ?_
       refine pt 9 24 (fl 31 1023) HT_ ?_
       refine pt 10 25 (fl 31 2047) HT_ ?_
       refine pt 11 26 (fl 31 4095) HT_ ?_
       refine tt 12 27 (fl 31 8191) HT_ HW_ hHeld ?_
       refine ot 13 (some 28) (fl 31 16383) HT_ (fun K hK=>?_)
       refine goes_ Try.func54 (by kernel_rfl) rfl #[.int .i64 ((rd_T61 l0 x3_1).f2),.int .i64 1,.int .i64 1000] (by rfl) rfl rfl (by (try simp only [List.map_toArray,List.map_cons,List.map_nil]);rfl) ?_
       with_reducible refine (spec_l1In.calls ((rd_T61 l0 x3_1).f2) 1 1000 false _ A8.out).mono ?_
       rintro e w' ⟨rfl,⟨nd,rfl⟩⟩
       refine ⟨_,rfl,?_⟩
       refine hK.out _ _ ⟨bq BK106 0,bq BK106 1,bq BK106 2⟩ (fun hHeld=>?_)
       clear hK K
       refine no 28 ?_
       refine pt 14 29 (fl 31 32767) HT_ ?_
       refine pt 15 30 (fl 31 65535) HT_ ?_
       refine pt 16 31 (fl 31 131071) HT_ ?_
       refine ut 17 32 (fl 31 262143) HT_ ?_
       refine ut 18 33 (fl 31 524287) HT_ ?_
       refine ut 19 34 (fl 31 1048575) HT_ ?_
       refine ut 20 35 (fl 31 2097151) HT_ ?_
       refine ut 21 36 (fl 31 4194303) HT_ ?_
       refine ut 22 37 (fl 31 8388607) HT_ ?_
       refine ut 23 38 (fl 31 16777215) HT_ ?_
       refine ut 24 39 (fl 31 33554431) HT_ ?_
       refine ut 25 40 (fl 31 67108863) HT_ ?_
       refine ut 26 41 (fl 31 134217727) HT_ ?_
       refine ut 27 42 (fl 31 268435455) HT_ ?_
       refine ut 28 43 (fl 31 536870911) HT_ ?_
       refine ut 29 44 (fl 31 1073741823) HT_ ?_
       refine pt 30 45 (fl 31 2147483647) HT_ ?_
       refine done_ (done_of HT_.out (by kernel_rfl)) ?_
       try go_wp2
       go_ret
       exact ⟨by rfl,be⟩
     ·replace c7:=Bool.eq_false_iff.mpr c7
      subst c7
      replace H:=(if_neg (show ¬ (false=true) by decide)).symm.trans H
      obtain rfl:=Option.some.inj H
      have p105:0≤(x3_1:Int):=od
      have q105:x3_1 < (l0.length:Int):=od
      obtain ⟨ad105,e105,hx105_0,hx105_1,hx105_2⟩:=at_T61 HR0.out x3_1 p105 q105
      cases e105
      replace hx105_0:=xH HB hx105_0
      replace hx105_1:=xH HB hx105_1
      replace hx105_2:=xH HB hx105_2
      replace p105:=eq_true p105
      replace q105:=eq_true q105
      try go_wp2_with ((with_reducible refine gate_dst (N:=4) rfl ?_);refine box_event ?hg (N:=4) ?hd (cs:=#[.int .i64 0,.int .i64 0,.int .i64 0]) (t:=61) ?hr ?_;(case hd=>rfl);(case hg=>rfl);(case hr=>(go_simp;done));intro gb106 hg w31 hbox hb;have BK106:=aM (hbox);have GW106:=gS w hg;have GE106:=gS w hg;replace HB:=bs hb;clear hb hbox hg;obtain ⟨hcz32_0,hcz32_1,hcz32_2,hfz32_0,hfz32_1,hfz32_2⟩:=b3 BK106)
      obtain ⟨w33,hW_⟩ : ∃ W_:World,W_=(((w31.setCell ⟨gb106,0,none⟩ (.int .i64 ((rd_T61 l0 x3_1).f0))).setCell ⟨gb106,1,none⟩ (.int .i64 ((rd_T61 l0 x3_1).f1))).setCell ⟨gb106,2,none⟩ (.int .i64 ((rd_T61 l0 x3_1).f2))):=⟨_,rfl⟩
      have n0_:Aside0 (w33.heap[gb106]?=some (.cells #[.int .i64 ((rd_T61 l0 x3_1).f0),.int .i64 ((rd_T61 l0 x3_1).f1),.int .i64 ((rd_T61 l0 x3_1).f2)] 61 (0,0))):=⟨by rw [hW_];refine blk_put (cs:=#[.int .i64 ((rd_T61 l0 x3_1).f0),.int .i64 ((rd_T61 l0 x3_1).f1),.int .i64 0]) ?_ 2 _ rfl;refine blk_put (cs:=#[.int .i64 ((rd_T61 l0 x3_1).f0),.int .i64 0,.int .i64 0]) ?_ 1 _ rfl;refine blk_put (cs:=#[.int .i64 0,.int .i64 0,.int .i64 0]) ?_ 0 _ rfl;exact BK106.out⟩
      have n1_:Aside0 (Below w.heap.size w w33):=⟨by rw [hW_];exact be⟩
      (try clear BK106)
      (try clear HB)
      rw [← hW_];clear hW_
      have BK106:=n0_;have HB:=n1_;clear n0_ n1_;replace BK106:=aM (blk_drew BK106.out);replace HB:=aM (below_drew1 HB.out)
      refine start_ (n:=31) (S:=fun w'=>w'.cell? ⟨gb106,0,none⟩=some (.int .i64 ((rd_T61 l0 x3_1).f0))∧w'.cell? ⟨gb106,1,none⟩=some (.int .i64 ((rd_T61 l0 x3_1).f1))∧w'.cell? ⟨gb106,2,none⟩=some (.int .i64 ((rd_T61 l0 x3_1).f2))) (ds:=[]) (fl 31 0) (by kernel_rfl) rfl rfl ⟨bq BK106 0,bq BK106 1,bq BK106 2⟩ (fun hHeld=>?_);refine with_tabW spec_DevsOk.tab5 spec_DevsOk.bits5 (fun HT_ HW_=>?_)
      generalize w33.drew=w34 at BK106 HB hHeld ⊢
      refine pt 0 15 (fl 31 1) HT_ ?_
      refine tt 1 16 (fl 31 3) HT_ HW_ hHeld ?_
      refine ot 2 (some 17) (fl 31 7) HT_ (fun K hK=>?_)
      refine goes_ Try.func54 (by kernel_rfl) rfl #[.int .i64 ((rd_T61 l0 x3_1).f0),.int .i64 0,.int .i64 20] (by rfl) rfl rfl (by (try simp only [List.map_toArray,List.map_cons,List.map_nil]);rfl) ?_
      with_reducible refine (spec_l1In.calls ((rd_T61 l0 x3_1).f0) 0 20 true _ A4.out).mono ?_
      rintro e w' ⟨rfl,⟨nd,rfl⟩⟩
      refine ⟨_,rfl,?_⟩
      refine hK.out _ _ ⟨bq BK106 0,bq BK106 1,bq BK106 2⟩ (fun hHeld=>?_)
      clear hK K
      refine no 17 ?_
      refine pt 3 18 (fl 31 15) HT_ ?_
      refine pt 4 19 (fl 31 31) HT_ ?_
      refine pt 5 20 (fl 31 63) HT_ ?_
      refine tt 6 21 (fl 31 127) HT_ HW_ hHeld ?_
      refine ot 7 (some 22) (fl 31 255) HT_ (fun K hK=>?_)
      refine goes_ Try.func54 (by kernel_rfl) rfl #[.int .i64 ((rd_T61 l0 x3_1).f1),.int .i64 0,.int .i64 20] (by rfl) rfl rfl (by (try simp only [List.map_toArray,List.map_cons,List.map_nil]);rfl) ?_
      with_reducible refine (spec_l1In.calls ((rd_T61 l0 x3_1).f1) 0 20 false _ A6.out).mono ?_
      rintro e w' ⟨rfl,⟨nd,rfl⟩⟩
      refine ⟨_,rfl,?_⟩
      refine hK.out _ _ ⟨bq BK106 0,bq BK106 1,bq BK106 2⟩ (fun hHeld=>?_)
      clear hK K
      refine no 22 ?_
      refine pt 8 23 (fl 31 511) HT_ ?_
      refine pt 9 24 (fl 31 1023) HT_ ?_
      refine pt 10 25 (fl 31 2047) HT_ ?_
      refine ut 11 26 (fl 31 4095) HT_ ?_
      refine ut 12 27 (fl 31 8191) HT_ ?_
      refine ut 13 28 (fl 31 16383) HT_ ?_
      refine ut 14 29 (fl 31 32767) HT_ ?_
      refine pt 15 30 (fl 31 65535) HT_ ?_
      refine pt 16 31 (fl 31 131071) HT_ ?_
      refine ut 17 32 (fl 31 262143) HT_ ?_
      refine ut 18 33 (fl 31 524287) HT_ ?_
      refine ut 19 34 (fl 31 1048575) HT_ ?_
      refine ut 20 35 (fl 31 2097151) HT_ ?_
      refine ut 21 36 (fl 31 4194303) HT_ ?_
      refine ut 22 37 (fl 31 8388607) HT_ ?_
      refine ut 23 38 (fl 31 16777215) HT_ ?_
      refine ut 24 39 (fl 31 33554431) HT_ ?_
      refine ut 25 40 (fl 31 67108863) HT_ ?_
      refine ut 26 41 (fl 31 134217727) HT_ ?_
      refine ut 27 42 (fl 31 268435455) HT_ ?_
      refine ut 28 43 (fl 31 536870911) HT_ ?_
      refine ut 29 44 (fl 31 1073741823) HT_ ?_
      refine pt 30 45 (fl 31 2147483647) HT_ ?_
      refine done_ (done_of HT_.out (by kernel_rfl)) ?_
      try go_wp2
      go_ret
      exact ⟨by rfl,be⟩
    ·replace c5:=Bool.eq_false_iff.mpr c5
     subst c5
     replace H:=(if_neg (show ¬ (false=true) by decide)).symm.trans H
     obtain rfl:=Option.some.inj H
     have p105:0≤(x3_1:Int):=od
     have q105:x3_1 < (l0.length:Int):=od
     obtain ⟨ad105,e105,hx105_0,hx105_1,hx105_2⟩:=at_T61 HR0.out x3_1 p105 q105
     cases e105
     replace hx105_0:=xH HB hx105_0
     replace hx105_1:=xH HB hx105_1
     replace hx105_2:=xH HB hx105_2
     replace p105:=eq_true p105
     replace q105:=eq_true q105
     try go_wp2_with ((with_reducible refine gate_dst (N:=4) rfl ?_);refine box_event ?hg (N:=4) ?hd (cs:=#[.int .i64 0,.int .i64 0,.int .i64 0]) (t:=61) ?hr ?_;(case hd=>rfl);(case hg=>rfl);(case hr=>(go_simp;done));intro gb106 hg w35 hbox hb;have BK106:=aM (hbox);have GW106:=gS w hg;have GE106:=gS w hg;replace HB:=bs hb;clear hb hbox hg;obtain ⟨hcz36_0,hcz36_1,hcz36_2,hfz36_0,hfz36_1,hfz36_2⟩:=b3 BK106)
     obtain ⟨w37,hW_⟩ : ∃ W_:World,W_=(((w35.setCell ⟨gb106,0,none⟩ (.int .i64 ((rd_T61 l0 x3_1).f0))).setCell ⟨gb106,1,none⟩ (.int .i64 ((rd_T61 l0 x3_1).f1))).setCell ⟨gb106,2,none⟩ (.int .i64 ((rd_T61 l0 x3_1).f2))):=⟨_,rfl⟩
     have n0_:Aside0 (w37.heap[gb106]?=some (.cells #[.int .i64 ((rd_T61 l0 x3_1).f0),.int .i64 ((rd_T61 l0 x3_1).f1),.int .i64 ((rd_T61 l0 x3_1).f2)] 61 (0,0))):=⟨by rw [hW_];refine blk_put (cs:=#[.int .i64 ((rd_T61 l0 x3_1).f0),.int .i64 ((rd_T61 l0 x3_1).f1),.int .i64 0]) ?_ 2 _ rfl;refine blk_put (cs:=#[.int .i64 ((rd_T61 l0 x3_1).f0),.int .i64 0,.int .i64 0]) ?_ 1 _ rfl;refine blk_put (cs:=#[.int .i64 0,.int .i64 0,.int .i64 0]) ?_ 0 _ rfl;exact BK106.out⟩
     have n1_:Aside0 (Below w.heap.size w w37):=⟨by rw [hW_];exact be⟩
     (try clear BK106)
     (try clear HB)
     rw [← hW_];clear hW_
     have BK106:=n0_;have HB:=n1_;clear n0_ n1_;replace BK106:=aM (blk_drew BK106.out);replace HB:=aM (below_drew1 HB.out)
     refine start_ (n:=31) (S:=fun w'=>w'.cell? ⟨gb106,0,none⟩=some (.int .i64 ((rd_T61 l0 x3_1).f0))∧w'.cell? ⟨gb106,1,none⟩=some (.int .i64 ((rd_T61 l0 x3_1).f1))∧w'.cell? ⟨gb106,2,none⟩=some (.int .i64 ((rd_T61 l0 x3_1).f2))) (ds:=[]) (fl 31 0) (by kernel_rfl) rfl rfl ⟨bq BK106 0,bq BK106 1,bq BK106 2⟩ (fun hHeld=>?_);refine with_tabW spec_DevsOk.tab5 spec_DevsOk.bits5 (fun HT_ HW_=>?_)
     generalize w37.drew=w38 at BK106 HB hHeld ⊢
     refine pt 0 15 (fl 31 1) HT_ ?_
     refine tt 1 16 (fl 31 3) HT_ HW_ hHeld ?_
     refine ot 2 (some 17) (fl 31 7) HT_ (fun K hK=>?_)
     refine goes_ Try.func54 (by kernel_rfl) rfl #[.int .i64 ((rd_T61 l0 x3_1).f0),.int .i64 0,.int .i64 20] (by rfl) rfl rfl (by (try simp only [List.map_toArray,List.map_cons,List.map_nil]);rfl) ?_
     with_reducible refine (spec_l1In.calls ((rd_T61 l0 x3_1).f0) 0 20 false _ A4.out).mono ?_
     rintro e w' ⟨rfl,⟨nd,rfl⟩⟩
     refine ⟨_,rfl,?_⟩
     refine hK.out _ _ ⟨bq BK106 0,bq BK106 1,bq BK106 2⟩ (fun hHeld=>?_)
     clear hK K
     refine no 17 ?_
     refine pt 3 18 (fl 31 15) HT_ ?_
     refine pt 4 19 (fl 31 31) HT_ ?_
     refine ut 5 20 (fl 31 63) HT_ ?_
     refine ut 6 21 (fl 31 127) HT_ ?_
     refine ut 7 22 (fl 31 255) HT_ ?_
     refine ut 8 23 (fl 31 511) HT_ ?_
     refine pt 9 24 (fl 31 1023) HT_ ?_
     refine pt 10 25 (fl 31 2047) HT_ ?_
     refine ut 11 26 (fl 31 4095) HT_ ?_
     refine ut 12 27 (fl 31 8191) HT_ ?_
     refine ut 13 28 (fl 31 16383) HT_ ?_
     refine ut 14 29 (fl 31 32767) HT_ ?_
     refine pt 15 30 (fl 31 65535) HT_ ?_
     refine pt 16 31 (fl 31 131071) HT_ ?_
     refine ut 17 32 (fl 31 262143) HT_ ?_
     refine ut 18 33 (fl 31 524287) HT_ ?_
     refine ut 19 34 (fl 31 1048575) HT_ ?_
     refine ut 20 35 (fl 31 2097151) HT_ ?_
     refine ut 21 36 (fl 31 4194303) HT_ ?_
     refine ut 22 37 (fl 31 8388607) HT_ ?_
     refine ut 23 38 (fl 31 16777215) HT_ ?_
     refine ut 24 39 (fl 31 33554431) HT_ ?_
     refine ut 25 40 (fl 31 67108863) HT_ ?_
     refine ut 26 41 (fl 31 134217727) HT_ ?_
     refine ut 27 42 (fl 31 268435455) HT_ ?_
     refine ut 28 43 (fl 31 536870911) HT_ ?_
     refine ut 29 44 (fl 31 1073741823) HT_ ?_
     refine pt 30 45 (fl 31 2147483647) HT_ ?_
     refine done_ (done_of HT_.out (by kernel_rfl)) ?_
     try go_wp2
     go_ret
     exact ⟨by rfl,be⟩
   ·rw [if_neg c2] at H
    have c2b0:decide (x3_1 < (l0.length:Int))=false:=decide_eq_false c2
    clear c2
    replace H:=Option.bind_eq_some_iff.mp H
    obtain ⟨t104,A390,H⟩:=H
    try dsimp only at H
    have A39:=aM A390
    clear A390
    obtain rfl:=Option.some.inj H
    go_wp2_with ((with_reducible refine gate_callee (f:=54) rfl ?_);refine goesL_ (some 48) rfl rfl Try.func54 (by kernel_rfl) rfl #[.int .i64 (l0.length:Int),.int .i64 1,.int .i64 12] rfl (by (try simp only [List.map_toArray,List.map_cons,List.map_nil]);rfl) ?_;(with_reducible refine (spec_l1In.calls (l0.length:Int) 1 12 t104 _ A39.out).mono ?_);rintro e w' ⟨rfl,⟨nd,rfl⟩⟩;refine ⟨_,rfl,?_⟩)
    go_ret
    exact ⟨by rfl,be⟩
end Go.Proofs.Ytpbjbfimnfghkaa.PFnRebalanced
