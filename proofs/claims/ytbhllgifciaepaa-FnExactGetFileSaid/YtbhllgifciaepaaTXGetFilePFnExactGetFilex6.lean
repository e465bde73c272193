/- Trimmed by a program of this session (trim.py). Not trusted: Lean checks it. -/
import Derived.Test.YtbhllgifciaepaaTXGetFilePFnExactGetFilex0
import Derived.Test.YtbhllgifciaepaaTXGetFilePFnExactGetFilex5
import Derived.Test.YtbhllgifciaepaaTXGetFileAid2
namespace Go.Proofs.Ytbhllgifciaepaa.PFnExactGetFile
open Go.RowKit Go.Proofs.YtbhllgifciaepaaW.PrintWords Go.Proofs.YtbhllgifciaepaaW.PrintLast Go.Proofs.YtbhllgifciaepaaW.PrintMore Go.Proofs.Ytbhllgifciaepaa.St
attribute [local go_sem] max2_int min2_int max_two min_two max_three min_three max_four min_four
set_option linter.unusedVariables false
set_option linter.unusedSimpArgs false
mutual
def impl_GetNum.l0:Nat→List Int→Int→Int→Int→Option (Int × Int × Bool)
 | 0,_,_,_,_=>none
 | k+1,x0,x1,x7,x8=>if x8 < 5 then (if x1 ≥ 0 then (impl_GetNum.j1 k x0 x1 x7 x8 (decide (x1 < (wrap64 ((x0.length:Int) - x8))))) else (impl_GetNum.j1 k x0 x1 x7 x8 false)) else (impl_GetNum.j1 k x0 x1 x7 x8 false)
def impl_GetNum.j1:Nat→List Int→Int→Int→Int→Bool→Option (Int × Int × Bool)
 | 0,_,_,_,_,_=>none
 | k+1,x0,x1,x7,x8,x23=>if x23=true then (if 0≤(wrap64 (x1+x8)) then (if (wrap64 (x1+x8)) < (x0.length:Int) then (if 0≤(wrap64 (7 * x8)) then (if (wrap64 (rd x0 (wrap64 (x1+x8)))) ≥ 128 then (impl_GetNum.l0 k x0 x1 (wrap64 (x7+(shl .i64 (Int.tmod (wrap64 (rd x0 (wrap64 (x1+x8)))) 128) (wrap64 (7 * x8))))) (wrap64 (x8+1))) else (if (wrap64 (rd x0 (wrap64 (x1+x8))))=0 then (if x8 > 0 then (some (0,0,false)) else (if (wrap64 (x7+(shl .i64 (Int.tmod (wrap64 (rd x0 (wrap64 (x1+x8)))) 128) (wrap64 (7 * x8))))) > 1000000000 then (some (0,0,false)) else (some (wrap64 (x7+(shl .i64 (Int.tmod (wrap64 (rd x0 (wrap64 (x1+x8)))) 128) (wrap64 (7 * x8)))),wrap64 ((wrap64 (x1+x8))+1),true)))) else (if (wrap64 (x7+(shl .i64 (Int.tmod (wrap64 (rd x0 (wrap64 (x1+x8)))) 128) (wrap64 (7 * x8))))) > 1000000000 then (some (0,0,false)) else (some (wrap64 (x7+(shl .i64 (Int.tmod (wrap64 (rd x0 (wrap64 (x1+x8)))) 128) (wrap64 (7 * x8)))),wrap64 ((wrap64 (x1+x8))+1),true))))) else (none)) else (none)) else (none)) else (some (0,0,false))
end
def impl_GetNum.f (k:Nat) (l0:List Int) (a1:Int):Option (Int × Int × Bool):=impl_GetNum.l0 k l0 a1 0 0
set_option maxHeartbeats 8000000 in
set_option maxRecDepth 100000 in
theorem impl_GetNum.calls (k:Nat) (A0:Option Addr) (c0:Nat) (l0:List Int) (a1:Int) (r1:Int) (r2:Int) (r3:Bool) (w:World) (hr0:Kd.C (Kd.int .u8) w A0 l0.length l0) (hc0:l0.length≤c0) (h:impl_GetNum.f k l0 a1=some (r1,r2,r3)) :
  Calls Try.prog 135 #[.slice A0 l0.length c0,.int .i64 a1] w fun e w'=>e = .returned (.tuple #[.int .i64 r1,.int .i64 r2,.bool r3])∧Drawn0 w w':=by
 have HR0:=Aside0.mk hr0
 have HC0:=Aside0.mk hc0
 clear hr0 hc0
 have H:(impl_GetNum.l0 k l0 a1 0 0)=some (r1,r2,r3):=h
 clear h
 have H':=Aside0.mk H
 clear H
 go_enter Try.func135,Try.ntmps135
 go_wp2
 go_loopg [7,8] k (fun kq v7 v8 w'=>∃ (x7_1:Int) (x8_1:Int),v7 = .int .i64 x7_1∧v8 = .int .i64 x8_1∧Aside0 (impl_GetNum.l0 kq l0 a1 x7_1 x8_1=some (r1,r2,r3))∧Aside0 (kq≤k)∧Drawn0 w w')
 case atStart=>exact ⟨(0),(0),rd_,rd_,H',⟨Nat.le_refl _⟩,by repeat (first|exact Drawn0.refl _|apply Drawn0.step)⟩
 case round=>
  clear H'
  try clear c1
  try clear p2
  obtain ⟨x7_1,x8_1,rfl,rfl,HA,HK1,⟨m1,rfl⟩⟩:=hrel
  cases gk with
  | zero=>exact absurd HA.out (by simp [impl_GetNum.l0])
  | succ k1=>
   have H:=HA.out
   clear HA
   simp only [impl_GetNum.l0] at H
   have HC3:=Aside0.mk H
   clear H
   go_upto_region 3 with (fail)
   go_cut [23] (fun v23 wc=>∃ (kq:Nat) (x23_2:Bool),v23 = .bool x23_2∧Aside0 (impl_GetNum.j1 kq l0 a1 x7_1 x8_1 x23_2=some (r1,r2,r3))∧Aside0 (kq≤k1)∧Drawn0 w wc)
   case first=>
    have H:=HC3.out
    clear HC3
    by_cases c4:x8_1 < 5
    ·rw [if_pos c4] at H
     have c4b0:decide (x8_1 < 5)=true:=decide_eq_true c4
     clear c4
     (first|rw [c4b0]|(simp only [i64_w,i32_w];rw [c4b0])|skip)
     by_cases c5:a1 ≥ 0
     ·rw [if_pos c5] at H
      have c5b0:decide (0≤a1)=true:=decide_eq_true c5
      clear c5
      have H':=Aside0.mk H
      clear H
      go_wp2
      go_meet
      case rel=>exact ⟨_,(decide (a1 < (wrap64 ((l0.length:Int) - x8_1)))),rd_,H',⟨by have:=HK1.out;first|omega|exact Nat.le_refl _⟩,by repeat (first|exact Drawn0.refl _|apply Drawn0.step)⟩
     ·rw [if_neg c5] at H
      have c5b0:decide (0≤a1)=false:=decide_eq_false c5
      clear c5
      have H':=Aside0.mk H
      clear H
      go_wp2
      go_meet
      case rel=>exact ⟨_,(false),rd_,H',⟨by have:=HK1.out;first|omega|exact Nat.le_refl _⟩,by repeat (first|exact Drawn0.refl _|apply Drawn0.step)⟩
    ·rw [if_neg c4] at H
     have c4b0:decide (x8_1 < 5)=false:=decide_eq_false c4
     clear c4
     (first|rw [c4b0]|(simp only [i64_w,i32_w];rw [c4b0])|skip)
     have H':=Aside0.mk H
     clear H
     go_wp2
     go_meet
     case rel=>exact ⟨_,(false),rd_,H',⟨by have:=HK1.out;first|omega|exact Nat.le_refl _⟩,by repeat (first|exact Drawn0.refl _|apply Drawn0.step)⟩
   case rest=>
    clear HC3
    try clear c1
    try clear p2
    try clear c4
    try clear c4b0
    try clear c5
    try clear c5b0
    try clear p2
    obtain ⟨kq,x23_2,rfl,HA,HJ2,⟨mc2,rfl⟩⟩:=hcut
    cases kq with
    | zero=>exact absurd HA.out (by simp [impl_GetNum.j1])
    | succ kj2=>
     have H:=HA.out
     clear HA
     simp only [impl_GetNum.j1] at H
     by_cases c6:x23_2=true
     ·subst c6
      rw [if_pos rfl] at H
      obtain ⟨ji7,hji7⟩ : ∃ j_:Int,(wrap64 (a1+x8_1))=j_:=⟨_,rfl⟩
      replace H:(if 0≤(ji7) then (if (ji7) < (l0.length:Int) then (if 0≤(wrap64 (7 * x8_1)) then (if (wrap64 (rd l0 (ji7))) ≥ 128 then (impl_GetNum.l0 kj2 l0 a1 (wrap64 (x7_1+(shl .i64 (Int.tmod (wrap64 (rd l0 (ji7))) 128) (wrap64 (7 * x8_1))))) (wrap64 (x8_1+1))) else (if (wrap64 (rd l0 (ji7)))=0 then (if x8_1 > 0 then (some (0,0,false)) else (if (wrap64 (x7_1+(shl .i64 (Int.tmod (wrap64 (rd l0 (ji7))) 128) (wrap64 (7 * x8_1))))) > 1000000000 then (some (0,0,false)) else (some (wrap64 (x7_1+(shl .i64 (Int.tmod (wrap64 (rd l0 (ji7))) 128) (wrap64 (7 * x8_1)))),wrap64 ((ji7)+1),true)))) else (if (wrap64 (x7_1+(shl .i64 (Int.tmod (wrap64 (rd l0 (ji7))) 128) (wrap64 (7 * x8_1))))) > 1000000000 then (some (0,0,false)) else (some (wrap64 (x7_1+(shl .i64 (Int.tmod (wrap64 (rd l0 (ji7))) 128) (wrap64 (7 * x8_1)))),wrap64 ((ji7)+1),true))))) else (none)) else (none)) else (none))=some (r1,r2,r3):=by first|(rw [hji7] at H;exact H)|(simp only [hji7] at H ⊢;exact H)
      have hji7w:(IntKind.i64.wrap (a1+x8_1))=ji7:=(i64_w _).trans hji7
      by_cases c8:0≤(ji7)
      ·rw [if_pos c8] at H
       have c8b0:decide (0≤(ji7))=true:=decide_eq_true c8
       clear c8
       by_cases c9:(ji7) < (l0.length:Int)
       ·rw [if_pos c9] at H
        have c9b0:decide ((ji7) < (l0.length:Int))=true:=decide_eq_true c9
        clear c9
        obtain ⟨ji10,hji10⟩ : ∃ j_:Int,(wrap64 (7 * x8_1))=j_:=⟨_,rfl⟩
        replace H:(if 0≤(ji10) then (if (wrap64 (rd l0 (ji7))) ≥ 128 then (impl_GetNum.l0 kj2 l0 a1 (wrap64 (x7_1+(shl .i64 (Int.tmod (wrap64 (rd l0 (ji7))) 128) (ji10)))) (wrap64 (x8_1+1))) else (if (wrap64 (rd l0 (ji7)))=0 then (if x8_1 > 0 then (some (0,0,false)) else (if (wrap64 (x7_1+(shl .i64 (Int.tmod (wrap64 (rd l0 (ji7))) 128) (ji10)))) > 1000000000 then (some (0,0,false)) else (some (wrap64 (x7_1+(shl .i64 (Int.tmod (wrap64 (rd l0 (ji7))) 128) (ji10))),wrap64 ((ji7)+1),true)))) else (if (wrap64 (x7_1+(shl .i64 (Int.tmod (wrap64 (rd l0 (ji7))) 128) (ji10)))) > 1000000000 then (some (0,0,false)) else (some (wrap64 (x7_1+(shl .i64 (Int.tmod (wrap64 (rd l0 (ji7))) 128) (ji10))),wrap64 ((ji7)+1),true))))) else (none))=some (r1,r2,r3):=by first|(rw [hji10] at H;exact H)|(simp only [hji10] at H ⊢;exact H)
        have hji10w:(IntKind.i64.wrap (7 * x8_1))=ji10:=(i64_w _).trans hji10
        by_cases c11:0≤(ji10)
        ·rw [if_pos c11] at H
         have c11b0:=eq_true c11
         have c11b1:decide (0≤(ji10))=true:=decide_eq_true c11
         clear c11
         obtain ⟨ji12,hji12⟩ : ∃ j_:Int,(shl .i64 (Int.tmod (wrap64 (rd l0 (ji7))) 128) (ji10))=j_:=⟨_,rfl⟩
         replace H:(if (wrap64 (rd l0 (ji7))) ≥ 128 then (impl_GetNum.l0 kj2 l0 a1 (wrap64 (x7_1+(ji12))) (wrap64 (x8_1+1))) else (if (wrap64 (rd l0 (ji7)))=0 then (if x8_1 > 0 then (some (0,0,false)) else (if (wrap64 (x7_1+(ji12))) > 1000000000 then (some (0,0,false)) else (some (wrap64 (x7_1+(ji12)),wrap64 ((ji7)+1),true)))) else (if (wrap64 (x7_1+(ji12))) > 1000000000 then (some (0,0,false)) else (some (wrap64 (x7_1+(ji12)),wrap64 ((ji7)+1),true)))))=some (r1,r2,r3):=by first|(rw [hji12] at H;exact H)|(simp only [hji12] at H ⊢;exact H)
         have hji12_:(IntKind.i64.wrap ((Int.tmod (wrap64 (rd l0 (ji7))) 128) * 2 ^ min (ji10).toNat 64))=ji12:=hji12
         have hji12z:(ji10)≤64→(IntKind.i64.wrap ((Int.tmod (wrap64 (rd l0 (ji7))) 128) * 2 ^ (ji10).toNat))=ji12:=shl_small hji12
         have hji12y:(wrap64 ((Int.tmod (wrap64 (rd l0 (ji7))) 128) * 2 ^ min (ji10).toNat 64))=ji12:=(i64_w _).symm.trans hji12_
         have hji12x:(ji10)≤64→(wrap64 ((Int.tmod (wrap64 (rd l0 (ji7))) 128) * 2 ^ (ji10).toNat))=ji12:=fun h_=>(i64_w _).symm.trans (hji12z h_)
         by_cases c13:(wrap64 (rd l0 (ji7))) ≥ 128
         ·rw [if_pos c13] at H
          have c13b0:decide (128≤(wrap64 (rd l0 (ji7))))=true:=decide_eq_true c13
          clear c13
          have H':=Aside0.mk H
          clear H
          have p265:0≤((ji7):Int):=of_decide_eq_true (by first|(with_reducible assumption)|assumption)
          have q265:(ji7) < (l0.length:Int):=of_decide_eq_true (by first|(with_reducible assumption)|assumption)
          obtain ⟨ad265,e265,hx265_0⟩:=Kd.at_int HR0.out (ji7) p265 q265
          cases e265
          replace p265:=eq_true p265
          replace q265:=eq_true q265
          go_wp2
          go_roundg kj2
          case measure=>have:=HK1.out;have:=HJ2.out;omega
          case rel=>exact ⟨(wrap64 (x7_1+(ji12))),(wrap64 (x8_1+1)),(by first|rfl|(simp;done)|(simp only [← hji12] <;> (first|rfl|simp))|(simp [*];done)),rd_,H',⟨by have:=HK1.out;have:=HJ2.out;omega⟩,by repeat (first|exact Drawn0.refl _|apply Drawn0.step)⟩
         ·rw [if_neg c13] at H
          have c13b0:decide (128≤(wrap64 (rd l0 (ji7))))=false:=decide_eq_false c13
          clear c13
          by_cases c14:(wrap64 (rd l0 (ji7)))=0
          ·rw [if_pos c14] at H
           have c14b0:((wrap64 (rd l0 (ji7))) == 0)=true:=beq_iff_eq.mpr c14
           have c14b1:((wrap64 (rd l0 (ji7))) != 0)=false:=bne_eq_false_iff_eq.mpr c14
           clear c14
           by_cases c15:x8_1 > 0
           ·rw [if_pos c15] at H
            have c15b0:decide (0 < x8_1)=true:=decide_eq_true c15
            clear c15
            simp only [Option.some.injEq,Prod.mk.injEq] at H
            obtain ⟨rfl,rfl,rfl⟩:=H
            have p265:0≤((ji7):Int):=of_decide_eq_true (by first|(with_reducible assumption)|assumption)
            have q265:(ji7) < (l0.length:Int):=of_decide_eq_true (by first|(with_reducible assumption)|assumption)
            obtain ⟨ad265,e265,hx265_0⟩:=Kd.at_int HR0.out (ji7) p265 q265
            cases e265
            replace p265:=eq_true p265
            replace q265:=eq_true q265
            go_wp2
            go_ret3
            exact ⟨by first|rfl|(simp;done)|(simp only [← hji7,← hji10,← hji12] <;> (first|rfl|simp))|(simp [*];done),by repeat (first|exact Drawn0.refl _|apply Drawn0.step)⟩
           ·rw [if_neg c15] at H
            have c15b0:decide (0 < x8_1)=false:=decide_eq_false c15
            clear c15
            by_cases c16:(wrap64 (x7_1+(ji12))) > 1000000000
            ·rw [if_pos c16] at H
             have c16b0:decide (1000000000 < (wrap64 (x7_1+(ji12))))=true:=decide_eq_true c16
             clear c16
             simp only [Option.some.injEq,Prod.mk.injEq] at H
             obtain ⟨rfl,rfl,rfl⟩:=H
             have p265:0≤((ji7):Int):=of_decide_eq_true (by first|(with_reducible assumption)|assumption)
             have q265:(ji7) < (l0.length:Int):=of_decide_eq_true (by first|(with_reducible assumption)|assumption)
             obtain ⟨ad265,e265,hx265_0⟩:=Kd.at_int HR0.out (ji7) p265 q265
             cases e265
             replace p265:=eq_true p265
             replace q265:=eq_true q265
             go_wp2
             go_ret3
             exact ⟨by first|rfl|(simp;done)|(simp only [← hji7,← hji10,← hji12] <;> (first|rfl|simp))|(simp [*];done),by repeat (first|exact Drawn0.refl _|apply Drawn0.step)⟩
            ·rw [if_neg c16] at H
             have c16b0:decide (1000000000 < (wrap64 (x7_1+(ji12))))=false:=decide_eq_false c16
             clear c16
             simp only [Option.some.injEq,Prod.mk.injEq] at H
             obtain ⟨rfl,rfl,rfl⟩:=H
             have p265:0≤((ji7):Int):=of_decide_eq_true (by first|(with_reducible assumption)|assumption)
             have q265:(ji7) < (l0.length:Int):=of_decide_eq_true (by first|(with_reducible assumption)|assumption)
             obtain ⟨ad265,e265,hx265_0⟩:=Kd.at_int HR0.out (ji7) p265 q265
             cases e265
             replace p265:=eq_true p265
             replace q265:=eq_true q265
             go_wp2
             go_ret3
             exact ⟨by first|rfl|(simp;done)|(simp only [← hji7,← hji10,← hji12] <;> (first|rfl|simp))|(simp [*];done),by repeat (first|exact Drawn0.refl _|apply Drawn0.step)⟩
          ·rw [if_neg c14] at H
           have c14b0:((wrap64 (rd l0 (ji7))) == 0)=false:=beq_eq_false_iff_ne.mpr c14
           have c14b1:((wrap64 (rd l0 (ji7))) != 0)=true:=bne_iff_ne.mpr c14
           by_cases c17:(wrap64 (x7_1+(ji12))) > 1000000000
           ·rw [if_pos c17] at H
            have c17b0:decide (1000000000 < (wrap64 (x7_1+(ji12))))=true:=decide_eq_true c17
            clear c17
            simp only [Option.some.injEq,Prod.mk.injEq] at H
            obtain ⟨rfl,rfl,rfl⟩:=H
            have p265:0≤((ji7):Int):=of_decide_eq_true (by first|(with_reducible assumption)|assumption)
            have q265:(ji7) < (l0.length:Int):=of_decide_eq_true (by first|(with_reducible assumption)|assumption)
            obtain ⟨ad265,e265,hx265_0⟩:=Kd.at_int HR0.out (ji7) p265 q265
            cases e265
            replace p265:=eq_true p265
            replace q265:=eq_true q265
            go_wp2
            go_ret3
            exact ⟨by first|rfl|(simp;done)|(simp only [← hji7,← hji10,← hji12] <;> (first|rfl|simp))|(simp [*];done),by repeat (first|exact Drawn0.refl _|apply Drawn0.step)⟩
           ·rw [if_neg c17] at H
            have c17b0:decide (1000000000 < (wrap64 (x7_1+(ji12))))=false:=decide_eq_false c17
            clear c17
            simp only [Option.some.injEq,Prod.mk.injEq] at H
            obtain ⟨rfl,rfl,rfl⟩:=H
            have p265:0≤((ji7):Int):=of_decide_eq_true (by first|(with_reducible assumption)|assumption)
            have q265:(ji7) < (l0.length:Int):=of_decide_eq_true (by first|(with_reducible assumption)|assumption)
            obtain ⟨ad265,e265,hx265_0⟩:=Kd.at_int HR0.out (ji7) p265 q265
            cases e265
            replace p265:=eq_true p265
            replace q265:=eq_true q265
            go_wp2
            go_ret3
            exact ⟨by first|rfl|(simp;done)|(simp only [← hji7,← hji10,← hji12] <;> (first|rfl|simp))|(simp [*];done),by repeat (first|exact Drawn0.refl _|apply Drawn0.step)⟩
        ·rw [if_neg c11] at H
         exact absurd H (by simp)
       ·rw [if_neg c9] at H
        exact absurd H (by simp)
      ·rw [if_neg c8] at H
       exact absurd H (by simp)
     ·replace c6:=Bool.eq_false_iff.mpr c6
      subst c6
      replace H:=(if_neg (show ¬ (false=true) by decide)).symm.trans H
      simp only [Option.some.injEq,Prod.mk.injEq] at H
      obtain ⟨rfl,rfl,rfl⟩:=H
      go_wp2
      go_ret3
      exact ⟨by first|rfl|(simp;done)|(simp [*];done),by repeat (first|exact Drawn0.refl _|apply Drawn0.step)⟩
def IsS130 (w0 W:World) (g:Nat) (f0:List Int) (f1:Int) (f2:Bool):Prop:=∃ A0 c0,W.heap[g]?=some (.cells #[.slice A0 f0.length c0,.int .i64 f1,.bool f2] 130 (0,0))∧w0.heap.size≤g∧(Kd.C (Kd.int .u8) w0 A0 f0.length f0∧f0.length≤c0)
theorem IsS130.grown {w0 W:World} {g:Nat} {f0:List Int} {f1:Int} {f2:Bool} {W1:World} {row:Option Nat} (h:IsS130 w0 W g f0 f1 f2) (hw:W.grownBy W1 row) (hne:some g ≠ row):IsS130 w0 W1 g f0 f1 f2:=by
 obtain ⟨A0,c0,hb,hg,hr0⟩:=h
 exact ⟨A0,c0,blk_grown hb hw hne,hg,hr0⟩
theorem IsS130.kept {w0 W:World} {g:Nat} {f0:List Int} {f1:Int} {f2:Bool} {W1:World} {S:Nat→Prop} (h:IsS130 w0 W g f0 f1 f2) (hk:Kept W W1 S) (hne : ¬ S g):IsS130 w0 W1 g f0 f1 f2:=by
 obtain ⟨A0,c0,hb,hg,hr0⟩:=h
 exact ⟨A0,c0,blk_kept hb hk hne,hg,hr0⟩
theorem IsS130.below {w0 W:World} {g:Nat} {f0:List Int} {f1:Int} {f2:Bool} {W1:World} (h:IsS130 w0 W g f0 f1 f2) (hw:Below W.heap.size W W1):IsS130 w0 W1 g f0 f1 f2:=h.grown (grown_of_below hw none) (by simp)
theorem IsS130.alloc {w0 W:World} {g:Nat} {f0:List Int} {f1:Int} {f2:Bool} (h:IsS130 w0 W g f0 f1 f2) (o:Obj):IsS130 w0 (W.alloc o) g f0 f1 f2:=h.below (below_alloc (Below.refl _ _) o)
theorem IsS130.drewN {w0 W:World} {g:Nat} {f0:List Int} {f1:Int} {f2:Bool} (h:IsS130 w0 W g f0 f1 f2) (m:Nat):IsS130 w0 (W.drewN m) g f0 f1 f2:=h
theorem IsS130.drew {w0 W:World} {g:Nat} {f0:List Int} {f1:Int} {f2:Bool} (h:IsS130 w0 W g f0 f1 f2):IsS130 w0 W.drew g f0 f1 f2:=h
theorem IsS130.apart {w0 W:World} {g:Nat} {f0:List Int} {f1:Int} {f2:Bool} {α:Type} {d:Kd α} {e:Nat} {base:Nat} {ok:Nat→Prop} {v:Value} {xs:List α} (h:IsS130 w0 W g f0 f1 f2) (ho:d.R e W base ok v xs) (ht : ∀ q,q∈e :: d.E→q ≠ 130):d.R e W base (fun k=>ok k∧k ≠ g) v xs:=by
 obtain ⟨A0,c0,hb,hg,hr0⟩:=h
 exact Kd.R_types ho hb ht
theorem IsS130.lt {w0 W:World} {g:Nat} {f0:List Int} {f1:Int} {f2:Bool} (h:IsS130 w0 W g f0 f1 f2):g < W.heap.size:=by
 obtain ⟨A0,c0,hb,hg,hr0⟩:=h
 exact blk_lt hb
theorem IsS130.ge {w0 W:World} {g:Nat} {f0:List Int} {f1:Int} {f2:Bool} (h:IsS130 w0 W g f0 f1 f2):w0.heap.size≤g:=by
 obtain ⟨A0,c0,hb,hg,hr0⟩:=h
 exact hg
theorem IsS130.far {w0 W:World} {g:Nat} {f0:List Int} {f1:Int} {f2:Bool} {p:Addr} (h:IsS130 w0 W g f0 f1 f2) (hne:g ≠ p.block) (u:Value):IsS130 w0 (W.setCell p u) g f0 f1 f2:=by
 obtain ⟨A0,c0,hb,hg,hr0⟩:=h
 exact ⟨A0,c0,blk_far hb hne u,hg,hr0⟩
theorem cellS130_0 {W:World} {g:Nat} {A0:Option Addr} {c0:Nat} {f0:List Int} {f1:Int} {f2:Bool} (h:W.heap[g]?=some (.cells #[.slice A0 f0.length c0,.int .i64 f1,.bool f2] 130 (0,0))):W.cell? ⟨g,0,none⟩=some (.slice A0 f0.length c0):=(blk_cell h 0).trans rfl
theorem cellS130_1 {W:World} {g:Nat} {A0:Option Addr} {c0:Nat} {f0:List Int} {f1:Int} {f2:Bool} (h:W.heap[g]?=some (.cells #[.slice A0 f0.length c0,.int .i64 f1,.bool f2] 130 (0,0))):W.cell? ⟨g,1,none⟩=some (.int .i64 f1):=(blk_cell h 1).trans rfl
theorem IsS130.set_1 {w0 W:World} {g:Nat} {f0:List Int} {f1:Int} {f2:Bool} (h:IsS130 w0 W g f0 f1 f2) (x:Int):IsS130 w0 (W.setCell ⟨g,1,none⟩ (.int .i64 x)) g f0 x f2:=by
 obtain ⟨A0,c0,hb,hg,hr0⟩:=h
 exact ⟨A0,c0,by simpa using blk_set hb 1 (.int .i64 x),hg,hr0⟩
theorem cellS130_2 {W:World} {g:Nat} {A0:Option Addr} {c0:Nat} {f0:List Int} {f1:Int} {f2:Bool} (h:W.heap[g]?=some (.cells #[.slice A0 f0.length c0,.int .i64 f1,.bool f2] 130 (0,0))):W.cell? ⟨g,2,none⟩=some (.bool f2):=(blk_cell h 2).trans rfl
theorem IsS130.set_2 {w0 W:World} {g:Nat} {f0:List Int} {f1:Int} {f2:Bool} (h:IsS130 w0 W g f0 f1 f2) (x:Bool):IsS130 w0 (W.setCell ⟨g,2,none⟩ (.bool x)) g f0 f1 x:=by
 obtain ⟨A0,c0,hb,hg,hr0⟩:=h
 exact ⟨A0,c0,by simpa using blk_set hb 2 (.bool x),hg,hr0⟩
def impl_reader_num.f (k:Nat) (s0_0:List Int) (s0_1:Int) (s0_2:Bool):Option (Int × Int × Bool):=(impl_GetNum.f k s0_0 s0_1).bind fun bt266=>(if s0_2=true then (some (0,s0_1,true)) else (if bt266.2.2=true then (some (bt266.1,bt266.2.1,s0_2)) else (some (0,s0_1,true))))
set_option maxHeartbeats 8000000 in
set_option maxRecDepth 100000 in
theorem impl_reader_num.calls (k:Nat) (g:Nat) (s0_0:List Int) (s0_1:Int) (s0_2:Bool) (r1:Int) (r2:Int) (r3:Bool) (w0 w:World) (hI:IsS130 w0 w g s0_0 s0_1 s0_2) (hB:Below w0.heap.size w0 w) (h:impl_reader_num.f k s0_0 s0_1 s0_2=some (r1,r2,r3)) :
  Calls Try.prog 127 #[.pointer (some ⟨g,0,none⟩)] w fun e w'=>e = .returned (.int .i64 r1)∧IsS130 w0 w' g s0_0 r2 r3∧Below w0.heap.size w0 w' ∧ KeepBut w w' g none:=by
 have HI0:=Aside0.mk hI
 have HK:=Aside0.mk (KeepBut.refl w g none)
 have HL:=Aside0.mk hB.size
 clear hI
 have HW0:=Aside0.mk hB.size
 have HB:=Aside0.mk hB
 clear hB
 have H:((impl_GetNum.f k s0_0 s0_1).bind fun bt266=>(if s0_2=true then (some (0,s0_1,true)) else (if bt266.2.2=true then (some (bt266.1,bt266.2.1,s0_2)) else (some (0,s0_1,true)))))=some (r1,r2,r3):=h
 clear h
 replace H:=Option.bind_eq_some_iff.mp H
 obtain ⟨⟨t266,t267,t268⟩,A20,H⟩:=H
 try dsimp only at H
 have A2:=Aside0.mk A20
 clear A20
 by_cases c3:s0_2=true
 ·subst c3
  rw [if_pos rfl] at H
  simp only [Option.some.injEq,Prod.mk.injEq] at H
  obtain ⟨rfl,rfl,rfl⟩:=H
  obtain ⟨ASz4_0,cSz4_0,HGz4,hgz4,HSz4_0⟩:=HI0.out
  have hcz4_0:=cellS130_0 HGz4
  have hcz4_1:=cellS130_1 HGz4
  have hcz4_2:=cellS130_2 HGz4
  have hfz4_1:=blk_frozen HGz4 1
  have hfz4_2:=blk_frozen HGz4 2
  clear HGz4 hgz4
  go_enter Try.func127,Try.ntmps127
  go_wp2_with (first|(go_at_call 135;(with_reducible refine (impl_GetNum.calls k _ _ s0_0 s0_1 t266 t267 t268 _ ?side1 ?side2 A2.out).mono ?_);(case side1=>exact Kd.C_below HSz4_0.1 (by repeat (first|(with_reducible first|exact HB.out|apply below_alloc|apply pw_below_drewN|apply below_drew1|refine below_set ?_ (IsS130.ge HI0.out))|exact HB.out)));(case side2=>exact HSz4_0.2);rintro e w' ⟨rfl,⟨nd,rfl⟩⟩;(try first|exact ⟨rfl,_,World.drewN_drewN _ _ _⟩|exact ⟨rfl,_,Eq.trans (World.drewN_drewN _ _ _) (congrArg (World.drewN _) (Nat.add_assoc _ _ _))⟩)))
  repeat (go_quiet (first|(go_at_call 135;(with_reducible refine (impl_GetNum.calls k _ _ s0_0 s0_1 t266 t267 t268 _ ?side1 ?side2 A2.out).mono ?_);(case side1=>exact Kd.C_below HSz4_0.1 (by repeat (first|(with_reducible first|exact HB.out|apply below_alloc|apply pw_below_drewN|apply below_drew1|refine below_set ?_ (IsS130.ge HI0.out))|exact HB.out)));(case side2=>exact HSz4_0.2);rintro e w' ⟨rfl,⟨nd,rfl⟩⟩;(try first|exact ⟨rfl,_,World.drewN_drewN _ _ _⟩|exact ⟨rfl,_,Eq.trans (World.drewN_drewN _ _ _) (congrArg (World.drewN _) (Nat.add_assoc _ _ _))⟩)));try go_wp2_with (first|(go_at_call 135;(with_reducible refine (impl_GetNum.calls k _ _ s0_0 s0_1 t266 t267 t268 _ ?side1 ?side2 A2.out).mono ?_);(case side1=>exact Kd.C_below HSz4_0.1 (by repeat (first|(with_reducible first|exact HB.out|apply below_alloc|apply pw_below_drewN|apply below_drew1|refine below_set ?_ (IsS130.ge HI0.out))|exact HB.out)));(case side2=>exact HSz4_0.2);rintro e w' ⟨rfl,⟨nd,rfl⟩⟩;(try first|exact ⟨rfl,_,World.drewN_drewN _ _ _⟩|exact ⟨rfl,_,Eq.trans (World.drewN_drewN _ _ _) (congrArg (World.drewN _) (Nat.add_assoc _ _ _))⟩))))
  go_ret
  exact ⟨rz,by repeat (first|(with_reducible first|exact HI0.out|apply IsS130.alloc|apply IsS130.drewN|apply IsS130.drew|apply IsS130.set_1|apply IsS130.set_2)|exact HI0.out),by repeat (first|(with_reducible first|exact HB.out|apply below_alloc|apply pw_below_drewN|apply below_drew1|refine below_set ?_ (IsS130.ge HI0.out))|exact HB.out),by repeat (first|(with_reducible first|exact HK.out|apply KeepBut.set_|apply keep_drewN|apply keep_drew|apply keep_alloc)|exact HK.out)⟩
 ·replace c3:=Bool.eq_false_iff.mpr c3
  subst c3
  replace H:=(if_neg (show ¬ (false=true) by decide)).symm.trans H
  by_cases c5:t268=true
  ·subst c5
   rw [if_pos rfl] at H
   simp only [Option.some.injEq,Prod.mk.injEq] at H
   obtain ⟨rfl,rfl,rfl⟩:=H
   obtain ⟨ASz6_0,cSz6_0,HGz6,hgz6,HSz6_0⟩:=HI0.out
   have hcz6_0:=cellS130_0 HGz6
   have hcz6_1:=cellS130_1 HGz6
   have hcz6_2:=cellS130_2 HGz6
   have hfz6_1:=blk_frozen HGz6 1
   have hfz6_2:=blk_frozen HGz6 2
   clear HGz6 hgz6
   go_enter Try.func127,Try.ntmps127
   go_wp2_with (first|(go_at_call 135;(with_reducible refine (impl_GetNum.calls k _ _ s0_0 s0_1 t266 t267 true _ ?side1 ?side2 A2.out).mono ?_);(case side1=>exact Kd.C_below HSz6_0.1 (by repeat (first|(with_reducible first|exact HB.out|apply below_alloc|apply pw_below_drewN|apply below_drew1|refine below_set ?_ (IsS130.ge HI0.out))|exact HB.out)));(case side2=>exact HSz6_0.2);rintro e w' ⟨rfl,⟨nd,rfl⟩⟩;(try first|exact ⟨rfl,_,World.drewN_drewN _ _ _⟩|exact ⟨rfl,_,Eq.trans (World.drewN_drewN _ _ _) (congrArg (World.drewN _) (Nat.add_assoc _ _ _))⟩)))
   repeat (go_quiet (first|(go_at_call 135;(with_reducible refine (impl_GetNum.calls k _ _ s0_0 s0_1 t266 t267 true _ ?side1 ?side2 A2.out).mono ?_);(case side1=>exact Kd.C_below HSz6_0.1 (by repeat (first|(with_reducible first|exact HB.out|apply below_alloc|apply pw_below_drewN|apply below_drew1|refine below_set ?_ (IsS130.ge HI0.out))|exact HB.out)));(case side2=>exact HSz6_0.2);rintro e w' ⟨rfl,⟨nd,rfl⟩⟩;(try first|exact ⟨rfl,_,World.drewN_drewN _ _ _⟩|exact ⟨rfl,_,Eq.trans (World.drewN_drewN _ _ _) (congrArg (World.drewN _) (Nat.add_assoc _ _ _))⟩)));try go_wp2_with (first|(go_at_call 135;(with_reducible refine (impl_GetNum.calls k _ _ s0_0 s0_1 t266 t267 true _ ?side1 ?side2 A2.out).mono ?_);(case side1=>exact Kd.C_below HSz6_0.1 (by repeat (first|(with_reducible first|exact HB.out|apply below_alloc|apply pw_below_drewN|apply below_drew1|refine below_set ?_ (IsS130.ge HI0.out))|exact HB.out)));(case side2=>exact HSz6_0.2);rintro e w' ⟨rfl,⟨nd,rfl⟩⟩;(try first|exact ⟨rfl,_,World.drewN_drewN _ _ _⟩|exact ⟨rfl,_,Eq.trans (World.drewN_drewN _ _ _) (congrArg (World.drewN _) (Nat.add_assoc _ _ _))⟩))))
   go_ret
   exact ⟨rz,by repeat (first|(with_reducible first|exact HI0.out|apply IsS130.alloc|apply IsS130.drewN|apply IsS130.drew|apply IsS130.set_1|apply IsS130.set_2)|exact HI0.out),by repeat (first|(with_reducible first|exact HB.out|apply below_alloc|apply pw_below_drewN|apply below_drew1|refine below_set ?_ (IsS130.ge HI0.out))|exact HB.out),by repeat (first|(with_reducible first|exact HK.out|apply KeepBut.set_|apply keep_drewN|apply keep_drew|apply keep_alloc)|exact HK.out)⟩
  ·replace c5:=Bool.eq_false_iff.mpr c5
   subst c5
   replace H:=(if_neg (show ¬ (false=true) by decide)).symm.trans H
   simp only [Option.some.injEq,Prod.mk.injEq] at H
   obtain ⟨rfl,rfl,rfl⟩:=H
   obtain ⟨ASz7_0,cSz7_0,HGz7,hgz7,HSz7_0⟩:=HI0.out
   have hcz7_0:=cellS130_0 HGz7
   have hcz7_1:=cellS130_1 HGz7
   have hcz7_2:=cellS130_2 HGz7
   have hfz7_1:=blk_frozen HGz7 1
   have hfz7_2:=blk_frozen HGz7 2
   clear HGz7 hgz7
   go_enter Try.func127,Try.ntmps127
   go_wp2_with (first|(go_at_call 135;(with_reducible refine (impl_GetNum.calls k _ _ s0_0 s0_1 t266 t267 false _ ?side1 ?side2 A2.out).mono ?_);(case side1=>exact Kd.C_below HSz7_0.1 (by repeat (first|(with_reducible first|exact HB.out|apply below_alloc|apply pw_below_drewN|apply below_drew1|refine below_set ?_ (IsS130.ge HI0.out))|exact HB.out)));(case side2=>exact HSz7_0.2);rintro e w' ⟨rfl,⟨nd,rfl⟩⟩;(try first|exact ⟨rfl,_,World.drewN_drewN _ _ _⟩|exact ⟨rfl,_,Eq.trans (World.drewN_drewN _ _ _) (congrArg (World.drewN _) (Nat.add_assoc _ _ _))⟩)))
   repeat (go_quiet (first|(go_at_call 135;(with_reducible refine (impl_GetNum.calls k _ _ s0_0 s0_1 t266 t267 false _ ?side1 ?side2 A2.out).mono ?_);(case side1=>exact Kd.C_below HSz7_0.1 (by repeat (first|(with_reducible first|exact HB.out|apply below_alloc|apply pw_below_drewN|apply below_drew1|refine below_set ?_ (IsS130.ge HI0.out))|exact HB.out)));(case side2=>exact HSz7_0.2);rintro e w' ⟨rfl,⟨nd,rfl⟩⟩;(try first|exact ⟨rfl,_,World.drewN_drewN _ _ _⟩|exact ⟨rfl,_,Eq.trans (World.drewN_drewN _ _ _) (congrArg (World.drewN _) (Nat.add_assoc _ _ _))⟩)));try go_wp2_with (first|(go_at_call 135;(with_reducible refine (impl_GetNum.calls k _ _ s0_0 s0_1 t266 t267 false _ ?side1 ?side2 A2.out).mono ?_);(case side1=>exact Kd.C_below HSz7_0.1 (by repeat (first|(with_reducible first|exact HB.out|apply below_alloc|apply pw_below_drewN|apply below_drew1|refine below_set ?_ (IsS130.ge HI0.out))|exact HB.out)));(case side2=>exact HSz7_0.2);rintro e w' ⟨rfl,⟨nd,rfl⟩⟩;(try first|exact ⟨rfl,_,World.drewN_drewN _ _ _⟩|exact ⟨rfl,_,Eq.trans (World.drewN_drewN _ _ _) (congrArg (World.drewN _) (Nat.add_assoc _ _ _))⟩))))
   go_ret
   exact ⟨rz,by repeat (first|(with_reducible first|exact HI0.out|apply IsS130.alloc|apply IsS130.drewN|apply IsS130.drew|apply IsS130.set_1|apply IsS130.set_2)|exact HI0.out),by repeat (first|(with_reducible first|exact HB.out|apply below_alloc|apply pw_below_drewN|apply below_drew1|refine below_set ?_ (IsS130.ge HI0.out))|exact HB.out),by repeat (first|(with_reducible first|exact HK.out|apply KeepBut.set_|apply keep_drewN|apply keep_drew|apply keep_alloc)|exact HK.out)⟩
def impl_reader_stamp.f (k:Nat) (s0_0:List Int) (s0_1:Int) (s0_2:Bool):Option (Int × Int × Int × Bool × Int × Bool):=(impl_reader_num.f k s0_0 s0_1 s0_2).bind fun bt271=>((impl_reader_num.f k s0_0 bt271.2.1 bt271.2.2).bind fun bt274=>((impl_reader_num.f k s0_0 bt274.2.1 bt274.2.2).bind fun bt277=>((impl_reader_num.f k s0_0 bt277.2.1 bt277.2.2).bind fun bt280=>(if bt280.2.2=true then (some (bt271.1,bt274.1,bt277.1,(bt280.1 == 1),bt280.2.1,true)) else (some (bt271.1,bt274.1,bt277.1,(bt280.1 == 1),bt280.2.1,decide (bt280.1 > 1)))))))
set_option maxHeartbeats 8000000 in
set_option maxRecDepth 100000 in
theorem impl_reader_stamp.calls (k:Nat) (g:Nat) (s0_0:List Int) (s0_1:Int) (s0_2:Bool) (r1:Int) (r2:Int) (r3:Int) (r4:Bool) (r5:Int) (r6:Bool) (w0 w:World) (hI:IsS130 w0 w g s0_0 s0_1 s0_2) (hB:Below w0.heap.size w0 w) (h:impl_reader_stamp.f k s0_0 s0_1 s0_2=some (r1,r2,r3,r4,r5,r6)) :
  Calls Try.prog 110 #[.pointer (some ⟨g,0,none⟩)] w fun e w'=>e = .returned (.tuple #[.agg #[.int .i64 r1,.int .i64 r2,.int .i64 r3],.bool r4])∧IsS130 w0 w' g s0_0 r5 r6∧Below w0.heap.size w0 w' ∧ KeepBut w w' g none:=by
 have hu59:=Try.underlying59
 have HI0:=Aside0.mk hI
 have HK:=Aside0.mk (KeepBut.refl w g none)
 have HL:=Aside0.mk hB.size
 clear hI
 have HW0:=Aside0.mk hB.size
 have HB:=Aside0.mk hB
 clear hB
 have H:((impl_reader_num.f k s0_0 s0_1 s0_2).bind fun bt271=>((impl_reader_num.f k s0_0 bt271.2.1 bt271.2.2).bind fun bt274=>((impl_reader_num.f k s0_0 bt274.2.1 bt274.2.2).bind fun bt277=>((impl_reader_num.f k s0_0 bt277.2.1 bt277.2.2).bind fun bt280=>(if bt280.2.2=true then (some (bt271.1,bt274.1,bt277.1,(bt280.1 == 1),bt280.2.1,true)) else (some (bt271.1,bt274.1,bt277.1,(bt280.1 == 1),bt280.2.1,decide (bt280.1 > 1))))))))=some (r1,r2,r3,r4,r5,r6):=h
 clear h
 replace H:=Option.bind_eq_some_iff.mp H
 obtain ⟨⟨t271,t272,t273⟩,A20,H⟩:=H
 try dsimp only at H
 have A2:=Aside0.mk A20
 clear A20
 replace H:=Option.bind_eq_some_iff.mp H
 obtain ⟨⟨t274,t275,t276⟩,A30,H⟩:=H
 try dsimp only at H
 have A3:=Aside0.mk A30
 clear A30
 replace H:=Option.bind_eq_some_iff.mp H
 obtain ⟨⟨t277,t278,t279⟩,A40,H⟩:=H
 try dsimp only at H
 have A4:=Aside0.mk A40
 clear A40
 replace H:=Option.bind_eq_some_iff.mp H
 obtain ⟨⟨t280,t281,t282⟩,A50,H⟩:=H
 try dsimp only at H
 have A5:=Aside0.mk A50
 clear A50
 by_cases c6:t282=true
 ·subst c6
  rw [if_pos rfl] at H
  simp only [Option.some.injEq,Prod.mk.injEq] at H
  obtain ⟨rfl,rfl,rfl,rfl,rfl,rfl⟩:=H
  go_enter Try.func110,Try.ntmps110
  go_wp2_with (first|((with_reducible refine gate_dst (N:=2) rfl ?_);refine box_event ?hg (N:=2) ?hd (cs:=#[.int .i64 0,.int .i64 0,.int .i64 0]) (t:=59) ?hr ?_;(case hd=>rfl);(case hg=>rfl);(case hr=>first|(go_simp;done)|(go_simp;rfl));intro gb269 hg w7 hbox hb;have n0_:=Aside0.mk (IsS130.below (by repeat (first|(with_reducible first|exact HI0.out|apply IsS130.alloc|apply IsS130.drewN|apply IsS130.drew|apply IsS130.set_1|apply IsS130.set_2)|exact HI0.out)) hb);have n1_:=Aside0.mk (KeepBut.trans (by repeat (first|(with_reducible first|exact HK.out|apply KeepBut.set_|apply keep_drewN|apply keep_drew|apply keep_alloc)|exact HK.out)) (KeepBut.of_below hb g none) (.inl rfl));have n2_:=Aside0.mk (below_step (by repeat (first|(with_reducible first|exact HB.out|apply below_alloc|apply pw_below_drewN|apply below_drew1|refine below_set ?_ (IsS130.ge HI0.out))|exact HB.out)) hb);have n3_:=Aside0.mk (hbox);have n4_:=Aside0.mk ((by rw [hg];exact (keep_size (w:=w) (g:=g) (row:=none) (by repeat (first|(with_reducible first|exact HK.out|apply KeepBut.set_|apply keep_drewN|apply keep_drew|apply keep_alloc)|exact HK.out))):w.heap.size≤gb269));have n5_:=Aside0.mk ((Nat.le_trans HW0.out (by rw [hg];exact (keep_size (w:=w) (g:=g) (row:=none) (by repeat (first|(with_reducible first|exact HK.out|apply KeepBut.set_|apply keep_drewN|apply keep_drew|apply keep_alloc)|exact HK.out))):w.heap.size≤gb269):w0.heap.size≤gb269));have n6_:=Aside0.mk ((by rw [hg];exact Nat.ne_of_lt (IsS130.lt (show IsS130 w0 _ g s0_0 s0_1 s0_2 from by repeat (first|(with_reducible first|exact HI0.out|apply IsS130.alloc|apply IsS130.drewN|apply IsS130.drew|apply IsS130.set_1|apply IsS130.set_2)|exact HI0.out))):g ≠ gb269));have n7_:=Aside0.mk ((by rw [hg];exact Nat.ne_of_gt (IsS130.lt (show IsS130 w0 _ g s0_0 s0_1 s0_2 from by repeat (first|(with_reducible first|exact HI0.out|apply IsS130.alloc|apply IsS130.drewN|apply IsS130.drew|apply IsS130.set_1|apply IsS130.set_2)|exact HI0.out))):gb269 ≠ g));clear HI0;clear HK;clear HB;have HI0:=n0_;have HK:=n1_;have HB:=n2_;have BK269:=n3_;have GW269:=n4_;have GE269:=n5_;have NB0_269:=n6_;have NB269_0:=n7_;clear n0_ n1_ n2_ n3_ n4_ n5_ n6_ n7_;clear hb hbox hg)|((with_reducible refine gate_dst (N:=4) rfl ?_);refine box_event ?hg (N:=4) ?hd (cs:=#[.int .i64 0,.int .i64 0,.int .i64 0]) (t:=59) ?hr ?_;(case hd=>rfl);(case hg=>rfl);(case hr=>first|(go_simp;done)|(go_simp;rfl));intro gb270 hg w8 hbox hb;have n0_:=Aside0.mk (IsS130.below (by repeat (first|(with_reducible first|exact HI0.out|apply IsS130.alloc|apply IsS130.drewN|apply IsS130.drew|apply IsS130.set_1|apply IsS130.set_2|refine IsS130.far ?_ NB0_269.out _)|exact HI0.out)) hb);have n1_:=Aside0.mk (blk_below (g:=gb269) (o:=.cells #[.int .i64 0,.int .i64 0,.int .i64 0] 59 (0,0)) (bk BK269) hb);have n2_:=Aside0.mk (KeepBut.trans (by repeat (first|(with_reducible first|exact HK.out|apply KeepBut.set_|apply keep_drewN|apply keep_drew|apply keep_alloc|refine keep_far ?_ GW269.out _)|exact HK.out)) (KeepBut.of_below hb g none) (.inl rfl));have n3_:=Aside0.mk (below_step (by repeat (first|(with_reducible first|exact HB.out|apply below_alloc|apply pw_below_drewN|apply below_drew1|refine below_set ?_ (IsS130.ge HI0.out)|refine below_set ?_ GE269.out)|exact HB.out)) hb);have n4_:=Aside0.mk (hbox);have n5_:=Aside0.mk ((by rw [hg];exact (keep_size (w:=w) (g:=g) (row:=none) (by repeat (first|(with_reducible first|exact HK.out|apply KeepBut.set_|apply keep_drewN|apply keep_drew|apply keep_alloc|refine keep_far ?_ GW269.out _)|exact HK.out))):w.heap.size≤gb270));have n6_:=Aside0.mk ((Nat.le_trans HW0.out (by rw [hg];exact (keep_size (w:=w) (g:=g) (row:=none) (by repeat (first|(with_reducible first|exact HK.out|apply KeepBut.set_|apply keep_drewN|apply keep_drew|apply keep_alloc|refine keep_far ?_ GW269.out _)|exact HK.out))):w.heap.size≤gb270):w0.heap.size≤gb270));have n7_:=Aside0.mk ((by rw [hg];exact Nat.ne_of_lt (blk_lt (g:=gb269) (o:=.cells #[.int .i64 0,.int .i64 0,.int .i64 0] 59 (0,0)) (bk BK269)):gb269 ≠ gb270));have n8_:=Aside0.mk ((by rw [hg];exact Nat.ne_of_gt (blk_lt (g:=gb269) (o:=.cells #[.int .i64 0,.int .i64 0,.int .i64 0] 59 (0,0)) (bk BK269)):gb270 ≠ gb269));have n9_:=Aside0.mk ((by rw [hg];exact Nat.ne_of_lt (IsS130.lt (show IsS130 w0 _ g s0_0 s0_1 s0_2 from by repeat (first|(with_reducible first|exact HI0.out|apply IsS130.alloc|apply IsS130.drewN|apply IsS130.drew|apply IsS130.set_1|apply IsS130.set_2|refine IsS130.far ?_ NB0_269.out _)|exact HI0.out))):g ≠ gb270));have n10_:=Aside0.mk ((by rw [hg];exact Nat.ne_of_gt (IsS130.lt (show IsS130 w0 _ g s0_0 s0_1 s0_2 from by repeat (first|(with_reducible first|exact HI0.out|apply IsS130.alloc|apply IsS130.drewN|apply IsS130.drew|apply IsS130.set_1|apply IsS130.set_2|refine IsS130.far ?_ NB0_269.out _)|exact HI0.out))):gb270 ≠ g));clear HI0;clear BK269;clear HK;clear HB;have HI0:=n0_;have BK269:=n1_;have HK:=n2_;have HB:=n3_;have BK270:=n4_;have GW270:=n5_;have GE270:=n6_;have NB269_270:=n7_;have NB270_269:=n8_;have NB0_270:=n9_;have NB270_0:=n10_;clear n0_ n1_ n2_ n3_ n4_ n5_ n6_ n7_ n8_ n9_ n10_;clear hb hbox hg)|((with_reducible refine gate_callee (f:=127) rfl ?_);refine goesL_ (some 7) rfl rfl Try.func127 (by kernel_rfl) rfl #[.pointer (some ⟨g,0,none⟩)] rfl (by (try simp only [List.map_toArray,List.map_cons,List.map_nil]);first|done|rfl|(simp only [List.length_drop,List.length_take];rfl)) ?_;(with_reducible refine (impl_reader_num.calls k g s0_0 s0_1 s0_2 t271 t272 t273 w0 _ ?side1 ?side2 A2.out).mono ?_);(case side1=>repeat (first|(with_reducible first|exact HI0.out|apply IsS130.alloc|apply IsS130.drewN|apply IsS130.drew|apply IsS130.set_1|apply IsS130.set_2|refine IsS130.far ?_ NB0_269.out _|refine IsS130.far ?_ NB0_270.out _)|exact HI0.out));(case side2=>repeat (first|(with_reducible first|exact HB.out|apply below_alloc|apply pw_below_drewN|apply below_drew1|refine below_set ?_ (IsS130.ge HI0.out)|refine below_set ?_ GE269.out|refine below_set ?_ GE270.out)|exact HB.out));rintro e w9 ⟨rfl,hi,hb,hk⟩;refine ⟨_,rfl,?_⟩;have n0_:=Aside0.mk (KeepBut.blk hk (g':=gb269) (o:=.cells #[.int .i64 0,.int .i64 0,.int .i64 0] 59 (0,0)) (bk BK269) NB269_0.out (by simp));have n1_:=Aside0.mk (KeepBut.blk hk (g':=gb270) (o:=.cells #[.int .i64 0,.int .i64 0,.int .i64 0] 59 (0,0)) (bk BK270) NB270_0.out (by simp));have n2_:=Aside0.mk (KeepBut.trans (by repeat (first|(with_reducible first|exact HK.out|apply KeepBut.set_|apply keep_drewN|apply keep_drew|apply keep_alloc|refine keep_far ?_ GW269.out _|refine keep_far ?_ GW270.out _)|exact HK.out)) hk (.inl rfl));have n3_:=Aside0.mk (hb);have n4_:=Aside0.mk (hi);clear BK269;clear BK270;clear HK;clear HB;clear HI0;have BK269:=n0_;have BK270:=n1_;have HK:=n2_;have HB:=n3_;have HI0:=n4_;clear n0_ n1_ n2_ n3_ n4_;(try clear hb);(try clear hb2);(try clear hk);(try clear hi);have hnb10:=NB270_269.out;have hnc10:=NB269_270.out;have hnb11:=NB270_0.out;have hnc11:=NB0_270.out;have hcz12_0:w9.cell? ⟨gb270,0,none⟩=some (.int .i64 0):=(blk_cell BK270.out 0).trans rfl;have hcz12_1:w9.cell? ⟨gb270,1,none⟩=some (.int .i64 0):=(blk_cell BK270.out 1).trans rfl;have hcz12_2:w9.cell? ⟨gb270,2,none⟩=some (.int .i64 0):=(blk_cell BK270.out 2).trans rfl;have hfz12_0:=blk_frozen BK270.out 0;have hfz12_1:=blk_frozen BK270.out 1;have hfz12_2:=blk_frozen BK270.out 2)|((with_reducible refine gate_callee (f:=127) rfl ?_);refine goesL_ (some 10) rfl rfl Try.func127 (by kernel_rfl) rfl #[.pointer (some ⟨g,0,none⟩)] rfl (by (try simp only [List.map_toArray,List.map_cons,List.map_nil]);first|done|rfl|(simp only [List.length_drop,List.length_take];rfl)) ?_;(with_reducible refine (impl_reader_num.calls k g s0_0 t272 t273 t274 t275 t276 w0 _ ?side1 ?side2 A3.out).mono ?_);(case side1=>repeat (first|(with_reducible first|exact HI0.out|apply IsS130.alloc|apply IsS130.drewN|apply IsS130.drew|apply IsS130.set_1|apply IsS130.set_2|refine IsS130.far ?_ NB0_269.out _|refine IsS130.far ?_ NB0_270.out _)|exact HI0.out));(case side2=>repeat (first|(with_reducible first|exact HB.out|apply below_alloc|apply pw_below_drewN|apply below_drew1|refine below_set ?_ (IsS130.ge HI0.out)|refine below_set ?_ GE269.out|refine below_set ?_ GE270.out)|exact HB.out));rintro e w13 ⟨rfl,hi,hb,hk⟩;refine ⟨_,rfl,?_⟩;have n0_:=Aside0.mk (KeepBut.blk hk (g':=gb269) (o:=.cells #[.int .i64 0,.int .i64 0,.int .i64 0] 59 (0,0)) (by (with_reducible repeat (first|refine blk_drewN ?_ _|refine blk_drew ?_|refine blk_alloc ?_ _));refine blk_far ?_ NB269_270.out _;(with_reducible repeat (first|refine blk_drewN ?_ _|refine blk_drew ?_|refine blk_alloc ?_ _));exact BK269.out) NB269_0.out (by simp));have n1_:=Aside0.mk (KeepBut.blk hk (g':=gb270) (o:=.cells #[.int .i64 t271,.int .i64 0,.int .i64 0] 59 (0,0)) (by (with_reducible repeat (first|refine blk_drewN ?_ _|refine blk_drew ?_|refine blk_alloc ?_ _));refine blk_put (cs:=#[.int .i64 0,.int .i64 0,.int .i64 0]) ?_ 0 _ rfl;(with_reducible repeat (first|refine blk_drewN ?_ _|refine blk_drew ?_|refine blk_alloc ?_ _));exact BK270.out) NB270_0.out (by simp));have n2_:=Aside0.mk (KeepBut.trans (by repeat (first|(with_reducible first|exact HK.out|apply KeepBut.set_|apply keep_drewN|apply keep_drew|apply keep_alloc|refine keep_far ?_ GW269.out _|refine keep_far ?_ GW270.out _)|exact HK.out)) hk (.inl rfl));have n3_:=Aside0.mk (hb);have n4_:=Aside0.mk (hi);clear BK269;clear BK270;clear HK;clear HB;clear HI0;have BK269:=n0_;have BK270:=n1_;have HK:=n2_;have HB:=n3_;have HI0:=n4_;clear n0_ n1_ n2_ n3_ n4_;(try clear hb);(try clear hb2);(try clear hk);(try clear hi);have hcz14_0:w13.cell? ⟨gb270,0,none⟩=some (.int .i64 t271):=(blk_cell BK270.out 0).trans rfl;have hcz14_1:w13.cell? ⟨gb270,1,none⟩=some (.int .i64 0):=(blk_cell BK270.out 1).trans rfl;have hcz14_2:w13.cell? ⟨gb270,2,none⟩=some (.int .i64 0):=(blk_cell BK270.out 2).trans rfl;have hfz14_0:=blk_frozen BK270.out 0;have hfz14_1:=blk_frozen BK270.out 1;have hfz14_2:=blk_frozen BK270.out 2)|((with_reducible refine gate_callee (f:=127) rfl ?_);refine goesL_ (some 13) rfl rfl Try.func127 (by kernel_rfl) rfl #[.pointer (some ⟨g,0,none⟩)] rfl (by (try simp only [List.map_toArray,List.map_cons,List.map_nil]);first|done|rfl|(simp only [List.length_drop,List.length_take];rfl)) ?_;(with_reducible refine (impl_reader_num.calls k g s0_0 t275 t276 t277 t278 t279 w0 _ ?side1 ?side2 A4.out).mono ?_);(case side1=>repeat (first|(with_reducible first|exact HI0.out|apply IsS130.alloc|apply IsS130.drewN|apply IsS130.drew|apply IsS130.set_1|apply IsS130.set_2|refine IsS130.far ?_ NB0_269.out _|refine IsS130.far ?_ NB0_270.out _)|exact HI0.out));(case side2=>repeat (first|(with_reducible first|exact HB.out|apply below_alloc|apply pw_below_drewN|apply below_drew1|refine below_set ?_ (IsS130.ge HI0.out)|refine below_set ?_ GE269.out|refine below_set ?_ GE270.out)|exact HB.out));rintro e w15 ⟨rfl,hi,hb,hk⟩;refine ⟨_,rfl,?_⟩;have n0_:=Aside0.mk (KeepBut.blk hk (g':=gb269) (o:=.cells #[.int .i64 0,.int .i64 0,.int .i64 0] 59 (0,0)) (by (with_reducible repeat (first|refine blk_drewN ?_ _|refine blk_drew ?_|refine blk_alloc ?_ _));refine blk_far ?_ NB269_270.out _;(with_reducible repeat (first|refine blk_drewN ?_ _|refine blk_drew ?_|refine blk_alloc ?_ _));exact BK269.out) NB269_0.out (by simp));have n1_:=Aside0.mk (KeepBut.blk hk (g':=gb270) (o:=.cells #[.int .i64 t271,.int .i64 t274,.int .i64 0] 59 (0,0)) (by (with_reducible repeat (first|refine blk_drewN ?_ _|refine blk_drew ?_|refine blk_alloc ?_ _));refine blk_put (cs:=#[.int .i64 t271,.int .i64 0,.int .i64 0]) ?_ 1 _ rfl;(with_reducible repeat (first|refine blk_drewN ?_ _|refine blk_drew ?_|refine blk_alloc ?_ _));exact BK270.out) NB270_0.out (by simp));have n2_:=Aside0.mk (KeepBut.trans (by repeat (first|(with_reducible first|exact HK.out|apply KeepBut.set_|apply keep_drewN|apply keep_drew|apply keep_alloc|refine keep_far ?_ GW269.out _|refine keep_far ?_ GW270.out _)|exact HK.out)) hk (.inl rfl));have n3_:=Aside0.mk (hb);have n4_:=Aside0.mk (hi);clear BK269;clear BK270;clear HK;clear HB;clear HI0;have BK269:=n0_;have BK270:=n1_;have HK:=n2_;have HB:=n3_;have HI0:=n4_;clear n0_ n1_ n2_ n3_ n4_;(try clear hb);(try clear hb2);(try clear hk);(try clear hi);have hcz16_0:w15.cell? ⟨gb270,0,none⟩=some (.int .i64 t271):=(blk_cell BK270.out 0).trans rfl;have hcz16_1:w15.cell? ⟨gb270,1,none⟩=some (.int .i64 t274):=(blk_cell BK270.out 1).trans rfl;have hcz16_2:w15.cell? ⟨gb270,2,none⟩=some (.int .i64 0):=(blk_cell BK270.out 2).trans rfl;have hfz16_0:=blk_frozen BK270.out 0;have hfz16_1:=blk_frozen BK270.out 1;have hfz16_2:=blk_frozen BK270.out 2)|((with_reducible refine gate_callee (f:=127) rfl ?_);refine goesL_ (some 16) rfl rfl Try.func127 (by kernel_rfl) rfl #[.pointer (some ⟨g,0,none⟩)] rfl (by (try simp only [List.map_toArray,List.map_cons,List.map_nil]);first|done|rfl|(simp only [List.length_drop,List.length_take];rfl)) ?_;(with_reducible refine (impl_reader_num.calls k g s0_0 t278 t279 t280 t281 true w0 _ ?side1 ?side2 A5.out).mono ?_);(case side1=>repeat (first|(with_reducible first|exact HI0.out|apply IsS130.alloc|apply IsS130.drewN|apply IsS130.drew|apply IsS130.set_1|apply IsS130.set_2|refine IsS130.far ?_ NB0_269.out _|refine IsS130.far ?_ NB0_270.out _)|exact HI0.out));(case side2=>repeat (first|(with_reducible first|exact HB.out|apply below_alloc|apply pw_below_drewN|apply below_drew1|refine below_set ?_ (IsS130.ge HI0.out)|refine below_set ?_ GE269.out|refine below_set ?_ GE270.out)|exact HB.out));rintro e w17 ⟨rfl,hi,hb,hk⟩;refine ⟨_,rfl,?_⟩;have n0_:=Aside0.mk (KeepBut.blk hk (g':=gb269) (o:=.cells #[.int .i64 0,.int .i64 0,.int .i64 0] 59 (0,0)) (by (with_reducible repeat (first|refine blk_drewN ?_ _|refine blk_drew ?_|refine blk_alloc ?_ _));refine blk_far ?_ NB269_270.out _;(with_reducible repeat (first|refine blk_drewN ?_ _|refine blk_drew ?_|refine blk_alloc ?_ _));exact BK269.out) NB269_0.out (by simp));have n1_:=Aside0.mk (KeepBut.blk hk (g':=gb270) (o:=.cells #[.int .i64 t271,.int .i64 t274,.int .i64 t277] 59 (0,0)) (by (with_reducible repeat (first|refine blk_drewN ?_ _|refine blk_drew ?_|refine blk_alloc ?_ _));refine blk_put (cs:=#[.int .i64 t271,.int .i64 t274,.int .i64 0]) ?_ 2 _ rfl;(with_reducible repeat (first|refine blk_drewN ?_ _|refine blk_drew ?_|refine blk_alloc ?_ _));exact BK270.out) NB270_0.out (by simp));have n2_:=Aside0.mk (KeepBut.trans (by repeat (first|(with_reducible first|exact HK.out|apply KeepBut.set_|apply keep_drewN|apply keep_drew|apply keep_alloc|refine keep_far ?_ GW269.out _|refine keep_far ?_ GW270.out _)|exact HK.out)) hk (.inl rfl));have n3_:=Aside0.mk (hb);have n4_:=Aside0.mk (hi);clear BK269;clear BK270;clear HK;clear HB;clear HI0;have BK269:=n0_;have BK270:=n1_;have HK:=n2_;have HB:=n3_;have HI0:=n4_;clear n0_ n1_ n2_ n3_ n4_;(try clear hb);(try clear hb2);(try clear hk);(try clear hi);obtain ⟨ASz18_0,cSz18_0,HGz18,hgz18,HSz18_0⟩:=HI0.out;have hcz18_0:=cellS130_0 HGz18;have hcz18_1:=cellS130_1 HGz18;have hcz18_2:=cellS130_2 HGz18;have hfz18_1:=blk_frozen HGz18 1;have hfz18_2:=blk_frozen HGz18 2;clear HGz18 hgz18;have hcz19_0:w17.cell? ⟨gb270,0,none⟩=some (.int .i64 t271):=(blk_cell BK270.out 0).trans rfl;have hcz19_1:w17.cell? ⟨gb270,1,none⟩=some (.int .i64 t274):=(blk_cell BK270.out 1).trans rfl;have hcz19_2:w17.cell? ⟨gb270,2,none⟩=some (.int .i64 t277):=(blk_cell BK270.out 2).trans rfl;have hfz19_0:=blk_frozen BK270.out 0;have hfz19_1:=blk_frozen BK270.out 1;have hfz19_2:=blk_frozen BK270.out 2;have hnb20:=NB269_0.out;have hnc20:=NB0_269.out;have hcz21_0:w17.cell? ⟨gb269,0,none⟩=some (.int .i64 0):=(blk_cell BK269.out 0).trans rfl;have hcz21_1:w17.cell? ⟨gb269,1,none⟩=some (.int .i64 0):=(blk_cell BK269.out 1).trans rfl;have hcz21_2:w17.cell? ⟨gb269,2,none⟩=some (.int .i64 0):=(blk_cell BK269.out 2).trans rfl;have hfz21_0:=blk_frozen BK269.out 0;have hfz21_1:=blk_frozen BK269.out 1;have hfz21_2:=blk_frozen BK269.out 2))
  refine bodyPost_ret (results_ct rfl _ _ gb269 59 #[.int .i64 t271,.int .i64 t274,.int .i64 t277] (0,0) _ rfl (by (with_reducible repeat (first|refine blk_drewN ?_ _|refine blk_drew ?_|refine blk_alloc ?_ _));refine blk_put (cs:=#[.int .i64 t271,.int .i64 t274,.int .i64 0]) ?_ 2 _ rfl;(with_reducible repeat (first|refine blk_drewN ?_ _|refine blk_drew ?_|refine blk_alloc ?_ _));refine blk_put (cs:=#[.int .i64 t271,.int .i64 0,.int .i64 0]) ?_ 1 _ rfl;(with_reducible repeat (first|refine blk_drewN ?_ _|refine blk_drew ?_|refine blk_alloc ?_ _));refine blk_put (cs:=#[.int .i64 0,.int .i64 0,.int .i64 0]) ?_ 0 _ rfl;(with_reducible repeat (first|refine blk_drewN ?_ _|refine blk_drew ?_|refine blk_alloc ?_ _));refine blk_far ?_ NB269_0.out _;(with_reducible repeat (first|refine blk_drewN ?_ _|refine blk_drew ?_|refine blk_alloc ?_ _));exact BK269.out) Try.underlying59 rfl (by kernel_rfl)) rfl ?_
  exact ⟨rz,by repeat (first|(with_reducible first|exact HI0.out|apply IsS130.alloc|apply IsS130.drewN|apply IsS130.drew|apply IsS130.set_1|apply IsS130.set_2|refine IsS130.far ?_ NB0_269.out _|refine IsS130.far ?_ NB0_270.out _)|exact HI0.out),by repeat (first|(with_reducible first|exact HB.out|apply below_alloc|apply pw_below_drewN|apply below_drew1|refine below_set ?_ (IsS130.ge HI0.out)|refine below_set ?_ GE269.out|refine below_set ?_ GE270.out)|exact HB.out),by repeat (first|(with_reducible first|exact HK.out|apply KeepBut.set_|apply keep_drewN|apply keep_drew|apply keep_alloc|refine keep_far ?_ GW269.out _|refine keep_far ?_ GW270.out _)|exact HK.out)⟩
 ·replace c6:=Bool.eq_false_iff.mpr c6
  subst c6
  replace H:=(if_neg (show ¬ (false=true) by decide)).symm.trans H
  simp only [Option.some.injEq,Prod.mk.injEq] at H
  obtain ⟨rfl,rfl,rfl,rfl,rfl,rfl⟩:=H
  go_enter Try.func110,Try.ntmps110
  go_wp2_with (first|((with_reducible refine gate_dst (N:=2) rfl ?_);refine box_event ?hg (N:=2) ?hd (cs:=#[.int .i64 0,.int .i64 0,.int .i64 0]) (t:=59) ?hr ?_;(case hd=>rfl);(case hg=>rfl);(case hr=>first|(go_simp;done)|(go_simp;rfl));intro gb269 hg w22 hbox hb;have n0_:=Aside0.mk (IsS130.below (by repeat (first|(with_reducible first|exact HI0.out|apply IsS130.alloc|apply IsS130.drewN|apply IsS130.drew|apply IsS130.set_1|apply IsS130.set_2)|exact HI0.out)) hb);have n1_:=Aside0.mk (KeepBut.trans (by repeat (first|(with_reducible first|exact HK.out|apply KeepBut.set_|apply keep_drewN|apply keep_drew|apply keep_alloc)|exact HK.out)) (KeepBut.of_below hb g none) (.inl rfl));have n2_:=Aside0.mk (below_step (by repeat (first|(with_reducible first|exact HB.out|apply below_alloc|apply pw_below_drewN|apply below_drew1|refine below_set ?_ (IsS130.ge HI0.out))|exact HB.out)) hb);have n3_:=Aside0.mk (hbox);have n4_:=Aside0.mk ((by rw [hg];exact (keep_size (w:=w) (g:=g) (row:=none) (by repeat (first|(with_reducible first|exact HK.out|apply KeepBut.set_|apply keep_drewN|apply keep_drew|apply keep_alloc)|exact HK.out))):w.heap.size≤gb269));have n5_:=Aside0.mk ((Nat.le_trans HW0.out (by rw [hg];exact (keep_size (w:=w) (g:=g) (row:=none) (by repeat (first|(with_reducible first|exact HK.out|apply KeepBut.set_|apply keep_drewN|apply keep_drew|apply keep_alloc)|exact HK.out))):w.heap.size≤gb269):w0.heap.size≤gb269));have n6_:=Aside0.mk ((by rw [hg];exact Nat.ne_of_lt (IsS130.lt (show IsS130 w0 _ g s0_0 s0_1 s0_2 from by repeat (first|(with_reducible first|exact HI0.out|apply IsS130.alloc|apply IsS130.drewN|apply IsS130.drew|apply IsS130.set_1|apply IsS130.set_2)|exact HI0.out))):g ≠ gb269));have n7_:=Aside0.mk ((by rw [hg];exact Nat.ne_of_gt (IsS130.lt (show IsS130 w0 _ g s0_0 s0_1 s0_2 from by repeat (first|(with_reducible first|exact HI0.out|apply IsS130.alloc|apply IsS130.drewN|apply IsS130.drew|apply IsS130.set_1|apply IsS130.set_2)|exact HI0.out))):gb269 ≠ g));clear HI0;clear HK;clear HB;have HI0:=n0_;have HK:=n1_;have HB:=n2_;have BK269:=n3_;have GW269:=n4_;have GE269:=n5_;have NB0_269:=n6_;have NB269_0:=n7_;clear n0_ n1_ n2_ n3_ n4_ n5_ n6_ n7_;clear hb hbox hg)|((with_reducible refine gate_dst (N:=4) rfl ?_);refine box_event ?hg (N:=4) ?hd (cs:=#[.int .i64 0,.int .i64 0,.int .i64 0]) (t:=59) ?hr ?_;(case hd=>rfl);(case hg=>rfl);(case hr=>first|(go_simp;done)|(go_simp;rfl));intro gb270 hg w23 hbox hb;have n0_:=Aside0.mk (IsS130.below (by repeat (first|(with_reducible first|exact HI0.out|apply IsS130.alloc|apply IsS130.drewN|apply IsS130.drew|apply IsS130.set_1|apply IsS130.set_2|refine IsS130.far ?_ NB0_269.out _)|exact HI0.out)) hb);have n1_:=Aside0.mk (blk_below (g:=gb269) (o:=.cells #[.int .i64 0,.int .i64 0,.int .i64 0] 59 (0,0)) (bk BK269) hb);have n2_:=Aside0.mk (KeepBut.trans (by repeat (first|(with_reducible first|exact HK.out|apply KeepBut.set_|apply keep_drewN|apply keep_drew|apply keep_alloc|refine keep_far ?_ GW269.out _)|exact HK.out)) (KeepBut.of_below hb g none) (.inl rfl));have n3_:=Aside0.mk (below_step (by repeat (first|(with_reducible first|exact HB.out|apply below_alloc|apply pw_below_drewN|apply below_drew1|refine below_set ?_ (IsS130.ge HI0.out)|refine below_set ?_ GE269.out)|exact HB.out)) hb);have n4_:=Aside0.mk (hbox);have n5_:=Aside0.mk ((by rw [hg];exact (keep_size (w:=w) (g:=g) (row:=none) (by repeat (first|(with_reducible first|exact HK.out|apply KeepBut.set_|apply keep_drewN|apply keep_drew|apply keep_alloc|refine keep_far ?_ GW269.out _)|exact HK.out))):w.heap.size≤gb270));have n6_:=Aside0.mk ((Nat.le_trans HW0.out (by rw [hg];exact (keep_size (w:=w) (g:=g) (row:=none) (by repeat (first|(with_reducible first|exact HK.out|apply KeepBut.set_|apply keep_drewN|apply keep_drew|apply keep_alloc|refine keep_far ?_ GW269.out _)|exact HK.out))):w.heap.size≤gb270):w0.heap.size≤gb270));have n7_:=Aside0.mk ((by rw [hg];exact Nat.ne_of_lt (blk_lt (g:=gb269) (o:=.cells #[.int .i64 0,.int .i64 0,.int .i64 0] 59 (0,0)) (bk BK269)):gb269 ≠ gb270));have n8_:=Aside0.mk ((by rw [hg];exact Nat.ne_of_gt (blk_lt (g:=gb269) (o:=.cells #[.int .i64 0,.int .i64 0,.int .i64 0] 59 (0,0)) (bk BK269)):gb270 ≠ gb269));have n9_:=Aside0.mk ((by rw [hg];exact Nat.ne_of_lt (IsS130.lt (show IsS130 w0 _ g s0_0 s0_1 s0_2 from by repeat (first|(with_reducible first|exact HI0.out|apply IsS130.alloc|apply IsS130.drewN|apply IsS130.drew|apply IsS130.set_1|apply IsS130.set_2|refine IsS130.far ?_ NB0_269.out _)|exact HI0.out))):g ≠ gb270));have n10_:=Aside0.mk ((by rw [hg];exact Nat.ne_of_gt (IsS130.lt (show IsS130 w0 _ g s0_0 s0_1 s0_2 from by repeat (first|(with_reducible first|exact HI0.out|apply IsS130.alloc|apply IsS130.drewN|apply IsS130.drew|apply IsS130.set_1|apply IsS130.set_2|refine IsS130.far ?_ NB0_269.out _)|exact HI0.out))):gb270 ≠ g));clear HI0;clear BK269;clear HK;clear HB;have HI0:=n0_;have BK269:=n1_;have HK:=n2_;have HB:=n3_;have BK270:=n4_;have GW270:=n5_;have GE270:=n6_;have NB269_270:=n7_;have NB270_269:=n8_;have NB0_270:=n9_;have NB270_0:=n10_;clear n0_ n1_ n2_ n3_ n4_ n5_ n6_ n7_ n8_ n9_ n10_;clear hb hbox hg)|((with_reducible refine gate_callee (f:=127) rfl ?_);refine goesL_ (some 7) rfl rfl Try.func127 (by kernel_rfl) rfl #[.pointer (some ⟨g,0,none⟩)] rfl (by (try simp only [List.map_toArray,List.map_cons,List.map_nil]);first|done|rfl|(simp only [List.length_drop,List.length_take];rfl)) ?_;(with_reducible refine (impl_reader_num.calls k g s0_0 s0_1 s0_2 t271 t272 t273 w0 _ ?side1 ?side2 A2.out).mono ?_);(case side1=>repeat (first|(with_reducible first|exact HI0.out|apply IsS130.alloc|apply IsS130.drewN|apply IsS130.drew|apply IsS130.set_1|apply IsS130.set_2|refine IsS130.far ?_ NB0_269.out _|refine IsS130.far ?_ NB0_270.out _)|exact HI0.out));(case side2=>repeat (first|(with_reducible first|exact HB.out|apply below_alloc|apply pw_below_drewN|apply below_drew1|refine below_set ?_ (IsS130.ge HI0.out)|refine below_set ?_ GE269.out|refine below_set ?_ GE270.out)|exact HB.out));rintro e w24 ⟨rfl,hi,hb,hk⟩;refine ⟨_,rfl,?_⟩;have n0_:=Aside0.mk (KeepBut.blk hk (g':=gb269) (o:=.cells #[.int .i64 0,.int .i64 0,.int .i64 0] 59 (0,0)) (bk BK269) NB269_0.out (by simp));have n1_:=Aside0.mk (KeepBut.blk hk (g':=gb270) (o:=.cells #[.int .i64 0,.int .i64 0,.int .i64 0] 59 (0,0)) (bk BK270) NB270_0.out (by simp));have n2_:=Aside0.mk (KeepBut.trans (by repeat (first|(with_reducible first|exact HK.out|apply KeepBut.set_|apply keep_drewN|apply keep_drew|apply keep_alloc|refine keep_far ?_ GW269.out _|refine keep_far ?_ GW270.out _)|exact HK.out)) hk (.inl rfl));have n3_:=Aside0.mk (hb);have n4_:=Aside0.mk (hi);clear BK269;clear BK270;clear HK;clear HB;clear HI0;have BK269:=n0_;have BK270:=n1_;have HK:=n2_;have HB:=n3_;have HI0:=n4_;clear n0_ n1_ n2_ n3_ n4_;(try clear hb);(try clear hb2);(try clear hk);(try clear hi);have hnb25:=NB270_269.out;have hnc25:=NB269_270.out;have hnb26:=NB270_0.out;have hnc26:=NB0_270.out;have hcz27_0:w24.cell? ⟨gb270,0,none⟩=some (.int .i64 0):=(blk_cell BK270.out 0).trans rfl;have hcz27_1:w24.cell? ⟨gb270,1,none⟩=some (.int .i64 0):=(blk_cell BK270.out 1).trans rfl;have hcz27_2:w24.cell? ⟨gb270,2,none⟩=some (.int .i64 0):=(blk_cell BK270.out 2).trans rfl;have hfz27_0:=blk_frozen BK270.out 0;have hfz27_1:=blk_frozen BK270.out 1;have hfz27_2:=blk_frozen BK270.out 2)|((with_reducible refine gate_callee (f:=127) rfl ?_);refine goesL_ (some 10) rfl rfl Try.func127 (by kernel_rfl) rfl #[.pointer (some ⟨g,0,none⟩)] rfl (by (try simp only [List.map_toArray,List.map_cons,List.map_nil]);first|done|rfl|(simp only [List.length_drop,List.length_take];rfl)) ?_;(with_reducible refine (impl_reader_num.calls k g s0_0 t272 t273 t274 t275 t276 w0 _ ?side1 ?side2 A3.out).mono ?_);(case side1=>repeat (first|(with_reducible first|exact HI0.out|apply IsS130.alloc|apply IsS130.drewN|apply IsS130.drew|apply IsS130.set_1|apply IsS130.set_2|refine IsS130.far ?_ NB0_269.out _|refine IsS130.far ?_ NB0_270.out _)|exact HI0.out));(case side2=>repeat (first|(with_reducible first|exact HB.out|apply below_alloc|apply pw_below_drewN|apply below_drew1|refine below_set ?_ (IsS130.ge HI0.out)|refine below_set ?_ GE269.out|refine below_set ?_ GE270.out)|exact HB.out));rintro e w28 ⟨rfl,hi,hb,hk⟩;refine ⟨_,rfl,?_⟩;have n0_:=Aside0.mk (KeepBut.blk hk (g':=gb269) (o:=.cells #[.int .i64 0,.int .i64 0,.int .i64 0] 59 (0,0)) (by (with_reducible repeat (first|refine blk_drewN ?_ _|refine blk_drew ?_|refine blk_alloc ?_ _));refine blk_far ?_ NB269_270.out _;(with_reducible repeat (first|refine blk_drewN ?_ _|refine blk_drew ?_|refine blk_alloc ?_ _));exact BK269.out) NB269_0.out (by simp));have n1_:=Aside0.mk (KeepBut.blk hk (g':=gb270) (o:=.cells #[.int .i64 t271,.int .i64 0,.int .i64 0] 59 (0,0)) (by (with_reducible repeat (first|refine blk_drewN ?_ _|refine blk_drew ?_|refine blk_alloc ?_ _));refine blk_put (cs:=#[.int .i64 0,.int .i64 0,.int .i64 0]) ?_ 0 _ rfl;(with_reducible repeat (first|refine blk_drewN ?_ _|refine blk_drew ?_|refine blk_alloc ?_ _));exact BK270.out) NB270_0.out (by simp));have n2_:=Aside0.mk (KeepBut.trans (by repeat (first|(with_reducible first|exact HK.out|apply KeepBut.set_|apply keep_drewN|apply keep_drew|apply keep_alloc|refine keep_far ?_ GW269.out _|refine keep_far ?_ GW270.out _)|exact HK.out)) hk (.inl rfl));have n3_:=Aside0.mk (hb);have n4_:=Aside0.mk (hi);clear BK269;clear BK270;clear HK;clear HB;clear HI0;have BK269:=n0_;have BK270:=n1_;have HK:=n2_;have HB:=n3_;have HI0:=n4_;clear n0_ n1_ n2_ n3_ n4_;(try clear hb);(try clear hb2);(try clear hk);(try clear hi);have hcz29_0:w28.cell? ⟨gb270,0,none⟩=some (.int .i64 t271):=(blk_cell BK270.out 0).trans rfl;have hcz29_1:w28.cell? ⟨gb270,1,none⟩=some (.int .i64 0):=(blk_cell BK270.out 1).trans rfl;have hcz29_2:w28.cell? ⟨gb270,2,none⟩=some (.int .i64 0):=(blk_cell BK270.out 2).trans rfl;have hfz29_0:=blk_frozen BK270.out 0;have hfz29_1:=blk_frozen BK270.out 1;have hfz29_2:=blk_frozen BK270.out 2)|((with_reducible refine gate_callee (f:=127) rfl ?_);refine goesL_ (some 13) rfl rfl Try.func127 (by kernel_rfl) rfl #[.pointer (some ⟨g,0,none⟩)] rfl (by (try simp only [List.map_toArray,List.map_cons,List.map_nil]);first|done|rfl|(simp only [List.length_drop,List.length_take];rfl)) ?_;(with_reducible refine (impl_reader_num.calls k g s0_0 t275 t276 t277 t278 t279 w0 _ ?side1 ?side2 A4.out).mono ?_);(case side1=>repeat (first|(with_reducible first|exact HI0.out|apply IsS130.alloc|apply IsS130.drewN|apply IsS130.drew|apply IsS130.set_1|apply IsS130.set_2|refine IsS130.far ?_ NB0_269.out _|refine IsS130.far ?_ NB0_270.out _)|exact HI0.out));(case side2=>repeat (first|(with_reducible first|exact HB.out|apply below_alloc|apply pw_below_drewN|apply below_drew1|refine below_set ?_ (IsS130.ge HI0.out)|refine below_set ?_ GE269.out|refine below_set ?_ GE270.out)|exact HB.out));rintro e w30 ⟨rfl,hi,hb,hk⟩;refine ⟨_,rfl,?_⟩;have n0_:=Aside0.mk (KeepBut.blk hk (g':=gb269) (o:=.cells #[.int .i64 0,.int .i64 0,.int .i64 0] 59 (0,0)) (by (with_reducible repeat (first|refine blk_drewN ?_ _|refine blk_drew ?_|refine blk_alloc ?_ _));refine blk_far ?_ NB269_270.out _;(with_reducible repeat (first|refine blk_drewN ?_ _|refine blk_drew ?_|refine blk_alloc ?_ _));exact BK269.out) NB269_0.out (by simp));have n1_:=Aside0.mk (KeepBut.blk hk (g':=gb270) (o:=.cells #[.int .i64 t271,.int .i64 t274,.int .i64 0] 59 (0,0)) (by (with_reducible repeat (first|refine blk_drewN ?_ _|refine blk_drew ?_|refine blk_alloc ?_ _));refine blk_put (cs:=#[.int .i64 t271,.int .i64 0,.int .i64 0]) ?_ 1 _ rfl;(with_reducible repeat (first|refine blk_drewN ?_ _|refine blk_drew ?_|refine blk_alloc ?_ _));exact BK270.out) NB270_0.out (by simp));have n2_:=Aside0.mk (KeepBut.trans (by repeat (first|(with_reducible first|exact HK.out|apply KeepBut.set_|apply keep_drewN|apply keep_drew|apply keep_alloc|refine keep_far ?_ GW269.out _|refine keep_far ?_ GW270.out _)|exact HK.out)) hk (.inl rfl));have n3_:=Aside0.mk (hb);have n4_:=Aside0.mk (hi);clear BK269;clear BK270;clear HK;clear HB;clear HI0;have BK269:=n0_;have BK270:=n1_;have HK:=n2_;have HB:=n3_;have HI0:=n4_;clear n0_ n1_ n2_ n3_ n4_;(try clear hb);(try clear hb2);(try clear hk);(try clear hi);have hcz31_0:w30.cell? ⟨gb270,0,none⟩=some (.int .i64 t271):=(blk_cell BK270.out 0).trans rfl;have hcz31_1:w30.cell? ⟨gb270,1,none⟩=some (.int .i64 t274):=(blk_cell BK270.out 1).trans rfl;have hcz31_2:w30.cell? ⟨gb270,2,none⟩=some (.int .i64 0):=(blk_cell BK270.out 2).trans rfl;have hfz31_0:=blk_frozen BK270.out 0;have hfz31_1:=blk_frozen BK270.out 1;have hfz31_2:=blk_frozen BK270.out 2)|((with_reducible refine gate_callee (f:=127) rfl ?_);refine goesL_ (some 16) rfl rfl Try.func127 (by kernel_rfl) rfl #[.pointer (some ⟨g,0,none⟩)] rfl (by (try simp only [List.map_toArray,List.map_cons,List.map_nil]);first|done|rfl|(simp only [List.length_drop,List.length_take];rfl)) ?_;(with_reducible refine (impl_reader_num.calls k g s0_0 t278 t279 t280 t281 false w0 _ ?side1 ?side2 A5.out).mono ?_);(case side1=>repeat (first|(with_reducible first|exact HI0.out|apply IsS130.alloc|apply IsS130.drewN|apply IsS130.drew|apply IsS130.set_1|apply IsS130.set_2|refine IsS130.far ?_ NB0_269.out _|refine IsS130.far ?_ NB0_270.out _)|exact HI0.out));(case side2=>repeat (first|(with_reducible first|exact HB.out|apply below_alloc|apply pw_below_drewN|apply below_drew1|refine below_set ?_ (IsS130.ge HI0.out)|refine below_set ?_ GE269.out|refine below_set ?_ GE270.out)|exact HB.out));rintro e w32 ⟨rfl,hi,hb,hk⟩;refine ⟨_,rfl,?_⟩;have n0_:=Aside0.mk (KeepBut.blk hk (g':=gb269) (o:=.cells #[.int .i64 0,.int .i64 0,.int .i64 0] 59 (0,0)) (by (with_reducible repeat (first|refine blk_drewN ?_ _|refine blk_drew ?_|refine blk_alloc ?_ _));refine blk_far ?_ NB269_270.out _;(with_reducible repeat (first|refine blk_drewN ?_ _|refine blk_drew ?_|refine blk_alloc ?_ _));exact BK269.out) NB269_0.out (by simp));have n1_:=Aside0.mk (KeepBut.blk hk (g':=gb270) (o:=.cells #[.int .i64 t271,.int .i64 t274,.int .i64 t277] 59 (0,0)) (by (with_reducible repeat (first|refine blk_drewN ?_ _|refine blk_drew ?_|refine blk_alloc ?_ _));refine blk_put (cs:=#[.int .i64 t271,.int .i64 t274,.int .i64 0]) ?_ 2 _ rfl;(with_reducible repeat (first|refine blk_drewN ?_ _|refine blk_drew ?_|refine blk_alloc ?_ _));exact BK270.out) NB270_0.out (by simp));have n2_:=Aside0.mk (KeepBut.trans (by repeat (first|(with_reducible first|exact HK.out|apply KeepBut.set_|apply keep_drewN|apply keep_drew|apply keep_alloc|refine keep_far ?_ GW269.out _|refine keep_far ?_ GW270.out _)|exact HK.out)) hk (.inl rfl));have n3_:=Aside0.mk (hb);have n4_:=Aside0.mk (hi);clear BK269;clear BK270;clear HK;clear HB;clear HI0;have BK269:=n0_;have BK270:=n1_;have HK:=n2_;have HB:=n3_;have HI0:=n4_;clear n0_ n1_ n2_ n3_ n4_;(try clear hb);(try clear hb2);(try clear hk);(try clear hi);obtain ⟨ASz33_0,cSz33_0,HGz33,hgz33,HSz33_0⟩:=HI0.out;have hcz33_0:=cellS130_0 HGz33;have hcz33_1:=cellS130_1 HGz33;have hcz33_2:=cellS130_2 HGz33;have hfz33_1:=blk_frozen HGz33 1;have hfz33_2:=blk_frozen HGz33 2;clear HGz33 hgz33;have hcz34_0:w32.cell? ⟨gb270,0,none⟩=some (.int .i64 t271):=(blk_cell BK270.out 0).trans rfl;have hcz34_1:w32.cell? ⟨gb270,1,none⟩=some (.int .i64 t274):=(blk_cell BK270.out 1).trans rfl;have hcz34_2:w32.cell? ⟨gb270,2,none⟩=some (.int .i64 t277):=(blk_cell BK270.out 2).trans rfl;have hfz34_0:=blk_frozen BK270.out 0;have hfz34_1:=blk_frozen BK270.out 1;have hfz34_2:=blk_frozen BK270.out 2;have hnb35:=NB269_0.out;have hnc35:=NB0_269.out;have hcz36_0:w32.cell? ⟨gb269,0,none⟩=some (.int .i64 0):=(blk_cell BK269.out 0).trans rfl;have hcz36_1:w32.cell? ⟨gb269,1,none⟩=some (.int .i64 0):=(blk_cell BK269.out 1).trans rfl;have hcz36_2:w32.cell? ⟨gb269,2,none⟩=some (.int .i64 0):=(blk_cell BK269.out 2).trans rfl;have hfz36_0:=blk_frozen BK269.out 0;have hfz36_1:=blk_frozen BK269.out 1;have hfz36_2:=blk_frozen BK269.out 2))
  refine bodyPost_ret (results_ct rfl _ _ gb269 59 #[.int .i64 t271,.int .i64 t274,.int .i64 t277] (0,0) _ rfl (by (with_reducible repeat (first|refine blk_drewN ?_ _|refine blk_drew ?_|refine blk_alloc ?_ _));refine blk_put (cs:=#[.int .i64 t271,.int .i64 t274,.int .i64 0]) ?_ 2 _ rfl;(with_reducible repeat (first|refine blk_drewN ?_ _|refine blk_drew ?_|refine blk_alloc ?_ _));refine blk_put (cs:=#[.int .i64 t271,.int .i64 0,.int .i64 0]) ?_ 1 _ rfl;(with_reducible repeat (first|refine blk_drewN ?_ _|refine blk_drew ?_|refine blk_alloc ?_ _));refine blk_put (cs:=#[.int .i64 0,.int .i64 0,.int .i64 0]) ?_ 0 _ rfl;(with_reducible repeat (first|refine blk_drewN ?_ _|refine blk_drew ?_|refine blk_alloc ?_ _));refine blk_far ?_ NB269_0.out _;(with_reducible repeat (first|refine blk_drewN ?_ _|refine blk_drew ?_|refine blk_alloc ?_ _));exact BK269.out) Try.underlying59 rfl (by kernel_rfl)) rfl ?_
  exact ⟨rz,by repeat (first|(with_reducible first|exact HI0.out|apply IsS130.alloc|apply IsS130.drewN|apply IsS130.drew|apply IsS130.set_1|apply IsS130.set_2|refine IsS130.far ?_ NB0_269.out _|refine IsS130.far ?_ NB0_270.out _)|exact HI0.out),by repeat (first|(with_reducible first|exact HB.out|apply below_alloc|apply pw_below_drewN|apply below_drew1|refine below_set ?_ (IsS130.ge HI0.out)|refine below_set ?_ GE269.out|refine below_set ?_ GE270.out)|exact HB.out),by repeat (first|(with_reducible first|exact HK.out|apply KeepBut.set_|apply keep_drewN|apply keep_drew|apply keep_alloc|refine keep_far ?_ GW269.out _|refine keep_far ?_ GW270.out _)|exact HK.out)⟩
def impl_GetText.f (k:Nat) (l0:List Int) (a1:Int):Option (ByteArray × Int × Bool):=(impl_GetNum.f k l0 a1).bind fun bt283=>(if bt283.2.2=true then (if bt283.1 > (wrap64 ((l0.length:Int) - bt283.2.1)) then (some ((⟨#[]⟩:ByteArray),0,false)) else (if 0≤bt283.2.1 then (if bt283.2.1≤(wrap64 (bt283.2.1+bt283.1)) then (if (wrap64 (bt283.2.1+bt283.1))≤(l0.length:Int) then (some (strOfNums ((l0.take ((wrap64 (bt283.2.1+bt283.1)):Int).toNat).drop (bt283.2.1:Int).toNat),wrap64 (bt283.2.1+bt283.1),true)) else (none)) else (none)) else (none))) else (some ((⟨#[]⟩:ByteArray),0,false)))
set_option maxHeartbeats 8000000 in
set_option maxRecDepth 100000 in
theorem impl_GetText.calls (k:Nat) (A0:Option Addr) (c0:Nat) (l0:List Int) (a1:Int) (r1:ByteArray) (r2:Int) (r3:Bool) (w:World) (hr0:Kd.C (Kd.int .u8) w A0 l0.length l0) (hc0:l0.length≤c0) (h:impl_GetText.f k l0 a1=some (r1,r2,r3)) :
  Calls Try.prog 128 #[.slice A0 l0.length c0,.int .i64 a1] w fun e w'=>e = .returned (.tuple #[.string r1,.int .i64 r2,.bool r3])∧Drawn0 w w':=by
 have HR0:=Aside0.mk hr0
 have HC0:=Aside0.mk hc0
 clear hr0 hc0
 have H:((impl_GetNum.f k l0 a1).bind fun bt283=>(if bt283.2.2=true then (if bt283.1 > (wrap64 ((l0.length:Int) - bt283.2.1)) then (some ((⟨#[]⟩:ByteArray),0,false)) else (if 0≤bt283.2.1 then (if bt283.2.1≤(wrap64 (bt283.2.1+bt283.1)) then (if (wrap64 (bt283.2.1+bt283.1))≤(l0.length:Int) then (some (strOfNums ((l0.take ((wrap64 (bt283.2.1+bt283.1)):Int).toNat).drop (bt283.2.1:Int).toNat),wrap64 (bt283.2.1+bt283.1),true)) else (none)) else (none)) else (none))) else (some ((⟨#[]⟩:ByteArray),0,false))))=some (r1,r2,r3):=h
 clear h
 replace H:=Option.bind_eq_some_iff.mp H
 obtain ⟨⟨t283,t284,t285⟩,A30,H⟩:=H
 try dsimp only at H
 have A3:=Aside0.mk A30
 clear A30
 by_cases c4:t285=true
 ·subst c4
  rw [if_pos rfl] at H
  by_cases c5:t283 > (wrap64 ((l0.length:Int) - t284))
  ·rw [if_pos c5] at H
   have c5b0:decide ((wrap64 ((l0.length:Int) - t284)) < t283)=true:=decide_eq_true c5
   clear c5
   simp only [Option.some.injEq,Prod.mk.injEq] at H
   obtain ⟨rfl,rfl,rfl⟩:=H
   go_enter Try.func128,Try.ntmps128
   go_wp2_with (first|((with_reducible refine gate_callee (f:=135) rfl ?_);refine goesL_ (some 13) rfl rfl Try.func135 (by kernel_rfl) rfl #[.slice A0 l0.length c0,.int .i64 a1] rfl (by (try simp only [List.map_toArray,List.map_cons,List.map_nil]);first|done|rfl|(simp only [List.length_drop,List.length_take];rfl)) ?_;(with_reducible refine (impl_GetNum.calls k _ _ l0 a1 t283 t284 true _ ?side1 ?side2 A3.out).mono ?_);(case side1=>exact sC HR0);(case side2=>exact HC0.out);rintro e w' ⟨rfl,⟨nd,rfl⟩⟩;refine ⟨_,rfl,?_⟩))
   go_ret3
   exact ⟨by first|rfl|(simp;done)|(simp [*];done),by repeat (first|exact Drawn0.refl _|apply Drawn0.step)⟩
  ·rw [if_neg c5] at H
   have c5b0:decide ((wrap64 ((l0.length:Int) - t284)) < t283)=false:=decide_eq_false c5
   clear c5
   by_cases c6:0≤t284
   ·rw [if_pos c6] at H
    have c6b0:=eq_true c6
    have c6b1:decide (0≤t284)=true:=decide_eq_true c6
    clear c6
    by_cases c7:t284≤(wrap64 (t284+t283))
    ·rw [if_pos c7] at H
     have c7b0:=eq_true c7
     have c7b1:decide (t284≤(wrap64 (t284+t283)))=true:=decide_eq_true c7
     by_cases c8:(wrap64 (t284+t283))≤(l0.length:Int)
     ·rw [if_pos c8] at H
      have c8b0:=eq_true c8
      have c8b1:decide ((wrap64 (t284+t283))≤(l0.length:Int))=true:=decide_eq_true c8
      simp only [Option.some.injEq,Prod.mk.injEq] at H
      obtain ⟨rfl,rfl,rfl⟩:=H
      go_enter Try.func128,Try.ntmps128
      go_wp2_with (first|((with_reducible refine gate_callee (f:=135) rfl ?_);refine goesL_ (some 13) rfl rfl Try.func135 (by kernel_rfl) rfl #[.slice A0 l0.length c0,.int .i64 a1] rfl (by (try simp only [List.map_toArray,List.map_cons,List.map_nil]);first|done|rfl|(simp only [List.length_drop,List.length_take];rfl)) ?_;(with_reducible refine (impl_GetNum.calls k _ _ l0 a1 t283 t284 true _ ?side1 ?side2 A3.out).mono ?_);(case side1=>exact sC HR0);(case side2=>exact HC0.out);rintro e w' ⟨rfl,⟨nd,rfl⟩⟩;refine ⟨_,rfl,?_⟩;obtain ⟨i09,hi09,_,hsz9,_⟩:=info_parts info5;obtain ⟨A9,hcut9,hA9,hC9⟩:=print_mid_of (P:=Try.prog) (Value.int .u8) 0 54 5 .i64 .i64 Try.underlying54 hi09 hsz9 A0 c0 l0 t284 (wrap64 (t284+t283)) (of_decide_eq_true (by first|(with_reducible assumption)|assumption)) (by first|omega|exact of_decide_eq_true (by first|(with_reducible assumption)|assumption)) (of_decide_eq_true (by first|(with_reducible assumption)|assumption)) HC0.out;have HR286:=Aside0.mk (Kd.C_of_reads (h1:=fun _=>rfl) (hA9 _ (Kd.reads_of_C HR0.out)));have HC286:=Aside0.mk hC9;clear hA9 hC9 hi09 hsz9;have hcv10:=Kd.C_string (P:=Try.prog) (A:=A9) (c:=(c0 - t284.toNat)) Try.underlying54 Try.underlying5 Try.underlying9 HR286.out;have hcw11:=fun (n_:Nat)=>Kd.C_string (P:=Try.prog) (A:=A9) (c:=(c0 - t284.toNat)) Try.underlying54 Try.underlying5 Try.underlying9 (Kd.C_drewN (HR286.out) n_);have hl_:(List.drop (t284:Int).toNat (List.take (wrap64 (t284+t283)).toNat l0)).length=(wrap64 (t284+t283)).toNat - (t284:Int).toNat:=(by rw [List.length_drop,List.length_take];have hq_:wrap64 (t284+t283)≤(l0.length:Int):=of_decide_eq_true (by assumption);omega);rw [hl_] at hcw11;clear hl_))
      go_ret3
      exact ⟨by first|rfl|(simp;done)|(simp [*];done),by repeat (first|exact Drawn0.refl _|apply Drawn0.step)⟩
     ·rw [if_neg c8] at H
      exact absurd H (by simp)
    ·rw [if_neg c7] at H
     exact absurd H (by simp)
   ·rw [if_neg c6] at H
    exact absurd H (by simp)
 ·replace c4:=Bool.eq_false_iff.mpr c4
  subst c4
  replace H:=(if_neg (show ¬ (false=true) by decide)).symm.trans H
  simp only [Option.some.injEq,Prod.mk.injEq] at H
  obtain ⟨rfl,rfl,rfl⟩:=H
  go_enter Try.func128,Try.ntmps128
  go_wp2_with (first|((with_reducible refine gate_callee (f:=135) rfl ?_);refine goesL_ (some 13) rfl rfl Try.func135 (by kernel_rfl) rfl #[.slice A0 l0.length c0,.int .i64 a1] rfl (by (try simp only [List.map_toArray,List.map_cons,List.map_nil]);first|done|rfl|(simp only [List.length_drop,List.length_take];rfl)) ?_;(with_reducible refine (impl_GetNum.calls k _ _ l0 a1 t283 t284 false _ ?side1 ?side2 A3.out).mono ?_);(case side1=>exact sC HR0);(case side2=>exact HC0.out);rintro e w' ⟨rfl,⟨nd,rfl⟩⟩;refine ⟨_,rfl,?_⟩))
  go_ret3
  exact ⟨by first|rfl|(simp;done)|(simp [*];done),by repeat (first|exact Drawn0.refl _|apply Drawn0.step)⟩
def impl_reader_text.f (k:Nat) (s0_0:List Int) (s0_1:Int) (s0_2:Bool):Option (ByteArray × Int × Bool):=(impl_GetText.f k s0_0 s0_1).bind fun bt287=>(if s0_2=true then (some ((⟨#[]⟩:ByteArray),s0_1,true)) else (if bt287.2.2=true then (some (bt287.1,bt287.2.1,s0_2)) else (some ((⟨#[]⟩:ByteArray),s0_1,true))))
set_option maxHeartbeats 8000000 in
set_option maxRecDepth 100000 in
theorem impl_reader_text.calls (k:Nat) (g:Nat) (s0_0:List Int) (s0_1:Int) (s0_2:Bool) (r1:ByteArray) (r2:Int) (r3:Bool) (w0 w:World) (hI:IsS130 w0 w g s0_0 s0_1 s0_2) (hB:Below w0.heap.size w0 w) (h:impl_reader_text.f k s0_0 s0_1 s0_2=some (r1,r2,r3)) :
  Calls Try.prog 111 #[.pointer (some ⟨g,0,none⟩)] w fun e w'=>e = .returned (.string r1)∧IsS130 w0 w' g s0_0 r2 r3∧Below w0.heap.size w0 w' ∧ KeepBut w w' g none:=by
 have HI0:=Aside0.mk hI
 have HK:=Aside0.mk (KeepBut.refl w g none)
 have HL:=Aside0.mk hB.size
 clear hI
 have HW0:=Aside0.mk hB.size
 have HB:=Aside0.mk hB
 clear hB
 have H:((impl_GetText.f k s0_0 s0_1).bind fun bt287=>(if s0_2=true then (some ((⟨#[]⟩:ByteArray),s0_1,true)) else (if bt287.2.2=true then (some (bt287.1,bt287.2.1,s0_2)) else (some ((⟨#[]⟩:ByteArray),s0_1,true)))))=some (r1,r2,r3):=h
 clear h
 replace H:=Option.bind_eq_some_iff.mp H
 obtain ⟨⟨t287,t288,t289⟩,A20,H⟩:=H
 try dsimp only at H
 have A2:=Aside0.mk A20
 clear A20
 by_cases c3:s0_2=true
 ·subst c3
  rw [if_pos rfl] at H
  simp only [Option.some.injEq,Prod.mk.injEq] at H
  obtain ⟨rfl,rfl,rfl⟩:=H
  obtain ⟨ASz4_0,cSz4_0,HGz4,hgz4,HSz4_0⟩:=HI0.out
  have hcz4_0:=cellS130_0 HGz4
  have hcz4_1:=cellS130_1 HGz4
  have hcz4_2:=cellS130_2 HGz4
  have hfz4_1:=blk_frozen HGz4 1
  have hfz4_2:=blk_frozen HGz4 2
  clear HGz4 hgz4
  go_enter Try.func111,Try.ntmps111
  go_wp2_with (first|(go_at_call 128;(with_reducible refine (impl_GetText.calls k _ _ s0_0 s0_1 t287 t288 t289 _ ?side1 ?side2 A2.out).mono ?_);(case side1=>exact Kd.C_below HSz4_0.1 (by repeat (first|(with_reducible first|exact HB.out|apply below_alloc|apply pw_below_drewN|apply below_drew1|refine below_set ?_ (IsS130.ge HI0.out))|exact HB.out)));(case side2=>exact HSz4_0.2);rintro e w' ⟨rfl,⟨nd,rfl⟩⟩;(try first|exact ⟨rfl,_,World.drewN_drewN _ _ _⟩|exact ⟨rfl,_,Eq.trans (World.drewN_drewN _ _ _) (congrArg (World.drewN _) (Nat.add_assoc _ _ _))⟩)))
  repeat (go_quiet (first|(go_at_call 128;(with_reducible refine (impl_GetText.calls k _ _ s0_0 s0_1 t287 t288 t289 _ ?side1 ?side2 A2.out).mono ?_);(case side1=>exact Kd.C_below HSz4_0.1 (by repeat (first|(with_reducible first|exact HB.out|apply below_alloc|apply pw_below_drewN|apply below_drew1|refine below_set ?_ (IsS130.ge HI0.out))|exact HB.out)));(case side2=>exact HSz4_0.2);rintro e w' ⟨rfl,⟨nd,rfl⟩⟩;(try first|exact ⟨rfl,_,World.drewN_drewN _ _ _⟩|exact ⟨rfl,_,Eq.trans (World.drewN_drewN _ _ _) (congrArg (World.drewN _) (Nat.add_assoc _ _ _))⟩)));try go_wp2_with (first|(go_at_call 128;(with_reducible refine (impl_GetText.calls k _ _ s0_0 s0_1 t287 t288 t289 _ ?side1 ?side2 A2.out).mono ?_);(case side1=>exact Kd.C_below HSz4_0.1 (by repeat (first|(with_reducible first|exact HB.out|apply below_alloc|apply pw_below_drewN|apply below_drew1|refine below_set ?_ (IsS130.ge HI0.out))|exact HB.out)));(case side2=>exact HSz4_0.2);rintro e w' ⟨rfl,⟨nd,rfl⟩⟩;(try first|exact ⟨rfl,_,World.drewN_drewN _ _ _⟩|exact ⟨rfl,_,Eq.trans (World.drewN_drewN _ _ _) (congrArg (World.drewN _) (Nat.add_assoc _ _ _))⟩))))
  go_ret
  exact ⟨rz,by repeat (first|(with_reducible first|exact HI0.out|apply IsS130.alloc|apply IsS130.drewN|apply IsS130.drew|apply IsS130.set_1|apply IsS130.set_2)|exact HI0.out),by repeat (first|(with_reducible first|exact HB.out|apply below_alloc|apply pw_below_drewN|apply below_drew1|refine below_set ?_ (IsS130.ge HI0.out))|exact HB.out),by repeat (first|(with_reducible first|exact HK.out|apply KeepBut.set_|apply keep_drewN|apply keep_drew|apply keep_alloc)|exact HK.out)⟩
 ·replace c3:=Bool.eq_false_iff.mpr c3
  subst c3
  replace H:=(if_neg (show ¬ (false=true) by decide)).symm.trans H
  by_cases c5:t289=true
  ·subst c5
   rw [if_pos rfl] at H
   simp only [Option.some.injEq,Prod.mk.injEq] at H
   obtain ⟨rfl,rfl,rfl⟩:=H
   obtain ⟨ASz6_0,cSz6_0,HGz6,hgz6,HSz6_0⟩:=HI0.out
   have hcz6_0:=cellS130_0 HGz6
   have hcz6_1:=cellS130_1 HGz6
   have hcz6_2:=cellS130_2 HGz6
   have hfz6_1:=blk_frozen HGz6 1
   have hfz6_2:=blk_frozen HGz6 2
   clear HGz6 hgz6
   go_enter Try.func111,Try.ntmps111
   go_wp2_with (first|(go_at_call 128;(with_reducible refine (impl_GetText.calls k _ _ s0_0 s0_1 t287 t288 true _ ?side1 ?side2 A2.out).mono ?_);(case side1=>exact Kd.C_below HSz6_0.1 (by repeat (first|(with_reducible first|exact HB.out|apply below_alloc|apply pw_below_drewN|apply below_drew1|refine below_set ?_ (IsS130.ge HI0.out))|exact HB.out)));(case side2=>exact HSz6_0.2);rintro e w' ⟨rfl,⟨nd,rfl⟩⟩;(try first|exact ⟨rfl,_,World.drewN_drewN _ _ _⟩|exact ⟨rfl,_,Eq.trans (World.drewN_drewN _ _ _) (congrArg (World.drewN _) (Nat.add_assoc _ _ _))⟩)))
   repeat (go_quiet (first|(go_at_call 128;(with_reducible refine (impl_GetText.calls k _ _ s0_0 s0_1 t287 t288 true _ ?side1 ?side2 A2.out).mono ?_);(case side1=>exact Kd.C_below HSz6_0.1 (by repeat (first|(with_reducible first|exact HB.out|apply below_alloc|apply pw_below_drewN|apply below_drew1|refine below_set ?_ (IsS130.ge HI0.out))|exact HB.out)));(case side2=>exact HSz6_0.2);rintro e w' ⟨rfl,⟨nd,rfl⟩⟩;(try first|exact ⟨rfl,_,World.drewN_drewN _ _ _⟩|exact ⟨rfl,_,Eq.trans (World.drewN_drewN _ _ _) (congrArg (World.drewN _) (Nat.add_assoc _ _ _))⟩)));try go_wp2_with (first|(go_at_call 128;(with_reducible refine (impl_GetText.calls k _ _ s0_0 s0_1 t287 t288 true _ ?side1 ?side2 A2.out).mono ?_);(case side1=>exact Kd.C_below HSz6_0.1 (by repeat (first|(with_reducible first|exact HB.out|apply below_alloc|apply pw_below_drewN|apply below_drew1|refine below_set ?_ (IsS130.ge HI0.out))|exact HB.out)));(case side2=>exact HSz6_0.2);rintro e w' ⟨rfl,⟨nd,rfl⟩⟩;(try first|exact ⟨rfl,_,World.drewN_drewN _ _ _⟩|exact ⟨rfl,_,Eq.trans (World.drewN_drewN _ _ _) (congrArg (World.drewN _) (Nat.add_assoc _ _ _))⟩))))
   go_ret
   exact ⟨rz,by repeat (first|(with_reducible first|exact HI0.out|apply IsS130.alloc|apply IsS130.drewN|apply IsS130.drew|apply IsS130.set_1|apply IsS130.set_2)|exact HI0.out),by repeat (first|(with_reducible first|exact HB.out|apply below_alloc|apply pw_below_drewN|apply below_drew1|refine below_set ?_ (IsS130.ge HI0.out))|exact HB.out),by repeat (first|(with_reducible first|exact HK.out|apply KeepBut.set_|apply keep_drewN|apply keep_drew|apply keep_alloc)|exact HK.out)⟩
  ·replace c5:=Bool.eq_false_iff.mpr c5
   subst c5
   replace H:=(if_neg (show ¬ (false=true) by decide)).symm.trans H
   simp only [Option.some.injEq,Prod.mk.injEq] at H
   obtain ⟨rfl,rfl,rfl⟩:=H
   obtain ⟨ASz7_0,cSz7_0,HGz7,hgz7,HSz7_0⟩:=HI0.out
   have hcz7_0:=cellS130_0 HGz7
   have hcz7_1:=cellS130_1 HGz7
   have hcz7_2:=cellS130_2 HGz7
   have hfz7_1:=blk_frozen HGz7 1
   have hfz7_2:=blk_frozen HGz7 2
   clear HGz7 hgz7
   go_enter Try.func111,Try.ntmps111
   go_wp2_with (first|(go_at_call 128;(with_reducible refine (impl_GetText.calls k _ _ s0_0 s0_1 t287 t288 false _ ?side1 ?side2 A2.out).mono ?_);(case side1=>exact Kd.C_below HSz7_0.1 (by repeat (first|(with_reducible first|exact HB.out|apply below_alloc|apply pw_below_drewN|apply below_drew1|refine below_set ?_ (IsS130.ge HI0.out))|exact HB.out)));(case side2=>exact HSz7_0.2);rintro e w' ⟨rfl,⟨nd,rfl⟩⟩;(try first|exact ⟨rfl,_,World.drewN_drewN _ _ _⟩|exact ⟨rfl,_,Eq.trans (World.drewN_drewN _ _ _) (congrArg (World.drewN _) (Nat.add_assoc _ _ _))⟩)))
   repeat (go_quiet (first|(go_at_call 128;(with_reducible refine (impl_GetText.calls k _ _ s0_0 s0_1 t287 t288 false _ ?side1 ?side2 A2.out).mono ?_);(case side1=>exact Kd.C_below HSz7_0.1 (by repeat (first|(with_reducible first|exact HB.out|apply below_alloc|apply pw_below_drewN|apply below_drew1|refine below_set ?_ (IsS130.ge HI0.out))|exact HB.out)));(case side2=>exact HSz7_0.2);rintro e w' ⟨rfl,⟨nd,rfl⟩⟩;(try first|exact ⟨rfl,_,World.drewN_drewN _ _ _⟩|exact ⟨rfl,_,Eq.trans (World.drewN_drewN _ _ _) (congrArg (World.drewN _) (Nat.add_assoc _ _ _))⟩)));try go_wp2_with (first|(go_at_call 128;(with_reducible refine (impl_GetText.calls k _ _ s0_0 s0_1 t287 t288 false _ ?side1 ?side2 A2.out).mono ?_);(case side1=>exact Kd.C_below HSz7_0.1 (by repeat (first|(with_reducible first|exact HB.out|apply below_alloc|apply pw_below_drewN|apply below_drew1|refine below_set ?_ (IsS130.ge HI0.out))|exact HB.out)));(case side2=>exact HSz7_0.2);rintro e w' ⟨rfl,⟨nd,rfl⟩⟩;(try first|exact ⟨rfl,_,World.drewN_drewN _ _ _⟩|exact ⟨rfl,_,Eq.trans (World.drewN_drewN _ _ _) (congrArg (World.drewN _) (Nat.add_assoc _ _ _))⟩))))
   go_ret
   exact ⟨rz,by repeat (first|(with_reducible first|exact HI0.out|apply IsS130.alloc|apply IsS130.drewN|apply IsS130.drew|apply IsS130.set_1|apply IsS130.set_2)|exact HI0.out),by repeat (first|(with_reducible first|exact HB.out|apply below_alloc|apply pw_below_drewN|apply below_drew1|refine below_set ?_ (IsS130.ge HI0.out))|exact HB.out),by repeat (first|(with_reducible first|exact HK.out|apply KeepBut.set_|apply keep_drewN|apply keep_drew|apply keep_alloc)|exact HK.out)⟩
def impl_GetFile.f (k:Nat) (l0:List Int):Option (Int × Int × Int × Bool × List Int × Bool):=
 (impl_reader_stamp.f k l0 0 false).bind fun s=>((impl_reader_text.f k l0 s.2.2.2.2.1 s.2.2.2.2.2).bind fun t=>(if (bytesOf t.1).length≤9223372036854775807 then ((impl_PutFile.f k s.1 s.2.1 s.2.2.1 s.2.2.2.1 (bytesOf t.1)).bind fun p=>(if t.2.2=true then (some (0,0,0,false,([]:List Int),false)) else (if (p.length:Int)=0 then (some (0,0,0,false,([]:List Int),false)) else (if (strOfNums p).toList=(strOfNums l0).toList then (some (s.1,s.2.1,s.2.2.1,s.2.2.2.1,bytesOf t.1,true)) else (some (0,0,0,false,([]:List Int),false)))))) else none))
set_option maxHeartbeats 8000000 in
set_option maxRecDepth 100000 in
theorem impl_GetFile.calls (k:Nat) (A0:Option Addr) (c0:Nat) (l0:List Int) (r1:Int) (r2:Int) (r3:Int) (r4:Bool) (r5:List Int) (r6:Bool) (w:World) (hr0:Kd.C (Kd.int .u8) w A0 l0.length l0) (hc0:l0.length≤c0) (h:impl_GetFile.f k l0=some (r1,r2,r3,r4,r5,r6)) :
  Calls Try.prog 55 #[.slice A0 l0.length c0] w fun e w'=>∃ (A:Option Addr) (c:Nat),e = .returned (.tuple #[.agg #[.int .i64 r1,.int .i64 r2,.int .i64 r3,.bool r4,.slice A r5.length c],.bool r6])∧Aid.ConvRow w' w.heap.size 5 A c r5∧Below w.heap.size w w':=by
 have hu61:=Try.underlying61
 have hu59:=Try.underlying59
 have hu130:=Try.underlying130
 have HR0:=Aside0.mk hr0
 have HC0:=Aside0.mk hc0
 clear hr0 hc0
 have HB:=Aside0.mk (Below.refl w.heap.size w)
 simp only [impl_GetFile.f] at h
 obtain ⟨⟨t1,t2,t3,t4,t5,t6⟩,A20,h⟩:=Option.bind_eq_some_iff.mp h
 dsimp only at h
 obtain ⟨⟨s,t7,t8⟩,A30,h⟩:=Option.bind_eq_some_iff.mp h
 dsimp only at h
 by_cases hs0:(bytesOf s).length≤9223372036854775807
 · rw [if_pos hs0] at h
   obtain ⟨p,A40,h⟩:=Option.bind_eq_some_iff.mp h
   have HS0:=Aside0.mk hs0
   have A2:=Aside0.mk A20
   have A3:=Aside0.mk A30
   have A4:=Aside0.mk A40
   have H:=Aside0.mk h
   clear h hs0 A20 A30 A40
   go_enter Try.func55,Try.ntmps55
   go_upto_region 3 with (first|((with_reducible refine gate_dst (N:=2) rfl ?_);refine box_event ?hg (N:=2) ?hd (cs:=#[.int .i64 0,.int .i64 0,.int .i64 0,.bool false,.slice none 0 0]) (t:=61) ?hr ?_;(case hd=>rfl);(case hg=>rfl);(case hr=>first|(go_simp;done)|(go_simp;rfl));intro g2 hg w2 hbox hb;have n0_:=bs hb;have BK2:=Aside0.mk hbox;have GE2:=Aside0.mk ((by rw [hg];exact (below_size be):w.heap.size≤g2));clear HB;have HB:=n0_;clear n0_ hb hbox hg)|((with_reducible refine gate_dst (N:=9) rfl ?_);refine box_event ?hg (N:=9) ?hd (cs:=#[.slice A0 l0.length c0,.int .i64 0,.bool false]) (t:=130) ?hr ?_;(case hd=>rfl);(case hg=>rfl);(case hr=>first|(go_simp;done)|(go_simp;rfl));intro g4 hg w4 hbox hb;have n0_:=bs hb;have n1_:=Aside0.mk (blk_below BK2.out hb);have BK4:=Aside0.mk hbox;have GE4:=Aside0.mk ((by rw [hg];exact (below_size be):w.heap.size≤g4));clear HB BK2;have HB:=n0_;have BK2:=n1_;clear n0_ n1_ hb hbox hg)|((with_reducible refine gate_dst (N:=5) rfl ?_);refine box_event ?hg (N:=5) ?hd (cs:=#[.int .i64 0,.int .i64 0,.int .i64 0,.bool false,.slice none 0 0]) (t:=61) ?hr ?_;(case hd=>rfl);(case hg=>rfl);(case hr=>first|(go_simp;done)|(go_simp;rfl));intro g5 hg w5 hbox hb;have n0_:=bs hb;have NB25:=Aside0.mk (show g2 ≠ g5 by rw [hg];exact Nat.ne_of_lt (blk_lt BK2.out));have n1_:=Aside0.mk (blk_below BK2.out hb);have n2_:=Aside0.mk (blk_below BK4.out hb);have BK5:=Aside0.mk hbox;have GE5:=Aside0.mk ((by rw [hg];exact (below_size be):w.heap.size≤g5));clear HB BK2 BK4;have HB:=n0_;have BK2:=n1_;have BK4:=n2_;clear n0_ n1_ n2_ hb hbox hg))
   have NB24:=Aside0.mk (blk_ne BK2.out BK4.out (by decide))
   have NB45:=Aside0.mk (blk_ne BK4.out BK5.out (by decide))
   have NB54:=Aside0.mk (Ne.symm NB45.out)
   have HI:=Aside0.mk (show IsS130 w w5 g4 l0 0 false from ⟨A0,c0,BK4.out,GE4.out,HR0.out,HC0.out⟩)
   clear BK4
   go_upto_region 4 with (go_at_call 110;(with_reducible refine (impl_reader_stamp.calls k g4 l0 0 false t1 t2 t3 t4 t5 t6 w _ ?side1 ?side2 A2.out).mono ?_);(case side1=>exact HI.out);(case side2=>exact HB.out);rintro e w6 ⟨rfl,hi,hb,hk⟩;have n0_:=Aside0.mk (KeepBut.blk hk BK2.out NB24.out (by simp));have n1_:=Aside0.mk (KeepBut.blk hk BK5.out NB54.out (by simp));clear BK2 BK5 HI HB;have BK2:=n0_;have BK5:=n1_;have HI:=Aside0.mk hi;have HB:=Aside0.mk hb;clear n0_ n1_ hi hb hk;have hcz5_0:w6.cell? ⟨g5,0,none⟩=some (.int .i64 0):=(blk_cell BK5.out 0).trans rfl;have hcz5f_0:=blk_frozen BK5.out 0;have hcz5_1:w6.cell? ⟨g5,1,none⟩=some (.int .i64 0):=(blk_cell BK5.out 1).trans rfl;have hcz5f_1:=blk_frozen BK5.out 1;have hcz5_2:w6.cell? ⟨g5,2,none⟩=some (.int .i64 0):=(blk_cell BK5.out 2).trans rfl;have hcz5f_2:=blk_frozen BK5.out 2;have hcz5_3:w6.cell? ⟨g5,3,none⟩=some (.bool false):=(blk_cell BK5.out 3).trans rfl;have hcz5f_3:=blk_frozen BK5.out 3;have hcz5_4:w6.cell? ⟨g5,4,none⟩=some (.slice none 0 0):=(blk_cell BK5.out 4).trans rfl;have hcz5f_4:=blk_frozen BK5.out 4)
   clear hcz5_0 hcz5f_0 hcz5_1 hcz5f_1 hcz5_2 hcz5f_2 hcz5_3 hcz5f_3 hcz5_4 hcz5f_4
   have n0_:Aside0 (((((w6.setCell ⟨g5,0,none⟩ (.int .i64 t1)).setCell ⟨g5,1,none⟩ (.int .i64 t2)).setCell ⟨g5,2,none⟩ (.int .i64 t3)).setCell ⟨g5,3,none⟩ (.bool t4)).heap[g5]?=some (.cells #[.int .i64 t1,.int .i64 t2,.int .i64 t3,.bool t4,.slice none 0 0] 61 (0,0))):=⟨blk_put (blk_put (blk_put (blk_put BK5.out 0 _ rfl) 1 _ rfl) 2 _ rfl) 3 _ rfl⟩
   have n1_:Aside0 (((((w6.setCell ⟨g5,0,none⟩ (.int .i64 t1)).setCell ⟨g5,1,none⟩ (.int .i64 t2)).setCell ⟨g5,2,none⟩ (.int .i64 t3)).setCell ⟨g5,3,none⟩ (.bool t4)).heap[g2]?=some (.cells #[.int .i64 0,.int .i64 0,.int .i64 0,.bool false,.slice none 0 0] 61 (0,0))):=⟨blk_far (blk_far (blk_far (blk_far BK2.out NB25.out _) NB25.out _) NB25.out _) NB25.out _⟩
   have n2_:Aside0 (IsS130 w ((((w6.setCell ⟨g5,0,none⟩ (.int .i64 t1)).setCell ⟨g5,1,none⟩ (.int .i64 t2)).setCell ⟨g5,2,none⟩ (.int .i64 t3)).setCell ⟨g5,3,none⟩ (.bool t4)) g4 l0 t5 t6):=⟨IsS130.far (IsS130.far (IsS130.far (IsS130.far HI.out NB45.out _) NB45.out _) NB45.out _) NB45.out _⟩
   have n3_:Aside0 (Below w.heap.size w ((((w6.setCell ⟨g5,0,none⟩ (.int .i64 t1)).setCell ⟨g5,1,none⟩ (.int .i64 t2)).setCell ⟨g5,2,none⟩ (.int .i64 t3)).setCell ⟨g5,3,none⟩ (.bool t4))):=⟨below_set (below_set (below_set (below_set HB.out GE5.out) GE5.out) GE5.out) GE5.out⟩
   clear BK5 BK2 HI HB
   generalize ((((w6.setCell ⟨g5,0,none⟩ (.int .i64 t1)).setCell ⟨g5,1,none⟩ (.int .i64 t2)).setCell ⟨g5,2,none⟩ (.int .i64 t3)).setCell ⟨g5,3,none⟩ (.bool t4))=w7 at n0_ n1_ n2_ n3_ ⊢
   have BK5:=n0_;have BK2:=n1_;have HI:=n2_;have HB:=n3_;clear n0_ n1_ n2_ n3_
   go_upto_region 5 with (first|(go_at_call 111;(with_reducible refine (impl_reader_text.calls k g4 l0 t5 t6 s t7 t8 w _ ?side1 ?side2 A3.out).mono ?_);(case side1=>exact HI.out);(case side2=>exact HB.out);rintro e w8 ⟨rfl,hi,hb,hk⟩;have n0_:=Aside0.mk (KeepBut.blk hk BK2.out NB24.out (by simp));have n1_:=Aside0.mk (KeepBut.blk hk BK5.out NB54.out (by simp));clear BK2 BK5 HI HB;have BK2:=n0_;have BK5:=n1_;have HI:=Aside0.mk hi;have HB:=Aside0.mk hb;clear n0_ n1_ hi hb hk)|((with_reducible refine gate_dst (N:=19) rfl ?_);refine Aid.conv_str_at rfl (.tmp 18) 54 9 5 rfl Try.underlying54 Try.underlying9 Try.underlying5 s rfl ?_;intro gd cd w9 cur hg hcv hcells hcap hsz hb;have n0_:=Aside0.mk (blk_below BK2.out hb);have n1_:=Aside0.mk (blk_below BK5.out hb);have n2_:=Aside0.mk (IsS130.below HI.out hb);have n3_:=bs hb;have ND5:=Aside0.mk (show gd ≠ g5 by rw [hg];exact Nat.ne_of_gt (blk_lt BK5.out));have ND2:=Aside0.mk (show gd ≠ g2 by rw [hg];exact Nat.ne_of_gt (blk_lt BK2.out));have GD:=Aside0.mk (show w.heap.size≤gd by rw [hg];exact HB.out.size);have HSZ:=Aside0.mk hsz;clear BK2 BK5 HI HB;have BK2:=n0_;have BK5:=n1_;have HI:=n2_;have HB:=n3_;have HV:=Aside0.mk hcv;have HCE:=Aside0.mk hcells;have HCA:=Aside0.mk hcap;clear n0_ n1_ n2_ n3_ hb hg hcv hcells hcap hsz;have hcz5_0:w9.cell? ⟨g5,0,none⟩=some (.int .i64 t1):=(blk_cell BK5.out 0).trans rfl;have hcz5f_0:=blk_frozen BK5.out 0;have hcz5_1:w9.cell? ⟨g5,1,none⟩=some (.int .i64 t2):=(blk_cell BK5.out 1).trans rfl;have hcz5f_1:=blk_frozen BK5.out 1;have hcz5_2:w9.cell? ⟨g5,2,none⟩=some (.int .i64 t3):=(blk_cell BK5.out 2).trans rfl;have hcz5f_2:=blk_frozen BK5.out 2;have hcz5_3:w9.cell? ⟨g5,3,none⟩=some (.bool t4):=(blk_cell BK5.out 3).trans rfl;have hcz5f_3:=blk_frozen BK5.out 3;have hcz5_4:w9.cell? ⟨g5,4,none⟩=some (.slice none 0 0):=(blk_cell BK5.out 4).trans rfl;have hcz5f_4:=blk_frozen BK5.out 4))
   clear hcz5_0 hcz5f_0 hcz5_1 hcz5f_1 hcz5_2 hcz5f_2 hcz5_3 hcz5f_3 hcz5_4 hcz5f_4
   have n0_:Aside0 ((w9.setCell ⟨g5,4,none⟩ (.slice (some ⟨gd,0,none⟩) (bytesOf s).length cd)).heap[g5]?=some (.cells #[.int .i64 t1,.int .i64 t2,.int .i64 t3,.bool t4,.slice (some ⟨gd,0,none⟩) (bytesOf s).length cd] 61 (0,0))):=⟨blk_put BK5.out 4 _ rfl⟩
   have n1_:Aside0 ((w9.setCell ⟨g5,4,none⟩ (.slice (some ⟨gd,0,none⟩) (bytesOf s).length cd)).heap[g2]?=some (.cells #[.int .i64 0,.int .i64 0,.int .i64 0,.bool false,.slice none 0 0] 61 (0,0))):=⟨blk_far BK2.out NB25.out _⟩
   have n2_:Aside0 (IsS130 w (w9.setCell ⟨g5,4,none⟩ (.slice (some ⟨gd,0,none⟩) (bytesOf s).length cd)) g4 l0 t7 t8):=⟨IsS130.far HI.out NB45.out _⟩
   have n3_:Aside0 (Below w.heap.size w (w9.setCell ⟨g5,4,none⟩ (.slice (some ⟨gd,0,none⟩) (bytesOf s).length cd))):=⟨below_set HB.out GE5.out⟩
   have n4_:Aside0 (Aid.Conv (w9.setCell ⟨g5,4,none⟩ (.slice (some ⟨gd,0,none⟩) (bytesOf s).length cd)) gd 5 cur):=⟨(Below.heap_setCell w9 _ _ gd ND5.out).trans HV.out⟩
   clear BK5 BK2 HI HB HV
   generalize (w9.setCell ⟨g5,4,none⟩ (.slice (some ⟨gd,0,none⟩) (bytesOf s).length cd))=w10 at n0_ n1_ n2_ n3_ n4_ ⊢
   have BK5:=n0_;have BK2:=n1_;have HI:=n2_;have HB:=n3_;have HV:=n4_;have HD:=Aside0.mk (Aid.conv_C HV.out (bytesOf s) HS0.out HCE.out);clear n0_ n1_ n2_ n3_ n4_
   have hcz5_0:w10.cell? ⟨g5,0,none⟩=some (.int .i64 t1):=(blk_cell BK5.out 0).trans rfl;have hcz5f_0:=blk_frozen BK5.out 0;have hcz5_1:w10.cell? ⟨g5,1,none⟩=some (.int .i64 t2):=(blk_cell BK5.out 1).trans rfl;have hcz5f_1:=blk_frozen BK5.out 1;have hcz5_2:w10.cell? ⟨g5,2,none⟩=some (.int .i64 t3):=(blk_cell BK5.out 2).trans rfl;have hcz5f_2:=blk_frozen BK5.out 2;have hcz5_3:w10.cell? ⟨g5,3,none⟩=some (.bool t4):=(blk_cell BK5.out 3).trans rfl;have hcz5f_3:=blk_frozen BK5.out 3;have hcz5_4:w10.cell? ⟨g5,4,none⟩=some (.slice (some ⟨gd,0,none⟩) (bytesOf s).length cd):=(blk_cell BK5.out 4).trans rfl;have hcz5f_4:=blk_frozen BK5.out 4
   go_upto_region 6 with (go_at_call 37;(with_reducible refine (impl_PutFile.calls k t1 t2 t3 t4 _ _ (bytesOf s) p _ ?side1 ?side2 A4.out).mono ?_);(case side1=>exact sC HD);(case side2=>exact HCA.out);rintro e w11 ⟨v,rfl,ho,hb⟩;have n0_:=Aside0.mk (blk_below (bk BK2) hb);have n1_:=Aside0.mk (blk_below (bk BK5) hb);have n2_:=Aside0.mk (IsS130.below HI.out hb);have n3_:=bs hb;have n4_:=Aside0.mk (show Aid.Conv w11 gd 5 cur from blk_below (bk HV) hb);clear BK2 BK5 HI HB HD HV;have BK2:=n0_;have BK5:=n1_;have HI:=n2_;have HB:=n3_;have HV:=n4_;have HO:=Aside0.mk ho;clear n0_ n1_ n2_ n3_ n4_ hb ho)
   clear hcz5_0 hcz5f_0 hcz5_1 hcz5f_1 hcz5_2 hcz5f_2 hcz5_3 hcz5f_3 hcz5_4 hcz5f_4
   obtain ⟨Ap,cp,ep⟩:=Kd.R_slice HO.out
   subst ep
   obtain ⟨AS,cS,HG,hgS,HSr,hSc⟩:=HI.out
   have hcs_2:=cellS130_2 HG
   have hfs_2:=blk_frozen HG 2
   clear HG hgS HSr hSc
   have hcv1:=Kd.C_string (P:=Try.prog) (A:=Ap) (c:=cp) Try.underlying54 Try.underlying5 Try.underlying9 (Kd.R_reads' HO.out).2.2
   have hcv0:=Kd.C_string (P:=Try.prog) (A:=A0) (c:=c0) Try.underlying54 Try.underlying5 Try.underlying9 (Kd.C_below HR0.out HB.out)
   have hcz5_0:w11.cell? ⟨g5,0,none⟩=some (.int .i64 t1):=(blk_cell BK5.out 0).trans rfl;have hcz5f_0:=blk_frozen BK5.out 0;have hcz5_1:w11.cell? ⟨g5,1,none⟩=some (.int .i64 t2):=(blk_cell BK5.out 1).trans rfl;have hcz5f_1:=blk_frozen BK5.out 1;have hcz5_2:w11.cell? ⟨g5,2,none⟩=some (.int .i64 t3):=(blk_cell BK5.out 2).trans rfl;have hcz5f_2:=blk_frozen BK5.out 2;have hcz5_3:w11.cell? ⟨g5,3,none⟩=some (.bool t4):=(blk_cell BK5.out 3).trans rfl;have hcz5f_3:=blk_frozen BK5.out 3;have hcz5_4:w11.cell? ⟨g5,4,none⟩=some (.slice (some ⟨gd,0,none⟩) (bytesOf s).length cd):=(blk_cell BK5.out 4).trans rfl;have hcz5f_4:=blk_frozen BK5.out 4
   have hcz2_0:w11.cell? ⟨g2,0,none⟩=some (.int .i64 0):=(blk_cell BK2.out 0).trans rfl;have hcz2f_0:=blk_frozen BK2.out 0;have hcz2_1:w11.cell? ⟨g2,1,none⟩=some (.int .i64 0):=(blk_cell BK2.out 1).trans rfl;have hcz2f_1:=blk_frozen BK2.out 1;have hcz2_2:w11.cell? ⟨g2,2,none⟩=some (.int .i64 0):=(blk_cell BK2.out 2).trans rfl;have hcz2f_2:=blk_frozen BK2.out 2;have hcz2_3:w11.cell? ⟨g2,3,none⟩=some (.bool false):=(blk_cell BK2.out 3).trans rfl;have hcz2f_3:=blk_frozen BK2.out 3;have hcz2_4:w11.cell? ⟨g2,4,none⟩=some (.slice none 0 0):=(blk_cell BK2.out 4).trans rfl;have hcz2f_4:=blk_frozen BK2.out 4
   have h:=H.out
   clear H
   cases t8 with
   | true=>
     rw [if_pos rfl] at h
     simp only [Option.some.injEq,Prod.mk.injEq] at h
     obtain ⟨rfl,rfl,rfl,rfl,rfl,rfl⟩:=h
     go_wp2
     refine bodyPost_ret (results_ct rfl _ _ g2 61 #[.int .i64 0,.int .i64 0,.int .i64 0,.bool false,.slice none 0 0] (0,0) _ rfl (blk_put (blk_put (blk_put (blk_put (blk_put BK2.out 0 _ rfl) 1 _ rfl) 2 _ rfl) 3 _ rfl) 4 _ rfl) Try.underlying61 rfl (by kernel_rfl)) rfl ?_
     exact ⟨none,0,rfl,⟨Nat.le_refl _,Or.inl ⟨rfl,rfl,rfl⟩⟩,(below_set (below_set (below_set (below_set (below_set HB.out GE2.out) GE2.out) GE2.out) GE2.out) GE2.out)⟩
   | false=>
     rw [if_neg (by decide)] at h
     by_cases c2:(p.length:Int)=0
     · rw [if_pos c2] at h
       have c2b0:((p.length:Int) == 0)=true:=beq_iff_eq.mpr c2
       clear c2
       simp only [Option.some.injEq,Prod.mk.injEq] at h
       obtain ⟨rfl,rfl,rfl,rfl,rfl,rfl⟩:=h
       go_wp2
       refine bodyPost_ret (results_ct rfl _ _ g2 61 #[.int .i64 0,.int .i64 0,.int .i64 0,.bool false,.slice none 0 0] (0,0) _ rfl (blk_put (blk_put (blk_put (blk_put (blk_put BK2.out 0 _ rfl) 1 _ rfl) 2 _ rfl) 3 _ rfl) 4 _ rfl) Try.underlying61 rfl (by kernel_rfl)) rfl ?_
       exact ⟨none,0,rfl,⟨Nat.le_refl _,Or.inl ⟨rfl,rfl,rfl⟩⟩,(below_set (below_set (below_set (below_set (below_set HB.out GE2.out) GE2.out) GE2.out) GE2.out) GE2.out)⟩
     · rw [if_neg c2] at h
       have c2b0:((p.length:Int) == 0)=false:=beq_eq_false_iff_ne.mpr c2
       clear c2
       by_cases c3:(strOfNums p).toList=(strOfNums l0).toList
       · rw [if_pos c3] at h
         have c3b0:((strOfNums p).toList == (strOfNums l0).toList)=true:=beq_iff_eq.mpr c3
         have c3b1:((strOfNums p).toList != (strOfNums l0).toList)=false:=bne_eq_false_iff_eq.mpr c3
         clear c3
         simp only [Option.some.injEq,Prod.mk.injEq] at h
         obtain ⟨rfl,rfl,rfl,rfl,rfl,rfl⟩:=h
         go_wp2
         refine bodyPost_ret (results_ct rfl _ _ g2 61 #[.int .i64 t1,.int .i64 t2,.int .i64 t3,.bool t4,.slice (some ⟨gd,0,none⟩) (bytesOf s).length cd] (0,0) _ rfl (blk_put (blk_put (blk_put (blk_put (blk_put BK2.out 0 _ rfl) 1 _ rfl) 2 _ rfl) 3 _ rfl) 4 _ rfl) Try.underlying61 rfl (by kernel_rfl)) rfl ?_
         exact ⟨_,_,rfl,⟨HCA.out,Or.inr ⟨gd,cur,rfl,GD.out,(Aid.conv_set (Aid.conv_set (Aid.conv_set (Aid.conv_set (Aid.conv_set HV.out ND2.out _) ND2.out _) ND2.out _) ND2.out _) ND2.out _),HSZ.out,HS0.out,HCE.out⟩⟩,(below_set (below_set (below_set (below_set (below_set HB.out GE2.out) GE2.out) GE2.out) GE2.out) GE2.out)⟩
       · rw [if_neg c3] at h
         have c3b0:((strOfNums p).toList == (strOfNums l0).toList)=false:=beq_eq_false_iff_ne.mpr c3
         have c3b1:((strOfNums p).toList != (strOfNums l0).toList)=true:=bne_iff_ne.mpr c3
         clear c3
         simp only [Option.some.injEq,Prod.mk.injEq] at h
         obtain ⟨rfl,rfl,rfl,rfl,rfl,rfl⟩:=h
         go_wp2
         refine bodyPost_ret (results_ct rfl _ _ g2 61 #[.int .i64 0,.int .i64 0,.int .i64 0,.bool false,.slice none 0 0] (0,0) _ rfl (blk_put (blk_put (blk_put (blk_put (blk_put BK2.out 0 _ rfl) 1 _ rfl) 2 _ rfl) 3 _ rfl) 4 _ rfl) Try.underlying61 rfl (by kernel_rfl)) rfl ?_
         exact ⟨none,0,rfl,⟨Nat.le_refl _,Or.inl ⟨rfl,rfl,rfl⟩⟩,(below_set (below_set (below_set (below_set (below_set HB.out GE2.out) GE2.out) GE2.out) GE2.out) GE2.out)⟩
 · rw [if_neg hs0] at h
   cases h
end Go.Proofs.Ytbhllgifciaepaa.PFnExactGetFile
