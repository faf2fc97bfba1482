/- Lemmas and contracts that the law DumpRows leans on (packed by a program of this session out of its texts and the print's words). -/
import Derived.Test.YtcgbgifbajdhpaaGreatDoorZE3
import Derived.Test.YtcgbgifbajdhpaaGreatDoorZE7
import Derived.Test.YtcgbgifbajdhpaaGreatDoorZE6
import Derived.Deep.DeepMust
import Derived.BigRegion
import Derived.Test.YtcgbgifbajdhpaaGreatDoorZE4
import Derived.WalkSpells
import Derived.ScopeJumps
import Derived.WalkMore
set_option linter.unusedVariables false
set_option linter.unusedSimpArgs false
set_option maxHeartbeats 8000000
set_option maxRecDepth 100000
namespace Go.Proofs.YtcgbgifbajdhpaaGreatDoor.PA
open Go.RowKit Go.Proofs.YtcgbgifbajdhpaaGreatDoorW.au Go.Proofs.YtcgbgifbajdhpaaGreatDoorW.aI Go.Proofs.YtcgbgifbajdhpaaGreatDoorW.aJ
attribute [local go_sem] eG eH gq gu eT eU fU fV   -- for this text's walks alone
attribute [local go_sem high] Pm
def bH.l0:Nat→List (bN)→List (bN)→Int→Int→Option (Bool)
 | 0,_,_,_,_=>none
 | k+1,x0,x1,x12,x13=>if x13<x12 then (if 0≤x13 then (if x13<(x0.length:Int) then (if x13<(x1.length:Int) then (if (!(((aR x0 x13).f0)==((aR x1 x13).f0))||(!(((aR x0 x13).f1)==((aR x1 x13).f1))))=true then (some false) else (bH.l0 k x0 x1 x12 (wrap64 (x13+1)))) else (none)) else (none)) else (none)) else (some true)
def bH.f (k:Nat) (l0:List (bN)) (l1:List (bN)):Option (Bool):=if (l0.length:Int)=(l1.length:Int) then (bH.l0 k l0 l1 (l0.length:Int) 0) else (some false)
theorem bH.fA:∀ k,(∀ y0 y1 y2 y3,bV (bH.l0 k y0 y1 y2 y3) (bH.l0 (k+1) y0 y1 y2 y3))
 | 0=>fun _ _ _ _ r h=>by simp[bH.l0] at h
 | k+1=>by
   have ih0:=bH.fA k
   ·intro y0 y1 y2 y3
    unfold bH.l0
    repeat' first
    | (with_reducible exact ih0 _ _ _ _)
    | (with_reducible exact bV.refl _)
    | (with_reducible exact bV.none _)
    | (with_reducible refine bV.ite ?_ ?_)
    | (with_reducible refine bV.bind ?_ (fun _=>?_))
    | exact ih0 _ _ _ _
    | exact bV.none _
    | refine bV.ite ?_ ?_
    | refine bV.bind ?_ (fun _=>?_)
theorem bH.mono:∀ a0 a1 k,bV (bH.f k a0 a1) (bH.f (k+1) a0 a1):=by
 intro a0 a1 k
 have ih0:=bH.fA k
 unfold bH.f
 repeat' first
  | (with_reducible exact ih0 _ _ _ _)
  | (with_reducible exact bV.refl _)
  | (with_reducible exact bV.none _)
  | (with_reducible refine bV.ite ?_ ?_)
  | (with_reducible refine bV.bind ?_ (fun _=>?_))
  | exact ih0 _ _ _ _
  | exact bV.none _
  | refine bV.ite ?_ ?_
  | refine bV.bind ?_ (fun _=>?_)
theorem bH.calls (k:Nat) (A0:Option Addr) (c0:Nat) (l0:List (bN)) (A1:Option Addr) (c1:Nat) (l1:List (bN)) (r:Bool) (w:World) (hr0:Kd.C jg w A0 l0.length l0) (hc0:l0.length≤c0) (hr1:Kd.C jg w A1 l1.length l1) (hc1:l1.length≤c1) (h:bH.f k l0 l1=some r) :
 Calls Tryz.prog 42 #[.slice A0 l0.length c0,.slice A1 l1.length c1] w fun e w'=>e = .returned (.bool r)∧aN w w':=by
 have hu70:=Tryz.underlying70
 have HR0:=ah.mk hr0
 have HC0:=ah.mk hc0
 clear hr0 hc0
 have HR1:=ah.mk hr1
 have HC1:=ah.mk hc1
 clear hr1 hc1
 have H:(if (l0.length:Int)=(l1.length:Int) then (bH.l0 k l0 l1 (l0.length:Int) 0) else (some false))=some r:=h
 clear h
 by_cases c3:(l0.length:Int)=(l1.length:Int)
 ·rw[if_pos c3] at H
  have c3b0:((l0.length:Int)==(l1.length:Int))=true:=beq_iff_eq.mpr c3
  have c3b1:((l0.length:Int) != (l1.length:Int))=false:=bne_eq_false_iff_eq.mpr c3
  have c3b2:(l0.length==l1.length)=true:=by first | simpa using c3 | (simp at c3 ⊢;omega)
  clear c3
  have H':=ah.mk H
  clear H
  go_enter Tryz.func42,Tryz.ntmps42
  go_wp2
  repeat (go_quiet (fail);try go_wp2)
  go_loopg [13] k (fun kq v13 w'=>∃ (x13_1:Int),v13 = .int .i64 x13_1∧ah (bH.l0 kq l0 l1 (l0.length:Int) x13_1=some r)∧ah (kq≤k)∧aN w w')
  case atStart=>exact⟨(0),(by first | rfl | (simp;done)|(simp[*];done)),H',⟨Nat.le_refl _⟩,by repeat (first | exact aN.refl _ | apply aN.step)⟩
  case round=>
   clear H'
   try clear c1
   try clear p2
   try clear c3
   try clear c3b0
   try clear c3b1
   try clear c3b2
   obtain⟨x13_1,rfl,HA,HK1,⟨m1,rfl⟩⟩:=hrel
   cases gk with
   | zero=>exact absurd HA.o (by simp[bH.l0])
   | succ k1=>
     have H:=HA.o
     clear HA
     simp only[bH.l0] at H
     by_cases c4:x13_1<(l0.length:Int)
     ·rw[if_pos c4] at H
      have c4b0:decide (x13_1<(l0.length:Int))=true:=decide_eq_true c4
      clear c4
      by_cases c5:0≤x13_1
      ·rw[if_pos c5] at H
       have c5b0:decide (0≤x13_1)=true:=decide_eq_true c5
       clear c5
       by_cases c6:x13_1<(l0.length:Int)
       ·rw[if_pos c6] at H
        have c6b0:decide (x13_1<(l0.length:Int))=true:=decide_eq_true c6
        clear c6
        by_cases c7:x13_1<(l1.length:Int)
        ·rw[if_pos c7] at H
         have c7b0:decide (x13_1<(l1.length:Int))=true:=decide_eq_true c7
         clear c7
         by_cases c8:(!(((aR l0 x13_1).f0)==((aR l1 x13_1).f0))||(!(((aR l0 x13_1).f1)==((aR l1 x13_1).f1))))=true
         ·rw[if_pos c8] at H
          have c8b0:(!(((aR l0 x13_1).f0)==((aR l1 x13_1).f0))||(!(((aR l0 x13_1).f1)==((aR l1 x13_1).f1))))=true:=c8
          clear c8
          obtain rfl:=Option.some.inj H
          have p587:0≤(x13_1:Int):=of_decide_eq_true (by first|(with_reducible assumption)|assumption)
          have q587:x13_1<(l0.length:Int):=of_decide_eq_true (by first|(with_reducible assumption)|assumption)
          obtain⟨ad587,e587,hx587_0,hx587_1⟩:=gP HR0.o x13_1 p587 q587
          cases e587
          replace p587:=eq_true p587
          replace q587:=eq_true q587
          have p588:0≤(x13_1:Int):=of_decide_eq_true (by first|(with_reducible assumption)|assumption)
          have q588:x13_1<(l1.length:Int):=of_decide_eq_true (by first|(with_reducible assumption)|assumption)
          obtain⟨ad588,e588,hx588_0,hx588_1⟩:=gP HR1.o x13_1 p588 q588
          cases e588
          replace p588:=eq_true p588
          replace q588:=eq_true q588
          go_wp2
          repeat (go_quiet (fail);try go_wp2)
          go_ret
          exact⟨by first | rfl | (simp;done)|(simp[*];done)|(simp;decide +kernel),by repeat (first | exact aN.refl _ | apply aN.step)⟩
         ·rw[if_neg c8] at H
          have c8b0:(!(((aR l0 x13_1).f0)==((aR l1 x13_1).f0))||(!(((aR l0 x13_1).f1)==((aR l1 x13_1).f1))))=false:=by simpa using c8
          clear c8
          have H':=ah.mk H
          clear H
          have p587:0≤(x13_1:Int):=of_decide_eq_true (by first|(with_reducible assumption)|assumption)
          have q587:x13_1<(l0.length:Int):=of_decide_eq_true (by first|(with_reducible assumption)|assumption)
          obtain⟨ad587,e587,hx587_0,hx587_1⟩:=gP HR0.o x13_1 p587 q587
          cases e587
          replace p587:=eq_true p587
          replace q587:=eq_true q587
          have p588:0≤(x13_1:Int):=of_decide_eq_true (by first|(with_reducible assumption)|assumption)
          have q588:x13_1<(l1.length:Int):=of_decide_eq_true (by first|(with_reducible assumption)|assumption)
          obtain⟨ad588,e588,hx588_0,hx588_1⟩:=gP HR1.o x13_1 p588 q588
          cases e588
          replace p588:=eq_true p588
          replace q588:=eq_true q588
          go_wp2
          repeat (go_quiet (fail);try go_wp2)
          go_roundg k1
          case measure=>have:=HK1.o;omega
          case rel=>exact⟨(wrap64 (x13_1+1)),(by first | rfl | (simp;done)|(simp[*];done)),H',⟨by have:=HK1.o;omega⟩,by repeat (first | exact aN.refl _ | apply aN.step)⟩
        ·rw[if_neg c7] at H
         exact absurd H (by simp)
       ·rw[if_neg c6] at H
        exact absurd H (by simp)
      ·rw[if_neg c5] at H
       exact absurd H (by simp)
     ·rw[if_neg c4] at H
      have c4b0:decide (x13_1<(l0.length:Int))=false:=decide_eq_false c4
      clear c4
      obtain rfl:=Option.some.inj H
      go_wp2
      repeat (go_quiet (fail);try go_wp2)
      go_ret
      exact⟨by first | rfl | (simp;done)|(simp[*];done)|(simp;decide +kernel),by repeat (first | exact aN.refl _ | apply aN.step)⟩
 ·rw[if_neg c3] at H
  have c3b0:((l0.length:Int)==(l1.length:Int))=false:=beq_eq_false_iff_ne.mpr c3
  have c3b1:((l0.length:Int) != (l1.length:Int))=true:=bne_iff_ne.mpr c3
  have c3b2:(l0.length==l1.length)=false:=by first | simpa using c3 | (simp at c3 ⊢;omega)
  obtain rfl:=Option.some.inj H
  go_enter Tryz.func42,Tryz.ntmps42
  go_wp2
  repeat (go_quiet (fail);try go_wp2)
  go_ret
  exact⟨by first | rfl | (simp;done)|(simp[*];done)|(simp;decide +kernel),by repeat (first | exact aN.refl _ | apply aN.step)⟩
attribute [local go_sem] eG eH gq gu eT eU fU fV   -- for this text's walks alone
def bB.l0:Nat→List Int→List Int→Int→Int→Option (Bool)
 | 0,_,_,_,_=>none
 | k+1,x0,x1,x12,x13=>if x13<x12 then (if 0≤x13 then (if x13<(x0.length:Int) then (if x13<(x1.length:Int) then (if (rd x0 x13)=(rd x1 x13) then (bB.l0 k x0 x1 x12 (wrap64 (x13+1))) else (some false)) else (none)) else (none)) else (none)) else (some true)
def bB.f (k:Nat) (l0:List Int) (l1:List Int):Option (Bool):=if (l0.length:Int)=(l1.length:Int) then (bB.l0 k l0 l1 (l0.length:Int) 0) else (some false)
theorem bB.fA:∀ k,(∀ y0 y1 y2 y3,bV (bB.l0 k y0 y1 y2 y3) (bB.l0 (k+1) y0 y1 y2 y3))
 | 0=>fun _ _ _ _ r h=>by simp[bB.l0] at h
 | k+1=>by
   have ih0:=bB.fA k
   ·intro y0 y1 y2 y3
    unfold bB.l0
    repeat' first
    | (with_reducible exact ih0 _ _ _ _)
    | (with_reducible exact bV.refl _)
    | (with_reducible exact bV.none _)
    | (with_reducible refine bV.ite ?_ ?_)
    | (with_reducible refine bV.bind ?_ (fun _=>?_))
    | exact ih0 _ _ _ _
    | exact bV.none _
    | refine bV.ite ?_ ?_
    | refine bV.bind ?_ (fun _=>?_)
theorem bB.mono:∀ a0 a1 k,bV (bB.f k a0 a1) (bB.f (k+1) a0 a1):=by
 intro a0 a1 k
 have ih0:=bB.fA k
 unfold bB.f
 repeat' first
  | (with_reducible exact ih0 _ _ _ _)
  | (with_reducible exact bV.refl _)
  | (with_reducible exact bV.none _)
  | (with_reducible refine bV.ite ?_ ?_)
  | (with_reducible refine bV.bind ?_ (fun _=>?_))
  | exact ih0 _ _ _ _
  | exact bV.none _
  | refine bV.ite ?_ ?_
  | refine bV.bind ?_ (fun _=>?_)
theorem bB.calls (k:Nat) (A0:Option Addr) (c0:Nat) (l0:List Int) (A1:Option Addr) (c1:Nat) (l1:List Int) (r:Bool) (w:World) (hr0:Kd.C (Kd.int .u8) w A0 l0.length l0) (hc0:l0.length≤c0) (hr1:Kd.C (Kd.int .u8) w A1 l1.length l1) (hc1:l1.length≤c1) (h:bB.f k l0 l1=some r) :
 Calls Tryz.prog 11 #[.slice A0 l0.length c0,.slice A1 l1.length c1] w fun e w'=>e = .returned (.bool r)∧aN w w':=by
 have HR0:=ah.mk hr0
 have HC0:=ah.mk hc0
 clear hr0 hc0
 have HR1:=ah.mk hr1
 have HC1:=ah.mk hc1
 clear hr1 hc1
 have H:(if (l0.length:Int)=(l1.length:Int) then (bB.l0 k l0 l1 (l0.length:Int) 0) else (some false))=some r:=h
 clear h
 by_cases c3:(l0.length:Int)=(l1.length:Int)
 ·rw[if_pos c3] at H
  have c3b0:((l0.length:Int)==(l1.length:Int))=true:=beq_iff_eq.mpr c3
  have c3b1:((l0.length:Int) != (l1.length:Int))=false:=bne_eq_false_iff_eq.mpr c3
  have c3b2:(l0.length==l1.length)=true:=by first | simpa using c3 | (simp at c3 ⊢;omega)
  clear c3
  have H':=ah.mk H
  clear H
  go_enter Tryz.func11,Tryz.ntmps11
  go_wp2
  repeat (go_quiet (fail);try go_wp2)
  go_loopg [13] k (fun kq v13 w'=>∃ (x13_1:Int),v13 = .int .i64 x13_1∧ah (bB.l0 kq l0 l1 (l0.length:Int) x13_1=some r)∧ah (kq≤k)∧aN w w')
  case atStart=>exact⟨(0),(by first | rfl | (simp;done)|(simp[*];done)),H',⟨Nat.le_refl _⟩,by repeat (first | exact aN.refl _ | apply aN.step)⟩
  case round=>
   clear H'
   try clear c1
   try clear p2
   try clear c3
   try clear c3b0
   try clear c3b1
   try clear c3b2
   obtain⟨x13_1,rfl,HA,HK1,⟨m1,rfl⟩⟩:=hrel
   cases gk with
   | zero=>exact absurd HA.o (by simp[bB.l0])
   | succ k1=>
     have H:=HA.o
     clear HA
     simp only[bB.l0] at H
     by_cases c4:x13_1<(l0.length:Int)
     ·rw[if_pos c4] at H
      have c4b0:decide (x13_1<(l0.length:Int))=true:=decide_eq_true c4
      clear c4
      by_cases c5:0≤x13_1
      ·rw[if_pos c5] at H
       have c5b0:decide (0≤x13_1)=true:=decide_eq_true c5
       clear c5
       by_cases c6:x13_1<(l0.length:Int)
       ·rw[if_pos c6] at H
        have c6b0:decide (x13_1<(l0.length:Int))=true:=decide_eq_true c6
        clear c6
        by_cases c7:x13_1<(l1.length:Int)
        ·rw[if_pos c7] at H
         have c7b0:decide (x13_1<(l1.length:Int))=true:=decide_eq_true c7
         clear c7
         by_cases c8:(rd l0 x13_1)=(rd l1 x13_1)
         ·rw[if_pos c8] at H
          have c8b0:((rd l0 x13_1)==(rd l1 x13_1))=true:=beq_iff_eq.mpr c8
          have c8b1:((rd l0 x13_1) != (rd l1 x13_1))=false:=bne_eq_false_iff_eq.mpr c8
          clear c8
          have H':=ah.mk H
          clear H
          have p267:0≤(x13_1:Int):=of_decide_eq_true (by first|(with_reducible assumption)|assumption)
          have q267:x13_1<(l0.length:Int):=of_decide_eq_true (by first|(with_reducible assumption)|assumption)
          obtain⟨ad267,e267,hx267_0⟩:=Kd.kI HR0.o x13_1 p267 q267
          cases e267
          replace p267:=eq_true p267
          replace q267:=eq_true q267
          have p268:0≤(x13_1:Int):=of_decide_eq_true (by first|(with_reducible assumption)|assumption)
          have q268:x13_1<(l1.length:Int):=of_decide_eq_true (by first|(with_reducible assumption)|assumption)
          obtain⟨ad268,e268,hx268_0⟩:=Kd.kI HR1.o x13_1 p268 q268
          cases e268
          replace p268:=eq_true p268
          replace q268:=eq_true q268
          go_wp2
          repeat (go_quiet (fail);try go_wp2)
          go_roundg k1
          case measure=>have:=HK1.o;omega
          case rel=>exact⟨(wrap64 (x13_1+1)),(by first | rfl | (simp;done)|(simp[*];done)),H',⟨by have:=HK1.o;omega⟩,by repeat (first | exact aN.refl _ | apply aN.step)⟩
         ·rw[if_neg c8] at H
          have c8b0:((rd l0 x13_1)==(rd l1 x13_1))=false:=beq_eq_false_iff_ne.mpr c8
          have c8b1:((rd l0 x13_1) != (rd l1 x13_1))=true:=bne_iff_ne.mpr c8
          obtain rfl:=Option.some.inj H
          have p267:0≤(x13_1:Int):=of_decide_eq_true (by first|(with_reducible assumption)|assumption)
          have q267:x13_1<(l0.length:Int):=of_decide_eq_true (by first|(with_reducible assumption)|assumption)
          obtain⟨ad267,e267,hx267_0⟩:=Kd.kI HR0.o x13_1 p267 q267
          cases e267
          replace p267:=eq_true p267
          replace q267:=eq_true q267
          have p268:0≤(x13_1:Int):=of_decide_eq_true (by first|(with_reducible assumption)|assumption)
          have q268:x13_1<(l1.length:Int):=of_decide_eq_true (by first|(with_reducible assumption)|assumption)
          obtain⟨ad268,e268,hx268_0⟩:=Kd.kI HR1.o x13_1 p268 q268
          cases e268
          replace p268:=eq_true p268
          replace q268:=eq_true q268
          go_wp2
          repeat (go_quiet (fail);try go_wp2)
          go_ret
          exact⟨by first | rfl | (simp;done)|(simp[*];done)|(simp;decide +kernel),by repeat (first | exact aN.refl _ | apply aN.step)⟩
        ·rw[if_neg c7] at H
         exact absurd H (by simp)
       ·rw[if_neg c6] at H
        exact absurd H (by simp)
      ·rw[if_neg c5] at H
       exact absurd H (by simp)
     ·rw[if_neg c4] at H
      have c4b0:decide (x13_1<(l0.length:Int))=false:=decide_eq_false c4
      clear c4
      obtain rfl:=Option.some.inj H
      go_wp2
      repeat (go_quiet (fail);try go_wp2)
      go_ret
      exact⟨by first | rfl | (simp;done)|(simp[*];done)|(simp;decide +kernel),by repeat (first | exact aN.refl _ | apply aN.step)⟩
 ·rw[if_neg c3] at H
  have c3b0:((l0.length:Int)==(l1.length:Int))=false:=beq_eq_false_iff_ne.mpr c3
  have c3b1:((l0.length:Int) != (l1.length:Int))=true:=bne_iff_ne.mpr c3
  have c3b2:(l0.length==l1.length)=false:=by first | simpa using c3 | (simp at c3 ⊢;omega)
  obtain rfl:=Option.some.inj H
  go_enter Tryz.func11,Tryz.ntmps11
  go_wp2
  repeat (go_quiet (fail);try go_wp2)
  go_ret
  exact⟨by first | rfl | (simp;done)|(simp[*];done)|(simp;decide +kernel),by repeat (first | exact aN.refl _ | apply aN.step)⟩
end Go.Proofs.YtcgbgifbajdhpaaGreatDoor.PA
namespace Go.Proofs.YtcgbgifbajdhpaaGreatDoor.PA
open Go.RowKit Go.Proofs.YtcgbgifbajdhpaaGreatDoor.G Go.Proofs.YtcgbgifbajdhpaaGreatDoorW.au Go.Proofs.YtcgbgifbajdhpaaGreatDoorW.aI Go.Proofs.YtcgbgifbajdhpaaGreatDoorW.aJ
theorem JM (l:List bN) (hl:l.length≤1000000):∀ d i,i+d=l.length→∀ k,d<k→bH.l0 k l l (l.length:Int) (i:Int)=some true
 | 0,i,h,k+1,hk=>by
   unfold bH.l0
   rw[if_neg (by omega)]
 | d+1,i,h,k+1,hk=>by
   unfold bH.l0
   have e:wrap64 ((i:Int)+1)=((i+1:Nat):Int):=by rw[jZ (by omega) (by omega)];omega
   rw[if_pos (by omega),if_pos (by omega),if_pos (by omega),if_pos (by omega),if_neg (by simp),e]
   exact JM l hl d (i+1) (by omega) k (by omega)
theorem ND (A0:Option Addr) (c0:Nat) (A1:Option Addr) (c1:Nat) (l:List bN) (w:World) (hr0:Kd.C jg w A0 l.length l) (hc0:l.length≤c0) (hr1:Kd.C jg w A1 l.length l) (hc1:l.length≤c1) (hl:l.length≤1000000) :
 Calls Tryz.prog 42 #[.slice A0 l.length c0,.slice A1 l.length c1] w fun e w'=>e = .returned (.bool true)∧Below w.heap.size w w' :=
 (bH.calls (l.length+1) A0 c0 l A1 c1 l true w hr0 hc0 hr1 hc1 (by
  unfold bH.f
  rw[if_pos rfl]
  exact JM l hl l.length 0 (by omega) _ (by omega))).mono fun e w' ⟨he,hd⟩=>⟨he,hd.below⟩
theorem PV.calls (A0 A1 B0 B1:Option Addr) (a0 a1 b0 b1:Nat) (x:cB) (w:World) (hr0:Kd.C iM w A0 x.f0.length x.f0) (hr1:Kd.C jg w A1 x.f1.length x.f1) (hs0:Kd.C iM w B0 x.f0.length x.f0) (hs1:Kd.C jg w B1 x.f1.length x.f1) (h1:x.f1.length≤a1) (h2:x.f1.length≤b1) (hl:x.f0.length≤1000000) (hm:x.f1.length≤1000000) :
 Calls Tryz.prog 40 #[.agg #[.slice A0 x.f0.length a0,.slice A1 x.f1.length a1],.agg #[.slice B0 x.f0.length b0,.slice B1 x.f1.length b1]] w fun e w'=>e = .returned (.bool true)∧Below w.heap.size w w':=by
 obtain⟨o0,ho0⟩:∃ o0:Obj,Obj.cells #[.slice A0 x.f0.length a0,.slice A1 x.f1.length a1] 51=o0:=⟨_,rfl⟩
 obtain⟨o1,ho1⟩:∃ o1:Obj,Obj.cells #[.slice B0 x.f0.length b0,.slice B1 x.f1.length b1] 51=o1:=⟨_,rfl⟩
 have HB0:=ah.mk (aj (aj (Below.refl w.heap.size w) o0) o1)
 have EQ:=ah.mk (JQ.calls A0 a0 B0 b0 x.f0.length x.f0 ((w.alloc o0).alloc o1) rfl (Kd.aH hr0 HB0.o) (Kd.aH hs0 HB0.o) hl)
 have ES:=ah.mk (fun W (hb:Below w.heap.size w W)=>ND A1 a1 B1 b1 x.f1 W (Kd.aH hr1 hb) h1 (Kd.aH hs1 hb) h2 hm)
 have H0:ah (((w.alloc o0).alloc o1).heap[w.heap.size]? = some o0):=⟨aU (bI w o0) o1⟩
 have H1:ah (((w.alloc o0).alloc o1).heap[w.heap.size+1]? = some o1):=⟨by have:=bI (w.alloc o0) o1;rwa [World.size_alloc] at this⟩
 subst ho0 ho1
 clear hr0 hr1 hs0 hs1 h1 h2
 generalize x.f0.length=n0 at *
 generalize x.f1.length=n1 at *
 go_enter Tryz.func40,Tryz.ntmps40
 go_wp2_with (first|(go_at_call 41;(with_reducible refine EQ.o.mono ?_);rintro e w1 ⟨rfl,hb⟩;have HB1:=ah.mk (ak HB0.o hb);have x1:=(av (aG H0.o hb) 1).trans rfl;have y1:=(av (aG H1.o hb) 1).trans rfl;clear hb)|(go_at_call 42;(with_reducible refine (ES.o _ HB1.o).mono ?_);rintro e w2 ⟨rfl,hb⟩;have HB2:=ah.mk (ak HB1.o hb);clear hb))
 go_ret
 exact⟨rfl,HB2.o⟩
def Nu (l:List cB):Prop:=∀ x∈l,x.f0.length≤1000000∧x.f1.length≤1000000
theorem Po.calls (A B:Option Addr) (c d n:Nat) (l:List cB) (w:World) (hn:l.length=n) (hr:Kd.C mK w A n l) (hs:Kd.C mK w B n l) (hl:n≤1000000) (hok:Nu l) :
 Calls Tryz.prog 39 #[.slice A n c,.slice B n d,.func (.func 40) #[] #[]] w fun e w'=>e = .returned (.bool true)∧Below w.heap.size w w':=by
 subst hn
 have HR:=ah.mk hr
 have HS:=ah.mk hs
 have HOK:=ah.mk hok
 clear hr hs hok
 have hnn:((l.length:Int) != (l.length:Int))=false:=by simp
 go_enter Tryz.func39,Tryz.ntmps39
 go_wp2
 go_loopg [17] l.length (fun kx s17 wr=>∃ (k:Nat),s17 = .int .i64 k∧k≤l.length∧l.length-k≤kx∧ah (Below w.heap.size w wr))
 case atStart=>exact⟨0,rfl,Nat.zero_le _,Nat.le_refl _,⟨Below.refl _ _⟩⟩
 case round=>
  obtain⟨k,rfl,hk,hkx,HB⟩:=hrel
  by_cases hlt:k<l.length
  ·obtain⟨ad,A0,c0,A1,c1,rfl,x0,x1,l0,g0,l1,g1⟩:=iR (Kd.aH HR.o HB.o) (k:Int) (by omega) (by omega)
   obtain⟨ae,B0,d0,B1,d1,rfl,y0,y1,m0,h0,m1,h1⟩:=iR (Kd.aH HS.o HB.o) (k:Int) (by omega) (by omega)
   rw[Int.toNat_natCast] at x0 x1 y0 y1
   have hkz:(k:Int)<(l.length:Int):=by omega
   have hx:(aK l (k:Int)).f0.length≤1000000∧(aK l (k:Int)).f1.length≤1000000:=by
    have e:aK l (k:Int)=l[k]:=by simp[aK,List.getD_eq_getElem?_getD,List.getElem?_eq_getElem hlt]
    rw[e]
    exact HOK.o _ (List.getElem_mem hlt)
   generalize aK l (k:Int)=x at *
   have EE:=ah.mk (fun W (hb:Below wr.heap.size wr W)=>PV.calls A0 A1 B0 B1 c0 c1 d0 d1 x W (Kd.aH g0 hb) (Kd.aH g1 hb) (Kd.aH h0 hb) (Kd.aH h1 hb) l1 m1 hx.1 hx.2)
   obtain⟨o0,ho0⟩:∃ o0:Obj,Obj.cells #[.slice A0 x.f0.length c0,.slice A1 x.f1.length c1] 51=o0:=⟨_,rfl⟩
   obtain⟨o1,ho1⟩:∃ o1:Obj,Obj.cells #[.slice B0 x.f0.length d0,.slice B1 x.f1.length d1] 51=o1:=⟨_,rfl⟩
   have HB0:=ah.mk (aj (aj (Below.refl wr.heap.size wr) o0) o1)
   have z0:=aV (aj (Below.refl wr.heap.size wr) o0) y0
   have z1:=aV (aj (Below.refl wr.heap.size wr) o0) y1
   subst ho0 ho1
   clear g0 g1 h0 h1 l0 l1 m0 m1 y0 y1 hx
   generalize x.f0.length=n0 at *
   generalize x.f1.length=n1 at *
   go_wp2_with (first|(go_at_call 40;(with_reducible refine (EE.o _ HB0.o).mono ?_);rintro e w2 ⟨rfl,hb⟩;have HB2:=ah.mk (ak HB.o (ak HB0.o hb));clear hb))
   go_roundg (l.length-(k+1))
   case measure=>omega
   case rel=>exact⟨k+1,by go_num,by omega,Nat.le_refl _,HB2⟩
  ·obtain rfl:k=l.length:=by omega
   have hkz:¬ (l.length:Int)<(l.length:Int):=by omega
   go_wp2
   go_ret
   exact⟨rfl,HB.o⟩
theorem Qc.calls (A B:Option Addr) (c d n:Nat) (l:List cB) (w:World) (hn:l.length=n) (hr:Kd.C mK w A n l) (hs:Kd.C mK w B n l) (hl:n≤1000000) (hok:Nu l) :
 Calls Tryz.prog 15 #[.slice A n c,.slice B n d] w fun e w'=>e = .returned (.bool true)∧Below w.heap.size w w':=by
 have EE:=ah.mk (Po.calls A B c d n l w hn hr hs hl hok)
 clear hn hr hs hok
 go_enter Tryz.func15,Tryz.ntmps15
 go_wp2_with (first|(go_at_call 39;(with_reducible refine EE.o.mono ?_);rintro e w2 ⟨rfl,hb⟩;have HB2:=ah.mk hb;clear hb))
 go_ret
 exact⟨rfl,HB2.o⟩
theorem KZ {m:Nat}:∀ {l:List cB},(∀ x∈l,x.f1.length≤m)→tot l≤l.length*m
 | [],_=>Nat.zero_le _
 | x::l,h=>by
   have h1:=h x (List.mem_cons_self ..)
   have h2:=KZ (fun y hy=>h y (List.mem_cons_of_mem _ hy):∀ y∈l,y.f1.length≤m)
   show x.f1.length+tot l≤(l.length+1)*m
   rw[Nat.add_mul,Nat.one_mul]
   omega
theorem J5:Kd.Heap mK:=Kd.wE _ (Kd.rY (Kd.wF _ (Kd.wE _ (Kd.rY Kd.tL Kd.tL))) (Kd.wF _ (Kd.wE _ (Kd.rY (Kd.wD .i64) (Kd.wD .u64)))))
def FX (p:cB):Prop:=dV p.f0=true∧iT p.f1=true∧(∀ s∈p.f1,sD s)∧1≤p.f1.length∧p.f1.length≤20
theorem Hw {l:List bN} {j:Nat} (h:j<(l.length+19) / 20):1≤(jX l j).length∧(jX l j).length≤20:=by
 rw[oJ]
 unfold nH
 omega
theorem Hy {l:List cB} (hz:Hq l) (hc:∀ x∈l,dV x.f0=true∧iT x.f1=true):∀ p∈dB l,FX p:=fun p hp=>by
 obtain⟨x,hx,hp⟩:=List.mem_flatMap.1 hp
 obtain⟨j,hj,rfl⟩:=List.mem_map.1 hp
 have h2:=Hw (List.mem_range.1 hj)
 exact⟨(hc x hx).1,rG (hc x hx).2 j,fun s hs=>(hz x hx).2.2.2 s (sG hs),h2.1,h2.2⟩
theorem GR {p:cB} (h:FX p):1≤(jf p).length∧(jf p).length≤1014:=by
 refine⟨?_,tq (rQ h.1) h.2.2.2.2 h.2.2.1 h.2.1⟩
 rw[jf,jK,List.length_append,bJ]
 omega
end Go.Proofs.YtcgbgifbajdhpaaGreatDoor.PA
namespace Go.Proofs.YtcgbgifbajdhpaaGreatDoor.G
namespace bL
def one (r:Nat):Nat:=(r / 2) ^^^ (if r % 2=1 then 2197175160 else 0)
def quarter:Nat→Nat
 | 0=>0 | 1=>1098587580 | 2=>2197175160 | _=>3280807620
def two (r:Nat):Nat:=(r / 4) ^^^ quarter (r % 4)
theorem Lg (a b:Nat):(a ^^^ b) % 2=(a % 2+b % 2) % 2:=by
 have:=Nat.xor_mod_two_pow (a:=a) (b:=b) (n:=1)
 simp at this
 rw[this]
 rcases Nat.mod_two_eq_zero_or_one a with h | h<;>rcases Nat.mod_two_eq_zero_or_one b with h' | h'<;>simp[h,h']
theorem Le (a b:Nat):(a ^^^ b) / 2=a / 2 ^^^ b / 2:=by
 have:=Nat.xor_div_two_pow (a:=a) (b:=b) (n:=1)
 simpa using this
theorem K5 (r:Nat):two r=one (one r):=by
 unfold two one
 have h4:r / 2 / 2=r / 4:=by omega
 rcases Nat.mod_two_eq_zero_or_one r with h | h
 ·simp only[h]
  simp only[Nat.xor_zero,reduceIte,show ¬ (0=1) from by omega]
  rcases Nat.mod_two_eq_zero_or_one (r / 2) with h' | h'
  ·have:r % 4=0:=by omega
   simp[h',this,h4,quarter]
  ·have:r % 4=2:=by omega
   simp[h',this,h4,quarter]
 ·simp only[h,reduceIte]
  rw[Lg,Le,h4]
  rcases Nat.mod_two_eq_zero_or_one (r / 2) with h' | h'
  ·have:r % 4=1:=by omega
   simp[h',this,quarter]
  ·have:r % 4=3:=by omega
   simp[h',this,quarter,Nat.xor_assoc]
def eight (r:Nat):Nat:=one (one (one (one (one (one (one (one r)))))))
theorem JR (r:Nat):two (two (two (two r)))=eight r:=by simp[K5,eight]
theorem Ez {r:Nat} (h:r<4294967296):one r<4294967296:=by
 unfold one
 have:r / 2<2 ^ 32:=by omega
 split
 ·exact Nat.xor_lt_two_pow (n:=32) this (by decide)
 ·simpa using this
theorem JH {r:Nat} (h:r<4294967296):eight r<4294967296:=by
 unfold eight;repeat (first | exact h | apply Ez)
def run (r:Nat):List Nat→Nat
 | []=>r
 | x::l=>run (eight (r ^^^ x)) l
theorem EN (r:Nat) (a b:List Nat):run r (a++b)=run (run r a) b:=by
 induction a generalizing r with
 | nil=>rfl
 | cons x a ih=>simp[run,ih]
theorem EO {r:Nat} (h:r<4294967296) {l:List Nat} (hl:∀ x∈l,x<256):run r l<4294967296:=by
 induction l generalizing r with
 | nil=>exact h
 | cons x l ih=>
   refine ih (JH (Nat.xor_lt_two_pow (n:=32) h ?_)) (fun y hy=>hl y (List.mem_cons_of_mem _ hy))
   have:=hl x (List.mem_cons_self ..);omega
def ones:Nat:=4294967295
theorem Mw:ones<2 ^ 32:=by decide
def inv (x:Nat):Nat:=ones ^^^ x
theorem inv_def (x:Nat):inv x=ones ^^^ x:=by delta inv;rfl
theorem Es {x:Nat} (h:x<4294967296):inv x<4294967296:=by
 have:=Nat.xor_lt_two_pow (n:=32) (x:=ones) (y:=x) Mw (by omega)
 rw[inv_def]
 omega
def nat (l:List Int):List Nat:=l.map Int.toNat
def more (s:Nat) (l:List Int):Nat:=inv (run (inv s) (nat l))
theorem wO {l:List Int} (hl:∀ x∈l,0≤x∧x<256):∀ x∈nat l,x<256:=by
 intro x hx
 obtain⟨y,hy,rfl⟩:=List.mem_map.1 hx
 have:=hl y hy
 omega
theorem Mr {s:Nat} (h:s<4294967296) {l:List Int} (hl:∀ x∈l,0≤x∧x<256):more s l<4294967296:=Es (EO (Es h) (wO hl))
end bL
end Go.Proofs.YtcgbgifbajdhpaaGreatDoor.G
namespace Go.Proofs.YtcgbgifbajdhpaaGreatDoor.PA
open Go.RowKit Go.Proofs.YtcgbgifbajdhpaaGreatDoor.G Go.Proofs.YtcgbgifbajdhpaaGreatDoorW.au Go.Proofs.YtcgbgifbajdhpaaGreatDoorW.aI Go.Proofs.YtcgbgifbajdhpaaGreatDoorW.aJ
def rJ (b:List Int):Nat:=bL.more 0 b
def tH (k n:Nat) (p:List Int):List Int:=[208,215,(k:Int)]++dR n 4++dR p.length 2++p
def kU (k n:Nat) (p:List Int):List Int:=tH k n p++dR (rJ (tH k n p)) 4
structure Fr where
 kind:Nat
 num:Nat
 pay:List Int
def jk (b:List Int):Option Fr:=
 if b.length<13 then none else
 if rd b 0≠208∨rd b 1≠215∨rd b 2<1∨3<rd b 2 then none else
 if 1000<lX 0 ((b.drop 7).take 2)∨b.length<13+lX 0 ((b.drop 7).take 2) then none else
 if rJ (b.take (9+lX 0 ((b.drop 7).take 2)))≠lX 0 ((b.drop (9+lX 0 ((b.drop 7).take 2))).take 4) then none else
 some ⟨(rd b 2).toNat,lX 0 ((b.drop 3).take 4),(b.take (9+lX 0 ((b.drop 7).take 2))).drop 9⟩
def kK (f:Fr):Nat:=13+f.pay.length
def rW:Nat→List Int→List Fr
 | 0,_=>[]
 | k+1,b=>if b.length=0 then [] else match jk b with
   | none=>rW k (b.drop 1)
   | some f=>f::rW k (b.drop (kK f))
def iI (b:List Int):List Fr:=rW b.length b
theorem qA {b:List Int} {f:Fr} (h:jk b=some f):kK f≤b.length∧f.pay.length≤1000∧f.pay.length=lX 0 ((b.drop 7).take 2)∧13≤b.length:=by
 unfold jk at h
 split at h
 ·cases h
 ·split at h
  ·cases h
  ·split at h
   ·cases h
   ·split at h
    ·cases h
    ·injection h with h
     subst h
     unfold kK
     simp only[List.length_drop,List.length_take]
     omega
theorem ou:∀ (k k':Nat) (b:List Int),b.length≤k→b.length≤k'→rW k b=rW k' b
 | 0,0,b,_,_=>rfl
 | 0,k'+1,b,h,_=>by rw[rW,rW,if_pos (by omega)]
 | k+1,0,b,_,h=>by rw[rW,rW,if_pos (by omega)]
 | k+1,k'+1,b,h,h'=>by
   rw[rW,rW]
   split
   ·rfl
   ·split
    ·exact ou k k' _ (by rw[List.length_drop];omega) (by rw[List.length_drop];omega)
    ·rename_i f hf
     have:=(qA hf).1
     unfold kK at this
     rw[ou k k' (b.drop (kK f)) (by rw[List.length_drop];unfold kK;omega) (by rw[List.length_drop];unfold kK;omega)]
theorem wz:iI []=[]:=rfl
theorem yL {b:List Int} (h:b.length≠0) (hb:jk b=none):iI b=iI (b.drop 1):=by
 unfold iI
 obtain⟨k,hk⟩:∃ k,b.length=k+1:=⟨b.length-1,by omega⟩
 rw[hk,rW,if_neg h,hb]
 exact ou _ _ _ (by rw[List.length_drop];omega) (Nat.le_refl _)
theorem rX {b:List Int} {f:Fr} (hb:jk b=some f):iI b=f::iI (b.drop (kK f)):=by
 have hl:=qA hb
 unfold iI
 obtain⟨k,hk⟩:∃ k,b.length=k+1:=⟨b.length-1,by omega⟩
 rw[hk,rW,if_neg (by omega),hb]
 simp only
 rw[ou k (b.drop (kK f)).length _ (by rw[List.length_drop];unfold kK;omega) (Nat.le_refl _)]
theorem uQ (k n:Nat) (p:List Int):(tH k n p).length=9+p.length:=by
 simp only[tH,List.length_append,bJ,List.length_cons,List.length_nil]
theorem lu (k n:Nat) (p:List Int):(kU k n p).length=13+p.length:=by
 rw[kU,List.length_append,bJ,uQ]
 omega
theorem FD {b:List Int} (h:okB b=true):rJ b<4294967296:=bL.Mr (by decide) (dK.1 h)
theorem Ei {k n:Nat} {p:List Int} (hk:k<256) (hp:okB p=true):okB (tH k n p)=true:=by
 refine lI (lI (lI (dK.2 fun x hx=>?_) (jI _ _)) (jI _ _)) hp
 simp only[List.mem_cons,List.not_mem_nil,or_false] at hx
 rcases hx with rfl | rfl | rfl<;>omega
theorem Eh {k n:Nat} {p:List Int} (hk:k<256) (hp:okB p=true):okB (kU k n p)=true:=lI (Ei hk hp) (jI _ _)
theorem om {n i:Nat} (h:n<256 ^ i):lX 0 (dR n i)=n:=by
 rw[Fq,Nat.zero_mul,Nat.zero_add,Nat.mod_eq_of_lt h]
theorem Jp {k n:Nat} {p:List Int} (r:List Int) (hk1:1≤k) (hk3:k≤3) (hn:n<4294967296) (hp:okB p=true) (hl:p.length≤1000):jk (kU k n p++r)=some ⟨k,n,p⟩:=by
 have hb4:(dR n 4).length=4:=bJ _ _
 have hb2:(dR p.length 2).length=2:=bJ _ _
 have hc4:(dR (rJ (tH k n p)) 4).length=4:=bJ _ _
 have hH:=uQ k n p
 have hB:=lu k n p
 have hL:(kU k n p++r).length=13+p.length+r.length:=by rw[List.length_append,hB]
 have h0:rd (kU k n p++r) 0=208:=by simp[kU,tH,rd]
 have h1:rd (kU k n p++r) 1=215:=by simp[kU,tH,rd]
 have h2:rd (kU k n p++r) 2=(k:Int):=by simp[kU,tH,rd]
 have h3:((kU k n p++r).drop 3).take 4=dR n 4:=by
  have e:kU k n p++r=[208,215,(k:Int)]++(dR n 4++(dR p.length 2++p++dR (rJ (tH k n p)) 4++r)):=by simp only[kU,tH,List.append_assoc]
  rw[e]
  simp only[List.cons_append,List.nil_append,List.drop_succ_cons,List.drop_zero]
  exact List.take_left' hb4
 have h7:((kU k n p++r).drop 7).take 2=dR p.length 2:=by
  have e:kU k n p++r=([208,215,(k:Int)]++dR n 4)++(dR p.length 2++(p++dR (rJ (tH k n p)) 4++r)):=by simp only[kU,tH,List.append_assoc]
  rw[e,List.drop_left' (by rw[List.length_append,hb4];rfl),List.take_left' hb2]
 have hs:lX 0 (((kU k n p++r).drop 7).take 2)=p.length:=by rw[h7,om (by omega)]
 have ht:(kU k n p++r).take (9+p.length)=tH k n p:=by rw[kU,List.append_assoc,List.take_left' hH]
 have hd:((kU k n p++r).drop (9+p.length)).take 4=dR (rJ (tH k n p)) 4:=by rw[kU,List.append_assoc,List.drop_left' hH,List.take_left' hc4]
 have hc:lX 0 (dR (rJ (tH k n p)) 4)=rJ (tH k n p):=om (by have:=FD (Ei (n:=n) (by omega:k<256) hp);omega)
 unfold jk
 rw[if_neg (by omega),h0,h1,h2,if_neg (by omega),hs,if_neg (by omega),ht,hd,hc,if_neg (by simp),h3,om (by omega),Int.toNat_natCast]
 congr 2
theorem wu {k n:Nat} {p:List Int} (r:List Int) (hk1:1≤k) (hk3:k≤3) (hn:n<4294967296) (hp:okB p=true) (hl:p.length≤1000):iI (kU k n p++r)=⟨k,n,p⟩::iI r:=by
 rw[rX (Jp r hk1 hk3 hn hp hl)]
 congr 2
 exact List.drop_left' (by rw[lu,kK])
structure Pt where
 num:Nat
 ser:cB
noncomputable def zL (p:List Int):Option cB:=
 if (fq p).2.2≠0 then none else
 if (nD (fq p).2.1).2≠0∨(nD (fq p).2.1).1.length=0∨20<(nD (fq p).2.1).1.length then none else
 some ⟨(fq p).1,(nD (fq p).2.1).1⟩
noncomputable def gV (f:Fr):Option Pt:=if f.kind=2 then (zL f.pay).map (fun s=>⟨f.num,s⟩) else none
def wJ (p:Pt):List Pt→List Pt
 | []=>[p]
 | q::l=>if p.num<q.num then p::q::l else q::wJ p l
def nU (l:List Pt):List Pt:=l.foldl (fun a p=>wJ p a) []
noncomputable def x9 (b:List Int):List Pt:=(iI b).filterMap gV
noncomputable def iH (b:List Int):List cB:=(nU (x9 b)).map (·.ser)
noncomputable def iV (p:cB):List Int:=iQ p.f0++gH p.f1
noncomputable def dH:Nat→List cB→List Int
 | _,[]=>[]
 | i,p::l=>kU 2 (i+1) (iV p)++dH (i+1) l
noncomputable def gB (l:List cB):List Int:=
 kU 1 0 (dR (dB l).length 4)++(dH 0 (dB l)++kU 3 ((dB l).length+1) (dR (tot l) 8))
noncomputable def jW (l:List cB):List Int × Int:=if gQ l=true then (gB l,0) else ([],1)
noncomputable def mq (b:List Int):List cB × Int:=
 if jW (joinL (iH b))=(b,0) then (joinL (iH b),0) else ([],5)
theorem qP {p:cB} (h:FX p):okB (iV p)=true∧(iV p).length≤1000:=by
 have hu:=rQ h.1
 have he:=vU h.2.2.2.2 h.2.2.1 h.2.1
 refine⟨lI (GQ h.1) (L6 p.f1 (by have:=h.2.2.2.2;omega) h.2.2.1 h.2.1),?_⟩
 have h1:=qF h.1 p.f0.length (Nat.le_refl _)
 have h2:=(jB h.1).2.1
 rw[vT] at h1
 rw[iV,List.length_append]
 omega
theorem D6 {p:cB} (h:FX p):zL (iV p)=some p:=by
 have hd:=(FH p.f1 h.2.2.1 (by have:=h.2.2.2.2;omega) h.2.1).2.1
 have h1:=h.2.2.2.1
 have h2:=h.2.2.2.2
 rw[zL,iV,GJ p.f0 (gH p.f1) h.1]
 simp only[ne_eq,not_true_eq_false,if_false,hd,false_or]
 rw[if_neg (by omega)]
def jL:Nat→List cB→List Pt
 | _,[]=>[]
 | i,p::l=>⟨i+1,p⟩::jL (i+1) l
theorem tJ:∀ (l:List cB) (i:Nat) (r:List Int),(∀ p∈l,FX p)→i+l.length<4294967296→(iI (dH i l++r)).filterMap gV=jL i l++(iI r).filterMap gV∧(iI (dH i l++r)).length=l.length+(iI r).length
 | [],i,r,_,_=>by simp[dH,jL]
 | p::l,i,r,h,hi=>by
   have hp:=h p List.mem_cons_self
   have ho:=qP hp
   rw[List.length_cons] at hi
   rw[dH,List.append_assoc,wu _ (by decide) (by decide) (by omega) ho.1 ho.2]
   obtain⟨h1,h2⟩:=tJ l (i+1) r (fun q hq=>h q (List.mem_cons_of_mem _ hq)) (by omega)
   refine⟨?_,by rw[List.length_cons,h2,List.length_cons];omega⟩
   rw[List.filterMap_cons]
   simp only[gV,if_true,D6 hp,Option.map_some]
   rw[h1]
   rfl
theorem tY:∀ (l:List cB) (i:Nat),(jL i l).map (·.ser)=l
 | [],_=>rfl
 | p::l,i=>by rw[jL,List.map_cons,tY l (i+1)]
theorem wK (p:Pt):∀ l:List Pt,(∀ q∈l,q.num≤p.num)→wJ p l=l++[p]
 | [],_=>rfl
 | q::l,h=>by
   have h1:=h q List.mem_cons_self
   rw[wJ,if_neg (by omega),wK p l (fun x hx=>h x (List.mem_cons_of_mem _ hx))]
   rfl
theorem Dr:∀ (l:List cB) (i:Nat) (a:List Pt),(∀ q∈a,q.num≤i)→(jL i l).foldl (fun a p=>wJ p a) a=a++jL i l
 | [],_,a,_=>by simp[jL]
 | p::l,i,a,h=>by
   rw[jL,List.foldl_cons,wK _ _ (fun q hq=>by have:=h q hq;show q.num≤i+1;omega),Dr l (i+1) _ (fun q hq=>by
    rcases List.mem_append.1 hq with h1 | h1
    ·have:=h q h1;omega
    ·rw[List.mem_singleton] at h1;rw[h1];exact Nat.le_refl _)]
   simp
theorem tF {l:List cB} (h:∀ p∈dB l,FX p) (hn:(dB l).length+1<4294967296):iH (gB l)=dB l∧(iI (gB l)).length=(dB l).length+2:=by
 have hb:okB (dR (dB l).length 4)=true:=jI _ _
 have h4:(dR (dB l).length 4).length=4:=bJ _ _
 have ht:okB (dR (tot l) 8)=true:=jI _ _
 have h8:(dR (tot l) 8).length=8:=bJ _ _
 obtain⟨h1,h2⟩:=tJ (dB l) 0 (kU 3 ((dB l).length+1) (dR (tot l) 8)) h (by omega)
 have h3:iI (kU 3 ((dB l).length+1) (dR (tot l) 8))=[⟨3,(dB l).length+1,dR (tot l) 8⟩]:=by
  have:=wu (k:=3) (n:=(dB l).length+1) [] (by decide) (by decide) (by omega) ht (by omega)
  rwa [List.append_nil,wz] at this
 have hw:iI (gB l)=⟨1,0,dR (dB l).length 4⟩::iI (dH 0 (dB l)++kU 3 ((dB l).length+1) (dR (tot l) 8)):=wu _ (by decide) (by decide) (by decide) hb (by omega)
 have hp:x9 (gB l)=jL 0 (dB l):=by
  rw[x9,hw,List.filterMap_cons]
  simp only[gV,show ((1:Nat)=2)=False by decide,if_false]
  rw[h1,h3]
  simp[gV]
 refine⟨?_,by rw[hw,List.length_cons,h2,h3];simp⟩
 rw[iH,hp,nU,Dr _ _ _ (fun q hq=>by cases hq),List.nil_append,tY]
theorem EH {l:List cB} (hc:gQ l=true) (h:∀ p∈dB l,FX p) (hj:joinL (dB l)=l) (hn:(dB l).length+1<4294967296):mq (gB l)=(l,0):=by
 rw[mq,(tF h hn).1,hj,jW,if_pos hc,if_pos rfl]
theorem nO:∀ (l:List cB) (i:Nat),(∀ p∈l,FX p)→okB (dH i l)=true∧(dH i l).length≤1013*l.length
 | [],_,_=>⟨rfl,by simp[dH]⟩
 | p::l,i,h=>by
   have ho:=qP (h p List.mem_cons_self)
   obtain⟨h1,h2⟩:=nO l (i+1) (fun q hq=>h q (List.mem_cons_of_mem _ hq))
   refine⟨lI (Eh (by decide) ho.1) h1,?_⟩
   rw[dH,List.length_append,lu,List.length_cons]
   omega
theorem IE {l:List cB} (h:∀ p∈dB l,FX p):okB (gB l)=true∧(gB l).length≤1013*(dB l).length+38:=by
 obtain⟨h1,h2⟩:=nO (dB l) 0 h
 refine⟨lI (Eh (by decide) (jI _ _)) (lI h1 (Eh (by decide) (jI _ _))),?_⟩
 rw[gB,List.length_append,List.length_append,lu,lu,bJ,bJ]
 omega
theorem zY:∃ i,Tryz.prog.info? 5=some i∧i.size=1:=by
 obtain⟨i,hi,hz⟩:=Option.map_eq_some_iff.1 gU
 simp only[Prod.mk.injEq] at hz
 exact⟨i,hi,hz.2.1⟩
theorem NZ (A:Option Addr) (c:Nat) (xs:List Int) (m:Nat) (hm:m≤xs.length) (hc:xs.length≤c) :
 ∃ (A':Option Addr) (c':Nat) (r:List Int),ah (r=xs.drop m)∧ah (∀ w:World,Kd.C (Kd.int .u8) w A xs.length xs→Kd.C (Kd.int .u8) w A' r.length r)∧r.length≤c' ∧
   ∀ i:Int,i=(m:Int)→∀ W:World,(Instr.slice 24 (.slice A xs.length c) (some (.int .i64 i)) none none).run Tryz.prog W = .ok (.slice A' r.length c') W:=by
 obtain⟨i0,hi,hsz⟩:=zY
 refine⟨if c=m then A else A.map (·.add (m*(Kd.int .u8).sz)),c-m,xs.drop m,⟨rfl⟩,⟨fun w h=>Kd.vk h hm hc⟩,by rw[List.length_drop];omega,fun i hi' W=>?_⟩
 subst hi'
 have hu:=Tryz.underlying24
 have hel:Tryz.prog.elem 24=5:=by simp[Program.elem,hu]
 have hu':Tryz.prog.underlying 24=some (.slice (Tryz.prog.elem 24)):=by rw[hel];exact hu
 rw[run_slice_l W 24 A xs.length c hu' .i64 (m:Int) (Int.natCast_nonneg _) (by omega),hel]
 have h1:(Kd.int .u8).sz=1:=rfl
 simp[sizeOf,typeInfo,hi,hsz,sliced,Result.andThen,h1]
theorem Ml (A:Option Addr) (c:Nat) (xs:List Int) (lo hi:Nat) (h1:lo≤hi) (h2:hi≤xs.length) (hc:xs.length≤c) :
 ∃ (A':Option Addr) (c':Nat) (r:List Int),ah (r=(xs.take hi).drop lo)∧ah (∀ w:World,Kd.C (Kd.int .u8) w A xs.length xs→Kd.C (Kd.int .u8) w A' r.length r)∧r.length≤c' ∧
   ∀ i j:Int,i=(lo:Int)→j=(hi:Int)→∀ W:World,(Instr.slice 24 (.slice A xs.length c) (some (.int .i64 i)) (some (.int .i64 j)) none).run Tryz.prog W = .ok (.slice A' r.length c') W:=by
 obtain⟨i0,hi0,hsz⟩:=zY
 refine⟨if c=lo then A else A.map (·.add (lo*(Kd.int .u8).sz)),c-lo,(xs.take hi).drop lo,⟨rfl⟩,⟨fun w h=>Kd.Fj h h1 h2 hc⟩,by rw[List.length_drop,List.length_take];omega,fun i j hi' hj' W=>?_⟩
 subst hi' hj'
 have h:=LW (P:=Tryz.prog) 24 5 .i64 .i64 Tryz.underlying24 hi0 1 hsz A xs.length c (lo:Int) (hi:Int) (by omega) (by omega) (by omega) hc W
 rw[h]
 have h1:(Kd.int .u8).sz=1:=rfl
 rw[h1,List.length_drop,List.length_take]
 simp only[Int.toNat_natCast]
 rw[Nat.min_eq_left h2]
theorem Ih (kl:IntKind) (n:Nat) (hn:n≤1000000):∀ W:World,(Instr.makeSlice 46 (.int kl (n:Int)) (.int kl (n:Int))).run Tryz.prog W = .ok (.slice (some ⟨W.heap.size,0,none⟩) n n) (W.alloc (.cells (madeCells (Value.agg #[.string ⟨#[]⟩,.string ⟨#[]⟩]).cells (n*2)) 68)):=by
 intro W
 obtain⟨i0,hi,hz⟩:=Option.map_eq_some_iff.1 Eo
 simp only[Prod.mk.injEq] at hz
 obtain⟨hz0,hz1,hz2⟩:=hz
 have hr:=run_make (P:=Tryz.prog) W 46 68 i0 _ Tryz.underlying46 hi hz0 kl kl (n:Int) (n:Int) (by omega) (by omega)
  (by
   have h3:((i0.bytes*n:Nat):Int)≤281474976710656:=by rw[hz2];omega
   rwa [Int.natCast_mul] at h3) (by omega)
 simp only[Int.toNat_natCast] at hr
 rw[hz1] at hr
 exact hr
theorem LA (W:World) (base n:Nat) (hb:base≤W.heap.size) (hn:n≤1000000):Kd.R iM 68 (W.alloc (.cells (madeCells (Value.agg #[.string ⟨#[]⟩,.string ⟨#[]⟩]).cells (n*2)) 68)) base (fun _=>True) (.slice (some ⟨W.heap.size,0,none⟩) n n) (List.replicate n z68):=by
 have hm:∀ (ok:Nat→Prop),cO (iM.M (W.alloc (.cells (madeCells (Value.agg #[.string ⟨#[]⟩,.string ⟨#[]⟩]).cells (n*2)) 68)) base ok) 2 (List.replicate n z68) (madeCells (Value.agg #[.string ⟨#[]⟩,.string ⟨#[]⟩]).cells (n*2)).toList:=fun ok=>
  Kd.sM (size:=2) rfl (by decide) (uT _ _ _ z68) n
 have h2:=World.ownsRow_lit (base:=base) (e:=68) (size:=2) W (madeCells (Value.agg #[.string ⟨#[]⟩,.string ⟨#[]⟩]).cells (n*2)) n hb (by simp only[maxLen];omega) (by simp[size_madeCells])
 exact⟨fun _ _=>trivial,_,by rw[List.length_replicate];exact h2,hm _⟩
def iN (w:World) (b:List Int) (e:Ending) (w':World):Prop:=∃ v1 v2:Value,e = .returned (.tuple #[v1,v2,.int .i64 (fq b).2.2])∧Kd.R iM 68 w' w.heap.size (fun _=>True) v1 (fq b).1∧Kd.R (Kd.int .u8) 5 w' w.heap.size (fun _=>True) v2 (fq b).2.1∧Below w.heap.size w w'
theorem iN.bad {w w':World} {b:List Int} {q:Int} (h:fq b=([],[],q)) (hb:Below w.heap.size w w'):iN w b (.returned (.tuple #[.slice none 0 0,.slice none 0 0,.int .i64 q])) w':=by
 refine⟨_,_,by rw[h],?_,?_,hb⟩
 ·rw[h];exact Kd.fP _ _ _ _ _
 ·rw[h];exact Kd.fP _ _ _ _ _
theorem iN.nil {w w':World} {b:List Int} (h:b.length=0) (hb:Below w.heap.size w w'):iN w b (.returned (.tuple #[.slice none 0 0,.slice none 0 0,.int .i64 3])) w' :=
 iN.bad (by rw[List.eq_nil_of_length_eq_zero h];rfl) hb
theorem vK {b:List Int} (h:∀ x∈b,0≤x∧x<256) (h0:0<b.length):∃ n:Nat,rd b 0=(n:Int)∧n<256:=by
 have:=h _ (wZ b 0 h0)
 rw[show ((0:Nat):Int)=0 from rfl] at this
 exact⟨(rd b 0).toNat,by omega,by omega⟩
theorem cell0 {w:World} {A:Option Addr} {xs:List Int} (h:Kd.C (Kd.int .u8) w A xs.length xs) (h0:0<xs.length):∃ ad,A=some ad∧w.cell? ad=some (.int .u8 (rd xs 0)):=by
 obtain⟨ad,cb,rfl,_,hKb,hcb⟩:=Kd.ng h (0:Int) 0 (by omega) (by omega)
 refine⟨ad,rfl,?_⟩
 have:=hcb 0 (.int .u8 (rd xs 0)) (by rw[show cb=[Value.int .u8 (rd xs 0)] from hKb];rfl)
 simpa [Addr.add] using this
theorem set_mid (l:List eP) (d:Nat) (x y:eP) (k:Nat) (hk:l.length=k):(l++x::List.replicate d z68).set ((k:Int)).toNat y=l++y::List.replicate d z68:=by
 rw[Int.toNat_natCast,← hk,List.set_append_right _ _ (Nat.le_refl _),Nat.sub_self]
 rfl
theorem Kz (l:List eP) (d:Nat) (x:eP) (k:Nat) (hk:l.length=k):bU (l++x::List.replicate d z68) (k:Int)=x:=by
 subst hk
 simp[bU,List.getD_eq_getElem?_getD]
theorem mX {α:Type} {d:Kd α} {e base n cap g:Nat} {ok:Nat→Prop} {w:World} {xs:List α} (h:Kd.R d e w base ok (.slice (some ⟨g,0,none⟩) n cap) xs) (i:Nat):w.frozen? ⟨g,i,none⟩=false:=by
 obtain⟨cells,hc⟩:=Kd.uN h g (by simp[Value.ownBlock])
 exact aC hc i
theorem Ga {W wS:World} {base g k:Nat} {ok:Nat→Prop} {u v:Value} {xs:List eP} (j:Nat) (hs:(W.setCell ⟨g,k*2+j,none⟩ u).drew=wS) (h:Kd.R iM 68 (W.drew.setCells g ((k:Int).toNat*iM.sz+j) [u]) base ok v xs):Kd.R iM 68 wS base ok v xs:=by
 subst hs
 rw[Int.toNat_natCast] at h
 exact h
theorem NQ {α:Type} {d:Kd α} {e base:Nat} {w1 w2:World} {v:Value} {xs:List α} {o:Obj} (h:Kd.R d e w1 base (fun _=>True) v xs) (hg:(w1.alloc o).grownBy w2 (some w1.heap.size)):Kd.R d e w2 base (fun _=>True) v xs:=
 Kd.dL (Kd.uL (Kd.bR (Kd.gM h) (aj (Below.refl _ _) o)) hg (fun k hk he=>by injection he with he;have:=hk.2.2.1;omega)) (fun _ _=>trivial)
theorem fq.calls (A:Option Addr) (c n:Nat) (b:List Int) (w:World) (hn:b.length=n) (hr:Kd.C (Kd.int .u8) w A n b) (hc:n≤c) (hok:okB b=true) (hlen:n≤1000000) :
 Calls Tryz.prog 132 #[.slice A n c] w (iN w b):=by
 subst hn
 by_cases h0:b.length=0
 ·have HE:=ah.mk (fun W=>iN.nil (w:=w) (w':=W) (b:=b) h0)
  have h1:((b.length:Int)==0)=true:=beq_iff_eq.2 (by omega)
  clear h0 hr hc hok hlen
  go_enter Tryz.func132,Tryz.ntmps132
  go_wp2
  refine bodyPost_ret (results_tmp3 rfl _ _ _) rfl ?_
  exact HE.o _ (Below.refl _ _)
 ·have hp:0<b.length:=by omega
  have h1:((b.length:Int)==0)=false:=beq_eq_false_iff_ne.2 (by omega)
  obtain⟨n,hn,hn256⟩:=vK (dK.1 hok) hp
  obtain⟨A1,c1,r0,HR0,HC0,hc1,hcut⟩:=NZ A c b 1 hp hc
  have hcut1:=hcut 1 rfl
  have HRB:=ah.mk (HC0.o w hr)
  have HBY:ah (∀ x∈r0,0≤x∧x<256):=⟨fun x hx=>dK.1 hok x (by rw[HR0.o] at hx;exact List.mem_of_mem_drop hx)⟩
  have HRL:ah (r0.length≤1000000):=⟨by rw[HR0.o,List.length_drop];omega⟩
  have hml:=fun W=>Ih .u8 n (by omega) W
  have HSH:ah (eY r0 n=none→fq b=([],[],3)):=⟨fun h=>BU hp hn (by rw[← HR0.o];exact h)⟩
  have HFO:ah (∀ l r',eY r0 n=some (l,r')→dV l=false→fq b=([],[],5)):=⟨fun l r' h hc=>Eb hp hn (by rw[← HR0.o];exact h) hc⟩
  have HGO:ah (∀ l r',eY r0 n=some (l,r')→dV l=true→fq b=(l,r',0)):=⟨fun l r' h hc=>JF hp hn (by rw[← HR0.o];exact h) hc⟩
  have hl1:(0:Int)<(b.length:Int):=by omega
  obtain⟨ad,rfl,hcell⟩:=cell0 hr hp
  rw[hn] at hcell
  have HCL:=ah.mk hc1
  clear hcut h0 hok hn hlen HC0 HR0 hr hc hc1
  go_enter Tryz.func132,Tryz.ntmps132
  go_wp2
  have HM:=ah.mk (LA w w.heap.size n (Nat.le_refl _) (by omega))
  have HB0:=ah.mk (aj (Below.refl w.heap.size w) (.cells (madeCells (Value.agg #[.string ⟨#[]⟩,.string ⟨#[]⟩]).cells (n*2)) 68))
  go_loopw [0,21] (fun s i wr=>∃ (k:Nat) (A':Option Addr) (c':Nat) (r:List Int) (l:List eP),k≤n∧i = .int .i64 k∧s = .slice A' r.length c'∧ah (eY r0 k=some (l,r))∧ah (r.length≤c')∧ah (Kd.C (Kd.int .u8) w A' r.length r)∧ah (Kd.R iM 68 wr w.heap.size (fun _=>True) (.slice (some ⟨w.heap.size,0,none⟩) n n) (l++List.replicate (n-k) z68))∧ah (Below w.heap.size w wr)) (fun _ i _=>n-(intOf i).toNat)
  case atStart=>exact⟨0,A1,c1,r0,[],Nat.zero_le _,rfl,rfl,⟨rfl⟩,HCL,HRB,HM,HB0⟩
  case round=>
   clear HM HB0
   obtain⟨k,A',c',r,l,hk,rfl,rfl,HD,HCC,HCR,HV,HB⟩:=hrel
   have hlk:=(oq HD.o).1
   have HRL2:ah (r.length≤1000000):=⟨by have:=(oq HD.o).2;have:=HRL.o;omega⟩
   by_cases hlt:k<n
   ·have HLK:=ah.mk hlk
    have HKN:=ah.mk hlt
    have hki:(k:Int)<(n:Int):=by omega
    have hk0:(0:Int)≤(k:Int):=by omega
    obtain⟨d,hd⟩:∃ d,n-k=d+1:=⟨n-k-1,by omega⟩
    have HDD:ah (n-(k+1)=d):=⟨by omega⟩
    rw[hd,List.replicate_succ] at HV
    have HBX:=ah.mk (fun x hx=>HBY.o x (GI HD.o x hx))
    have HST:=ah.mk (fun (h:eY r0 (k+1)=none)=>HSH.o (D9 hlt h))
    clear hlk hd hlt
    go_wp2_with fail
    go_quiet (fail)
    generalize hwq:wr.drewN nq=wq
    have HVq:ah (Kd.R iM 68 wq w.heap.size (fun _=>True) (.slice (some ⟨w.heap.size,0,none⟩) n n) (l++z68::List.replicate d z68)):=⟨hwq ▸ HV.o⟩
    have HBq:ah (Below w.heap.size w wq):=⟨hwq ▸ ay HB.o _⟩
    clear hwq HV HB
    go_wp2_with fail
    have hi0:=fun W=>uR (P:=Tryz.prog) 198 197 Tryz.underlying198 (fun W=>by kernel_rfl) (fun W=>by kernel_rfl) (.pointer (some ⟨w.heap.size,k*2,none⟩)) (.pointer (some ⟨w.heap.size,k*2+1,none⟩)) 0 _ (.inl ⟨rfl,rfl⟩) W
    have hi1:=fun W=>uR (P:=Tryz.prog) 198 197 Tryz.underlying198 (fun W=>by kernel_rfl) (fun W=>by kernel_rfl) (.pointer (some ⟨w.heap.size,k*2,none⟩)) (.pointer (some ⟨w.heap.size,k*2+1,none⟩)) 1 _ (.inr ⟨rfl,rfl⟩) W
    refine wp_loop_rounds 3 ?_
    rw[rounds_succ]
    by_cases ha1:r.length=0
    ·have HE:ah (fq b=([],[],3)):=⟨HST.o (vM HD.o (wV ha1))⟩
     have e1:((r.length:Int)==0)=true:=beq_iff_eq.2 (by omega)
     clear ha1
     go_wp2
     refine bodyPost_ret (results_tmp3 rfl _ _ _) rfl ?_
     exact iN.bad HE.o HBq.o
    ·have e1:((r.length:Int)==0)=false:=beq_eq_false_iff_ne.2 (by omega)
     have hp1:0<r.length:=by omega
     obtain⟨m1,hm1,hm2561⟩:=vK HBX.o hp1
     obtain⟨ad1,hA1,hcl1⟩:=cell0 (Kd.aH HCR.o HBq.o) hp1
     rw[hm1] at hcl1
     have hl1:(0:Int)<(r.length:Int):=by omega
     have hrl1:=HRL2.o
     by_cases hs1:(r.length:Int)-1<(m1:Int)
     ·have HE:ah (fq b=([],[],3)):=⟨HST.o (vM HD.o (qQ hp1 (by rw[hm1];omega) (by rw[hm1];exact hs1)))⟩
      subst hA1
      clear ha1 hp1 hm1
      go_wp2
      refine bodyPost_ret (results_tmp3 rfl _ _ _) rfl ?_
      exact iN.bad HE.o HBq.o
     ·have hps:=yT hp1 hm1 (by omega)
      obtain⟨AM1,cM1,rM1,HRM1,HCM1,hcM1,hmid1⟩:=Ml A' c' r 1 (1+m1) (by omega) (by omega) HCC.o
      obtain⟨AX1,cX1,rX1,HRX1,HCX1,hcX1,hcut1⟩:=NZ A' c' r (1+m1) (by omega) HCC.o
      rw[← HRM1.o,← HRX1.o] at hps
      have HPS1:=ah.mk hps
      have hmid1_:=fun W=>hmid1 1 (1+(m1:Int)) rfl (by omega) W
      have hcut1_:=fun W=>hcut1 (1+(m1:Int)) (by omega) W
      have HMC1:=ah.mk (fun W (hb:Below w.heap.size w W)=>Kd.qp (P:=Tryz.prog) (A:=AM1) (c:=cM1) Tryz.underlying24 Tryz.underlying5 Tryz.underlying9 (HCM1.o W (Kd.aH HCR.o hb)))
      have HCRX1:=ah.mk (HCX1.o w HCR.o)
      have HCCX1:=ah.mk hcX1
      have HBXX1:ah (∀ x∈rX1,0≤x∧x<256):=⟨fun x hx=>HBX.o x (by rw[HRX1.o] at hx;exact List.mem_of_mem_drop hx)⟩
      have HRLX1:ah (rX1.length≤1000000):=⟨by rw[HRX1.o,List.length_drop];omega⟩
      have hw1:IntKind.i64.wrap (1+(m1:Int))=1+(m1:Int):=by rw[IntKind.wrap_i64];omega
      have hs1_:decide ((r.length:Int)-1<(m1:Int))=false:=decide_eq_false hs1
      clear hps hmid1 hcut1 HCM1 HRM1 HRX1 HCX1 hcX1 hcM1 ha1 hp1 hm1 hs1
      subst hA1
      go_wp2_with fail
      have hat1:=jo (Kd.aX HVq.o).2.2 (k:Int) (by omega) (by rw[List.length_append,List.length_cons,HLK.o];omega)
      rw[Kz _ _ _ _ HLK.o] at hat1
      obtain⟨adv1,hadv1,q01,q11⟩:=hat1
      obtain rfl:=Option.some.inj hadv1
      rw[Int.toNat_natCast,add_plain] at q01 q11
      have hfz1:=mX HVq.o 0
      have hfy1:=mX HVq.o (k*2)
      have HQ01:=ah.mk q01
      have HQ11:=ah.mk q11
      have HSG1:=ah.mk (Kd.Nb (i:=(k:Int)) (j:=0) (x':=(⟨strOfNums rM1,⟨#[]⟩⟩:eP)) (seg:=[.string (strOfNums rM1)]) (c:=[.string ⟨#[]⟩,.string ⟨#[]⟩]) (okp:=fun _=>False) (W:=wq.drew) (show Kd.R _ _ wq.drew _ _ _ _ from HVq.o) hk0 hki rfl (by intro j u hj;rw[Int.toNat_natCast];match j,hj with | 0,hj=>exact (Option.some.inj hj) ▸ HQ01.o | 1,hj=>exact (Option.some.inj hj) ▸ HQ11.o | z+2,hj=>simp at hj) (by show 0+1≤2;decide) (uT _ _ _ (⟨strOfNums rM1,⟨#[]⟩⟩:eP)) (fun _ hk=>hk.elim))
      have hcv1:=HMC1.o wq.drew (aD HBq.o)
      clear hadv1 hfz1
      go_wp2_with fail
      go_region
      go_wp2_with fail
      generalize hwS1:(World.setCell wq ⟨w.heap.size,k*2,none⟩ (.string (strOfNums rM1))).drew=wS1
      have HVs1:=ah.mk (Ga 0 hwS1 HSG1.o.1)
      have HBs1:ah (Below w.heap.size w wS1):=⟨hwS1 ▸ aD (HBq.o.setCell (p:=⟨w.heap.size,k*2,none⟩) (Nat.le_refl _) _)⟩
      rw[set_mid _ _ _ _ _ HLK.o] at HVs1
      clear hwS1 hcv1 q01 q11 hfy1 HSG1 hmid1_ hcut1_ hcl1
      rw[rounds_succ]
      by_cases ha2:rX1.length=0
      ·have HE:ah (fq b=([],[],3)):=⟨HST.o (vN HD.o HPS1.o (wV ha2))⟩
       have e1:((rX1.length:Int)==0)=true:=beq_iff_eq.2 (by omega)
       clear ha2
       go_wp2
       refine bodyPost_ret (results_tmp3 rfl _ _ _) rfl ?_
       exact iN.bad HE.o HBs1.o
      ·have e1:((rX1.length:Int)==0)=false:=beq_eq_false_iff_ne.2 (by omega)
       have hp2:0<rX1.length:=by omega
       obtain⟨m2,hm2,hm2562⟩:=vK HBXX1.o hp2
       obtain⟨ad2,hA2,hcl2⟩:=cell0 (Kd.aH HCRX1.o HBs1.o) hp2
       rw[hm2] at hcl2
       have hl2:(0:Int)<(rX1.length:Int):=by omega
       have hrl2:=HRLX1.o
       by_cases hs2:(rX1.length:Int)-1<(m2:Int)
       ·have HE:ah (fq b=([],[],3)):=⟨HST.o (vN HD.o HPS1.o (qQ hp2 (by rw[hm2];omega) (by rw[hm2];exact hs2)))⟩
        subst hA2
        clear ha2 hp2 hm2
        go_wp2
        refine bodyPost_ret (results_tmp3 rfl _ _ _) rfl ?_
        exact iN.bad HE.o HBs1.o
       ·have hps:=yT hp2 hm2 (by omega)
        obtain⟨AM2,cM2,rM2,HRM2,HCM2,hcM2,hmid2⟩:=Ml AX1 cX1 rX1 1 (1+m2) (by omega) (by omega) HCCX1.o
        obtain⟨AX2,cX2,rX2,HRX2,HCX2,hcX2,hcut2⟩:=NZ AX1 cX1 rX1 (1+m2) (by omega) HCCX1.o
        rw[← HRM2.o,← HRX2.o] at hps
        have HPS2:=ah.mk hps
        have hmid2_:=fun W=>hmid2 1 (1+(m2:Int)) rfl (by omega) W
        have hcut2_:=fun W=>hcut2 (1+(m2:Int)) (by omega) W
        have HMC2:=ah.mk (fun W (hb:Below w.heap.size w W)=>Kd.qp (P:=Tryz.prog) (A:=AM2) (c:=cM2) Tryz.underlying24 Tryz.underlying5 Tryz.underlying9 (HCM2.o W (Kd.aH HCRX1.o hb)))
        have HCRX2:=ah.mk (HCX2.o w HCRX1.o)
        have HCCX2:=ah.mk hcX2
        have HBXX2:ah (∀ x∈rX2,0≤x∧x<256):=⟨fun x hx=>HBXX1.o x (by rw[HRX2.o] at hx;exact List.mem_of_mem_drop hx)⟩
        have HRLX2:ah (rX2.length≤1000000):=⟨by rw[HRX2.o,List.length_drop];omega⟩
        have hw2:IntKind.i64.wrap (1+(m2:Int))=1+(m2:Int):=by rw[IntKind.wrap_i64];omega
        have hs2_:decide ((rX1.length:Int)-1<(m2:Int))=false:=decide_eq_false hs2
        clear hps hmid2 hcut2 HCM2 HRM2 HRX2 HCX2 hcX2 hcM2 ha2 hp2 hm2 hs2
        subst hA2
        go_wp2_with fail
        have hat2:=jo (Kd.aX HVs1.o).2.2 (k:Int) (by omega) (by rw[List.length_append,List.length_cons,HLK.o];omega)
        rw[Kz _ _ _ _ HLK.o] at hat2
        obtain⟨adv2,hadv2,q02,q12⟩:=hat2
        obtain rfl:=Option.some.inj hadv2
        rw[Int.toNat_natCast,add_plain] at q02 q12
        have hfz2:=mX HVs1.o 0
        have hfy2:=mX HVs1.o (k*2+1)
        have HQ02:=ah.mk q02
        have HQ12:=ah.mk q12
        have HSG2:=ah.mk (Kd.Nb (i:=(k:Int)) (j:=1) (x':=(⟨strOfNums rM1,strOfNums rM2⟩:eP)) (seg:=[.string (strOfNums rM2)]) (c:=[.string (strOfNums rM1),.string ⟨#[]⟩]) (okp:=fun _=>False) (W:=wS1.drew) (show Kd.R _ _ wS1.drew _ _ _ _ from HVs1.o) hk0 hki rfl (by intro j u hj;rw[Int.toNat_natCast];match j,hj with | 0,hj=>exact (Option.some.inj hj) ▸ HQ02.o | 1,hj=>exact (Option.some.inj hj) ▸ HQ12.o | z+2,hj=>simp at hj) (by show 1+1≤2;decide) (uT _ _ _ (⟨strOfNums rM1,strOfNums rM2⟩:eP)) (fun _ hk=>hk.elim))
        have hcv2:=HMC2.o wS1.drew (aD HBs1.o)
        clear hadv2 hfz2
        go_wp2_with fail
        go_region
        go_wp2_with fail
        generalize hwS2:(World.setCell wS1 ⟨w.heap.size,k*2+1,none⟩ (.string (strOfNums rM2))).drew=wS2
        have HVs2:=ah.mk (Ga 1 hwS2 HSG2.o.1)
        have HBs2:ah (Below w.heap.size w wS2):=⟨hwS2 ▸ aD (HBs1.o.setCell (p:=⟨w.heap.size,k*2+1,none⟩) (Nat.le_refl _) _)⟩
        rw[set_mid _ _ _ _ _ HLK.o] at HVs2
        clear hwS2 hcv2 q02 q12 hfy2 HSG2 hmid2_ hcut2_ hcl2
        rw[rounds_succ]
        go_wp2
        go_roundw
        case rel=>exact⟨k+1,AX2,cX2,rX2,l++[(⟨strOfNums rM1,strOfNums rM2⟩:eP)],by omega,by go_num,rfl,⟨Ea HD.o HPS1.o HPS2.o⟩,HCCX2,HCRX2,⟨by rw[HDD.o,List.append_assoc];exact HVs2.o⟩,HBs2⟩
        case measure=>simp[intOf];omega
   ·obtain rfl:k=n:=by omega
    rw[Nat.sub_self,List.replicate_zero,List.append_nil] at HV
    cases hcan:dV l with
    | false=>
      have HE:=ah.mk (HFO.o l r HD.o hcan)
      have HC:ah (∀ c,l.length≤c→Calls Tryz.prog 87 #[.slice (some ⟨w.heap.size,0,none⟩) k c] wr fun e w'=>e = .returned (.bool false)∧Below wr.heap.size wr w'):=⟨fun c hc=>hcan ▸ dV.calls _ c k l wr hlk (hlk ▸ (Kd.aX HV.o).2.2) (hlk ▸ hc)⟩
      clear hcan
      go_wp2_with (first|(go_at_call 87;(with_reducible refine (HC.o _ (Nat.le_of_eq hlk)).mono ?_);rintro e w1 ⟨rfl,hb⟩;have HB1:=ah.mk (ak HB.o hb);clear hb))
      refine bodyPost_ret (results_tmp3 rfl _ _ _) rfl ?_
      exact iN.bad HE.o HB1.o
    | true=>
      have HE:=ah.mk (HGO.o l r HD.o hcan)
      have HC:ah (∀ c,l.length≤c→Calls Tryz.prog 87 #[.slice (some ⟨w.heap.size,0,none⟩) k c] wr fun e w'=>e = .returned (.bool true)∧Below wr.heap.size wr w'):=⟨fun c hc=>hcan ▸ dV.calls _ c k l wr hlk (hlk ▸ (Kd.aX HV.o).2.2) (hlk ▸ hc)⟩
      clear hcan
      go_wp2_with (first|(go_at_call 87;(with_reducible refine (HC.o _ (Nat.le_of_eq hlk)).mono ?_);rintro e w1 ⟨rfl,hb⟩;have HB1:=ah.mk (ak HB.o hb);have HV1:=ah.mk (Kd.bR HV.o hb);have HE1:=ah.mk (og (Kd.int .u8) 5 w.heap.size w1 (fun _=>True) (ak HB.o hb).size trivial);clear hb)|((with_reducible refine bM (N:=71) rfl ?_);go_must (refine Kd.j5 (Value.int .u8) 0 (h1:=fun _=>rfl) (w0:=w) w.heap.size rfl (.tmp 69) (.tmp 70) 24 5 (.int .u8 0) 1 rfl Tryz.underlying24 gU rfl (by decide) _ [] r A' r.length c' (fun _=>True) rfl rfl (fun _ _=>trivial) HE1.o (Kd.aH HCR.o (aj HB1.o _)) (aj HB1.o _) ?hb ?hl ?_;(case hb=>exact (aj HB1.o _).size);(case hl=>(have:=HRL2.o;simp;omega));intro v1 w2 hR1 hB1 hg_ ho_;rw[List.nil_append] at hR1;have HR2:=ah.mk hR1;have HB2:=ah.mk hB1;have HV2:=ah.mk (NQ HV1.o hg_);clear hR1 hB1 hg_ ho_)))
      refine bodyPost_ret (results_tmp3 rfl _ _ _) rfl ?_
      refine⟨_,_,by rw[HE.o];rfl,?_,?_,HB2.o⟩
      ·rw[HE.o]
       exact HV2.o
      ·rw[HE.o]
       exact HR2.o
theorem oP (tmps:Array Value) (W:World) (r:Nat) (x0 x1:Value) (h:W.heap[r]? = some (.cells #[x0,x1] 51 (0,0))) (h2:tmps.getD 2 undef = .pointer (some ⟨r,0,none⟩)) :
 (results Tryz.f112 tmps).run Tryz.prog W = .ok (.tuple #[.agg #[x0,x1],tmps.getD 3 undef]) W:=by
 have c0:=(av h 0).trans rfl
 have c1:=(av h 1).trans rfl
 simp at h2
 simp[results,Tryz.f112,go_sem,h2,c0,c1]
def j6 (w:World) (f:Fr) (e:Ending) (w':World):Prop:=∃ (A1 A2:Option Addr) (n1 c1 n2 c2:Nat) (ok:Bool),e = .returned (.tuple #[.agg #[.slice A1 n1 c1,.slice A2 n2 c2],.bool ok])∧Below w.heap.size w w'∧(ok=false∧gV f=none∨ok=true∧∃ s:cB,gV f=some ⟨f.num,s⟩∧s.f1.length≤20∧s.f0.length≤8∧Kd.R iM 68 w' w.heap.size (fun _=>True) (.slice A1 n1 c1) s.f0∧Kd.R jg 70 w' w.heap.size (fun _=>True) (.slice A2 n2 c2) s.f1)
theorem j6.none_ {w W:World} {f:Fr} {A1 A2:Option Addr} {n1 c1 n2 c2:Nat} (h:gV f=none) (hb:Below w.heap.size w W):j6 w f (.returned (.tuple #[.agg #[.slice A1 n1 c1,.slice A2 n2 c2],.bool false])) W:=
 ⟨A1,A2,n1,c1,n2,c2,false,rfl,hb,.inl ⟨rfl,h⟩⟩
theorem kJ {w W:World} {x0 x1:Value} (hb:Below w.heap.size w W):Below w.heap.size w ((W.setCell ⟨w.heap.size+1,0,none⟩ x0).setCell ⟨w.heap.size+1,1,none⟩ x1):=
 (hb.setCell (p:=⟨w.heap.size+1,0,none⟩) (Nat.le_succ _) _).setCell (p:=⟨w.heap.size+1,1,none⟩) (Nat.le_succ _) _
theorem nN {w:World} {g t:Nat} {o0 o1:Value} (h:w.heap[g]? = some (.cells #[o0,o1] t (0,0))) (x0 x1:Value):((w.setCell ⟨g,0,none⟩ x0).setCell ⟨g,1,none⟩ x1).heap[g]? = some (.cells #[x0,x1] t (0,0)):=
 bK (bK h 0 _ rfl) 1 _ rfl
theorem I7 {α:Type} {d:Kd α} {e g B:Nat} {W:World} {v x0 x1:Value} {xs:List α} (h:d.R e W B (fun _=>True) v xs) (hg:g<B):d.R e ((W.setCell ⟨g,0,none⟩ x0).setCell ⟨g,1,none⟩ x1) B (fun _=>True) v xs:=by
 have h1:=Kd.dL (ok':=fun k=>k≠g) (Kd.gM h) (fun k hk=>by have:=hk.2.1;omega)
 exact Kd.dL (Kd.gF (Kd.gF h1 (p:=⟨g,0,none⟩) (fun _ hk=>hk) _) (p:=⟨g,1,none⟩) (fun _ hk=>hk) _) (fun _ _=>trivial)
theorem LX (b:List Int):(fq b).1.length≤8:=by
 cases b with
 | nil=>simp[fq]
 | cons a r=>
   simp only[fq]
   split
   ·simp
   ·split
    ·rename_i h
     exact (jB h).2.1
    ·simp
theorem series.calls (f:Fr) (A:Option Addr) (c m:Nat) (w:World) (hm:f.pay.length=m) (hr:Kd.C (Kd.int .u8) w A m f.pay) (hc:m≤c) (hok:okB f.pay=true) (hl:m≤1000) (hT:kH w) :
 Calls Tryz.prog 112 #[.agg #[.int .i64 f.kind,.int .i64 f.num,.slice A m c]] w (j6 w f):=by
 have HX:=ah.mk (by have h1:=bI (w.alloc (.cells #[.int .i64 f.kind,.int .i64 f.num,.slice A m c] 80 (0,0))) (.cells #[.slice none 0 0,.slice none 0 0] 51 (0,0));rw[World.size_alloc] at h1;exact h1)
 have HX1:=ah.mk (aU (bI w (.cells #[.int .i64 f.kind,.int .i64 f.num,.slice A m c] 80 (0,0))) (.cells #[.slice none 0 0,.slice none 0 0] 51 (0,0)))
 have HBA:=ah.mk (aj (aj (Below.refl w.heap.size w) (.cells #[.int .i64 f.kind,.int .i64 f.num,.slice A m c] 80 (0,0))) (.cells #[.slice none 0 0,.slice none 0 0] 51 (0,0)))
 by_cases hk:f.kind=2
 ·have hki:((f.kind:Int) != 2)=false:=by rw[hk];rfl
  have DL:ah (∀ W,Below w.heap.size w W→Calls Tryz.prog 132 #[.slice A m c] W (iN W f.pay)):=⟨fun W hb=>fq.calls A c m f.pay W hm (Kd.aH hr hb) hc hok (by omega)⟩
  obtain⟨rl,rr,re,hd⟩:∃ rl rr re,fq f.pay=(rl,rr,re):=⟨_,_,_,rfl⟩
  have HD:=ah.mk hd
  have HRR:ah (okB rr=true∧rr.length≤2500∧rl.length≤8):=⟨by
   have h1:=Ec f.pay
   have h2:=LX f.pay
   rw[hd] at h1 h2
   exact⟨ku hok h1.1,by have:=h1.2;simp only at this;omega,h2⟩⟩
  have HCB:ah (gV f=(if re≠0 then none else if (nD rr).2≠0∨(nD rr).1.length=0∨20<(nD rr).1.length then none else some ⟨rl,(nD rr).1⟩:Option cB).map (fun s=>⟨f.num,s⟩)):=⟨by rw[gV,if_pos hk,zL,hd]⟩
  clear hok hr hd hm hk
  by_cases hre:re=0
  ·subst hre
   obtain⟨sl,se,hs⟩:∃ sl se,nD rr=(sl,se):=⟨_,_,rfl⟩
   have HDE:ah (∀ A' c' W,Kd.C (Kd.int .u8) W A' rr.length rr→rr.length≤c'→Below w.heap.size w W→Calls Tryz.prog 133 #[.slice A' rr.length c'] W fun e w'=>∃ v:Value,e = .returned (.tuple #[v,.int .i64 se])∧Kd.R jg 70 w' W.heap.size (fun _=>True) v sl∧Below W.heap.size W w'):=⟨fun A' c' W h1 h2 hb=>mJ.bS A' c' rr W sl se rfl h1 h2 HRR.o.1 HRR.o.2.1 (hT.below hb) hs⟩
   rw[hs] at HCB
   simp only[ne_eq,not_true_eq_false,if_false] at HCB
   clear hs hT
   by_cases hs0:se=0
   ·subst hs0
    have e0:((0:Int)==0)=true:=by decide
    by_cases hl0:sl.length=0
    ·have HE:ah (gV f=none):=⟨by rw[HCB.o,if_pos (.inr (.inl hl0))];rfl⟩
     have hl0i:¬ ((0:Int)<(sl.length:Int)):=by omega
     have hl0n:¬ (0<sl.length):=by omega
     clear HCB hl0
     go_enter Tryz.func112,Tryz.ntmps112
     go_wp2_with (first|(go_at_call 132;(with_reducible refine (DL.o _ HBA.o).mono ?_);rintro e w2 ⟨v1,v2,rfl,h1,h2,hb⟩;rw[HD.o] at h1 h2 ⊢;dsimp only at h1 h2 ⊢;obtain⟨A7,c7,rfl⟩:=Kd.bD h1;obtain⟨A8,c8,rfl⟩:=Kd.bD h2;have HV1:=ah.mk h1;have HV2:=ah.mk h2;have HB2:=ah.mk (ak HBA.o hb);have HX2:=ah.mk (aG HX.o hb);have q0:=(av HX2.o 0).trans rfl;have q1:=(av HX2.o 1).trans rfl;have y0:=aC HX2.o 0;have y1:=aC HX2.o 1;clear hb h1 h2)|(go_at_call 133;(with_reducible refine (HDE.o A8 c8 _ (Kd.aX HV2.o).2.2 (Kd.aX HV2.o).2.1 HB2.o).mono ?_);rintro e w3 ⟨v3,rfl,h3,hb⟩;obtain⟨A9,c9,rfl⟩:=Kd.bD h3;have HV3:=ah.mk h3;have HV13:=ah.mk (Kd.bR HV1.o hb);have HB3:=ah.mk (ak HB2.o hb);have HX3:=ah.mk (aG HX2.o hb);clear q0 q1 y0 y1;have q0:=(av HX3.o 0).trans rfl;have q1:=(av HX3.o 1).trans rfl;have y0:=aC HX3.o 0;have y1:=aC HX3.o 1;clear hb h3))
     refine bodyPost_ret (oP _ _ (w.heap.size+1) _ _ (nN HX3.o _ _) rfl) rfl ?_
     exact j6.none_ HE.o (kJ HB3.o)
    ·have hl0i:(0:Int)<(sl.length:Int):=by omega
     have hl0n:0<sl.length:=by omega
     by_cases hl2:20<sl.length
     ·have HE:ah (gV f=none):=⟨by rw[HCB.o,if_pos (.inr (.inr hl2))];rfl⟩
      have hl2i:¬ ((sl.length:Int)≤20):=by omega
      clear HCB hl0 hl2
      go_enter Tryz.func112,Tryz.ntmps112
      go_wp2_with (first|(go_at_call 132;(with_reducible refine (DL.o _ HBA.o).mono ?_);rintro e w2 ⟨v1,v2,rfl,h1,h2,hb⟩;rw[HD.o] at h1 h2 ⊢;dsimp only at h1 h2 ⊢;obtain⟨A7,c7,rfl⟩:=Kd.bD h1;obtain⟨A8,c8,rfl⟩:=Kd.bD h2;have HV1:=ah.mk h1;have HV2:=ah.mk h2;have HB2:=ah.mk (ak HBA.o hb);have HX2:=ah.mk (aG HX.o hb);have q0:=(av HX2.o 0).trans rfl;have q1:=(av HX2.o 1).trans rfl;have y0:=aC HX2.o 0;have y1:=aC HX2.o 1;clear hb h1 h2)|(go_at_call 133;(with_reducible refine (HDE.o A8 c8 _ (Kd.aX HV2.o).2.2 (Kd.aX HV2.o).2.1 HB2.o).mono ?_);rintro e w3 ⟨v3,rfl,h3,hb⟩;obtain⟨A9,c9,rfl⟩:=Kd.bD h3;have HV3:=ah.mk h3;have HV13:=ah.mk (Kd.bR HV1.o hb);have HB3:=ah.mk (ak HB2.o hb);have HX3:=ah.mk (aG HX2.o hb);clear q0 q1 y0 y1;have q0:=(av HX3.o 0).trans rfl;have q1:=(av HX3.o 1).trans rfl;have y0:=aC HX3.o 0;have y1:=aC HX3.o 1;clear hb h3))
      refine bodyPost_ret (oP _ _ (w.heap.size+1) _ _ (nN HX3.o _ _) rfl) rfl ?_
      show j6 w f (.returned (.tuple #[.agg #[.slice A7 rl.length c7,.slice A9 sl.length c9],.bool (decide ((sl.length:Int)≤20))])) _
      rw[decide_eq_false (show ¬ ((sl.length:Int)≤20) by omega)]
      exact j6.none_ HE.o (kJ HB3.o)
     ·have HE:ah (gV f=some ⟨f.num,⟨rl,sl⟩⟩):=⟨by rw[HCB.o,if_neg (by omega)];rfl⟩
      have hl2i:(sl.length:Int)≤20:=by omega
      have HL2:=ah.mk hl2
      clear HCB hl0 hl2
      go_enter Tryz.func112,Tryz.ntmps112
      go_wp2_with (first|(go_at_call 132;(with_reducible refine (DL.o _ HBA.o).mono ?_);rintro e w2 ⟨v1,v2,rfl,h1,h2,hb⟩;rw[HD.o] at h1 h2 ⊢;dsimp only at h1 h2 ⊢;obtain⟨A7,c7,rfl⟩:=Kd.bD h1;obtain⟨A8,c8,rfl⟩:=Kd.bD h2;have HV1:=ah.mk h1;have HV2:=ah.mk h2;have HB2:=ah.mk (ak HBA.o hb);have HX2:=ah.mk (aG HX.o hb);have q0:=(av HX2.o 0).trans rfl;have q1:=(av HX2.o 1).trans rfl;have y0:=aC HX2.o 0;have y1:=aC HX2.o 1;clear hb h1 h2)|(go_at_call 133;(with_reducible refine (HDE.o A8 c8 _ (Kd.aX HV2.o).2.2 (Kd.aX HV2.o).2.1 HB2.o).mono ?_);rintro e w3 ⟨v3,rfl,h3,hb⟩;obtain⟨A9,c9,rfl⟩:=Kd.bD h3;have HV3:=ah.mk h3;have HV13:=ah.mk (Kd.bR HV1.o hb);have HB3:=ah.mk (ak HB2.o hb);have HX3:=ah.mk (aG HX2.o hb);clear q0 q1 y0 y1;have q0:=(av HX3.o 0).trans rfl;have q1:=(av HX3.o 1).trans rfl;have y0:=aC HX3.o 0;have y1:=aC HX3.o 1;clear hb h3))
      refine bodyPost_ret (oP _ _ (w.heap.size+1) _ _ (nN HX3.o _ _) rfl) rfl ?_
      have hsz1:w.heap.size+1+1≤w3.heap.size:=dO HX3.o
      have hsz2:w.heap.size+1+1≤w2.heap.size:=dO HX2.o
      refine⟨_,_,_,_,_,_,true,rfl,kJ HB3.o,.inr ⟨rfl,⟨rl,sl⟩,HE.o,Nat.le_of_not_lt HL2.o,HRR.o.2.2,?_,?_⟩⟩
      ·exact Kd.dW (I7 (HV13.o) (by rw[World.size_alloc,World.size_alloc];omega)) (by rw[World.size_alloc,World.size_alloc];omega)
      ·exact Kd.dW (I7 (HV3.o) (by omega)) (by omega)
   ·have HE:ah (gV f=none):=⟨by rw[HCB.o,if_pos (.inl hs0)];rfl⟩
    have hs0i:(se==0)=false:=beq_eq_false_iff_ne.2 hs0
    clear HCB hs0
    go_enter Tryz.func112,Tryz.ntmps112
    go_wp2_with (first|(go_at_call 132;(with_reducible refine (DL.o _ HBA.o).mono ?_);rintro e w2 ⟨v1,v2,rfl,h1,h2,hb⟩;rw[HD.o] at h1 h2 ⊢;dsimp only at h1 h2 ⊢;obtain⟨A7,c7,rfl⟩:=Kd.bD h1;obtain⟨A8,c8,rfl⟩:=Kd.bD h2;have HV1:=ah.mk h1;have HV2:=ah.mk h2;have HB2:=ah.mk (ak HBA.o hb);have HX2:=ah.mk (aG HX.o hb);have q0:=(av HX2.o 0).trans rfl;have q1:=(av HX2.o 1).trans rfl;have y0:=aC HX2.o 0;have y1:=aC HX2.o 1;clear hb h1 h2)|(go_at_call 133;(with_reducible refine (HDE.o A8 c8 _ (Kd.aX HV2.o).2.2 (Kd.aX HV2.o).2.1 HB2.o).mono ?_);rintro e w3 ⟨v3,rfl,h3,hb⟩;obtain⟨A9,c9,rfl⟩:=Kd.bD h3;have HV3:=ah.mk h3;have HV13:=ah.mk (Kd.bR HV1.o hb);have HB3:=ah.mk (ak HB2.o hb);have HX3:=ah.mk (aG HX2.o hb);clear q0 q1 y0 y1;have q0:=(av HX3.o 0).trans rfl;have q1:=(av HX3.o 1).trans rfl;have y0:=aC HX3.o 0;have y1:=aC HX3.o 1;clear hb h3))
    refine bodyPost_ret (oP _ _ (w.heap.size+1) _ _ (nN HX3.o _ _) rfl) rfl ?_
    exact j6.none_ HE.o (kJ HB3.o)
  ·have HE:ah (gV f=none):=⟨by rw[HCB.o,if_pos hre];rfl⟩
   have hrei:(re != 0)=true:=by simpa using hre
   clear HCB hre
   go_enter Tryz.func112,Tryz.ntmps112
   go_wp2_with (first|(go_at_call 132;(with_reducible refine (DL.o _ HBA.o).mono ?_);rintro e w2 ⟨v1,v2,rfl,h1,h2,hb⟩;rw[HD.o] at h1 h2 ⊢;dsimp only at h1 h2 ⊢;obtain⟨A7,c7,rfl⟩:=Kd.bD h1;obtain⟨A8,c8,rfl⟩:=Kd.bD h2;have HV1:=ah.mk h1;have HV2:=ah.mk h2;have HB2:=ah.mk (ak HBA.o hb);have HX2:=ah.mk (aG HX.o hb);have q0:=(av HX2.o 0).trans rfl;have q1:=(av HX2.o 1).trans rfl;have y0:=aC HX2.o 0;have y1:=aC HX2.o 1;clear hb h1 h2))
   refine bodyPost_ret (oP _ _ (w.heap.size+1) _ _ (nN HX2.o _ _) rfl) rfl ?_
   exact j6.none_ HE.o (kJ HB2.o)
 ·have hki:((f.kind:Int) != 2)=true:=by simp;omega
  have HE:ah (gV f=none):=⟨by rw[gV,if_neg hk]⟩
  clear hr hok hT hm hk
  go_enter Tryz.func112,Tryz.ntmps112
  go_wp2_with fail
  refine bodyPost_ret (oP _ _ (w.heap.size+1) _ _ HX.o rfl) rfl ?_
  exact j6.none_ HE.o HBA.o
end Go.Proofs.YtcgbgifbajdhpaaGreatDoor.PA
namespace Go
open Go.RowKit Go.Proofs.YtcgbgifbajdhpaaGreatDoorW.au
section
variable {P:Program} {ops:Array Oper} {Q:Exit→Act→World→Prop}
def gX (a:Act):List Tmp→(Nat→Value)→Act
 | [],_=>a
 | d::ds,y=>gX { a with tmps:=a.tmps.setIfInBounds d (y 0) } ds (fun k=>y (k+1))
def vJ (ops:Array Oper) (listed:Array Bool) (is:List Nat) (j:Nat):Bool:=
 listed.getD j true||is.contains j||((ops[j]?).map fun o=>(o.after.any fun e=>Region.binds .any e && !is.contains e.on && !listed.getD e.on false)||is.all fun i=>o.after.any fun e=>Region.binds .any e&&(e.on==i)).getD true
def Nr (ops:Array Oper) (n:Nat) (listed:Array Bool) (is:List Nat):Bool:=
 decide is.Nodup&&(List.range is.length).all (fun k=>match is[k]? with
  | none=>true
  | some i=>decide (i<n) && !listed.getD i true&&(match ops[i]? with
    | none=>false
    | some o=>o.guard.isNone&&o.after.all fun e => !Region.binds .any e||listed.getD e.on false||(is.take k).contains e.on))&&(List.range ops.size).all (vJ ops listed is)
theorem least:∀ l:List Nat,l≠[]→∃ k∈l,∀ j∈l,k≤j
 | [],h=>absurd rfl h
 | [a],_=>⟨a,List.mem_cons_self,fun j hj=>by rw[List.mem_singleton] at hj;omega⟩
 | a::b::l,_=>by
   obtain⟨k,hk,hm⟩:=least (b::l) (by simp)
   by_cases h:a≤k
   ·exact⟨a,List.mem_cons_self,fun j hj=>(List.mem_cons.1 hj).elim (fun e=>by omega) (fun hj=>Nat.le_trans h (hm j hj))⟩
   ·exact⟨k,List.mem_cons_of_mem _ hk,fun j hj=>(List.mem_cons.1 hj).elim (fun e=>by omega) (hm j)⟩
def mP (listed:Array Bool) (is:List Nat):Array Bool:=is.foldl (fun l i=>l.setIfInBounds i true) listed
def OL (y:Nat→Value) (k:Nat) (v:Value):Nat→Value:=fun j=>if j=k then v else y j
theorem Di:∀ (ds:List Tmp) (a:Act) (y:Nat→Value) (d:Tmp) (v:Value),d ∉ ds→gX { a with tmps:=a.tmps.setIfInBounds d v } ds y={ gX a ds y with tmps:=(gX a ds y).tmps.setIfInBounds d v }
 | [],_,_,_,_,_=>rfl
 | e::ds,a,y,d,v,h=>by
   rw[gX,gX,← Di ds _ _ d v (fun hd=>h (List.mem_cons_of_mem _ hd))]
   congr 2
   exact Array.setIfInBounds_comm _ _ (fun he=>h (he ▸ List.mem_cons_self))
theorem Dj:∀ (ds:List Tmp) (a:Act) (y:Nat→Value) (k:Nat) (d:Tmp) (v:Value),ds.Nodup→ds[k]? = some d→(gX a ds y).put (some d) v=gX a ds (OL y k v)
 | [],_,_,_,_,_,_,h=>by simp at h
 | e::ds,a,y,0,d,v,hn,h=>by
   simp only[List.getElem?_cons_zero,Option.some.injEq] at h
   subst h
   rw[gX,gX]
   have h1:=Di ds { a with tmps:=a.tmps.setIfInBounds e (y 0) } (fun k=>y (k+1)) e v (List.nodup_cons.1 hn).1
   simp only[Array.setIfInBounds_setIfInBounds] at h1
   exact h1.symm
 | e::ds,a,y,k+1,d,v,hn,h=>by
   rw[gX,gX]
   have h1:=Dj ds { a with tmps:=a.tmps.setIfInBounds e (y 0) } (fun k=>y (k+1)) k d v (List.nodup_cons.1 hn).2 (by simpa using h)
   rw[h1]
   congr 1
   funext j
   simp[OL]
theorem yV:∀ (ds:List Tmp) (a:Act),∃ y,gX a ds y=a
 | [],a=>⟨fun _=>undef,rfl⟩
 | d::ds,a=>by
   obtain⟨y,hy⟩:=yV ds a
   refine⟨fun k=>match k with | 0=>a.tmps.getD d undef | k+1=>y k,?_⟩
   rw[gX]
   have e:a.tmps.setIfInBounds d (a.tmps.getD d undef)=a.tmps:=by
    apply Array.ext_getElem?
    intro i
    rw[Array.getElem?_setIfInBounds]
    split
    ·rename_i h
     subst h
     split
     ·rename_i h2
      simp[h2]
     ·rename_i h2
      exact (Array.getElem?_eq_none (by omega)).symm
    ·rfl
   show gX { a with tmps:=a.tmps.setIfInBounds d (a.tmps.getD d undef) } ds y=a
   rw[e]
   exact hy
theorem tT:∀ (is:List Nat) (l:Array Bool) (j:Nat) (b:Bool),(mP l is).getD j b=if j∈is∧j<l.size then true else l.getD j b
 | [],l,j,b=>by simp[mP]
 | i::is,l,j,b=>by
   have h:=tT is (l.setIfInBounds i true) j b
   rw[Array.size_setIfInBounds] at h
   show (mP (l.setIfInBounds i true) is).getD j b=_
   rw[h]
   by_cases h1:j∈is∧j<l.size
   ·rw[if_pos h1,if_pos ⟨List.mem_cons_of_mem _ h1.1,h1.2⟩]
   ·rw[if_neg h1]
    by_cases h2:j=i
    ·subst h2
     by_cases h3:j<l.size
     ·rw[if_pos ⟨List.mem_cons_self,h3⟩]
      simp[h3]
     ·rw[if_neg (fun h=>h3 h.2)]
      simp[h3]
    ·rw[if_neg (fun h=>(List.mem_cons.1 h.1).elim h2 (fun h4=>h1 ⟨h4,h.2⟩))]
     simp[Array.getElem?_setIfInBounds_ne (Ne.symm h2)]
theorem qK:∀ (is:List Nat) (l:Array Bool),(mP l is).size=l.size
 | [],_=>rfl
 | i::is,l=>by
   show (mP (l.setIfInBounds i true) is).size=_
   rw[qK is,Array.size_setIfInBounds]
open Classical in
theorem bq.many {S:World→Prop} {n f:Nat} {listed:Array Bool} {a:Act} {w:World} (is:List Nat) (ds:List Tmp) (Φ:Nat→Value→World→Prop)
 (hmono:∀ k v W W',Φ k v W→Below W.heap.size W W'→Φ k v W') (hB:Nr ops n listed is=true) (hlen:ds.length=is.length) (hnd:ds.Nodup)
 (hS:S w) (hstab:∀ W W',S W→Below W.heap.size W W'→S W')
 (hops:∀ k i d o,is[k]? = some i→ds[k]? = some d→ops[i]? = some o→o.dst=some d∧∀ y W',S W'→Oper.wp P o (gX a ds y) W' (fun a'' W''=>∃ v,a''=(gX a ds y).put (some d) v∧Φ k v W''∧Below W'.heap.size W' W'') Q)
 (h:∀ y W',S W'→(∀ k,k<is.length→Φ k (y k) W')→bq P ops Q S n f (mP listed is) (gX a ds y) W') :
 bq P ops Q S n (is.length+f) listed a w:=fun inv=>by
 unfold Nr at hB
 rw[Bool.and_eq_true,Bool.and_eq_true,decide_eq_true_eq,List.all_eq_true,List.all_eq_true] at hB
 obtain⟨⟨hisn,his'⟩,hblk'⟩:=hB
 have hblk:∀ j,j<ops.size→vJ ops listed is j=true:=fun j hj=>hblk' j (List.mem_range.2 hj)
 have his:∀ k i,is[k]? = some i→i<n∧listed.getD i true=false∧∃ o,ops[i]? = some o∧o.guard=none∧∀ e∈o.after,Region.binds .any e=true→listed.getD e.on false=true∨∃ k',k'<k∧is[k']? = some e.on:=fun k i hk=>by
  have h1:=his' k (List.mem_range.2 (List.getElem?_eq_some_iff.1 hk).1)
  simp only[hk] at h1
  cases ho:ops[i]? with
  | none=>simp[ho] at h1
  | some o=>
    simp only[ho,Bool.and_eq_true,decide_eq_true_eq,Bool.not_eq_true'] at h1
    refine⟨h1.1.1,h1.1.2,o,rfl,by simpa using h1.2.1,fun e he hb=>?_⟩
    have h2:=Array.all_eq_true'.1 h1.2.2 e he
    simp only[hb,Bool.not_true,Bool.false_or,Bool.or_eq_true] at h2
    rcases h2 with h2 | h2
    ·exact .inl h2
    ·obtain⟨k',hk',he'⟩:=List.mem_iff_getElem.1 (show e.on∈is.take k by simpa using h2)
     rw[List.length_take] at hk'
     rw[List.getElem_take] at he'
     exact .inr ⟨k',by omega,by rw[List.getElem?_eq_getElem (by omega),he']⟩
 have hlt:∀ i∈is,i<listed.size:=fun i hi=>by
  obtain⟨k,hk,he⟩:=List.mem_iff_getElem.1 hi
  obtain⟨_,_,o,ho,_⟩:=his k i (by rw[List.getElem?_eq_getElem hk,he])
  rw[inv.size]
  exact (Array.getElem?_eq_some_iff.1 ho).1
 suffices key:∀ (m:Nat) (rem:List Nat) (l':Array Bool) (y:Nat→Value) (W:World),rem.length=m→rem.Nodup→(∀ k∈rem,k<is.length)→l'.size=listed.size →
  (∀ j b,l'.getD j b=if (∃ k,is[k]? = some j∧k ∉ rem) then true else listed.getD j b)→HeadInv .any ops n l'→S W→(∀ k,k<is.length→k ∉ rem→Φ k (y k) W) →
  sS P .any ops Q S n (NH P ops Q n) (m+f) l' (gX a ds y) W by
  obtain⟨y,hy⟩:=yV ds a
  have h1:=key is.length (List.range is.length) listed y w (List.length_range ..) (List.nodup_range ..) (fun k hk=>List.mem_range.1 hk) rfl (fun j b=>by
   rw[if_neg]
   rintro⟨k,hk,hn⟩
   exact hn (List.mem_range.2 (List.getElem?_eq_some_iff.1 hk).1)) inv hS (fun k hk hn=>absurd (List.mem_range.2 hk) hn)
  rwa [hy] at h1
 intro m
 induction m with
 | zero=>
   intro rem l' y W hm _ _ hsz hl' inv' hW hΦ
   have hr0:rem=[]:=List.eq_nil_of_length_eq_zero hm
   subst hr0
   rw[Nat.zero_add]
   have hl:l'=mP listed is:=by
    apply Array.ext
    ·rw[hsz,qK]
    ·intro j h1 h2
     have h3:=hl' j false
     have h4:=tT is listed j false
     simp only[Array.getD_eq_getD_getElem?,Array.getElem?_eq_getElem h1,Array.getElem?_eq_getElem h2,Option.getD_some] at h3 h4
     rw[h3,h4]
     by_cases hj:j∈is
     ·obtain⟨k,hk,he⟩:=List.mem_iff_getElem.1 hj
      rw[if_pos ⟨k,by rw[List.getElem?_eq_getElem hk,he],List.not_mem_nil⟩,if_pos ⟨hj,hlt j hj⟩]
     ·rw[if_neg (fun ⟨k,hk,_⟩=>hj (List.mem_of_getElem? hk)),if_neg (fun h=>hj h.1)]
   subst hl
   exact h y W hW (fun k hk=>hΦ k hk List.not_mem_nil) inv'
 | succ m ih=>
   intro rem l' y W hm hnr hrl hsz hl' inv' hW hΦ
   have hne:rem≠[]:=fun e=>by rw[e] at hm;cases hm
   obtain⟨k0,hk0,hmin⟩:=least rem hne
   have hk0l:=hrl k0 hk0
   have hone:is[k0]∈Region.ready .any ops l':=by
    obtain⟨_,hu,o,ho,_,ha⟩:=his k0 is[k0] (List.getElem?_eq_getElem hk0l)
    refine mem_ready.2 ⟨?_,o,ho,fun e he hb=>?_⟩
    ·rw[hl' is[k0] true,if_neg,hu]
     rintro⟨k',hk',hn'⟩
     have:k'=k0:=(List.getElem?_inj (List.getElem?_eq_some_iff.1 hk').1 hisn).1 (hk'.trans (List.getElem?_eq_getElem hk0l).symm)
     exact hn' (this ▸ hk0)
    ·rw[hl' e.on false]
     split
     ·rfl
     ·rename_i hx
      rcases ha e he hb with h1 | ⟨k',hk',h1⟩
      ·exact h1
      ·exact absurd ⟨k',h1,fun hr=>by have:=hmin k' hr;omega⟩ hx
   have honly:∀ j∈Region.ready .any ops l',∃ k∈rem,is[k]? = some j:=fun j hj=>by
    obtain⟨hu,o,ho,ha⟩:=mem_ready.1 hj
    have hjs:j<ops.size:=(Array.getElem?_eq_some_iff.1 ho).1
    have hb:=hblk j hjs
    simp only[vJ,ho,Option.map_some,Option.getD_some,Bool.or_eq_true] at hb
    rw[hl' j true] at hu
    split at hu
    ·cases hu
    ·rename_i hnd'
     rcases hb with (hb | hb)|hb | hb
     ·rw[hu] at hb;cases hb
     ·have hj':j∈is:=by simpa using hb
      obtain⟨k,hk,he⟩:=List.mem_iff_getElem.1 hj'
      have hkj:is[k]? = some j:=by rw[List.getElem?_eq_getElem hk,he]
      refine⟨k,?_,hkj⟩
      exact Classical.byContradiction fun hn'=>hnd' ⟨k,hkj,hn'⟩
     ·obtain⟨e,he,hc⟩:=Array.any_eq_true'.1 hb
      simp only[Bool.and_eq_true,Bool.not_eq_true'] at hc
      have h3:=ha e he hc.1.1
      rw[hl' e.on false] at h3
      split at h3
      ·rename_i hx
       obtain⟨k,hk,_⟩:=hx
       have:is.contains e.on=true:=by simpa using List.mem_of_getElem? hk
       rw[this] at hc
       exact absurd hc.1.2 (by decide)
      ·rw[hc.2] at h3;cases h3
     ·have h3:=List.all_eq_true.1 hb is[k0] (List.getElem_mem hk0l)
      obtain⟨e,he,hc⟩:=Array.any_eq_true'.1 h3
      simp only[Bool.and_eq_true,beq_iff_eq] at hc
      have h4:=ha e he hc.1
      rw[hc.2,hl' is[k0] false] at h4
      split at h4
      ·rename_i hx
       obtain⟨k,hk,hn'⟩:=hx
       have:k=k0:=(List.getElem?_inj (List.getElem?_eq_some_iff.1 hk).1 hisn).1 (hk.trans (List.getElem?_eq_getElem hk0l).symm)
       exact absurd (this ▸ hk0) hn'
      ·have h6:=getD_both (his k0 is[k0] (List.getElem?_eq_getElem hk0l)).2.1
       rw[h6] at h4;cases h4
   rw[show m+1+f=(m+f)+1 by omega]
   refine⟨fun h0=>?_,fun j hj=>?_⟩
   ·rw[h0] at hone
    cases hone
   ·obtain⟨k,hk,hkj⟩:=honly j hj
    have hmem:=List.mem_of_getElem? hkj
    obtain⟨hjn,_,o,ho,hg,_⟩:=his k j hkj
    obtain⟨d,hd⟩:∃ d,ds[k]? = some d:=⟨_,List.getElem?_eq_getElem (by have:=hrl k hk;omega)⟩
    obtain⟨hdst,hop⟩:=hops k j d o hkj hd ho
    refine⟨hjn,?_⟩
    unfold wpOp
    simp only[ho]
    rw[if_pos (by simp[Region.wanted,hg])]
    refine .inl (Oper.wp_mono (fun a' w' hx=>?_) (hop y W hW))
    obtain⟨v,rfl,hv,hb⟩:=hx
    rw[Dj ds a y k d v hnd hd]
    have hW':=hstab _ _ hW hb
    refine⟨hW',ih (rem.erase k) _ _ w' (by rw[List.length_erase_of_mem hk];omega) (hnr.erase k) (fun k' hk'=>hrl k' (List.mem_of_mem_erase hk')) (by rw[Array.size_setIfInBounds,hsz]) (fun j' b=>?_) (inv'.set hj hjn) hW' (fun k' hk' hn'=>?_)⟩
    ·by_cases hjj:j'=j
     ·subst hjj
      rw[if_pos ⟨k,hkj,fun hx=>by rw[hnr.mem_erase_iff] at hx;exact hx.1 rfl⟩]
      have:j'<l'.size:=by rw[hsz];exact hlt j' hmem
      simp[this]
     ·have h1:(l'.setIfInBounds j true).getD j' b=l'.getD j' b:=by simp[Array.getElem?_setIfInBounds_ne (Ne.symm hjj)]
      rw[h1,hl' j' b]
      by_cases h2:∃ k,is[k]? = some j'∧k ∉ rem
      ·obtain⟨k2,hk2,hn2⟩:=h2
       rw[if_pos ⟨k2,hk2,hn2⟩,if_pos ⟨k2,hk2,fun hx=>hn2 (List.mem_of_mem_erase hx)⟩]
      ·rw[if_neg h2,if_neg]
       rintro⟨k2,hk2,hn2⟩
       refine h2 ⟨k2,hk2,fun hx=>hn2 ?_⟩
       rw[hnr.mem_erase_iff]
       refine⟨fun he=>hjj ?_,hx⟩
       subst he
       rw[hkj] at hk2
       injection hk2 with hk2
       exact hk2.symm
    ·unfold OL
     by_cases he:k'=k
     ·subst he
      rw[if_pos rfl]
      exact hv
     ·rw[if_neg he]
      refine hmono _ _ _ _ (hΦ k' hk' (fun hx=>hn' ?_)) hb
      rw[hnr.mem_erase_iff]
      exact⟨he,hx⟩
theorem iB {id:Nat} {a:Act} {w:World} (hm:P.follows .mixedOrders=true)
 (h:wpAny P .any ops (fun e a w=>e = .normal∧Q .normal a w) ops.size (Array.replicate ops.size false) a w.drew):(Code.region id ops true).wp P Q a w:=
 wp_mono (Q:=fun e a w=>e = .normal∧Q .normal a w) (wp_region_any hm h) (fun e a w he=>by obtain⟨h1,h2⟩:=he;subst h1;exact h2)
theorem su {c A B:Prop} [Decidable c] (hc:c) (h:if c then A else B):A:=by rwa [if_pos hc] at h
end
end Go
namespace Go.Proofs.YtcgbgifbajdhpaaGreatDoor.G
open Go.RowKit Go.Proofs.YtcgbgifbajdhpaaGreatDoorW.au Go.Proofs.YtcgbgifbajdhpaaGreatDoorW.aI Go.Proofs.YtcgbgifbajdhpaaGreatDoorW.aJ
structure kg (w:World):Prop where mk::(o:∀ j,j<4→w.cell? ⟨1,j,none⟩=some (.int .u32 (bL.quarter j:Nat)))
theorem kg.below {w w1:World} (h:kg w) (hb:Below w.heap.size w w1):kg w1:=⟨fun j hj=>aV hb (h.o j hj)⟩
theorem kg.drewN {w:World} (h:kg w) (n:Nat):kg (w.drewN n):=⟨h.o⟩
theorem kg.drawn {w w1:World} (h:kg w) (hd:aN w w1):kg w1:=h.below hd.below
def l9.f (s:Int) (l:List Int):Option Int:=if okB l=true∧0≤s∧s<4294967296 then some ((bL.more s.toNat l:Nat):Int) else none
def jJ.f (l:List Int):Option Int:=if okB l=true then some ((bL.more 0 l:Nat):Int) else none
theorem J8 (l:List Int) (k:Nat) (hk:k<l.length):bL.nat (l.take (k+1))=bL.nat (l.take k)++[(rd l (k:Int)).toNat]:=by
 have e:rd l (k:Int)=l[k]:=by simp[rd,List.getD_eq_getElem?_getD,List.getElem?_eq_getElem hk]
 rw[List.take_succ_eq_append_getElem hk,e]
 unfold bL.nat
 rw[List.map_append]
 rfl
theorem KM (r:Nat) (l:List Int) (k:Nat) (hk:k<l.length):bL.run r (bL.nat (l.take (k+1)))=bL.eight (bL.run r (bL.nat (l.take k)) ^^^ (rd l (k:Int)).toNat):=by
 rw[J8 l k hk,bL.EN]
 rfl
theorem Ip {l:List Int} (hl:okB l=true) (k:Nat):∀ x∈l.take k,0≤x∧x<256:=fun x hx=>dK.1 hl x (List.mem_of_mem_take hx)
theorem Nz (a b:Nat) (ha:a<4294967296) (hb:b<4294967296):Go.bits .xor .u32 (a:Int) (b:Int)=((a ^^^ b:Nat):Int):=u32_xor_nat a b ha hb
theorem wX (j:Nat):bL.quarter j<4294967296:=by unfold bL.quarter;split<;>decide
def Fb:Nat→Nat→Nat
 | 0,r=>r
 | n+1,r=>bL.two (Fb n r)
theorem OC {r:Nat} (h:r<4294967296):bL.two r<4294967296:=by rw[bL.K5];exact bL.Ez (bL.Ez h)
theorem Gf {r:Nat} (h:r<4294967296):∀ n,Fb n r<4294967296
 | 0=>h
 | n+1=>OC (Gf h n)
theorem P7 (r:Nat):Fb 4 r=bL.eight r:=bL.JR r
def FQ (n:Int):Int:=Go.bits .xor .u32 4294967295 n
theorem yN (S:Nat) (h:S<4294967296):FQ (S:Int)=((bL.inv S:Nat):Int):=by
 unfold FQ
 have:=u32_xor_nat 4294967295 S (by omega) h
 rw[bL.inv_def]
 exact this
theorem yj (n:Int):Op.unary .xor (.int .u32 n)=pure (.int .u32 (FQ n)):=rfl
attribute [local go_sem high] yj
theorem l9.calls (a0:Int) (A1:Option Addr) (c1:Nat) (l1:List Int) (r:Int) (w:World) (hr1:Kd.C (Kd.int .u8) w A1 l1.length l1) (hc1:l1.length≤c1) (hT:kg w) (h:l9.f a0 l1=some r) :
 Calls Tryz.prog 127 #[.int .u32 a0,.slice A1 l1.length c1] w fun e w'=>e = .returned (.int .u32 r)∧aN w w':=by
 have HR:=ah.mk hr1
 have hlen:l1.length≤9223372036854775807:=Kd.OP hr1
 clear hr1 hc1
 unfold l9.f at h
 split at h
 case isFalse=>cases h
 case isTrue hok=>
 obtain rfl:=Option.some.inj h
 clear h
 obtain⟨hb,h0,h1⟩:=hok
 obtain⟨S,rfl⟩:=Int.eq_ofNat_of_zero_le h0
 rw[Int.toNat_natCast]
 have hi:=yN S (by omega)
 clear h0
 go_enter Tryz.func127,Tryz.ntmps127
 go_wp2
 have hl:(bL.inv S)<4294967296:=bL.Es (by omega)
 go_loop [5,12] (fun r i=>∃ k:Nat,k≤l1.length∧i = .int .i64 k∧r = .int .u32 (bL.run (bL.inv S) (bL.nat (l1.take k)):Nat)) (fun _ i=>l1.length-(intOf i).toNat)
 case atStart=>exact⟨0,Nat.zero_le _,rfl,rfl⟩
 case round=>
  obtain⟨k,hk,rfl,rfl⟩:=hrel
  by_cases hlt:k<l1.length
  ·obtain⟨ad,rfl,hc⟩:=Kd.kI HR.o (k:Int) (by omega) (by omega)
   rw[Int.toNat_natCast] at hc
   have hx:=dK.1 hb _ (wZ l1 k hlt)
   have HT:=ah.mk (KM (bL.inv S) l1 k hlt)
   have hR:=bL.EO hl (bL.wO (Ip hb k))
   generalize bL.run (bL.inv S) (bL.nat (l1.take k))=R at hR HT ⊢
   obtain⟨X,hX⟩:=Int.eq_ofNat_of_zero_le hx.1
   rw[hX] at hc hx HT
   rw[Int.toNat_natCast] at HT
   clear hX
   have hw:IntKind.u32.wrap (X:Int)=(X:Int):=by rw[IntKind.wrap_u32];omega
   have hxor:=Nz R X hR (by omega)
   have hL:R ^^^ X<4294967296:=Nat.xor_lt_two_pow (n:=32) hR (by omega)
   go_wp2
   generalize R ^^^ X=Y at hL HT hxor ⊢
   clear hxor hw hc hx hR
   go_loop [5,20] (fun r i=>∃ j:Nat,j≤4∧i = .int .i64 j∧r = .int .u32 (Fb j Y:Nat)) (fun _ i=>4-(intOf i).toNat)
   case atStart=>exact⟨0,by omega,rfl,rfl⟩
   case round=>
    obtain⟨j,hj,rfl,rfl⟩:=hrel
    have hT':=Gf hL j
    by_cases hj4:j<4
    ·have HN:ah (Fb (j+1) Y=bL.two (Fb j Y)):=⟨rfl⟩
     generalize Fb j Y=Z at hT' HN ⊢
     have hq:=hT.o (Z % 4) (Nat.mod_lt _ (by omega))
     have ha:Go.bits .and .u32 (Z:Int) 3=((Z % 4:Nat):Int):=by
      rw[show (3:Int)=((3:Nat):Int) from rfl,u32_and_nat Z 3 hT' (by omega),nat_mask2]
     have hxor:Go.bits .xor .u32 ((Z:Int) / 4) ((bL.quarter (Z % 4):Nat):Int)=((bL.two Z:Nat):Int):=by
      rw[show (Z:Int) / 4=((Z / 4:Nat):Int) from by omega]
      exact Nz (Z / 4) (bL.quarter (Z % 4)) (by omega) (wX _)
     generalize bL.two Z=M at hxor HN
     have hi4:Z % 4<4:=Nat.mod_lt _ (by omega)
     have hq4:=wX (Z % 4)
     generalize bL.quarter (Z % 4)=q at hq hxor hq4
     generalize Z % 4=i at hq ha hi4
     have h0:(0:Int)≤(i:Int):=by omega
     have h4:(i:Int)<4:=by omega
     have HH:=ah.mk hq4
     have HZ:=ah.mk hT'
     clear hi4 hq4 hT' hL h1 hl hi hj
     go_wp2
     go_round
     case rel=>exact⟨j+1,by omega,by go_num,by rw[HN.o]⟩
     case measure=>simp[intOf];omega
    ·obtain rfl:j=4:=by omega
     go_wp2
     go_round
     case rel=>exact⟨k+1,by omega,by go_num,by rw[HT.o,P7]⟩
     case measure=>simp[intOf];omega
  ·obtain rfl:k=l1.length:=by omega
   have hfin:FQ ((bL.run (bL.inv S) (bL.nat l1):Nat):Int)=((bL.more S l1:Nat):Int):=yN _ (bL.EO hl (bL.wO (dK.1 hb)))
   go_wp2
   go_ret
   exact⟨rfl,aN.refl _⟩
theorem jJ.calls (A0:Option Addr) (c0:Nat) (l0:List Int) (r:Int) (w:World) (hr0:Kd.C (Kd.int .u8) w A0 l0.length l0) (hc0:l0.length≤c0) (hT:kg w) (h:jJ.f l0=some r) :
 Calls Tryz.prog 96 #[.slice A0 l0.length c0] w fun e w'=>e = .returned (.int .u32 r)∧aN w w':=by
 have hm:l9.f 0 l0=some r:=by
  unfold jJ.f at h
  unfold l9.f
  split at h
  ·rename_i hb
   rw[if_pos ⟨hb,by omega,by omega⟩]
   exact h
  ·cases h
 have HR:=ah.mk hr0
 have HM:=ah.mk hm
 have HC:=ah.mk hc0
 clear hr0 hm hc0 h
 go_enter Tryz.func96,Tryz.ntmps96
 go_wp2_with fail
 refine (l9.calls _ _ _ _ _ _ HR.o HC.o hT HM.o).mono ?_
 rintro e w1 ⟨rfl,⟨n1,rfl⟩⟩
 go_wp2
 go_ret
 exact⟨rfl,⟨n1,rfl⟩⟩
theorem jJ.bS {n:Nat} (A0:Option Addr) (c0:Nat) (l0:List Int) (r:Int) (w:World) (hn:l0.length=n) (hr0:Kd.C (Kd.int .u8) w A0 n l0) (hc0:n≤c0) (hT:kg w) (h:jJ.f l0=some r) :
 Calls Tryz.prog 96 #[.slice A0 n c0] w fun e w'=>e = .returned (.int .u32 r)∧aN w w':=by
 subst hn
 exact jJ.calls A0 c0 l0 r w hr0 hc0 hT h
end Go.Proofs.YtcgbgifbajdhpaaGreatDoor.G
namespace Go.Proofs.YtcgbgifbajdhpaaGreatDoor.PA
open Go.RowKit Go.Proofs.YtcgbgifbajdhpaaGreatDoor.G Go.Proofs.YtcgbgifbajdhpaaGreatDoorW.au Go.Proofs.YtcgbgifbajdhpaaGreatDoorW.aI Go.Proofs.YtcgbgifbajdhpaaGreatDoorW.aJ
theorem add_block (a:Addr) (k:Nat):(a.add k).block=a.block:=by unfold Addr.add;split<;>rfl
theorem JB (A:Option Addr) (c:Nat) (xs:List Int) (m:Nat) (hm:m≤xs.length) (hc:xs.length≤c) :
 ∃ (A':Option Addr) (c':Nat) (r:List Int),ah (r=xs.drop m)∧ah (∀ w:World,Kd.C (Kd.int .u8) w A xs.length xs→Kd.C (Kd.int .u8) w A' r.length r)∧r.length≤c'∧ah (∀ a',A'=some a'→∃ a,A=some a∧a'.block=a.block) ∧
   ∀ i:Int,i=(m:Int)→∀ W:World,(Instr.slice 24 (.slice A xs.length c) (some (.int .i64 i)) none none).run Tryz.prog W = .ok (.slice A' r.length c') W:=by
 obtain⟨i0,hi,hsz⟩:=zY
 refine⟨if c=m then A else A.map (·.add (m*(Kd.int .u8).sz)),c-m,xs.drop m,⟨rfl⟩,⟨fun w h=>Kd.vk h hm hc⟩,by rw[List.length_drop];omega,⟨fun a' h=>?_⟩,fun i hi' W=>?_⟩
 ·split at h
  ·exact⟨a',h,rfl⟩
  ·obtain⟨a,ha,rfl⟩:=Option.map_eq_some_iff.1 h
   exact⟨a,ha,add_block a _⟩
 ·subst hi'
  have hu:=Tryz.underlying24
  have hel:Tryz.prog.elem 24=5:=by simp[Program.elem,hu]
  have hu':Tryz.prog.underlying 24=some (.slice (Tryz.prog.elem 24)):=by rw[hel];exact hu
  rw[run_slice_l W 24 A xs.length c hu' .i64 (m:Int) (by omega) (by omega),hel]
  simp only[sizeOf,typeInfo,Sem.run_bind,hi,sliced,Result.andThen,hsz,Int.toNat_natCast,List.length_drop]
  cases A<;>simp[go_sem,hi,hsz,Kd.int,Kd.scalar]
theorem NA.calls (A0:Option Addr) (c0:Nat) (l0:List Int) (n:Nat) (w:World) (hn:l0.length=n) (hr0:Kd.C (Kd.int .u8) w A0 l0.length l0) (hc0:l0.length≤c0) (hlen:l0.length≤1000000) :
 Calls Tryz.prog 16 #[.slice A0 n c0] w fun e w'=>∃ v0_:Value,e = .returned (v0_)∧Kd.R (Kd.int .u8) 5 w' w.heap.size (fun _=>True) v0_ l0∧Below w.heap.size w w':=by
 subst hn
 have HR:=ah.mk hr0
 have HL:=ah.mk hlen
 have hnil:=fun W n c=>Lib.run_eql_slice_nil (P:=Tryz.prog) W 24 5 A0 n c 0 0 Tryz.underlying24
 clear hr0 hc0 hlen
 cases A0 with
 | none=>
   have h0:l0=[]:=by
    rcases Nat.eq_zero_or_pos l0.length with h0 | h0
    ·exact List.eq_nil_of_length_eq_zero h0
    ·obtain⟨ad,e,_⟩:=HR.o.2.2 h0
     cases e
   subst h0
   go_enter Tryz.func16,Tryz.ntmps16
   go_wp2
   go_ret
   exact⟨_,rfl,Kd.fP _ _ _ _ _,Below.refl _ _⟩
 | some ad=>
   go_enter Tryz.func16,Tryz.ntmps16
   have hE:=ah.mk (og (Kd.int .u8) 5 w.heap.size w (fun _=>True) (Nat.le_refl _) trivial)
   go_wp2_with ((with_reducible refine bM (N:=7) rfl ?_);refine Kd.j5 (Value.int .u8) 0 (h1:=fun _=>rfl) w.heap.size rfl (.tmp 5) (.tmp 6) 24 5 (.int .u8 0) 1 rfl Tryz.underlying24 gU rfl (by decide) _ [] l0 (some ad) l0.length c0 (fun _=>True) rfl rfl (fun _ _=>trivial) hE.o (Kd.aH HR.o (aj (Below.refl _ _) _)) (aj (Below.refl _ _) _) ?hb ?hl ?_;(case hb=>simp);(case hl=>(have:=HL.o;simp;omega));intro v1 w1 hR1 hB1 hg_ ho_;rw[List.nil_append] at hR1;have HR1:=ah.mk hR1;have HB1:=ah.mk hB1;clear hR1 hB1 hg_ ho_)
   go_ret
   exact⟨_,rfl,HR1.o,HB1.o⟩
end Go.Proofs.YtcgbgifbajdhpaaGreatDoor.PA
namespace Go.Proofs.YtcgbgifbajdhpaaGreatDoor.PA
open Go.RowKit Go.Proofs.YtcgbgifbajdhpaaGreatDoorW.au Go.Proofs.YtcgbgifbajdhpaaGreatDoorW.aI Go.Proofs.YtcgbgifbajdhpaaGreatDoorW.aJ
attribute [local go_sem] eG eH gq gu eT eU fU fV   -- for this text's walks alone
def gK.f  : Option (List Int):=some (([208,215]:List Int))
theorem gK.calls  (r:List Int) (w:World) (h:gK.f  = some r) :
 Calls Tryz.prog 95 #[] w fun e w'=>∃ v0_:Value,e = .returned (v0_)∧Kd.R (Kd.int .u8) 5 w' w.heap.size (fun _=>True) v0_ r∧Below w.heap.size w w':=by
 have HB:=ah.mk (Below.refl w.heap.size w)
 have H:(some (([208,215]:List Int)))=some r:=h
 clear h
 obtain⟨y161,hy161⟩:∃ y_:List Int,y_=(([208,215]:List Int)):=⟨_,rfl⟩
 replace H:(some y161)=some r:=by first|(rw[hy161];with_reducible exact H)|(have H2_:=(Option.bind_some _ _).symm.trans H;rw[hy161];with_reducible exact H2_)|(have H2_:=(Option.bind_some _ _).symm.trans H;with_reducible exact H2_)|with_reducible exact H | (rw[hy161];exact H)|exact H
 have Ny161:=ah.mk hy161
 clear hy161
 obtain rfl:=Option.some.inj H
 go_enter Tryz.func95,Tryz.ntmps95
 go_wp2_with (first|((with_reducible refine bM (N:=1) rfl ?_);refine Kd.M9 (Kd.int .u8) _ 5 ?hg (N:=1) ?hd (xs:=([208,215]:List Int)) (inner:=[.int .u8 208,.int .u8 215]) (ok:=fun _=>True) (okp:=fun _=>True) ?hr ?hp (fun _ hk=>hk) trivial (Below.refl _ _) (Nat.le_refl _) (by simp) ?_;(case hd=>rfl);(case hg=>rfl);(case hr=>first|(go_simp;done)|(go_simp;rfl));(case hp=>exact (cO.one (show Kd.M (Kd.int .u8) _ _ _ 208 [.int .u8 208] from rfl) (cO.one (show Kd.M (Kd.int .u8) _ _ _ 215 [.int .u8 215] from rfl) (cO.none _ _))));intro v162 w1 ho2 hb hg_ hnew_;clear hg_ hnew_;(first | rw[← Ny161.o] at ho2 | (simp only[Int.reduceToNat] at ho2;rw[← Ny161.o] at ho2));have n0_:=ah.mk (Kd.dW ho2 (aZ (by repeat (first|(with_reducible first | exact HB.o | apply aj | apply ay | apply aD)|exact HB.o))));have n1_:=ah.mk (ak (by repeat (first|(with_reducible first | exact HB.o | apply aj | apply ay | apply aD)|exact HB.o)) hb);clear HB;have HO163:=n0_;have HB:=n1_;clear n0_ n1_;clear hb ho2))
 go_ret
 exact⟨_,by first | rfl | (simp[bF,bG]<;>rfl)|(simp[*,bF,bG]<;>rfl),by (with_reducible repeat (first | apply Kd.j4 | apply Kd.nZ | apply Kd.nK));exact HO163.o,by repeat (first|(with_reducible first | exact HB.o | apply aj | apply ay | apply aD)|exact HB.o)⟩
end Go.Proofs.YtcgbgifbajdhpaaGreatDoor.PA
namespace Go.Proofs.YtcgbgifbajdhpaaGreatDoor.PA
open Go.RowKit Go.Proofs.YtcgbgifbajdhpaaGreatDoor.G Go.Proofs.YtcgbgifbajdhpaaGreatDoorW.au Go.Proofs.YtcgbgifbajdhpaaGreatDoorW.aI Go.Proofs.YtcgbgifbajdhpaaGreatDoorW.aJ
theorem Pb {w:World} {A:Option Addr} {n:Nat} {xs:List Int} (h:Kd.C (Kd.int .u8) w A n xs) (i:Nat) (hi:i<n):∃ ad,A=some ad∧w.cell? (ad.add i)=some (.int .u8 (rd xs i)):=by
 obtain⟨ad,c,e,hl,hK,hc⟩:=Kd.ng h (0:Int) (i:Int) (by omega) (by omega)
 refine⟨ad,e,?_⟩
 have hK':c=[.int .u8 (xs.getD (i:Int).toNat 0)]:=hK
 have h1:=hc 0 (.int .u8 (xs.getD (i:Int).toNat 0)) (by rw[hK'];rfl)
 rw[Int.toNat_natCast,show (Kd.int .u8).sz=1 from rfl,Nat.mul_one,Nat.add_zero] at h1
 rw[h1]
 simp[rd]
def Kt (b:List Int):Bool:=decide (rd b 0=208∧rd b 1=215)
theorem Hz {b:List Int} (h:2≤b.length):decide (b.take 2=[208,215])=Kt b:=by
 match b,h with
 | x::y::b,_=>simp[Kt,rd]
theorem hasPrefix.calls (A:Option Addr) (c n:Nat) (b:List Int) (A1:Option Addr) (c1:Nat) (w:World) (hn:b.length=n) (hr:Kd.C (Kd.int .u8) w A n b) (hc:n≤c) (hok:okB b=true) (h2:2≤n) (hr1:Kd.C (Kd.int .u8) w A1 2 [208,215]) (hc1:2≤c1) :
 Calls Tryz.prog 115 #[.slice A n c,.slice A1 2 c1] w fun e w'=>e = .returned (.bool (Kt b))∧Below w.heap.size w w':=by
 subst hn
 have EQ:=ah.mk (bytes_Equal.calls A c (b.take 2) A1 c1 [208,215] (Kt b) w (Kd.rE hr h2) (by rw[List.length_take];omega) hr1 hc1 (by
  rw[bytes_Equal.f,if_pos ⟨ku hok (fun x hx=>List.mem_of_mem_take hx),by decide⟩,Hz h2]))
 rw[show (b.take 2).length=2 by rw[List.length_take];omega,show ([208,215]:List Int).length=2 from rfl] at EQ
 have hge:((b.length:Int)≥2):=by omega
 clear hr hok hr1
 go_enter Tryz.func115,Tryz.ntmps115
 go_wp2_with (first|(go_at_call 38;(with_reducible refine EQ.o.mono ?_);rintro e w1 ⟨rfl,hb⟩;have HB1:=ah.mk hb.below;clear hb))
 go_ret
 exact⟨rfl,HB1.o⟩
theorem Ee.calls (A:Option Addr) (c n:Nat) (b:List Int) (p k:Nat) (w:World) (hn:b.length=n) (hr:Kd.C (Kd.int .u8) w A n b) (hc:n≤c) (hok:okB b=true) (hk:1≤k∧k≤4) (hp:p+k≤n) (hlen:n≤1000000000) :
 Calls Tryz.prog 116 #[.slice A n c,.int .i64 p,.int .i64 k] w fun e w'=>e = .returned (.int .i64 (lX 0 ((b.drop p).take k):Nat))∧Below w.heap.size w w':=by
 subst hn
 obtain⟨A2,c2,r,hr2,HC2,hc2,hmid'⟩:=Ml A c b p (p+k) (by omega) hp hc
 have hmid:=hmid' (p:Int) ((p:Int)+(k:Int)) rfl (by omega)
 have hrr:r=(b.drop p).take k:=by rw[hr2.o,List.drop_take];congr 1;omega
 have hrl:r.length=k:=by rw[hrr,List.length_take,List.length_drop];omega
 have hro:okB r=true:=ku hok (fun x hx=>by rw[hrr] at hx;exact List.mem_of_mem_drop (List.mem_of_mem_take hx))
 have hlt:lX 0 r<4294967296:=by
  have h1:=zC r (dK.1 hro) 0 0 (by decide)
  rw[Nat.zero_add,hrl] at h1
  exact Nat.lt_of_lt_of_le h1 (by have:=Nat.pow_le_pow_right (show 0<256 by decide) hk.2;simpa using this)
 have GET:ah (Calls Tryz.prog 63 #[.slice A2 r.length c2] w fun e w'=>e = .returned (.tuple #[.int .u64 ((lX 0 r:Nat):Int),.bool true])∧aN w w'):=⟨iP.calls A2 c2 r ((lX 0 r:Nat):Int) true w (HC2.o w hr) hc2 (by rw[iP.f,if_pos hro,if_pos (by omega)])⟩
 have hsum:IntKind.i64.wrap ((p:Int)+(k:Int))=(p:Int)+(k:Int):=by rw[IntKind.wrap_i64];omega
 have hwv:IntKind.i64.wrap ((lX 0 r:Nat):Int)=((lX 0 r:Nat):Int):=by rw[IntKind.wrap_i64];omega
 rw[← hrr]
 clear hr hok hmid' HC2 hr2 hrr hro
 generalize lX 0 r=V at *
 go_enter Tryz.func116,Tryz.ntmps116
 rw[hrl] at GET
 go_wp2_with (first|(go_at_call 63;(with_reducible refine GET.o.mono ?_);rintro e w1 ⟨rfl,hb⟩;have HB1:=ah.mk hb.below;clear hb))
 go_ret
 exact⟨rfl,HB1.o⟩
theorem kX (tmps:Array Value) (W:World) (r:Nat) (x0 x1 x2:Value) (h:W.heap[r]? = some (.cells #[x0,x1,x2] 80 (0,0))) (h2:tmps.getD 2 undef = .pointer (some ⟨r,0,none⟩)) :
 (results Tryz.f79 tmps).run Tryz.prog W = .ok (.tuple #[.agg #[x0,x1,x2],tmps.getD 3 undef]) W:=by
 have c0:=(av h 0).trans rfl
 have c1:=(av h 1).trans rfl
 have c2:=(av h 2).trans rfl
 simp at h2
 simp[results,Tryz.f79,go_sem,h2,c0,c1,c2]
def jG (w:World) (b:List Int) (e:Ending) (w':World):Prop:=∃ (k n:Nat) (v:Value) (p:List Int) (m:Nat),e = .returned (.tuple #[.agg #[.int .i64 k,.int .i64 n,v],.int .i64 m])∧Kd.R (Kd.int .u8) 5 w' w.heap.size (fun _=>True) v p∧Below w.heap.size w w'∧(jk b=none∧m=0∨jk b=some ⟨k,n,p⟩∧m=13+p.length)
theorem jG.none_ {w W:World} {b:List Int} (h:jk b=none) (hb:Below w.heap.size w W):jG w b (.returned (.tuple #[.agg #[.int .i64 0,.int .i64 0,.slice none 0 0],.int .i64 0])) W:=
 ⟨0,0,_,[],0,rfl,Kd.fP _ _ _ _ _,hb,.inl ⟨h,rfl⟩⟩
theorem iY {w W:World} {x0 x1 x2:Value} (hb:Below w.heap.size w W):Below w.heap.size w (((W.setCell ⟨w.heap.size,0,none⟩ x0).setCell ⟨w.heap.size,1,none⟩ x1).setCell ⟨w.heap.size,2,none⟩ x2):=
 ((hb.setCell (p:=⟨w.heap.size,0,none⟩) (Nat.le_refl _) _).setCell (p:=⟨w.heap.size,1,none⟩) (Nat.le_refl _) _).setCell (p:=⟨w.heap.size,2,none⟩) (Nat.le_refl _) _
theorem jN {w:World} {g t:Nat} {o0 o1 o2:Value} (h:w.heap[g]? = some (.cells #[o0,o1,o2] t (0,0))) (x0 x1 x2:Value):(((w.setCell ⟨g,0,none⟩ x0).setCell ⟨g,1,none⟩ x1).setCell ⟨g,2,none⟩ x2).heap[g]? = some (.cells #[x0,x1,x2] t (0,0)):=
 bK (bK (bK h 0 _ rfl) 1 _ rfl) 2 _ rfl
def BS (w W:World):Prop:=Below w.heap.size w W∧∃ x0 x1 x2:Value,W.heap[w.heap.size]? = some (.cells #[x0,x1,x2] 80 (0,0))
theorem BS.Qo {w:World} (W W':World) (h:BS w W) (hb:Below W.heap.size W W'):BS w W':=by
 obtain⟨h1,x0,x1,x2,h2⟩:=h
 exact⟨ak h1 hb,x0,x1,x2,aG h2 hb⟩
theorem BS.lt {w W:World} (h:BS w W):w.heap.size+1≤W.heap.size:=by
 obtain⟨h1,x0,x1,x2,h2⟩:=h
 exact dO h2
theorem NS {w W:World} {v x0 x1 x2:Value} {xs:List Int} (h:Kd.R (Kd.int .u8) 5 W (w.heap.size+1) (fun _=>True) v xs):Kd.R (Kd.int .u8) 5 (((W.setCell ⟨w.heap.size,0,none⟩ x0).setCell ⟨w.heap.size,1,none⟩ x1).setCell ⟨w.heap.size,2,none⟩ x2) (w.heap.size+1) (fun k=>True∧w.heap.size+1≤k∧k<W.heap.size∧True) v xs:=by
 have h1:=Kd.dL (ok':=fun k=>True∧w.heap.size+1≤k∧k<W.heap.size∧True) (Kd.gM h) (fun k hk=>⟨trivial,hk.2.1,hk.2.2.1,trivial⟩)
 have hok:∀ k,(True∧w.heap.size+1≤k∧k<W.heap.size∧True)→k≠w.heap.size:=fun k hk=>by have:=hk.2.1;omega
 exact Kd.gF (Kd.gF (Kd.gF h1 (p:=⟨w.heap.size,0,none⟩) hok _) (p:=⟨w.heap.size,1,none⟩) hok _) (p:=⟨w.heap.size,2,none⟩) hok _
def DY (B nm:Nat) (p:List Int):Nat→Value→World→Prop
 | 0,v,_=>v = .int .i64 nm
 | _+1,v,W=>Kd.R (Kd.int .u8) 5 W B (fun _=>True) v p
theorem Bt {B nm:Nat} {p:List Int}:∀ (i:Nat) (v:Value) (W W':World),DY B nm p i v W→Below W.heap.size W W'→DY B nm p i v W'
 | 0,_,_,_,h,_=>h
 | _+1,_,_,_,h,hb=>Kd.bR h hb
theorem begins.calls (A:Option Addr) (c n:Nat) (b:List Int) (w:World) (hn:b.length=n) (hr:Kd.C (Kd.int .u8) w A n b) (hc:n≤c) (hok:okB b=true) (hlen:n≤1000000000) (hT:kg w) :
 Calls Tryz.prog 79 #[.slice A n c] w (jG w b):=by
 have HN:=ah.mk hn
 have HR:=ah.mk hr
 have HOK:=ah.mk hok
 have HT:=ah.mk hT
 have HX:=ah.mk (bI w (.cells #[.int .i64 0,.int .i64 0,.slice none 0 0] 80 (0,0)))
 have HBA:=ah.mk (aj (Below.refl w.heap.size w) (.cells #[.int .i64 0,.int .i64 0,.slice none 0 0] 80 (0,0)))
 by_cases h13:n<13
 ·have HE:ah (jk b=none):=⟨by rw[jk,if_pos (by omega)]⟩
  have h13i:((n:Int)<13):=by omega
  clear hr hok hT h13 hn
  go_enter Tryz.func79,Tryz.ntmps79
  go_wp2_with fail
  refine bodyPost_ret (kX _ _ w.heap.size _ _ _ HX.o rfl) rfl ?_
  exact jG.none_ HE.o HBA.o
 ·have h13i:¬ ((n:Int)<13):=by omega
  obtain⟨ad,hA,hc2⟩:=Pb hr 2 (by omega)
  subst hA
  have HC2:=ah.mk (show w.cell? ⟨ad.block,ad.off+2,none⟩=some (.int .u8 (rd b 2)) from hc2)
  have hb2:0≤rd b 2∧rd b 2<256:=dK.1 hok _ (wZ b 2 (by omega))
  have hbi:=hb2.1
  have hbj:=hb2.2
  obtain⟨pr,hpr⟩:∃ pr,Kt b=pr:=⟨_,rfl⟩
  have HPRE:=ah.mk hpr
  have hn2:(2:Int)<(n:Int):=by omega
  cases pr with
  | false=>
    have HE:ah (jk b=none):=⟨by
     rw[jk,if_neg (by omega),if_pos]
     have:=of_decide_eq_false hpr
     omega⟩
    clear hr hok hT hn hb2 hpr hc2
    go_enter Tryz.func79,Tryz.ntmps79
    go_wp2_with (first|(go_at_call 95;(with_reducible refine (gK.calls [208,215] _ rfl).mono ?_);rintro e w2 ⟨v2,rfl,hr2,hb⟩;obtain⟨A2,c2,hv2⟩:=Kd.bD hr2;replace hv2:v2 = .slice A2 2 c2:=hv2;subst hv2;have HM2:ah (2≤c2∧Kd.C (Kd.int .u8) w2 A2 2 [208,215]):=⟨⟨(Kd.aX hr2).2.1,(Kd.aX hr2).2.2⟩⟩;have HB2:=ah.mk (ak HBA.o hb);have HX2:=ah.mk (aG HX.o hb);clear hr2 hb)|(go_at_call 115;(with_reducible refine (hasPrefix.calls _ c n b A2 c2 _ HN.o (Kd.aH HR.o HB2.o) hc HOK.o (by omega) HM2.o.2 HM2.o.1).mono ?_);rintro e w3 ⟨rfl,hb⟩;rw[HPRE.o];have HB3:=ah.mk (ak HB2.o hb);have HX3:=ah.mk (aG HX2.o hb);have e2:=aV HB3.o HC2.o;have q0:=(av HX3.o 0).trans rfl;have q1:=(av HX3.o 1).trans rfl;have q2:=(av HX3.o 2).trans rfl;have y0:=aC HX3.o 0;have y1:=aC HX3.o 1;have y2:=aC HX3.o 2;clear hb))
    refine bodyPost_ret (kX _ _ w.heap.size _ _ _ (jN HX3.o _ _ _) rfl) rfl ?_
    exact jG.none_ HE.o (iY HB3.o)
  | true=>
    have hp01:rd b 0=208∧rd b 1=215:=of_decide_eq_true hpr
    by_cases hk1:rd b 2<1
    ·have HE:ah (jk b=none):=⟨by
      rw[jk,if_neg (by omega),if_pos (by omega)]⟩
     clear hr hok hT hn hb2 hpr hc2 hp01
     generalize rd b 2=k2 at *
     go_enter Tryz.func79,Tryz.ntmps79
     go_wp2_with (first|(go_at_call 95;(with_reducible refine (gK.calls [208,215] _ rfl).mono ?_);rintro e w2 ⟨v2,rfl,hr2,hb⟩;obtain⟨A2,c2,hv2⟩:=Kd.bD hr2;replace hv2:v2 = .slice A2 2 c2:=hv2;subst hv2;have HM2:ah (2≤c2∧Kd.C (Kd.int .u8) w2 A2 2 [208,215]):=⟨⟨(Kd.aX hr2).2.1,(Kd.aX hr2).2.2⟩⟩;have HB2:=ah.mk (ak HBA.o hb);have HX2:=ah.mk (aG HX.o hb);clear hr2 hb)|(go_at_call 115;(with_reducible refine (hasPrefix.calls _ c n b A2 c2 _ HN.o (Kd.aH HR.o HB2.o) hc HOK.o (by omega) HM2.o.2 HM2.o.1).mono ?_);rintro e w3 ⟨rfl,hb⟩;rw[HPRE.o];have HB3:=ah.mk (ak HB2.o hb);have HX3:=ah.mk (aG HX2.o hb);have e2:=aV HB3.o HC2.o;have q0:=(av HX3.o 0).trans rfl;have q1:=(av HX3.o 1).trans rfl;have q2:=(av HX3.o 2).trans rfl;have y0:=aC HX3.o 0;have y1:=aC HX3.o 1;have y2:=aC HX3.o 2;clear hb))
     refine bodyPost_ret (kX _ _ w.heap.size _ _ _ (jN HX3.o _ _ _) rfl) rfl ?_
     exact jG.none_ HE.o (iY HB3.o)
    ·by_cases hk3:3<rd b 2
     ·have HE:ah (jk b=none):=⟨by
       rw[jk,if_neg (by omega),if_pos (by omega)]⟩
      have hk1':¬ (rd b 2<1):=hk1
      clear hr hok hT hn hb2 hpr hc2 hp01
      generalize rd b 2=k2 at *
      go_enter Tryz.func79,Tryz.ntmps79
      go_wp2_with (first|(go_at_call 95;(with_reducible refine (gK.calls [208,215] _ rfl).mono ?_);rintro e w2 ⟨v2,rfl,hr2,hb⟩;obtain⟨A2,c2,hv2⟩:=Kd.bD hr2;replace hv2:v2 = .slice A2 2 c2:=hv2;subst hv2;have HM2:ah (2≤c2∧Kd.C (Kd.int .u8) w2 A2 2 [208,215]):=⟨⟨(Kd.aX hr2).2.1,(Kd.aX hr2).2.2⟩⟩;have HB2:=ah.mk (ak HBA.o hb);have HX2:=ah.mk (aG HX.o hb);clear hr2 hb)|(go_at_call 115;(with_reducible refine (hasPrefix.calls _ c n b A2 c2 _ HN.o (Kd.aH HR.o HB2.o) hc HOK.o (by omega) HM2.o.2 HM2.o.1).mono ?_);rintro e w3 ⟨rfl,hb⟩;rw[HPRE.o];have HB3:=ah.mk (ak HB2.o hb);have HX3:=ah.mk (aG HX2.o hb);have e2:=aV HB3.o HC2.o;have q0:=(av HX3.o 0).trans rfl;have q1:=(av HX3.o 1).trans rfl;have q2:=(av HX3.o 2).trans rfl;have y0:=aC HX3.o 0;have y1:=aC HX3.o 1;have y2:=aC HX3.o 2;clear hb))
      refine bodyPost_ret (kX _ _ w.heap.size _ _ _ (jN HX3.o _ _ _) rfl) rfl ?_
      exact jG.none_ HE.o (iY HB3.o)
     ·have hk13:¬ (rd b 2<1)∧¬ (rd b 2>3):=⟨hk1,by omega⟩
      obtain⟨kd,hkd⟩:∃ kd:Nat,rd b 2=(kd:Int):=⟨(rd b 2).toNat,by omega⟩
      obtain⟨s,hs⟩:∃ s,lX 0 ((b.drop 7).take 2)=s:=⟨_,rfl⟩
      have hs16:s<65536:=by
       have h1:=zC ((b.drop 7).take 2) (fun x hx=>dK.1 hok x (List.mem_of_mem_drop (List.mem_of_mem_take hx))) 0 0 (by decide)
       rw[hs,Nat.zero_add,show ((b.drop 7).take 2).length=2 by rw[List.length_take,List.length_drop];omega] at h1
       exact h1
      have F7:ah (∀ W,Below w.heap.size w W→Calls Tryz.prog 116 #[.slice (some ad) n c,.int .i64 7,.int .i64 2] W fun e w'=>e = .returned (.int .i64 (s:Nat))∧Below W.heap.size W w'):=⟨fun W hb=>by
       have h1:=Ee.calls (some ad) c n b 7 2 W hn (Kd.aH hr hb) hc hok (by decide) (by omega) hlen
       rw[hs] at h1
       exact h1⟩
      have h3a:=hk13.1
      have h3b:=hk13.2
      have hend:IntKind.i64.wrap (9+(s:Int))=9+(s:Int):=by rw[IntKind.wrap_i64];omega
      have hend4:IntKind.i64.wrap (9+(s:Int)+4)=9+(s:Int)+4:=by rw[IntKind.wrap_i64];omega
      by_cases hs1:1000<s
      ·have HE:ah (jk b=none):=⟨by rw[jk,if_neg (by omega),if_neg (by omega),hs,if_pos (.inl hs1)]⟩
       have hsi:((s:Int)>1000):=by omega
       rw[hkd] at HC2 h3a h3b hbi hbj
       clear hr hok hT hn hb2 hpr hc2 hp01 hk1 hk3 hk13 hkd hs
       go_enter Tryz.func79,Tryz.ntmps79
       go_wp2_with (first|(go_at_call 95;(with_reducible refine (gK.calls [208,215] _ rfl).mono ?_);rintro e w2 ⟨v2,rfl,hr2,hb⟩;obtain⟨A2,c2,hv2⟩:=Kd.bD hr2;replace hv2:v2 = .slice A2 2 c2:=hv2;subst hv2;have HM2:ah (2≤c2∧Kd.C (Kd.int .u8) w2 A2 2 [208,215]):=⟨⟨(Kd.aX hr2).2.1,(Kd.aX hr2).2.2⟩⟩;have HB2:=ah.mk (ak HBA.o hb);have HX2:=ah.mk (aG HX.o hb);clear hr2 hb)|(go_at_call 115;(with_reducible refine (hasPrefix.calls _ c n b A2 c2 _ HN.o (Kd.aH HR.o HB2.o) hc HOK.o (by omega) HM2.o.2 HM2.o.1).mono ?_);rintro e w3 ⟨rfl,hb⟩;rw[HPRE.o];have HB3:=ah.mk (ak HB2.o hb);have HX3:=ah.mk (aG HX2.o hb);have e2:=aV HB3.o HC2.o;clear hb)|(go_at_call 116;(with_reducible refine (F7.o _ HB3.o).mono ?_);rintro e w5 ⟨rfl,hb⟩;have HB5:=ah.mk (ak HB3.o hb);have HX5:=ah.mk (aG HX3.o hb);have q0:=(av HX5.o 0).trans rfl;have q1:=(av HX5.o 1).trans rfl;have q2:=(av HX5.o 2).trans rfl;have y0:=aC HX5.o 0;have y1:=aC HX5.o 1;have y2:=aC HX5.o 2;clear hb))
       refine bodyPost_ret (kX _ _ w.heap.size _ _ _ (jN HX5.o _ _ _) rfl) rfl ?_
       exact jG.none_ HE.o (iY HB5.o)
      ·have hsi:¬ ((s:Int)>1000):=by omega
       by_cases hln:n<13+s
       ·have HE:ah (jk b=none):=⟨by rw[jk,if_neg (by omega),if_neg (by omega),hs,if_pos (.inr (by omega))]⟩
        have hli:((n:Int)<9+(s:Int)+4):=by omega
        rw[hkd] at HC2 h3a h3b hbi hbj
        clear hr hok hT hn hb2 hpr hc2 hp01 hk1 hk3 hk13 hkd hs
        go_enter Tryz.func79,Tryz.ntmps79
        go_wp2_with (first|(go_at_call 95;(with_reducible refine (gK.calls [208,215] _ rfl).mono ?_);rintro e w2 ⟨v2,rfl,hr2,hb⟩;obtain⟨A2,c2,hv2⟩:=Kd.bD hr2;replace hv2:v2 = .slice A2 2 c2:=hv2;subst hv2;have HM2:ah (2≤c2∧Kd.C (Kd.int .u8) w2 A2 2 [208,215]):=⟨⟨(Kd.aX hr2).2.1,(Kd.aX hr2).2.2⟩⟩;have HB2:=ah.mk (ak HBA.o hb);have HX2:=ah.mk (aG HX.o hb);clear hr2 hb)|(go_at_call 115;(with_reducible refine (hasPrefix.calls _ c n b A2 c2 _ HN.o (Kd.aH HR.o HB2.o) hc HOK.o (by omega) HM2.o.2 HM2.o.1).mono ?_);rintro e w3 ⟨rfl,hb⟩;rw[HPRE.o];have HB3:=ah.mk (ak HB2.o hb);have HX3:=ah.mk (aG HX2.o hb);have e2:=aV HB3.o HC2.o;clear hb)|(go_at_call 116;(with_reducible refine (F7.o _ HB3.o).mono ?_);rintro e w5 ⟨rfl,hb⟩;have HB5:=ah.mk (ak HB3.o hb);have HX5:=ah.mk (aG HX3.o hb);have q0:=(av HX5.o 0).trans rfl;have q1:=(av HX5.o 1).trans rfl;have q2:=(av HX5.o 2).trans rfl;have y0:=aC HX5.o 0;have y1:=aC HX5.o 1;have y2:=aC HX5.o 2;clear hb))
        refine bodyPost_ret (kX _ _ w.heap.size _ _ _ (jN HX5.o _ _ _) rfl) rfl ?_
        exact jG.none_ HE.o (iY HB5.o)
       ·have hli:¬ ((n:Int)<9+(s:Int)+4):=by omega
        obtain⟨V,hV⟩:∃ V,lX 0 ((b.drop (9+s)).take 4)=V:=⟨_,rfl⟩
        have hV32:V<4294967296:=by
         have h1:=zC ((b.drop (9+s)).take 4) (fun x hx=>dK.1 hok x (List.mem_of_mem_drop (List.mem_of_mem_take hx))) 0 0 (by decide)
         rw[hV,Nat.zero_add,show ((b.drop (9+s)).take 4).length=4 by rw[List.length_take,List.length_drop];omega] at h1
         exact h1
        have FE:ah (∀ W,Below w.heap.size w W→Calls Tryz.prog 116 #[.slice (some ad) n c,.int .i64 (9+(s:Int)),.int .i64 4] W fun e w'=>e = .returned (.int .i64 (V:Nat))∧Below W.heap.size W w'):=⟨fun W hb=>by
         have h1:=Ee.calls (some ad) c n b (9+s) 4 W hn (Kd.aH hr hb) hc hok (by decide) (by omega) hlen
         rw[hV,show ((9+s:Nat):Int)=9+(s:Int) by omega] at h1
         exact h1⟩
        obtain⟨S,hS⟩:∃ S,rJ (b.take (9+s))=S:=⟨_,rfl⟩
        have hto:okB (b.take (9+s))=true:=ku hok (fun x hx=>List.mem_of_mem_take hx)
        have htl:(b.take (9+s)).length=9+s:=by rw[List.length_take];omega
        have SUM:ah (∀ W,Below w.heap.size w W→Calls Tryz.prog 96 #[.slice (some ad) (9+s) c] W fun e w'=>e = .returned (.int .u32 (S:Nat))∧Below W.heap.size W w'):=⟨fun W hb=>by
         have h1:=jJ.bS (some ad) c (b.take (9+s)) (S:Nat) W htl (by have h2:=Kd.rE (m:=9+s) (xs:=b) (by rw[hn];exact Kd.aH hr hb) (by omega);rwa [htl] at h2) (by omega) (hT.below hb) (by rw[jJ.f,if_pos hto,← hS];rfl)
         exact h1.mono fun e w' ⟨he,hd⟩=>⟨he,hd.below⟩⟩
        obtain⟨i05,hi05,_,hsz5,_⟩:=info_parts gU
        have hcutE:∀ W:World,(Instr.slice 24 (.slice (some ad) n c) none (some (.int .i64 (9+(s:Int)))) none).run Tryz.prog W = .ok (.slice (some ad) (9+s) c) W:=fun W=>by
         have h1:=rO (P:=Tryz.prog) 24 5 .i64 Tryz.underlying24 hi05 (some ad) n c (9+(s:Int)) (by omega) (by omega) hc W
         rwa [show (9+(s:Int)).toNat=9+s by omega] at h1
        have hu32:IntKind.u32.wrap (V:Int)=(V:Int):=by simp[IntKind.wrap,IntKind.bits,IntKind.signed];omega
        by_cases hSV:S=V
        ·obtain⟨nm,hnm⟩:∃ nm,lX 0 ((b.drop 3).take 4)=nm:=⟨_,rfl⟩
         obtain⟨pay,hpay⟩:∃ pay,(b.take (9+s)).drop 9=pay:=⟨_,rfl⟩
         have hpl:pay.length=s:=by rw[← hpay,List.length_drop,htl];omega
         have HE:ah (jk b=some ⟨kd,nm,pay⟩):=⟨by rw[jk,if_neg (by omega),if_neg (by omega),hs,if_neg (by omega),hS,hV,if_neg (by omega),hnm,hpay,hkd,Int.toNat_natCast]⟩
         have F3:ah (∀ W,Below w.heap.size w W→Calls Tryz.prog 116 #[.slice (some ad) n c,.int .i64 3,.int .i64 4] W fun e w'=>e = .returned (.int .i64 (nm:Nat))∧Below W.heap.size W w'):=⟨fun W hb=>by
          have h1:=Ee.calls (some ad) c n b 3 4 W hn (Kd.aH hr hb) hc hok (by decide) (by omega) hlen
          rw[hnm] at h1
          exact h1⟩
         obtain⟨A3,c3,r3,hr3,HC3,hc3,hmid'⟩:=Ml (some ad) c b 9 (9+s) (by omega) (by omega) (by omega)
         have hmid:=hmid' 9 (9+(s:Int)) rfl (by omega)
         rw[hn] at hmid
         have hr3':r3=pay:=by rw[hr3.o,hpay]
         subst hr3'
         have CLO:ah (∀ W,Below w.heap.size w W→Calls Tryz.prog 16 #[.slice A3 r3.length c3] W fun e w'=>∃ v:Value,e = .returned v∧Kd.R (Kd.int .u8) 5 w' W.heap.size (fun _=>True) v r3∧Below W.heap.size W w'):=⟨fun W hb=>(NA.calls A3 c3 r3 r3.length W rfl (HC3.o W (by rw[hn];exact Kd.aH hr hb)) hc3 (by omega))⟩
         rw[hpl] at CLO
         have heq:((S:Int) != (V:Int))=false:=by simp;omega
         have hki:IntKind.i64.wrap (kd:Int)=(kd:Int):=by rw[IntKind.wrap_i64];omega
         rw[hkd] at HC2 h3a h3b hbi hbj
         clear hr hok hT hn hb2 hpr hc2 hp01 hk1 hk3 hk13 hkd hs hS hV hto htl hSV hi05 hsz5 hmid' hr3 HC3 hpay hnm
         go_enter Tryz.func79,Tryz.ntmps79
         go_wp2_with (first|(go_at_call 95;(with_reducible refine (gK.calls [208,215] _ rfl).mono ?_);rintro e w2 ⟨v2,rfl,hr2,hb⟩;obtain⟨A2,c2,hv2⟩:=Kd.bD hr2;replace hv2:v2 = .slice A2 2 c2:=hv2;subst hv2;have HM2:ah (2≤c2∧Kd.C (Kd.int .u8) w2 A2 2 [208,215]):=⟨⟨(Kd.aX hr2).2.1,(Kd.aX hr2).2.2⟩⟩;have HB2:=ah.mk (ak HBA.o hb);have HX2:=ah.mk (aG HX.o hb);clear hr2 hb)|(go_at_call 115;(with_reducible refine (hasPrefix.calls _ c n b A2 c2 _ HN.o (Kd.aH HR.o HB2.o) hc HOK.o (by omega) HM2.o.2 HM2.o.1).mono ?_);rintro e w3 ⟨rfl,hb⟩;rw[HPRE.o];have HB3:=ah.mk (ak HB2.o hb);have HX3:=ah.mk (aG HX2.o hb);have e2:=aV HB3.o HC2.o;clear hb)|(go_at_call 116;(with_reducible refine (F7.o _ HB3.o).mono ?_);rintro e w5 ⟨rfl,hb⟩;have HB5:=ah.mk (ak HB3.o hb);have HX5:=ah.mk (aG HX3.o hb);have q0:=(av HX5.o 0).trans rfl;have q1:=(av HX5.o 1).trans rfl;have q2:=(av HX5.o 2).trans rfl;have y0:=aC HX5.o 0;have y1:=aC HX5.o 1;have y2:=aC HX5.o 2;clear hb)|(go_at_call 96;(with_reducible refine (SUM.o _ HB5.o).mono ?_);rintro e w6 ⟨rfl,hb⟩;have HB6:=ah.mk (ak HB5.o hb);have HX6:=ah.mk (aG HX5.o hb);clear hb q0 q1 q2 y0 y1 y2)|(go_at_call 116;(with_reducible refine (FE.o _ HB6.o).mono ?_);rintro e w7 ⟨rfl,hb⟩;have HB7:=ah.mk (ak HB6.o hb);have HX7:=ah.mk (aG HX6.o hb);have q0:=(av HX7.o 0).trans rfl;have q1:=(av HX7.o 1).trans rfl;have q2:=(av HX7.o 2).trans rfl;have y0:=aC HX7.o 0;have y1:=aC HX7.o 1;have y2:=aC HX7.o 2;clear hb))
         clear q0 q1 q2 y0 y1 y2 HX3 HX5 HX6 HB3 HB5 HB6 SUM FE F7 hcutE
         have HC7:ah (∀ W',BS w W'→W'.cell? ⟨ad.block,ad.off+2,none⟩=some (.int .u8 kd)):=⟨fun W' hb=>aV hb.1 HC2.o⟩
         have HS:ah (BS w w7.drew):=⟨dG HB7.o,_,_,_,bg HX7.o⟩
         refine iB (by kernel_rfl) (bq.start (n:=14) (S:=BS w) (by decide) ?_)
         refine bq.take' (i:=0) (v:=?_) rfl rfl (by kernel_rfl) (fun _ _ _ h=>by cases h.1) (Or.inl ⟨by rfl,?_⟩) HS.o ?_
         rotate_left
         ·(intro W' hW';have c2_:=HC7.o W' hW';go_simp;try (with_reducible rfl))
         try simp only[List.setIfInBounds_toArray,List.set_cons_zero,List.set_cons_succ]
         refine bq.take' (i:=1) (v:=?_) rfl rfl (by kernel_rfl) (fun _ _ _ h=>by cases h.1) (Or.inl ⟨by rfl,?_⟩) HS.o ?_
         rotate_left
         ·(intro W' hW';have c2_:=HC7.o W' hW';go_simp;try (with_reducible rfl))
         try simp only[List.setIfInBounds_toArray,List.set_cons_zero,List.set_cons_succ]
         refine bq.take' (i:=2) (v:=?_) rfl rfl (by kernel_rfl) (fun _ _ _ h=>by cases h.1) (Or.inl ⟨by rfl,?_⟩) HS.o ?_
         rotate_left
         ·(intro W' hW';have c2_:=HC7.o W' hW';go_simp;try (with_reducible rfl))
         try simp only[List.setIfInBounds_toArray,List.set_cons_zero,List.set_cons_succ]
         refine bq.take' (i:=3) (v:=?_) rfl rfl (by kernel_rfl) (fun _ _ _ h=>by cases h.1) (Or.inl ⟨by rfl,?_⟩) HS.o ?_
         rotate_left
         ·(intro W' hW';have c2_:=HC7.o W' hW';go_simp;try (with_reducible rfl))
         try simp only[List.setIfInBounds_toArray,List.set_cons_zero,List.set_cons_succ]
         refine bq.take' (i:=4) (v:=?_) rfl rfl (by kernel_rfl) (fun _ _ _ h=>by cases h.1) (Or.inl ⟨by rfl,?_⟩) HS.o ?_
         rotate_left
         ·(intro W' hW';have c2_:=HC7.o W' hW';go_simp;try (with_reducible rfl))
         try simp only[List.setIfInBounds_toArray,List.set_cons_zero,List.set_cons_succ]
         refine bq.take' (i:=6) (v:=?_) rfl rfl (by kernel_rfl) (fun _ _ _ h=>by cases h.1) (Or.inl ⟨by rfl,?_⟩) HS.o ?_
         rotate_left
         ·(intro W' hW';have c2_:=HC7.o W' hW';go_simp;try (with_reducible rfl))
         try simp only[List.setIfInBounds_toArray,List.set_cons_zero,List.set_cons_succ]
         refine bq.take' (i:=7) (v:=?_) rfl rfl (by kernel_rfl) (fun _ _ _ h=>by cases h.1) (Or.inl ⟨by rfl,?_⟩) HS.o ?_
         rotate_left
         ·(intro W' hW';have c2_:=HC7.o W' hW';go_simp;try (with_reducible rfl))
         try simp only[List.setIfInBounds_toArray,List.set_cons_zero,List.set_cons_succ]
         refine bq.take' (i:=8) (v:=?_) rfl rfl (by kernel_rfl) (fun _ _ _ h=>by cases h.1) (Or.inl ⟨by rfl,?_⟩) HS.o ?_
         rotate_left
         ·(intro W' hW';have c2_:=HC7.o W' hW';go_simp;try (with_reducible rfl))
         try simp only[List.setIfInBounds_toArray,List.set_cons_zero,List.set_cons_succ]
         refine bq.take' (i:=11) (v:=?_) rfl rfl (by kernel_rfl) (fun _ _ _ h=>by cases h.1) (Or.inl ⟨by rfl,?_⟩) HS.o ?_
         rotate_left
         ·(intro W' hW';have c2_:=HC7.o W' hW';go_simp;try (with_reducible rfl))
         try simp only[List.setIfInBounds_toArray,List.set_cons_zero,List.set_cons_succ]
         refine bq.take' (i:=12) (v:=?_) rfl rfl (by kernel_rfl) (fun _ _ _ h=>by cases h.1) (Or.inl ⟨by rfl,?_⟩) HS.o ?_
         rotate_left
         ·(intro W' hW';have c2_:=HC7.o W' hW';go_simp;try (with_reducible rfl))
         try simp only[List.setIfInBounds_toArray,List.set_cons_zero,List.set_cons_succ]
         refine bq.many (f:=2) [5,9] [58,62] (DY (w.heap.size+1) nm r3) Bt (by kernel_rfl) rfl (by decide) HS.o BS.Qo ?many ?rest
         case many=>
          intro j i d o h1 h2 h3
          rcases j with _ | _ | j
          ·cases h1;cases h2;cases h3
           refine⟨rfl,fun y W' hW'=>?_⟩
           simp only[gX,List.setIfInBounds_toArray,List.set_cons_zero,List.set_cons_succ]
           go_simp
           refine (F3.o W' hW'.1).mono ?_
           rintro e w8 ⟨rfl,hb8⟩
           exact⟨rfl,hb8⟩
          ·cases h1;cases h2;cases h3
           refine⟨rfl,fun y W' hW'=>?_⟩
           simp only[gX,List.setIfInBounds_toArray,List.set_cons_zero,List.set_cons_succ]
           go_simp
           refine (CLO.o W' hW'.1).mono ?_
           rintro e w8 ⟨v8,rfl,hr8,hb8⟩
           exact⟨Kd.dW hr8 hW'.lt,hb8⟩
          ·simp at h1
         case rest=>
          intro y W2 hW2 hΦ
          have r0:=hΦ 0 (by decide)
          have r1:=hΦ 1 (by decide)
          simp only[gX,List.setIfInBounds_toArray,List.set_cons_zero,List.set_cons_succ]
          clear hΦ
          generalize y 0=v0 at *
          generalize y (0+1)=v1 at *
          replace r0:v0 = .int .i64 nm:=r0
          replace r1:Kd.R (Kd.int .u8) 5 W2 (w.heap.size+1) (fun _=>True) v1 r3:=r1
          subst r0
          obtain⟨A5,c5,hv1⟩:=Kd.bD r1
          rw[hpl] at hv1
          subst hv1
          have HR5:=ah.mk r1
          have HS2:=ah.mk hW2
          obtain⟨o0,o1,o2,hx8⟩:=hW2.2
          have HX8:=ah.mk hx8
          clear r1 hW2 hx8
          refine bq.one (i:=10) rfl (by kernel_rfl) (by rfl) (fun K1 hK1=>?_)
          go_simp
          refine hK1 _ _ HS2.o ?_
          clear hK1
          have q0:=(av HX8.o 0).trans rfl
          have q1:=(av HX8.o 1).trans rfl
          have q2:=(av HX8.o 2).trans rfl
          have y0:=aC HX8.o 0
          have y1:=aC HX8.o 1
          have y2:=aC HX8.o 2
          refine bq.one (i:=13) rfl (by kernel_rfl) (by rfl) (fun K2 hK2=>?_)
          go_simp
          have HS3:ah (BS w (((W2.setCell ⟨w.heap.size,0,none⟩ (.int .i64 kd)).setCell ⟨w.heap.size,1,none⟩ (.int .i64 nm)).setCell ⟨w.heap.size,2,none⟩ (.slice A5 s c5))):=⟨iY HS2.o.1,_,_,_,jN HX8.o _ _ _⟩
          have HX9:=ah.mk (jN HX8.o (.int .i64 kd) (.int .i64 nm) (.slice A5 s c5))
          refine hK2 _ _ HS3.o ?_
          clear hK2 q0 q1 q2 y0 y1 y2
          refine bq.last rfl (by kernel_rfl) (by rfl) (fun K3 hK3=>?_)
          go_simp
          refine hK3 _ _ ⟨rfl,?_⟩
          clear hK3
          go_wp2_with fail
          refine bodyPost_ret (kX _ _ w.heap.size _ _ _ HX9.o rfl) rfl ?_
          refine⟨kd,nm,_,r3,13+s,?_,Kd.dL (Kd.dW (NS HR5.o) (Nat.le_succ _)) (fun _ _=>trivial),HS3.o.1,.inr ⟨HE.o,by rw[hpl]⟩⟩
          show Ending.returned (.tuple #[.agg #[.int .i64 kd,.int .i64 nm,.slice A5 s c5],.int .i64 (9+(s:Int)+4)])=_
          rw[show 9+(s:Int)+4=((13+s:Nat):Int) by omega]
        ·have HE:ah (jk b=none):=⟨by rw[jk,if_neg (by omega),if_neg (by omega),hs,if_neg (by omega),hS,hV,if_pos hSV]⟩
         have hne:((S:Int) != (V:Int))=true:=by simp;omega
         rw[hkd] at HC2 h3a h3b hbi hbj
         clear hr hok hT hn hb2 hpr hc2 hp01 hk1 hk3 hk13 hkd hs hS hV hto htl hSV hi05 hsz5
         go_enter Tryz.func79,Tryz.ntmps79
         go_wp2_with (first|(go_at_call 95;(with_reducible refine (gK.calls [208,215] _ rfl).mono ?_);rintro e w2 ⟨v2,rfl,hr2,hb⟩;obtain⟨A2,c2,hv2⟩:=Kd.bD hr2;replace hv2:v2 = .slice A2 2 c2:=hv2;subst hv2;have HM2:ah (2≤c2∧Kd.C (Kd.int .u8) w2 A2 2 [208,215]):=⟨⟨(Kd.aX hr2).2.1,(Kd.aX hr2).2.2⟩⟩;have HB2:=ah.mk (ak HBA.o hb);have HX2:=ah.mk (aG HX.o hb);clear hr2 hb)|(go_at_call 115;(with_reducible refine (hasPrefix.calls _ c n b A2 c2 _ HN.o (Kd.aH HR.o HB2.o) hc HOK.o (by omega) HM2.o.2 HM2.o.1).mono ?_);rintro e w3 ⟨rfl,hb⟩;rw[HPRE.o];have HB3:=ah.mk (ak HB2.o hb);have HX3:=ah.mk (aG HX2.o hb);have e2:=aV HB3.o HC2.o;clear hb)|(go_at_call 116;(with_reducible refine (F7.o _ HB3.o).mono ?_);rintro e w5 ⟨rfl,hb⟩;have HB5:=ah.mk (ak HB3.o hb);have HX5:=ah.mk (aG HX3.o hb);have q0:=(av HX5.o 0).trans rfl;have q1:=(av HX5.o 1).trans rfl;have q2:=(av HX5.o 2).trans rfl;have y0:=aC HX5.o 0;have y1:=aC HX5.o 1;have y2:=aC HX5.o 2;clear hb)|(go_at_call 96;(with_reducible refine (SUM.o _ HB5.o).mono ?_);rintro e w6 ⟨rfl,hb⟩;have HB6:=ah.mk (ak HB5.o hb);have HX6:=ah.mk (aG HX5.o hb);clear hb q0 q1 q2 y0 y1 y2)|(go_at_call 116;(with_reducible refine (FE.o _ HB6.o).mono ?_);rintro e w7 ⟨rfl,hb⟩;have HB7:=ah.mk (ak HB6.o hb);have HX7:=ah.mk (aG HX6.o hb);have q0:=(av HX7.o 0).trans rfl;have q1:=(av HX7.o 1).trans rfl;have q2:=(av HX7.o 2).trans rfl;have y0:=aC HX7.o 0;have y1:=aC HX7.o 1;have y2:=aC HX7.o 2;clear hb))
         refine bodyPost_ret (kX _ _ w.heap.size _ _ _ (jN HX7.o _ _ _) rfl) rfl ?_
         exact jG.none_ HE.o (iY HB7.o)
theorem nX {P:Program} {a:Act} {w:World} {Q:Exit→Act→World→Prop} {c rest:Code} (l:Nat) (J:Act→World→Prop) (μ:Act→World→Nat) (hf:findLabel c l=some (.seq .skip rest))
 (pass:∀ a w,J a w→rest.wp P (Exit.jump l (fun a' w'=>J a' w'∧μ a' w'<μ a w) Q) a w)
 (first:(∀ a w,J a w→rest.wp P (Exit.jump l J Q) a w)→c.wp P (Exit.jump l J Q) a w):(Code.scope c).wp P Q a w:=
 wp_scope_jumps l J μ hf (first fun a w h=>wp_mono (pass a w h) (fun e a' w' hq=>by
  cases e<;>first | exact hq | exact⟨hq.1,hq.2.1⟩)) fun a w h=>wp_seq (wp_skip (pass a w h))
theorem Fu {b:List Int} {f:Fr} (hok:okB b=true) (h:jk b=some f):okB f.pay=true:=by
 simp only[jk] at h
 repeat' split at h
 all_goals first | cases h | skip
 exact ku hok (fun x hx=>List.mem_of_mem_take (List.mem_of_mem_drop hx))
theorem MX.calls (p:Nat) (A:Option Addr) (c n:Nat) (b:List Int) (w:World) (Inv:List Fr→World→Prop) (hn:b.length=n) (hc:n≤c) (hok:okB b=true) (hlen:n≤1000000000)
 (hC:∀ fs W,Inv fs W→Kd.C (Kd.int .u8) W A n b) (hT:∀ fs W,Inv fs W→kg W) (hst:∀ fs W W',Inv fs W→Below W.heap.size W W'→Inv fs W')
 (htell:∀ fs (f:Fr) W (A':Option Addr) (c':Nat),Inv fs W→(f::fs).length≤n→f.pay.length≤1000→okB f.pay=true→Kd.C (Kd.int .u8) W A' f.pay.length f.pay→f.pay.length≤c'→Calls Tryz.prog 74 #[.pointer (some ⟨p,0,none⟩),.agg #[.int .i64 f.kind,.int .i64 f.num,.slice A' f.pay.length c']] W fun e W'=>e = .returned (.tuple #[])∧Inv (fs++[f]) W')
 (h0:Inv [] w) :
 Calls Tryz.prog 44 #[.slice A n c,.func (.func 74) #[.pointer (some ⟨p,0,none⟩)] #[]] w fun e w'=>e = .returned (.tuple #[])∧Inv (iI b) w':=by
 go_enter Tryz.func44,Tryz.ntmps44
 refine nX 0 (fun a' w'=>∃ (at_:Nat) (fs:List Fr) (u5 u6 u7 u8 u9 u10 u11 u12 u13 u14 u15 u16 u17 u18 u19 u20 u21 u22 u23 u24 u25 u26 u27:Value),a'={ tmps := #[.slice A n c,.func (.func 74) #[.pointer (some ⟨p,0,none⟩)] #[],undef,undef,.int .i64 at_,u5,u6,u7,u8,u9,u10,u11,u12,u13,u14,u15,u16,u17,u18,u19,u20,u21,u22,u23,u24,u25,u26,u27],defers:=[] }∧at_≤n∧fs.length≤at_∧fs++iI (b.drop at_)=iI b∧Inv fs w') (fun a' _=>n-(intOf (a'.tmps.getD 4 undef)).toNat) rfl ?_ ?_
 ·rintro a' wr ⟨at_,fs,u5,u6,u7,u8,u9,u10,u11,u12,u13,u14,u15,u16,u17,u18,u19,u20,u21,u22,u23,u24,u25,u26,u27,rfl,hat,hfl,hfs,hi⟩
  have HI:=ah.mk hi
  have HFS:=ah.mk hfs
  have HFL:=ah.mk hfl
  clear hfs hfl hi
  by_cases hge:n≤at_
  ·have hgei:((at_:Int)≥(n:Int)):=by omega
   have HE:ah (fs=iI b):=⟨by rw[← HFS.o,List.drop_eq_nil_of_le (by omega),wz,List.append_nil]⟩
   go_wp2_with fail
   simp only[Exit.jump]
   refine bodyPost_ret (results_none rfl _ _ _) rfl ?_
   exact⟨rfl,by rw[← HE.o];exact HI.o⟩
  ·have hgei:¬ ((at_:Int)≥(n:Int)):=by omega
   have hlti:((at_:Int)<(n:Int)):=by omega
   obtain⟨A1,c1,r,hr,HCR,hc1,_,hcut⟩:=JB A c b at_ (by omega) (by omega)
   have hr':=hr.o
   have hrl:r.length=n-at_:=by rw[hr',List.length_drop,hn]
   have hcut1:=hcut (at_:Int) rfl
   rw[hn] at hcut1 HCR
   have HB0:=ah.mk (begins.calls A1 c1 r.length r wr rfl (HCR.o _ (hC _ _ HI.o)) hc1 (ku hok (by rw[hr'];exact List.drop_subset _ _)) (by omega) (hT _ _ HI.o))
   have hat1:IntKind.i64.wrap ((at_:Int)+1)=(at_:Int)+1:=by rw[IntKind.wrap_i64];omega
   cases hbg:jk r with
   | none=>
     have BEG:ah (Calls Tryz.prog 79 #[.slice A1 r.length c1] wr fun e w'=>∃ (k nm:Nat) (A2:Option Addr) (n2 c2:Nat),e = .returned (.tuple #[.agg #[.int .i64 k,.int .i64 nm,.slice A2 n2 c2],.int .i64 0])∧Below wr.heap.size wr w'∧True):=⟨HB0.o.mono fun e w' ⟨k,nm,v,q,m,he,hR,hb,h⟩=>by
      rcases h with ⟨_,rfl⟩ | ⟨h,_⟩
      ·obtain⟨A2,c2,rfl⟩:=Kd.bD hR
       exact⟨k,nm,A2,_,c2,he,hb,trivial⟩
      ·rw[hbg] at h;cases h⟩
     have HE:ah (fs++iI (b.drop (at_+1))=iI b):=⟨by rw[← HFS.o,← hr',yL (b:=r) (by omega) hbg,hr',List.drop_drop]⟩
     clear hr hr' HCR hcut HB0 hbg
     rw[hrl] at *
     go_wp2_with (first|(go_at_call 79;(with_reducible refine BEG.o.mono ?_);rintro e w2 ⟨k2,m2,A2,n2,c2,rfl,hb,hx⟩;have HB2:=ah.mk hb;have HX2:=ah.mk hx;clear hb hx)|(go_at_call 74;(with_reducible refine (TELL.o _ (hst _ _ _ (hst _ _ _ HI.o HB2.o) (aj (Below.refl _ _) _)) _ _ ⟨Kd.aH HX2.o.1 (aj (Below.refl _ _) _),HX2.o.2⟩).mono ?_);rintro e w3 ⟨rfl,hi⟩;have HI3:=ah.mk hi;clear hi))
     go_step3
     refine⟨rfl,⟨at_+1,fs,_,_,_,_,_,_,_,_,_,_,_,_,_,_,_,_,_,_,_,_,_,_,_,rfl,by omega,by have:=HFL.o;omega,HE.o,hst _ _ _ (hst _ _ _ HI.o HB2.o) (aj (Below.refl _ _) _)⟩,?_⟩
     simp[intOf]
     omega
   | some f=>
     have hbl:=qA hbg
     have hpo:okB f.pay=true:=Fu (ku hok (by rw[hr'];exact List.drop_subset _ _)) hbg
     have hpl:f.pay.length≤1000:=hbl.2.1
     have hfr:kK f≤r.length:=hbl.1
     have hf13:kK f=13+f.pay.length:=rfl
     have BEG:ah (Calls Tryz.prog 79 #[.slice A1 r.length c1] wr fun e w'=>∃ (k nm:Nat) (A2:Option Addr) (n2 c2:Nat),e = .returned (.tuple #[.agg #[.int .i64 f.kind,.int .i64 f.num,.slice A2 f.pay.length c2],.int .i64 (13+f.pay.length:Nat)])∧Below wr.heap.size wr w'∧Kd.C (Kd.int .u8) w' A2 f.pay.length f.pay∧f.pay.length≤c2):=⟨HB0.o.mono fun e w' ⟨k,nm,v,q,m,he,hR,hb,h⟩=>by
      rcases h with ⟨h,_⟩ | ⟨h,rfl⟩
      ·rw[hbg] at h;cases h
      ·rw[hbg] at h
       cases h
       obtain⟨A2,c2,rfl⟩:=Kd.bD hR
       exact⟨0,0,A2,0,c2,he,hb,(Kd.aX hR).2.2,(Kd.aX hR).2.1⟩⟩
     have hfr13:at_+(13+f.pay.length)≤n:=by omega
     clear hbl hfr hf13
     have HE:ah ((fs++[f])++iI (b.drop (at_+(13+f.pay.length)))=iI b):=⟨by rw[← HFS.o,← hr',rX (b:=r) hbg,hr',List.drop_drop,List.append_assoc];rfl⟩
     have TELL:ah (∀ W,Inv fs W→∀ A2 c2,Kd.C (Kd.int .u8) W A2 f.pay.length f.pay∧f.pay.length≤c2→Calls Tryz.prog 74 #[.pointer (some ⟨p,0,none⟩),.agg #[.int .i64 f.kind,.int .i64 f.num,.slice A2 f.pay.length c2]] W fun e W'=>e = .returned (.tuple #[])∧Inv (fs++[f]) W'):=⟨fun W hW A2 c2 h=>htell fs f W A2 c2 hW (by simp only[List.length_cons];have:=HFL.o;omega) hpl hpo h.1 h.2⟩
     have hmi:IntKind.i64.wrap ((at_:Int)+((13+f.pay.length:Nat):Int))=((at_+(13+f.pay.length):Nat):Int):=by rw[IntKind.wrap_i64];omega
     have hm0:(((13+f.pay.length:Nat):Int)==0)=false:=by simp;omega
     clear hr hr' HCR hcut HB0 hbg
     rw[hrl] at *
     go_wp2_with (first|(go_at_call 79;(with_reducible refine BEG.o.mono ?_);rintro e w2 ⟨k2,m2,A2,n2,c2,rfl,hb,hx⟩;have HB2:=ah.mk hb;have HX2:=ah.mk hx;clear hb hx)|(go_at_call 74;(with_reducible refine (TELL.o _ (hst _ _ _ (hst _ _ _ HI.o HB2.o) (aj (Below.refl _ _) _)) _ _ ⟨Kd.aH HX2.o.1 (aj (Below.refl _ _) _),HX2.o.2⟩).mono ?_);rintro e w3 ⟨rfl,hi⟩;have HI3:=ah.mk hi;clear hi))
     go_step3
     refine⟨rfl,⟨at_+(13+f.pay.length),fs++[f],_,_,_,_,_,_,_,_,_,_,_,_,_,_,_,_,_,_,_,_,_,_,_,rfl,by omega,by have:=HFL.o;simp only[List.length_append,List.length_cons,List.length_nil];omega,HE.o,HI3.o⟩,?_⟩
     simp[intOf]
     omega
 ·intro H
  go_wp2_with fail
  go_step3
  simp only[Exit.then]
  rename_i hK
  refine hK _ _ ?_
  exact H _ _ ⟨0,[],_,_,_,_,_,_,_,_,_,_,_,_,_,_,_,_,_,_,_,_,_,_,_,rfl,Nat.zero_le _,Nat.zero_le _,rfl,h0⟩
theorem KY.calls (p:Nat) (A:Option Addr) (c n:Nat) (b:List Int) (w:World) (Inv:List Fr→World→Prop) (hn:b.length=n) (hc:n≤c) (hok:okB b=true) (hlen:n≤1000000000)
 (hC:∀ fs W,Inv fs W→Kd.C (Kd.int .u8) W A n b) (hT:∀ fs W,Inv fs W→kg W) (hst:∀ fs W W',Inv fs W→Below W.heap.size W W'→Inv fs W')
 (htell:∀ fs (f:Fr) W (A':Option Addr) (c':Nat),Inv fs W→(f::fs).length≤n→f.pay.length≤1000→okB f.pay=true→Kd.C (Kd.int .u8) W A' f.pay.length f.pay→f.pay.length≤c'→Calls Tryz.prog 45 #[.agg #[.int .i64 f.kind,.int .i64 f.num,.slice A' f.pay.length c'],.pointer (some ⟨p,0,none⟩)] W fun e W'=>e = .returned (.tuple #[])∧Inv (fs++[f]) W')
 (h0:Inv [] w) :
 Calls Tryz.prog 44 #[.slice A n c,.func (.func 45) #[] #[.pointer (some ⟨p,0,none⟩)]] w fun e w'=>e = .returned (.tuple #[])∧Inv (iI b) w':=by
 go_enter Tryz.func44,Tryz.ntmps44
 refine nX 0 (fun a' w'=>∃ (at_:Nat) (fs:List Fr) (u5 u6 u7 u8 u9 u10 u11 u12 u13 u14 u15 u16 u17 u18 u19 u20 u21 u22 u23 u24 u25 u26 u27:Value),a'={ tmps := #[.slice A n c,.func (.func 45) #[] #[.pointer (some ⟨p,0,none⟩)],undef,undef,.int .i64 at_,u5,u6,u7,u8,u9,u10,u11,u12,u13,u14,u15,u16,u17,u18,u19,u20,u21,u22,u23,u24,u25,u26,u27],defers:=[] }∧at_≤n∧fs.length≤at_∧fs++iI (b.drop at_)=iI b∧Inv fs w') (fun a' _=>n-(intOf (a'.tmps.getD 4 undef)).toNat) rfl ?_ ?_
 ·rintro a' wr ⟨at_,fs,u5,u6,u7,u8,u9,u10,u11,u12,u13,u14,u15,u16,u17,u18,u19,u20,u21,u22,u23,u24,u25,u26,u27,rfl,hat,hfl,hfs,hi⟩
  have HI:=ah.mk hi
  have HFS:=ah.mk hfs
  have HFL:=ah.mk hfl
  clear hfs hfl hi
  by_cases hge:n≤at_
  ·have hgei:((at_:Int)≥(n:Int)):=by omega
   have HE:ah (fs=iI b):=⟨by rw[← HFS.o,List.drop_eq_nil_of_le (by omega),wz,List.append_nil]⟩
   go_wp2_with fail
   simp only[Exit.jump]
   refine bodyPost_ret (results_none rfl _ _ _) rfl ?_
   exact⟨rfl,by rw[← HE.o];exact HI.o⟩
  ·have hgei:¬ ((at_:Int)≥(n:Int)):=by omega
   have hlti:((at_:Int)<(n:Int)):=by omega
   obtain⟨A1,c1,r,hr,HCR,hc1,_,hcut⟩:=JB A c b at_ (by omega) (by omega)
   have hr':=hr.o
   have hrl:r.length=n-at_:=by rw[hr',List.length_drop,hn]
   have hcut1:=hcut (at_:Int) rfl
   rw[hn] at hcut1 HCR
   have HB0:=ah.mk (begins.calls A1 c1 r.length r wr rfl (HCR.o _ (hC _ _ HI.o)) hc1 (ku hok (by rw[hr'];exact List.drop_subset _ _)) (by omega) (hT _ _ HI.o))
   have hat1:IntKind.i64.wrap ((at_:Int)+1)=(at_:Int)+1:=by rw[IntKind.wrap_i64];omega
   cases hbg:jk r with
   | none=>
     have BEG:ah (Calls Tryz.prog 79 #[.slice A1 r.length c1] wr fun e w'=>∃ (k nm:Nat) (A2:Option Addr) (n2 c2:Nat),e = .returned (.tuple #[.agg #[.int .i64 k,.int .i64 nm,.slice A2 n2 c2],.int .i64 0])∧Below wr.heap.size wr w'∧True):=⟨HB0.o.mono fun e w' ⟨k,nm,v,q,m,he,hR,hb,h⟩=>by
      rcases h with ⟨_,rfl⟩ | ⟨h,_⟩
      ·obtain⟨A2,c2,rfl⟩:=Kd.bD hR
       exact⟨k,nm,A2,_,c2,he,hb,trivial⟩
      ·rw[hbg] at h;cases h⟩
     have HE:ah (fs++iI (b.drop (at_+1))=iI b):=⟨by rw[← HFS.o,← hr',yL (b:=r) (by omega) hbg,hr',List.drop_drop]⟩
     clear hr hr' HCR hcut HB0 hbg
     rw[hrl] at *
     go_wp2_with (first|(go_at_call 79;(with_reducible refine BEG.o.mono ?_);rintro e w2 ⟨k2,m2,A2,n2,c2,rfl,hb,hx⟩;have HB2:=ah.mk hb;have HX2:=ah.mk hx;clear hb hx)|(go_at_call 45;(with_reducible refine (TELL.o _ (hst _ _ _ (hst _ _ _ HI.o HB2.o) (aj (Below.refl _ _) _)) _ _ ⟨Kd.aH HX2.o.1 (aj (Below.refl _ _) _),HX2.o.2⟩).mono ?_);rintro e w3 ⟨rfl,hi⟩;have HI3:=ah.mk hi;clear hi))
     go_step3
     refine⟨rfl,⟨at_+1,fs,_,_,_,_,_,_,_,_,_,_,_,_,_,_,_,_,_,_,_,_,_,_,_,rfl,by omega,by have:=HFL.o;omega,HE.o,hst _ _ _ (hst _ _ _ HI.o HB2.o) (aj (Below.refl _ _) _)⟩,?_⟩
     simp[intOf]
     omega
   | some f=>
     have hbl:=qA hbg
     have hpo:okB f.pay=true:=Fu (ku hok (by rw[hr'];exact List.drop_subset _ _)) hbg
     have hpl:f.pay.length≤1000:=hbl.2.1
     have hfr:kK f≤r.length:=hbl.1
     have hf13:kK f=13+f.pay.length:=rfl
     have BEG:ah (Calls Tryz.prog 79 #[.slice A1 r.length c1] wr fun e w'=>∃ (k nm:Nat) (A2:Option Addr) (n2 c2:Nat),e = .returned (.tuple #[.agg #[.int .i64 f.kind,.int .i64 f.num,.slice A2 f.pay.length c2],.int .i64 (13+f.pay.length:Nat)])∧Below wr.heap.size wr w'∧Kd.C (Kd.int .u8) w' A2 f.pay.length f.pay∧f.pay.length≤c2):=⟨HB0.o.mono fun e w' ⟨k,nm,v,q,m,he,hR,hb,h⟩=>by
      rcases h with ⟨h,_⟩ | ⟨h,rfl⟩
      ·rw[hbg] at h;cases h
      ·rw[hbg] at h
       cases h
       obtain⟨A2,c2,rfl⟩:=Kd.bD hR
       exact⟨0,0,A2,0,c2,he,hb,(Kd.aX hR).2.2,(Kd.aX hR).2.1⟩⟩
     have hfr13:at_+(13+f.pay.length)≤n:=by omega
     clear hbl hfr hf13
     have HE:ah ((fs++[f])++iI (b.drop (at_+(13+f.pay.length)))=iI b):=⟨by rw[← HFS.o,← hr',rX (b:=r) hbg,hr',List.drop_drop,List.append_assoc];rfl⟩
     have TELL:ah (∀ W,Inv fs W→∀ A2 c2,Kd.C (Kd.int .u8) W A2 f.pay.length f.pay∧f.pay.length≤c2→Calls Tryz.prog 45 #[.agg #[.int .i64 f.kind,.int .i64 f.num,.slice A2 f.pay.length c2],.pointer (some ⟨p,0,none⟩)] W fun e W'=>e = .returned (.tuple #[])∧Inv (fs++[f]) W'):=⟨fun W hW A2 c2 h=>htell fs f W A2 c2 hW (by simp only[List.length_cons];have:=HFL.o;omega) hpl hpo h.1 h.2⟩
     have hmi:IntKind.i64.wrap ((at_:Int)+((13+f.pay.length:Nat):Int))=((at_+(13+f.pay.length):Nat):Int):=by rw[IntKind.wrap_i64];omega
     have hm0:(((13+f.pay.length:Nat):Int)==0)=false:=by simp;omega
     clear hr hr' HCR hcut HB0 hbg
     rw[hrl] at *
     go_wp2_with (first|(go_at_call 79;(with_reducible refine BEG.o.mono ?_);rintro e w2 ⟨k2,m2,A2,n2,c2,rfl,hb,hx⟩;have HB2:=ah.mk hb;have HX2:=ah.mk hx;clear hb hx)|(go_at_call 45;(with_reducible refine (TELL.o _ (hst _ _ _ (hst _ _ _ HI.o HB2.o) (aj (Below.refl _ _) _)) _ _ ⟨Kd.aH HX2.o.1 (aj (Below.refl _ _) _),HX2.o.2⟩).mono ?_);rintro e w3 ⟨rfl,hi⟩;have HI3:=ah.mk hi;clear hi))
     go_step3
     refine⟨rfl,⟨at_+(13+f.pay.length),fs++[f],_,_,_,_,_,_,_,_,_,_,_,_,_,_,_,_,_,_,_,_,_,_,_,rfl,by omega,by have:=HFL.o;simp only[List.length_append,List.length_cons,List.length_nil];omega,HE.o,HI3.o⟩,?_⟩
     simp[intOf]
     omega
 ·intro H
  go_wp2_with fail
  go_step3
  simp only[Exit.then]
  rename_i hK
  refine hK _ _ ?_
  exact H _ _ ⟨0,[],_,_,_,_,_,_,_,_,_,_,_,_,_,_,_,_,_,_,_,_,_,_,_,rfl,Nat.zero_le _,Nat.zero_le _,rfl,h0⟩
theorem Oa (W:World) (g:Nat) (A1 A2 A3 A4 A5:Option Addr) (c1 c2 c3 c4 c5 n1 n2 n3 n4 n5:Nat) (l1 l2 l3 l4 l5:List Int) (t:Nat) (fr:Nat × Nat) (e1:l1.length=n1) (e2:l2.length=n2) (e3:l3.length=n3) (e4:l4.length=n4) (e5:l5.length=n5) (hb:W.heap[g]? = some (.cells #[.slice A1 n1 c1,.slice A2 n2 c2,.slice A3 n3 c3,.slice A4 n4 c4,.slice A5 n5 c5] t fr))
 (h1:Kd.C (Kd.int .u8) W A1 l1.length l1) (k1:l1.length≤c1) (h2:Kd.C (Kd.int .u8) W A2 l2.length l2) (k2:l2.length≤c2) (h3:Kd.C (Kd.int .u8) W A3 l3.length l3) (k3:l3.length≤c3) (h4:Kd.C (Kd.int .u8) W A4 l4.length l4) (k4:l4.length≤c4) (h5:Kd.C (Kd.int .u8) W A5 l5.length l5) (k5:l5.length≤c5) :
 Kd.C (Kd.slice 5 (Kd.int .u8)) W (some ⟨g,0,none⟩) 5 [l1,l2,l3,l4,l5]:=by
 subst e1 e2 e3 e4 e5
 have key:∀ (j:Nat) (u:Value),#[Value.slice A1 l1.length c1,.slice A2 l2.length c2,.slice A3 l3.length c3,.slice A4 l4.length c4,.slice A5 l5.length c5][j]? = some u→W.cell? (Addr.add ⟨g,0,none⟩ j)=some u:=fun j u hu=>by
  rw[add_plain]
  exact (cell_of_row W g j _ t fr hb).trans hu
 have one:∀ (j:Nat) (u:Value),#[Value.slice A1 l1.length c1,.slice A2 l2.length c2,.slice A3 l3.length c3,.slice A4 l4.length c4,.slice A5 l5.length c5][j]? = some u→∀ i v,[u][i]? = some v→W.cell? (Addr.add ⟨g,0,none⟩ (j*1+i))=some v:=fun j u hu i v hv=>by
  match i,hv with
  | 0,hv=>
    injection hv with hv
    subst hv
    rw[Nat.mul_one,Nat.add_zero]
    exact key j u hu
  | n+1,hv=>simp at hv
 refine⟨rfl,by decide,fun _=>⟨_,rfl,fun j p hj=>?_⟩⟩
 match j,hj with
 | 0,hj=>injection hj with hj;subst hj;exact⟨_,rfl,⟨A1,c1,rfl,k1,h1⟩,one 0 _ rfl⟩
 | 1,hj=>injection hj with hj;subst hj;exact⟨_,rfl,⟨A2,c2,rfl,k2,h2⟩,one 1 _ rfl⟩
 | 2,hj=>injection hj with hj;subst hj;exact⟨_,rfl,⟨A3,c3,rfl,k3,h3⟩,one 2 _ rfl⟩
 | 3,hj=>injection hj with hj;subst hj;exact⟨_,rfl,⟨A4,c4,rfl,k4,h4⟩,one 3 _ rfl⟩
 | 4,hj=>injection hj with hj;subst hj;exact⟨_,rfl,⟨A5,c5,rfl,k5,h5⟩,one 4 _ rfl⟩
 | n+5,hj=>simp at hj
theorem wW (n i:Nat) (hn:n<18446744073709551616) (hi:i≤8) (W:World):Calls Tryz.prog 31 #[.int .u64 n,.int .i64 i] W fun e w'=>∃ v0_:Value,e = .returned v0_∧Kd.R (Kd.int .u8) 5 w' W.heap.size (fun _=>True) v0_ (dR n i)∧Below W.heap.size W w' :=
 iA.calls _ _ _ W (by rw[iA.f,if_pos (by omega),Int.toNat_natCast];congr 2;unfold wid;omega)
def JU (B k n m:Nat):Nat→Value→World→Prop
 | 0,v,W=>Kd.R (Kd.int .u8) 5 W B (fun _=>True) v [208,215]
 | 1,v,W=>Kd.R (Kd.int .u8) 5 W B (fun _=>True) v [(k:Int)]
 | 2,v,W=>Kd.R (Kd.int .u8) 5 W B (fun _=>True) v (dR n 4)
 | _+3,v,W=>Kd.R (Kd.int .u8) 5 W B (fun _=>True) v (dR m 2)
theorem Ej {B k n m:Nat}:∀ (i:Nat) (v:Value) (W W':World),JU B k n m i v W→Below W.heap.size W W'→JU B k n m i v W'
 | 0,_,_,_,h,hb=>Kd.bR h hb
 | 1,_,_,_,h,hb=>Kd.bR h hb
 | 2,_,_,_,h,hb=>Kd.bR h hb
 | _+3,_,_,_,h,hb=>Kd.bR h hb
theorem Oc.calls (k n m:Nat) (p:List Int) (A:Option Addr) (c:Nat) (w:World) (hk:k<256) (hn:n<4294967296) (hm:p.length=m) (hr:Kd.C (Kd.int .u8) w A m p) (hc:m≤c) (hl:m≤1000000) (hok:okB p=true) (hT:kg w) :
 Calls Tryz.prog 64 #[.agg #[.int .i64 k,.int .i64 n,.slice A m c]] w fun e w'=>∃ v:Value,e = .returned v∧Kd.R (Kd.int .u8) 5 w' w.heap.size (fun _=>True) v (kU k n p)∧Below w.heap.size w w':=by
 have HM:=ah.mk hm
 have HR:=ah.mk hr
 have HT:=ah.mk hT
 have HOK:=ah.mk hok
 clear hr hok hT hm
 have hku:IntKind.u8.wrap (k:Int)=(k:Int):=by simp[IntKind.wrap,IntKind.bits,IntKind.signed];omega
 have hnu:IntKind.u64.wrap (n:Int)=(n:Int):=by simp[IntKind.wrap,IntKind.bits,IntKind.signed];omega
 have hmu:IntKind.u64.wrap (m:Int)=(m:Int):=by simp[IntKind.wrap,IntKind.bits,IntKind.signed];omega
 go_enter Tryz.func64,Tryz.ntmps64
 go_wp2_with fail
 have HB0:=ah.mk (aj (Below.refl w.heap.size w) (.cells #[.int .i64 k,.int .i64 n,.slice A m c] 80 (0,0)))
 have HX0:=ah.mk (bI w (.cells #[.int .i64 k,.int .i64 n,.slice A m c] 80 (0,0)))
 generalize w.alloc (.cells #[.int .i64 k,.int .i64 n,.slice A m c] 80)=w1 at *
 have HC0:ah (∀ W',Below w1.heap.size w1 W'→W'.cell? ⟨w.heap.size,0,none⟩=some (.int .i64 k)):=⟨fun W' hb=>aV hb ((av HX0.o 0).trans rfl)⟩
 have HC1:ah (∀ W',Below w1.heap.size w1 W'→W'.cell? ⟨w.heap.size,1,none⟩=some (.int .i64 n)):=⟨fun W' hb=>aV hb ((av HX0.o 1).trans rfl)⟩
 have HC2:ah (∀ W',Below w1.heap.size w1 W'→W'.cell? ⟨w.heap.size,2,none⟩=some (.slice A m c)):=⟨fun W' hb=>aV hb ((av HX0.o 2).trans rfl)⟩
 have HS:=ah.mk (dG (Below.refl w1.heap.size w1))
 refine iB (by kernel_rfl) (bq.start (n:=18) (S:=fun W'=>Below w1.heap.size w1 W') (by decide) ?_)
 refine bq.take' (i:=1) (v:=?_) rfl rfl (by kernel_rfl) (fun _ _ _ h=>by cases h.1) (Or.inl ⟨by rfl,?_⟩) HS.o ?_
 rotate_left
 ·(intro W' hW';have c0:=HC0.o W' hW';have c1:=HC1.o W' hW';have c2:=HC2.o W' hW';go_simp;try (with_reducible rfl))
 try simp only[List.setIfInBounds_toArray,List.set_cons_zero,List.set_cons_succ]
 refine bq.take' (i:=2) (v:=?_) rfl rfl (by kernel_rfl) (fun _ _ _ h=>by cases h.1) (Or.inl ⟨by rfl,?_⟩) HS.o ?_
 rotate_left
 ·(intro W' hW';have c0:=HC0.o W' hW';have c1:=HC1.o W' hW';have c2:=HC2.o W' hW';go_simp;try (with_reducible rfl))
 try simp only[List.setIfInBounds_toArray,List.set_cons_zero,List.set_cons_succ]
 refine bq.take' (i:=3) (v:=?_) rfl rfl (by kernel_rfl) (fun _ _ _ h=>by cases h.1) (Or.inl ⟨by rfl,?_⟩) HS.o ?_
 rotate_left
 ·(intro W' hW';have c0:=HC0.o W' hW';have c1:=HC1.o W' hW';have c2:=HC2.o W' hW';go_simp;try (with_reducible rfl))
 try simp only[List.setIfInBounds_toArray,List.set_cons_zero,List.set_cons_succ]
 refine bq.take' (i:=5) (v:=?_) rfl rfl (by kernel_rfl) (fun _ _ _ h=>by cases h.1) (Or.inl ⟨by rfl,?_⟩) HS.o ?_
 rotate_left
 ·(intro W' hW';have c0:=HC0.o W' hW';have c1:=HC1.o W' hW';have c2:=HC2.o W' hW';go_simp;try (with_reducible rfl))
 try simp only[List.setIfInBounds_toArray,List.set_cons_zero,List.set_cons_succ]
 refine bq.take' (i:=6) (v:=?_) rfl rfl (by kernel_rfl) (fun _ _ _ h=>by cases h.1) (Or.inl ⟨by rfl,?_⟩) HS.o ?_
 rotate_left
 ·(intro W' hW';have c0:=HC0.o W' hW';have c1:=HC1.o W' hW';have c2:=HC2.o W' hW';go_simp;try (with_reducible rfl))
 try simp only[List.setIfInBounds_toArray,List.set_cons_zero,List.set_cons_succ]
 refine bq.take' (i:=7) (v:=?_) rfl rfl (by kernel_rfl) (fun _ _ _ h=>by cases h.1) (Or.inl ⟨by rfl,?_⟩) HS.o ?_
 rotate_left
 ·(intro W' hW';have c0:=HC0.o W' hW';have c1:=HC1.o W' hW';have c2:=HC2.o W' hW';go_simp;try (with_reducible rfl))
 try simp only[List.setIfInBounds_toArray,List.set_cons_zero,List.set_cons_succ]
 refine bq.take' (i:=9) (v:=?_) rfl rfl (by kernel_rfl) (fun _ _ _ h=>by cases h.1) (Or.inl ⟨by rfl,?_⟩) HS.o ?_
 rotate_left
 ·(intro W' hW';have c0:=HC0.o W' hW';have c1:=HC1.o W' hW';have c2:=HC2.o W' hW';go_simp;try (with_reducible rfl))
 try simp only[List.setIfInBounds_toArray,List.set_cons_zero,List.set_cons_succ]
 refine bq.take' (i:=10) (v:=?_) rfl rfl (by kernel_rfl) (fun _ _ _ h=>by cases h.1) (Or.inl ⟨by rfl,?_⟩) HS.o ?_
 rotate_left
 ·(intro W' hW';have c0:=HC0.o W' hW';have c1:=HC1.o W' hW';have c2:=HC2.o W' hW';go_simp;try (with_reducible rfl))
 try simp only[List.setIfInBounds_toArray,List.set_cons_zero,List.set_cons_succ]
 refine bq.take' (i:=11) (v:=?_) rfl rfl (by kernel_rfl) (fun _ _ _ h=>by cases h.1) (Or.inl ⟨by rfl,?_⟩) HS.o ?_
 rotate_left
 ·(intro W' hW';have c0:=HC0.o W' hW';have c1:=HC1.o W' hW';have c2:=HC2.o W' hW';go_simp;try (with_reducible rfl))
 try simp only[List.setIfInBounds_toArray,List.set_cons_zero,List.set_cons_succ]
 refine bq.take' (i:=12) (v:=?_) rfl rfl (by kernel_rfl) (fun _ _ _ h=>by cases h.1) (Or.inl ⟨by rfl,?_⟩) HS.o ?_
 rotate_left
 ·(intro W' hW';have c0:=HC0.o W' hW';have c1:=HC1.o W' hW';have c2:=HC2.o W' hW';go_simp;try (with_reducible rfl))
 try simp only[List.setIfInBounds_toArray,List.set_cons_zero,List.set_cons_succ]
 refine bq.take' (i:=14) (v:=?_) rfl rfl (by kernel_rfl) (fun _ _ _ h=>by cases h.1) (Or.inl ⟨by rfl,?_⟩) HS.o ?_
 rotate_left
 ·(intro W' hW';have c0:=HC0.o W' hW';have c1:=HC1.o W' hW';have c2:=HC2.o W' hW';go_simp;try (with_reducible rfl))
 try simp only[List.setIfInBounds_toArray,List.set_cons_zero,List.set_cons_succ]
 refine bq.take' (i:=15) (v:=?_) rfl rfl (by kernel_rfl) (fun _ _ _ h=>by cases h.1) (Or.inl ⟨by rfl,?_⟩) HS.o ?_
 rotate_left
 ·(intro W' hW';have c0:=HC0.o W' hW';have c1:=HC1.o W' hW';have c2:=HC2.o W' hW';go_simp;try (with_reducible rfl))
 try simp only[List.setIfInBounds_toArray,List.set_cons_zero,List.set_cons_succ]
 refine bq.many (f:=2) [0,4,8,13] [4,8,12,17] (JU w1.heap.size k n m) Ej (by kernel_rfl) rfl (by decide) HS.o (fun _ _ h hb=>ak h hb) ?many ?rest
 case many=>
  intro j i d o h1 h2 h3
  rcases j with _ | _ | _ | _ | j
  ·cases h1;cases h2;cases h3
   refine⟨rfl,fun y W' hW'=>?_⟩
   simp only[gX,List.setIfInBounds_toArray,List.set_cons_zero,List.set_cons_succ]
   go_simp
   refine (gK.calls [208,215] W' rfl).mono ?_
   rintro e w2 ⟨v2,rfl,hr2,hb2⟩
   exact⟨Kd.dW hr2 hW'.size,hb2⟩
  ·cases h1;cases h2;cases h3
   refine⟨rfl,fun y W' hW'=>?_⟩
   simp only[gX,List.setIfInBounds_toArray,List.set_cons_zero,List.set_cons_succ]
   go_simp
   exact⟨Kd.nL (FZ W' w1.heap.size 5 .u8 [(k:Int)] hW'.size (by simp)) (fun _ _=>trivial),aj (Below.refl _ _) _⟩
  ·cases h1;cases h2;cases h3
   refine⟨rfl,fun y W' hW'=>?_⟩
   simp only[gX,List.setIfInBounds_toArray,List.set_cons_zero,List.set_cons_succ]
   go_simp
   refine (wW n 4 (by omega) (by decide) W').mono ?_
   rintro e w2 ⟨v2,rfl,hr2,hb2⟩
   exact⟨Kd.dW hr2 hW'.size,hb2⟩
  ·cases h1;cases h2;cases h3
   refine⟨rfl,fun y W' hW'=>?_⟩
   simp only[gX,List.setIfInBounds_toArray,List.set_cons_zero,List.set_cons_succ]
   go_simp
   refine (wW m 2 (by omega) (by decide) W').mono ?_
   rintro e w2 ⟨v2,rfl,hr2,hb2⟩
   exact⟨Kd.dW hr2 hW'.size,hb2⟩
  ·simp at h1
 case rest=>
  intro y W2 hW2 hΦ
  have r0:=hΦ 0 (by decide)
  have r1:=hΦ 1 (by decide)
  have r2:=hΦ 2 (by decide)
  have r3:=hΦ 3 (by decide)
  simp only[gX,List.setIfInBounds_toArray,List.set_cons_zero,List.set_cons_succ]
  clear hΦ
  generalize y 0=v0 at *
  generalize y (0+1)=v1 at *
  generalize y (0+1+1)=v2 at *
  generalize y (0+1+1+1)=v3 at *
  obtain⟨a0,c0,rfl⟩:=Kd.gN r0 (by decide)
  obtain⟨a1,c1,rfl⟩:=Kd.gN r1 (by simp)
  obtain⟨a2,c2,rfl⟩:=Kd.gN r2 (by rw[bJ];decide)
  obtain⟨a3,c3,rfl⟩:=Kd.gN r3 (by rw[bJ];decide)
  have R0:=ah.mk (show Kd.R (Kd.int .u8) 5 W2 _ (fun _=>True) _ [208,215] from r0)
  have R1:=ah.mk (show Kd.R (Kd.int .u8) 5 W2 _ (fun _=>True) _ [(k:Int)] from r1)
  have R2:=ah.mk (show Kd.R (Kd.int .u8) 5 W2 _ (fun _=>True) _ (dR n 4) from r2)
  have R3:=ah.mk (show Kd.R (Kd.int .u8) 5 W2 _ (fun _=>True) _ (dR m 2) from r3)
  have HP:=ah.mk (Kd.aH HR.o (HB0.o.trans (hW2.mono HB0.o.size)))
  clear r0 r1 r2 r3
  refine bq.one (i:=16) rfl (by kernel_rfl) (by rfl) (fun K1 hK1=>?_)
  go_simp
  obtain⟨oS,hoS⟩:∃ oS:Obj,Obj.cells #[.slice (some a0) 2 c0,.slice (some a1) 1 c1,.slice (some a2) (dR n 4).length c2,.slice (some a3) (dR m 2).length c3,.slice A m c] 24 (0,0)=oS:=⟨_,rfl⟩
  have HB3:=ah.mk (aj hW2 oS)
  have HB23:=ah.mk (aj (Below.refl W2.heap.size W2) oS)
  have HN:=ah.mk (bI W2 oS)
  rw[hoS]
  refine hK1 _ _ HB3.o ?_
  subst hoS
  clear hK1
  generalize (W2.alloc (.cells #[.slice (some a0) 2 c0,.slice (some a1) 1 c1,.slice (some a2) (dR n 4).length c2,.slice (some a3) (dR m 2).length c3,.slice A m c] 24 (0,0)))=W3 at *
  have q0:=Kd.aX (Kd.bR R0.o HB23.o)
  have q1:=Kd.aX (Kd.bR R1.o HB23.o)
  have q2:=Kd.aX (Kd.bR R2.o HB23.o)
  have q3:=Kd.aX (Kd.bR R3.o HB23.o)
  have q4:=Kd.aH HP.o HB23.o
  have CON:=ah.mk (FC.calls (some ⟨W2.heap.size,0,none⟩) 5 5 [[208,215],[(k:Int)],dR n 4,dR m 2,p] W3 rfl
   (Oa W3 W2.heap.size (some a0) (some a1) (some a2) (some a3) A c0 c1 c2 c3 c 2 1 _ _ m [208,215] [(k:Int)] (dR n 4) (dR m 2) p _ _ rfl rfl rfl rfl HM.o HN.o q0.2.2 q0.2.1 q1.2.2 q1.2.1 q2.2.2 q2.2.1 q3.2.2 q3.2.1 (by rw[HM.o];exact q4) (by rw[HM.o];exact hc)) (by decide) (by
    simp only[List.flatten_cons,List.flatten_nil,List.length_append,List.length_nil,bJ,List.length_cons]
    have:=HM.o
    omega))
  clear q0 q1 q2 q3 q4
  refine bq.one (i:=17) rfl (by kernel_rfl) (by rfl) (fun K2 hK2=>?_)
  go_simp
  refine CON.o.mono ?_
  rintro e W4 ⟨v4,rfl,hr4,hb4⟩
  have hfl:[[208,215],[(k:Int)],dR n 4,dR m 2,p].flatten=tH k n p:=by
   simp only[List.flatten_cons,List.flatten_nil,List.append_nil,tH,HM.o,List.append_assoc,List.cons_append,List.nil_append]
  rw[hfl] at hr4
  obtain⟨a4,c4,rfl⟩:=Kd.gN hr4 (by rw[uQ];omega)
  have HB4:=ah.mk (ak HB3.o hb4)
  have HR4:=ah.mk hr4
  clear hr4 hb4
  refine hK2 _ _ HB4.o ?_
  clear hK2
  refine bq.last rfl (by kernel_rfl) (by rfl) (fun K3 hK3=>?_)
  go_simp
  refine hK3 _ _ ⟨rfl,?_⟩
  clear hK3
  have HFO:ah (okB (tH k n p)=true):=⟨Ei hk HOK.o⟩
  have HFL:ah ((tH k n p).length=9+m):=⟨by rw[uQ,HM.o]⟩
  have HCL:ah (rJ (tH k n p)<4294967296):=⟨FD HFO.o⟩
  have SUM:=ah.mk (jJ.bS (some a4) c4 (tH k n p) (rJ (tH k n p)) W4 rfl (Kd.aX HR4.o).2.2 (Kd.aX HR4.o).2.1 (HT.o.below (HB0.o.trans (HB4.o.mono HB0.o.size))) (by rw[jJ.f,if_pos HFO.o];rfl))
  generalize hS:rJ (tH k n p)=s at *
  have HSE:=ah.mk hS
  have hcl:=HCL.o
  have hsu:IntKind.u64.wrap (s:Int)=(s:Int):=by simp[IntKind.wrap,IntKind.bits,IntKind.signed];omega
  generalize hF:tH k n p=F at *
  have HFE:=ah.mk hF
  clear hS hF CON
  go_wp2_with (first|(go_at_call 96;(with_reducible refine SUM.o.mono ?_);rintro e w5 ⟨rfl,hb⟩;have HB5:=ah.mk (ak (HB0.o.trans (HB4.o.mono HB0.o.size)) hb.below);have HR5:=ah.mk (Kd.bR HR4.o hb.below);clear hb)|(go_at_call 31;(refine (wW s 4 (by omega) (by decide) _).mono ?_);rintro e w6 ⟨v6,rfl,hr6,hb6⟩;obtain⟨a6,c6,rfl⟩:=Kd.gN hr6 (by rw[bJ];decide);have HB6:=ah.mk (ak HB5.o hb6);have HR56:=ah.mk (Kd.dW (Kd.bR HR5.o hb6) (Nat.le_trans HB0.o.size HB3.o.size));have HR6:=ah.mk (Kd.aX hr6).2.2;clear hr6 hb6)|((with_reducible refine bM (N:=27) rfl ?_);go_must (refine Kd.iG (Kd.int .u8) (Rr:=(Kd.int .u8).K w6) (w0:=w) w.heap.size rfl (.tmp 22) (.tmp 26) 24 5 (.int .u8 0) 1 rfl Tryz.underlying24 gU rfl (by decide) (by decide) (.slice (some a4) F.length c4) F (dR s 4) (some a6) (dR s 4).length c6 (fun _=>True) (fun _=>False) rfl rfl HR56.o HR6.o (fun _ _ h=>h) (fun _ h=>h.elim) (fun _ _=>trivial) HB6.o HB6.o.size ?h6 ?_);(case h6=>(rw[bJ,HFL.o];omega));intro v7 w7 hr7 hb7 hg7 hat7;obtain⟨A7,c7,hv7⟩:=Kd.bD hr7;rw[List.length_append] at hv7;subst hv7;have HR7:=ah.mk hr7;have HB7:=ah.mk hb7;clear hr7 hb7 hg7 hat7))
  go_ret
  exact⟨_,rfl,by rw[kU,HFE.o,HSE.o];exact HR7.o,HB7.o⟩
def WU (W:World) (g:Nat) (v:Value) (q:Int):Prop:=W.heap[g]? = some (.cells #[v,.int .i64 q] 62 (0,0))
def WS (g:Nat) (v:Value) (q:Int) (W:World):Prop:=W.cell? ⟨g,0,none⟩=some v∧W.cell? ⟨g,1,none⟩=some (.int .i64 q)
theorem AP.calls (g k q m:Nat) (b p:List Int) (v:Value) (A:Option Addr) (c base:Nat) (w0 w:World) (hk:k<256) (hq:q<4294967295) (hm:p.length=m) (hr:Kd.C (Kd.int .u8) w A m p) (hc:m≤c) (hl:m≤1000000) (hok:okB p=true) (hT:kg w)
 (hW:WU w g v q) (hv:Kd.R (Kd.int .u8) 5 w base (fun _=>True) v b) (hbl:b.length≤1000000000) (hB:Below base w0 w) (hbase:base≤g) :
 Calls Tryz.prog 30 #[.pointer (some ⟨g,0,none⟩),.int .i64 k,.slice A m c] w fun e w'=>e = .returned (.tuple #[])∧∃ v':Value,WU w' g v' ((q+1:Nat):Int)∧Kd.R (Kd.int .u8) 5 w' base (fun _=>True) v' (b++kU k q p)∧Below base w0 w'∧bP w w' g v.ownBlock∧(v'.ownBlock=v.ownBlock∨∃ x,v'.ownBlock=some x∧w.heap.size≤x):=by
 have HM:=ah.mk hm
 have HR:=ah.mk hr
 have HT:=ah.mk hT
 have HOK:=ah.mk hok
 have HW:=ah.mk hW
 have HV:=ah.mk hv
 have HB:=ah.mk hB
 have HC:=ah.mk hc
 have hgl:g<w.heap.size:=dO hW
 obtain⟨A1,c1,rfl⟩:=Kd.bD hv
 have HNE:=ah.mk (Kd.vE hv hW (by decide))
 clear hr hok hT hm hW hv hB hc
 go_enter Tryz.func30,Tryz.ntmps30
 go_wp2_with fail
 have HS:ah (WS g (.slice A1 b.length c1) q w.drew):=⟨(av HW.o 0).trans rfl,(av HW.o 1).trans rfl⟩
 refine iB (by kernel_rfl) (bq.start (n:=16) (S:=WS g (.slice A1 b.length c1) q) (by decide) ?_)
 refine bq.take' (i:=0) (v:=?_) rfl rfl (by kernel_rfl) (fun _ _ _ h=>by cases h.1) (Or.inl ⟨by rfl,?_⟩) HS.o ?_
 rotate_left
 ·(intro W' hW';have c0:=hW'.1;have c1:=hW'.2;go_simp;try (with_reducible rfl))
 try simp only[List.setIfInBounds_toArray,List.set_cons_zero,List.set_cons_succ]
 refine bq.take' (i:=1) (v:=?_) rfl rfl (by kernel_rfl) (fun _ _ _ h=>by cases h.1) (Or.inl ⟨by rfl,?_⟩) HS.o ?_
 rotate_left
 ·(intro W' hW';have c0:=hW'.1;have c1:=hW'.2;go_simp;try (with_reducible rfl))
 try simp only[List.setIfInBounds_toArray,List.set_cons_zero,List.set_cons_succ]
 refine bq.take' (i:=2) (v:=?_) rfl rfl (by kernel_rfl) (fun _ _ _ h=>by cases h.1) (Or.inl ⟨by rfl,?_⟩) HS.o ?_
 rotate_left
 ·(intro W' hW';have c0:=hW'.1;have c1:=hW'.2;go_simp;try (with_reducible rfl))
 try simp only[List.setIfInBounds_toArray,List.set_cons_zero,List.set_cons_succ]
 refine bq.take' (i:=3) (v:=?_) rfl rfl (by kernel_rfl) (fun _ _ _ h=>by cases h.1) (Or.inl ⟨by rfl,?_⟩) HS.o ?_
 rotate_left
 ·(intro W' hW';have c0:=hW'.1;have c1:=hW'.2;go_simp;try (with_reducible rfl))
 try simp only[List.setIfInBounds_toArray,List.set_cons_zero,List.set_cons_succ]
 refine bq.take' (i:=4) (v:=?_) rfl rfl (by kernel_rfl) (fun _ _ _ h=>by cases h.1) (Or.inl ⟨by rfl,?_⟩) HS.o ?_
 rotate_left
 ·(intro W' hW';have c0:=hW'.1;have c1:=hW'.2;go_simp;try (with_reducible rfl))
 try simp only[List.setIfInBounds_toArray,List.set_cons_zero,List.set_cons_succ]
 refine bq.take' (i:=5) (v:=?_) rfl rfl (by kernel_rfl) (fun _ _ _ h=>by cases h.1) (Or.inl ⟨by rfl,?_⟩) HS.o ?_
 rotate_left
 ·(intro W' hW';have c0:=hW'.1;have c1:=hW'.2;go_simp;try (with_reducible rfl))
 try simp only[List.setIfInBounds_toArray,List.set_cons_zero,List.set_cons_succ]
 refine bq.take' (i:=6) (v:=?_) rfl rfl (by kernel_rfl) (fun _ _ _ h=>by cases h.1) (Or.inl ⟨by rfl,?_⟩) HS.o ?_
 rotate_left
 ·(intro W' hW';have c0:=hW'.1;have c1:=hW'.2;go_simp;try (with_reducible rfl))
 try simp only[List.setIfInBounds_toArray,List.set_cons_zero,List.set_cons_succ]
 refine bq.take' (i:=7) (v:=?_) rfl rfl (by kernel_rfl) (fun _ _ _ h=>by cases h.1) (Or.inl ⟨by rfl,?_⟩) HS.o ?_
 rotate_left
 ·(intro W' hW';have c0:=hW'.1;have c1:=hW'.2;go_simp;try (with_reducible rfl))
 try simp only[List.setIfInBounds_toArray,List.set_cons_zero,List.set_cons_succ]
 refine bq.take' (i:=8) (v:=?_) rfl rfl (by kernel_rfl) (fun _ _ _ h=>by cases h.1) (Or.inl ⟨by rfl,?_⟩) HS.o ?_
 rotate_left
 ·(intro W' hW';have c0:=hW'.1;have c1:=hW'.2;go_simp;try (with_reducible rfl))
 try simp only[List.setIfInBounds_toArray,List.set_cons_zero,List.set_cons_succ]
 refine bq.take' (i:=9) (v:=?_) rfl rfl (by kernel_rfl) (fun _ _ _ h=>by cases h.1) (Or.inl ⟨by rfl,?_⟩) HS.o ?_
 rotate_left
 ·(intro W' hW';have c0:=hW'.1;have c1:=hW'.2;go_simp;try (with_reducible rfl))
 try simp only[List.setIfInBounds_toArray,List.set_cons_zero,List.set_cons_succ]
 refine bq.take' (i:=10) (v:=?_) rfl rfl (by kernel_rfl) (fun _ _ _ h=>by cases h.1) (Or.inl ⟨by rfl,?_⟩) HS.o ?_
 rotate_left
 ·(intro W' hW';have c0:=hW'.1;have c1:=hW'.2;go_simp;try (with_reducible rfl))
 try simp only[List.setIfInBounds_toArray,List.set_cons_zero,List.set_cons_succ]
 refine bq.take' (i:=11) (v:=?_) rfl rfl (by kernel_rfl) (fun _ _ _ h=>by cases h.1) (Or.inl ⟨by rfl,?_⟩) HS.o ?_
 rotate_left
 ·(intro W' hW';have c0:=hW'.1;have c1:=hW'.2;go_simp;try (with_reducible rfl))
 try simp only[List.setIfInBounds_toArray,List.set_cons_zero,List.set_cons_succ]
 have FB:=ah.mk (Oc.calls k q m p A c w.drew hk (by omega) HM.o (Kd.aH HR.o (dG (Below.refl _ _))) HC.o hl HOK.o (HT.o.below (dG (Below.refl _ _))))
 refine bq.one (i:=12) rfl (by kernel_rfl) (by rfl) (fun K1 hK1=>?_)
 go_simp
 refine FB.o.mono ?_
 rintro e w1 ⟨v1,rfl,hr1,hb1⟩
 have HB1:=ah.mk (ak (dG (Below.refl w.heap.size w)) hb1)
 have HL1:ah ((kU k q p).length=13+m):=⟨by rw[lu,HM.o]⟩
 obtain⟨a1,d1,rfl⟩:=Kd.gN hr1 (by rw[HL1.o];omega)
 have HR1:=ah.mk (Kd.aX hr1)
 have HW1:=ah.mk (show WU w1 g (.slice A1 b.length c1) q from aG HW.o HB1.o)
 have HS1:ah (WS g (.slice A1 b.length c1) q w1):=⟨(av HW1.o 0).trans rfl,(av HW1.o 1).trans rfl⟩
 have HBb1:=ah.mk (HB.o.trans (HB1.o.mono (by omega)))
 refine hK1 _ _ HS1.o ?_
 clear hK1 hr1 hb1 FB
 generalize hF:kU k q p=F at *
 refine bq.one (i:=13) rfl (by kernel_rfl) (by rfl) (fun K2 hK2=>?_)
 refine su (c:=Region.wanted _ _=true) (by rfl) (Kd.iW (ops := #[]) (Kd.int .u8) (Rr:=(Kd.int .u8).K w1) (w0:=w0) base (by rfl) (.tmp 10) (.tmp 18) 24 5 (.int .u8 0) 1 rfl Tryz.underlying24 gU rfl (by decide) (by decide) (.slice A1 b.length c1) b F (some a1) F.length d1 (fun _=>True) (fun _=>False) rfl rfl (Kd.bR HV.o HB1.o) HR1.o.2.2 (fun _ _ h=>h) (fun _ hk=>hk.elim) (fun _ _=>trivial) HBb1.o (by have:=HB1.o.size;omega) (by rw[HL1.o];omega) ?ap)
 case ap=>
  intro v2 w2 hr2 hb2 hg2 hat2
  have HW2:=ah.mk (show WU w2 g (.slice A1 b.length c1) q from dM HW1.o hg2 HNE.o)
  have HS2:ah (WS g (.slice A1 b.length c1) q w2):=⟨(av HW2.o 0).trans rfl,(av HW2.o 1).trans rfl⟩
  have HR2:=ah.mk hr2
  have HB2:=ah.mk hb2
  have HK2:ah (bP w w2 g (Value.slice A1 b.length c1).ownBlock):=⟨(bP.of_below HB1.o g _).trans (bP.CS hg2 g) (.inl rfl)⟩
  have HAT:ah (v2.ownBlock=(Value.slice A1 b.length c1).ownBlock∨∃ x,v2.ownBlock=some x∧w.heap.size≤x):=⟨by
   rcases hat2 with h | ⟨x,h,h2⟩
   ·exact .inl h
   ·exact .inr ⟨x,h,Nat.le_trans HB1.o.size h2⟩⟩
  obtain⟨A2,c2,hv2⟩:=Kd.bD hr2
  rw[List.length_append] at hv2
  subst hv2
  refine hK2 _ _ HS2.o ?_
  clear hr2 hb2 hg2 hat2 hK2
  simp only[Act.put,List.setIfInBounds_toArray,List.set_cons_zero,List.set_cons_succ]
  refine bq.take' (i:=14) (v:=?_) rfl rfl (by kernel_rfl) (fun _ _ _ h=>by cases h.1) (Or.inl ⟨by rfl,?_⟩) HS2.o ?_
  rotate_left
  ·(intro W' hW';have c0:=hW'.1;have c1:=hW'.2;go_simp;try (with_reducible rfl))
  try simp only[List.setIfInBounds_toArray,List.set_cons_zero,List.set_cons_succ]
  refine bq.take' (i:=15) (v:=?_) rfl rfl (by kernel_rfl) (fun _ _ _ h=>by cases h.1) (Or.inl ⟨by rfl,?_⟩) HS2.o ?_
  rotate_left
  ·(intro W' hW';have c0:=hW'.1;have c1:=hW'.2;go_simp;try (with_reducible rfl))
  try simp only[List.setIfInBounds_toArray,List.set_cons_zero,List.set_cons_succ]
  refine bq.last rfl (by kernel_rfl) (by rfl) (fun K3 hK3=>?_)
  have b0:=HS2.o.1
  have f0:=aC HW2.o 0
  go_simp
  refine hK3 _ _ ⟨rfl,?_⟩
  clear b0 f0
  have HW3:ah (WU (w2.setCell ⟨g,0,none⟩ (.slice A2 (b.length+F.length) c2)) g (.slice A2 (b.length+F.length) c2) q):=⟨bK HW2.o 0 _ rfl⟩
  have HB3:ah (Below base w0 (w2.setCell ⟨g,0,none⟩ (.slice A2 (b.length+F.length) c2))):=⟨HB2.o.setCell (p:=⟨g,0,none⟩) hbase _⟩
  have HK3:=ah.mk (HK2.o.qX 0 (.slice A2 (b.length+F.length) c2))
  have HNE2:=ah.mk (Kd.vE HR2.o HW2.o (by decide))
  have HR3:=ah.mk (Kd.gF (Kd.uM rfl HR2.o) (p:=⟨g,0,none⟩) (fun k hk e=>HNE2.o (by have e':k=g:=e;rw[← e'];exact hk)) (.slice A2 (b.length+F.length) c2))
  generalize w2.setCell ⟨g,0,none⟩ (.slice A2 (b.length+F.length) c2)=w3 at *
  have b1:=(av HW3.o 1).trans rfl
  have f1:=aC HW3.o 1
  have hqq:IntKind.i64.wrap ((q:Int)+1)=((q+1:Nat):Int):=by rw[IntKind.wrap_i64];omega
  go_wp2_with fail
  refine bodyPost_end (results_none rfl _ _ _) rfl ?_
  refine⟨rfl,_,?_,Kd.dL (Kd.gF HR3.o (p:=⟨g,1,none⟩) (fun k hk e=>HNE2.o (by have e':k=g:=e;rw[← e'];exact hk)) _) (fun _ _=>trivial),HB3.o.setCell (p:=⟨g,1,none⟩) hbase _,HK3.o.qX 1 _,HAT.o⟩
  exact bK HW3.o 1 _ (by rfl)
end Go.Proofs.YtcgbgifbajdhpaaGreatDoor.PA
