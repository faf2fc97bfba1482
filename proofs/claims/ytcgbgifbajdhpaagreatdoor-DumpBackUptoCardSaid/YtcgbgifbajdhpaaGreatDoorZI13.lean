/- Of the law rZIQDumpBack. -/
import Derived.Test.YtcgbgifbajdhpaaGreatDoorZI7
set_option linter.unusedVariables false
set_option linter.unusedSimpArgs false
set_option maxHeartbeats 8000000
set_option maxRecDepth 100000
namespace Go
abbrev aU:=@of_decide_eq_true
abbrev bQ:=@eq_true
end Go
namespace Go.Proofs.Y.PA
open Go.RowKit Go.Proofs.YW.o7 Go.Proofs.YW.pJ Go.Proofs.YW.pO
attribute [local go_sem] rZ r9 sU sV rX rY sN sO
attribute [local go_sem high] XE
def rA.l0:Nat→List (qC)→List (qC)→Int→Int→Option (Bool)
 | 0,_,_,_,_=>none
 | k+1,x0,x1,x12,x13=>if x13<x12 then (if 0≤x13 then (if x13<(x0.length:Int) then (if x13<(x1.length:Int) then (if (!(((pV x0 x13).f0)==((pV x1 x13).f0))||(!(((pV x0 x13).f1)==((pV x1 x13).f1))))=true then (some false) else (rA.l0 k x0 x1 x12 (wrap64 (x13+1)))) else (none)) else (none)) else (none)) else (some true)
def rA.f (k:Nat)(l0:List (qC))(l1:List (qC)):Option (Bool):=if (l0.length:Int)=(l1.length:Int) then (rA.l0 k l0 l1 (l0.length:Int) 0) else (some false)
theorem rA.c (k:Nat)(A0:Option Addr)(c0:Nat)(l0:List (qC))(A1:Option Addr)(c1:Nat)(l1:List (qC))(r:Bool)(w:World)(hr0:Kd.C vk w A0 l0.length l0)(hc0:l0.length≤c0)(hr1:Kd.C vk w A1 l1.length l1)(hc1:l1.length≤c1)(h:rA.f k l0 l1=some r) :
 Calls Tryz.prog 42 #[.slice A0 l0.length c0,.slice A1 l1.length c1] w fun e w'=>e = .returned (.bool r)∧pQ w w':=by
 have akj:=Tryz.underlying70;have HR0:=Yu hr0;have HC0:=Yu hc0;clear hr0 hc0;have HR1:=Yu hr1;have HC1:=Yu hc1;clear hr1 hc1;have H:(if (l0.length:Int)=(l1.length:Int) then (rA.l0 k l0 l1 (l0.length:Int) 0) else (some false))=some r:=h;clear h
 by_cases c3:(l0.length:Int)=(l1.length:Int)
 ·rw[ak c3] at H;have acA:((l0.length:Int)==(l1.length:Int))=true:=beq_iff_eq.mpr c3;have adX:((l0.length:Int) != (l1.length:Int))=false:=bne_eq_false_iff_eq.mpr c3;have agV:(l0.length==l1.length)=true:=by first | simpa using c3 | (simp at c3 ⊢;omega)
  clear c3;have H':=Yu H;clear H
  go_enter Tryz.func42,Tryz.ntmps42
  go_wp2
  repeat (go_quiet (fail);try go_wp2)
  go_loopg [13] k (fun kq v13 w'=>∃ (YN:Int),v13 = .int .i64 YN∧oZ (rA.l0 kq l0 l1 (l0.length:Int) YN=some r)∧oZ (kq≤k)∧pQ w w')
  case atStart=>exact⟨(0),(by first | rfl | (simp;done)|(simp[*];done)),H',⟨aD _⟩,by repeat (first | exact pQ.refl _ | apply pQ.step)⟩
  case round=>
   clear H'
   try clear c1
   try clear p2
   try clear c3
   try clear acA
   try clear adX
   try clear agV
   obtain⟨YN,rfl,HA,HK1,⟨m1,rfl⟩⟩:=hrel;cases gk with
   | zero=>exact absurd HA.o (by simp[rA.l0])
   | succ k1=>
     have H:=HA.o;clear HA;simp only[rA.l0] at H
     by_cases c4:YN<(l0.length:Int)
     ·rw[ak c4] at H;have aam:decide (YN<(l0.length:Int))=true:=aM c4;clear c4
      by_cases c5:0≤YN
      ·rw[ak c5] at H;have acH:decide (0≤YN)=true:=aM c5;clear c5
       by_cases c6:YN<(l0.length:Int)
       ·rw[ak c6] at H;have aec:decide (YN<(l0.length:Int))=true:=aM c6;clear c6
        by_cases c7:YN<(l1.length:Int)
        ·rw[ak c7] at H;have Zi:decide (YN<(l1.length:Int))=true:=aM c7;clear c7
         by_cases c8:(!(((pV l0 YN).f0)==((pV l1 YN).f0))||(!(((pV l0 YN).f1)==((pV l1 YN).f1))))=true
         ·rw[ak c8] at H;have ZF:(!(((pV l0 YN).f0)==((pV l1 YN).f0))||(!(((pV l0 YN).f1)==((pV l1 YN).f1))))=true:=c8;clear c8;obtain rfl:=bE H;have adi:0≤(YN:Int):=aU (by assumption);have adj:YN<(l0.length:Int):=aU (by assumption);obtain⟨agW,agb,ae9,afa⟩:=uD HR0.o YN adi adj;cases agb;replace adi:=bQ adi;replace adj:=bQ adj;have adk:0≤(YN:Int):=aU (by assumption);have adl:YN<(l1.length:Int):=aU (by assumption);obtain⟨agX,agc,afb,afc⟩:=uD HR1.o YN adk adl;cases agc;replace adk:=bQ adk;replace adl:=bQ adl;go_wp2
          repeat (go_quiet (fail);try go_wp2)
          go_ret;exact⟨by first | rfl | (simp;done)|(simp[*];done)|(simp;decide +kernel),by repeat (first | exact pQ.refl _ | apply pQ.step)⟩
         ·rw[aK c8] at H;have ZF:(!(((pV l0 YN).f0)==((pV l1 YN).f0))||(!(((pV l0 YN).f1)==((pV l1 YN).f1))))=false:=by simpa using c8
          clear c8;have H':=Yu H;clear H;have adi:0≤(YN:Int):=aU (by assumption);have adj:YN<(l0.length:Int):=aU (by assumption);obtain⟨agW,agb,ae9,afa⟩:=uD HR0.o YN adi adj;cases agb;replace adi:=bQ adi;replace adj:=bQ adj;have adk:0≤(YN:Int):=aU (by assumption);have adl:YN<(l1.length:Int):=aU (by assumption);obtain⟨agX,agc,afb,afc⟩:=uD HR1.o YN adk adl;cases agc;replace adk:=bQ adk;replace adl:=bQ adl;go_wp2
          repeat (go_quiet (fail);try go_wp2)
          go_roundg k1
          case measure=>have:=HK1.o;omega
          case rel=>exact⟨(wrap64 (YN+1)),(by first | rfl | (simp;done)|(simp[*];done)),H',⟨by have:=HK1.o;omega⟩,by repeat (first | exact pQ.refl _ | apply pQ.step)⟩
        ·rw[aK c7] at H;exact absurd H (by simp)
       ·rw[aK c6] at H;exact absurd H (by simp)
      ·rw[aK c5] at H;exact absurd H (by simp)
     ·rw[aK c4] at H;have aam:decide (YN<(l0.length:Int))=false:=aN c4;clear c4;obtain rfl:=bE H;go_wp2
      repeat (go_quiet (fail);try go_wp2)
      go_ret;exact⟨by first | rfl | (simp;done)|(simp[*];done)|(simp;decide +kernel),by repeat (first | exact pQ.refl _ | apply pQ.step)⟩
 ·rw[aK c3] at H;have acA:((l0.length:Int)==(l1.length:Int))=false:=beq_eq_false_iff_ne.mpr c3;have adX:((l0.length:Int) != (l1.length:Int))=true:=bne_iff_ne.mpr c3;have agV:(l0.length==l1.length)=false:=by first | simpa using c3 | (simp at c3 ⊢;omega)
  obtain rfl:=bE H
  go_enter Tryz.func42,Tryz.ntmps42
  go_wp2
  repeat (go_quiet (fail);try go_wp2)
  go_ret;exact⟨by first | rfl | (simp;done)|(simp[*];done)|(simp;decide +kernel),by repeat (first | exact pQ.refl _ | apply pQ.step)⟩
attribute [local go_sem] rZ r9 sU sV rX rY sN sO
attribute [local go_sem] rZ r9 sU sV rX rY sN sO
attribute [local go_sem] rZ r9 sU sV rX rY sN sO
end Go.Proofs.Y.PA
