/- Of the law rZIQDumpBack. -/
import Derived.Test.YtcgbgifbajdhpaaGreatDoorZI7
set_option linter.unusedVariables false
set_option linter.unusedSimpArgs false
set_option maxHeartbeats 8000000
set_option maxRecDepth 100000
namespace Go
abbrev aT:=@of_decide_eq_true
abbrev bP:=@eq_true
end Go
namespace Go.Proofs.Y.PA
open Go.RowKit Go.Proofs.YW.o7 Go.Proofs.YW.pJ Go.Proofs.YW.pO
attribute [local go_sem] rZ r9 sU sV rX rY sN sO
def uj.f (a0:ByteArray):Option (Bool):=if (a0.size:Int)≥1 then (if (a0.size:Int)≤40 then ((tF.f a0).bind fun adY=>(some adY)) else (some false)) else (some false)
theorem uj.c (a0:ByteArray)(r:Bool)(w:World)(h:uj.f a0=some r) :
 Calls Tryz.prog 100 #[.string a0] w fun e w'=>e = .returned (.bool r)∧Below w.heap.size w w':=by
 have HB:=Yu (bq w.heap.size w);have H:(if (a0.size:Int)≥1 then (if (a0.size:Int)≤40 then ((tF.f a0).bind fun adY=>(some adY)) else (some false)) else (some false))=some r:=h;clear h
 by_cases c2:(a0.size:Int)≥1
 ·rw[ak c2] at H;have Z6:decide (1≤(a0.size:Int))=true:=aM c2;have ac7:decide (1≤a0.size)=true:=aM (by omega);clear c2
  by_cases c3:(a0.size:Int)≤40
  ·rw[ak c3] at H;have acA:decide ((a0.size:Int)≤40)=true:=aM c3;have adX:decide (a0.size≤40)=true:=aM (by omega);clear c3;replace H:=Option.bind_eq_some_iff.mp H;obtain⟨adY,A40,H⟩:=H;replace H:(some adY)=some r:=H;have A4:=Yu A40;clear A40;obtain rfl:=bE H
   go_enter Tryz.func100,Tryz.ntmps100
   go_wp2_with (first|(go_at_call 128;(with_reducible refine (tF.c a0 adY _ A4.o).mono ?_);rintro e w5 ⟨rfl,hb⟩;have n0_:=Yu (o9 (by repeat (first|(with_reducible first | exact HB.o | apply o8 | apply pz | apply pF)|exact HB.o)) hb);clear HB;have HB:=n0_;clear n0_;(try clear hb);(try clear hb2);(try clear hk);(try clear hi)))
   go_ret;exact⟨by first | rfl | (simp[qw,qx]<;>rfl)|(simp[*,qw,qx]<;>rfl),by repeat (first|(with_reducible first | exact HB.o | apply o8 | apply pz | apply pF)|exact HB.o)⟩
  ·rw[aK c3] at H;have acA:decide ((a0.size:Int)≤40)=false:=aN c3;have adX:decide (a0.size≤40)=false:=aN (by omega);clear c3;obtain rfl:=bE H
   go_enter Tryz.func100,Tryz.ntmps100
   go_wp2;go_ret;exact⟨by first | rfl | (simp[qw,qx]<;>rfl)|(simp[*,qw,qx]<;>rfl),by repeat (first|(with_reducible first | exact HB.o | apply o8 | apply pz | apply pF)|exact HB.o)⟩
 ·rw[aK c2] at H;have Z6:decide (1≤(a0.size:Int))=false:=aN c2;have ac7:decide (1≤a0.size)=false:=aN (by omega);clear c2;obtain rfl:=bE H
  go_enter Tryz.func100,Tryz.ntmps100
  go_wp2;go_ret;exact⟨by first | rfl | (simp[qw,qx]<;>rfl)|(simp[*,qw,qx]<;>rfl),by repeat (first|(with_reducible first | exact HB.o | apply o8 | apply pz | apply pF)|exact HB.o)⟩
attribute [local go_sem] rZ r9 sU sV rX rY sN sO
def qI.l0:Nat→List (qC)→Int→Int→Option (Bool)
 | 0,_,_,_=>none
 | k+1,x0,x5,x6=>if x6<x5 then (if x6>0 then (if 0≤(wrap64 (x6-1)) then (if (wrap64 (x6-1))<(x0.length:Int) then (if 0≤x6 then (if x6<(x0.length:Int) then (if ((pV x0 (wrap64 (x6-1))).f0)≥((pV x0 x6).f0) then (some false) else (qI.l0 k x0 x5 (wrap64 (x6+1)))) else (none)) else (none)) else (none)) else (none)) else (qI.l0 k x0 x5 (wrap64 (x6+1)))) else (some (decide ((x0.length:Int)≤65535)))
def qI.f (k:Nat)(l0:List (qC)):Option (Bool):=qI.l0 k l0 (l0.length:Int) 0
theorem qI.c (k:Nat)(A0:Option Addr)(c0:Nat)(l0:List (qC))(r:Bool)(w:World)(hr0:Kd.C vk w A0 l0.length l0)(hc0:l0.length≤c0)(h:qI.f k l0=some r) :
 Calls Tryz.prog 68 #[.slice A0 l0.length c0] w fun e w'=>e = .returned (.bool r)∧pQ w w':=by
 have HR0:=Yu hr0;have HC0:=Yu hc0;clear hr0 hc0;have H:(qI.l0 k l0 (l0.length:Int) 0)=some r:=h;clear h;have H':=Yu H;clear H
 go_enter Tryz.func68,Tryz.ntmps68
 go_wp2
 repeat (go_quiet (fail);try go_wp2)
 go_loopg [6] k (fun kq v6 w'=>∃ (Za:Int),v6 = .int .i64 Za∧oZ (qI.l0 kq l0 (l0.length:Int) Za=some r)∧oZ (kq≤k)∧pQ w w')
 case atStart=>exact⟨(0),(by first | rfl | (simp;done)|(simp[*];done)),H',⟨aD _⟩,by repeat (first | exact pQ.refl _ | apply pQ.step)⟩
 case round=>
  clear H';obtain⟨Za,rfl,HA,HK1,⟨m1,rfl⟩⟩:=hrel;cases gk with
  | zero=>exact absurd HA.o (by simp[qI.l0])
  | succ k1=>
    have H:=HA.o;clear HA;simp only[qI.l0] at H
    by_cases c2:Za<(l0.length:Int)
    ·rw[ak c2] at H;have Z6:decide (Za<(l0.length:Int))=true:=aM c2;clear c2
     by_cases c3:Za>0
     ·rw[ak c3] at H;have acA:decide (0<Za)=true:=aM c3;clear c3;obtain⟨ji4,acI⟩:∃ j_:Int,(wrap64 (Za-1))=j_:=⟨_,rfl⟩;replace H:(if 0≤(ji4) then (if (ji4)<(l0.length:Int) then (if 0≤Za then (if Za<(l0.length:Int) then (if ((pV l0 (ji4)).f0)≥((pV l0 Za).f0) then (some false) else (qI.l0 k1 l0 (l0.length:Int) (wrap64 (Za+1)))) else (none)) else (none)) else (none)) else (none))=some r:=by first|(rw[acI] at H;exact H)|(simp only[acI] at H ⊢;exact H)
      have agU:(IntKind.i64.wrap (Za-1))=ji4:=(rH _).trans acI
      by_cases c5:0≤(ji4)
      ·rw[ak c5] at H;have acH:decide (0≤(ji4))=true:=aM c5;clear c5
       by_cases c6:(ji4)<(l0.length:Int)
       ·rw[ak c6] at H;have aec:decide ((ji4)<(l0.length:Int))=true:=aM c6;clear c6
        by_cases c7:0≤Za
        ·rw[ak c7] at H;have Zi:decide (0≤Za)=true:=aM c7;clear c7
         by_cases c8:Za<(l0.length:Int)
         ·rw[ak c8] at H;have ZF:decide (Za<(l0.length:Int))=true:=aM c8;clear c8
          by_cases c9:((pV l0 (ji4)).f0)≥((pV l0 Za).f0)
          ·rw[ak c9] at H;have aeb:decide (((pV l0 Za).f0)≤((pV l0 (ji4)).f0))=true:=aM c9;clear c9;obtain rfl:=bE H;have ade:0≤((ji4):Int):=aT (by assumption);have adf:(ji4)<(l0.length:Int):=aT (by assumption);obtain⟨aeg,e197,ae5,ae6⟩:=uD HR0.o (ji4) ade adf;cases e197;replace ade:=bP ade;replace adf:=bP adf;have adg:0≤(Za:Int):=aT (by assumption);have adh:Za<(l0.length:Int):=aT (by assumption);obtain⟨aeh,aga,ae7,ae8⟩:=uD HR0.o Za adg adh;obtain rfl:aeg=aeh:=(by injection aga);replace adg:=bP adg;replace adh:=bP adh;go_wp2
           repeat (go_quiet (fail);try go_wp2)
           go_ret;exact⟨by first | rfl | (simp;done)|(simp only[← acI]<;>(first | rfl | simp))|(simp[*];done),by repeat (first | exact pQ.refl _ | apply pQ.step)⟩
          ·rw[aK c9] at H;have aeb:decide (((pV l0 Za).f0)≤((pV l0 (ji4)).f0))=false:=aN c9;clear c9;have H':=Yu H;clear H;have ade:0≤((ji4):Int):=aT (by assumption);have adf:(ji4)<(l0.length:Int):=aT (by assumption);obtain⟨aeg,e197,ae5,ae6⟩:=uD HR0.o (ji4) ade adf;cases e197;replace ade:=bP ade;replace adf:=bP adf;have adg:0≤(Za:Int):=aT (by assumption);have adh:Za<(l0.length:Int):=aT (by assumption);obtain⟨aeh,aga,ae7,ae8⟩:=uD HR0.o Za adg adh;obtain rfl:aeg=aeh:=(by injection aga);replace adg:=bP adg;replace adh:=bP adh;go_wp2
           repeat (go_quiet (fail);try go_wp2)
           go_roundg k1
           case measure=>have:=HK1.o;omega
           case rel=>exact⟨(wrap64 (Za+1)),(by first | rfl | (simp;done)|(simp[*];done)),H',⟨by have:=HK1.o;omega⟩,by repeat (first | exact pQ.refl _ | apply pQ.step)⟩
         ·rw[aK c8] at H;exact absurd H (by simp)
        ·rw[aK c7] at H;exact absurd H (by simp)
       ·rw[aK c6] at H;exact absurd H (by simp)
      ·rw[aK c5] at H;exact absurd H (by simp)
     ·rw[aK c3] at H;have acA:decide (0<Za)=false:=aN c3;clear c3;have H':=Yu H;clear H;go_wp2
      repeat (go_quiet (fail);try go_wp2)
      go_roundg k1
      case measure=>have:=HK1.o;omega
      case rel=>exact⟨(wrap64 (Za+1)),(by first | rfl | (simp;done)|(simp[*];done)),H',⟨by have:=HK1.o;omega⟩,by repeat (first | exact pQ.refl _ | apply pQ.step)⟩
    ·rw[aK c2] at H;have Z6:decide (Za<(l0.length:Int))=false:=aN c2;clear c2;obtain rfl:=bE H;go_wp2
     repeat (go_quiet (fail);try go_wp2)
     go_ret;exact⟨by first | rfl | (simp;done)|(simp[*];done)|(simp;decide +kernel),by repeat (first | exact pQ.refl _ | apply pQ.step)⟩
end Go.Proofs.Y.PA
