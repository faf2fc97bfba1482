/- Of the law rZIQDumpBack. -/
import Derived.Test.YtcgbgifbajdhpaaGreatDoorZI7
set_option linter.unusedVariables false
set_option linter.unusedSimpArgs false
set_option maxHeartbeats 8000000
set_option maxRecDepth 100000
namespace Go
abbrev aW:=@of_decide_eq_true
abbrev bS:=@eq_true
end Go
namespace Go.Proofs.Y.PA
open Go.RowKit Go.Proofs.YW.o7 Go.Proofs.YW.pJ Go.Proofs.YW.pO
attribute [local go_sem] rZ r9 sU sV rX rY sN sO
def qj.l0:Nat→ByteArray→Int→Option (Bool)
 | 0,_,_=>none
 | k+1,x0,x3=>if x3<(x0.size:Int) then (if 0≤x3 then (if (bt x0 x3)≥97 then (if (bt x0 x3)≤122 then (qj.l0 k x0 (wrap64 (x3+1))) else (if (bt x0 x3)≥65 then (if (bt x0 x3)≤90 then (qj.l0 k x0 (wrap64 (x3+1))) else (if ((bt x0 x3)=95) then (qj.l0 k x0 (wrap64 (x3+1))) else (if x3=0 then (some false) else (if (bt x0 x3)<48 then (some false) else (if (bt x0 x3)>57 then (some false) else (qj.l0 k x0 (wrap64 (x3+1)))))))) else (if ((bt x0 x3)=95) then (qj.l0 k x0 (wrap64 (x3+1))) else (if x3=0 then (some false) else (if (bt x0 x3)<48 then (some false) else (if (bt x0 x3)>57 then (some false) else (qj.l0 k x0 (wrap64 (x3+1))))))))) else (if (bt x0 x3)≥65 then (if (bt x0 x3)≤90 then (qj.l0 k x0 (wrap64 (x3+1))) else (if ((bt x0 x3)=95) then (qj.l0 k x0 (wrap64 (x3+1))) else (if x3=0 then (some false) else (if (bt x0 x3)<48 then (some false) else (if (bt x0 x3)>57 then (some false) else (qj.l0 k x0 (wrap64 (x3+1)))))))) else (if ((bt x0 x3)=95) then (qj.l0 k x0 (wrap64 (x3+1))) else (if x3=0 then (some false) else (if (bt x0 x3)<48 then (some false) else (if (bt x0 x3)>57 then (some false) else (qj.l0 k x0 (wrap64 (x3+1))))))))) else (none)) else (if (x0.size:Int)≥1 then (some (decide ((x0.size:Int)≤24))) else (some false))
def qj.f (k:Nat)(a0:ByteArray):Option (Bool):=qj.l0 k a0 0
theorem qj.c (k:Nat)(a0:ByteArray)(r:Bool)(w:World)(h:qj.f k a0=some r) :
 Calls Tryz.prog 99 #[.string a0] w fun e w'=>e = .returned (.bool r)∧pQ w w':=by
 have H:(qj.l0 k a0 0)=some r:=h;clear h;have H':=Yu H;clear H
 go_enter Tryz.func99,Tryz.ntmps99
 go_wp2
 go_loopg [3] k (fun kq v3 w'=>∃ (Yx:Int),v3 = .int .i64 Yx∧oZ (qj.l0 kq a0 Yx=some r)∧oZ (kq≤k)∧pQ w w')
 case atStart=>exact⟨(0),(by first | rfl | (simp;done)|(simp[*];done)),H',⟨aD _⟩,by repeat (first | exact pQ.refl _ | apply pQ.step)⟩
 case round=>
  clear H';obtain⟨Yx,rfl,HA,HK1,⟨m1,rfl⟩⟩:=hrel;cases gk with
  | zero=>exact absurd HA.o (by simp[qj.l0])
  | succ k1=>
    have H:=HA.o;clear HA;simp only[qj.l0] at H
    by_cases c2:Yx<(a0.size:Int)
    ·rw[ak c2] at H;have Z6:decide (Yx<(a0.size:Int))=true:=aM c2;clear c2
     by_cases c3:0≤Yx
     ·rw[ak c3] at H;have acA:decide (0≤Yx)=true:=aM c3;clear c3
      by_cases c5:(bt a0 Yx)≥97
      ·rw[ak c5] at H;have acH:decide (97≤(bt a0 Yx))=true:=aM c5;clear c5
       by_cases c6:(bt a0 Yx)≤122
       ·rw[ak c6] at H;have aec:decide ((bt a0 Yx)≤122)=true:=aM c6;clear c6;have H':=Yu H;clear H;have p4:0≤(Yx:Int):=aW (by assumption);have q4:Yx<(a0.size:Int):=aW (by assumption);have hx4:=uV a0 Yx;replace p4:=bS p4;replace q4:=bS q4;go_wp2
        go_roundg k1
        case measure=>have:=HK1.o;omega
        case rel=>exact⟨(wrap64 (Yx+1)),(by first | rfl | (simp;done)|(simp[*];done)),H',⟨by have:=HK1.o;omega⟩,by repeat (first | exact pQ.refl _ | apply pQ.step)⟩
       ·rw[aK c6] at H;have aec:decide ((bt a0 Yx)≤122)=false:=aN c6;clear c6
        by_cases c7:(bt a0 Yx)≥65
        ·rw[ak c7] at H;have Zi:decide (65≤(bt a0 Yx))=true:=aM c7;clear c7
         by_cases c8:(bt a0 Yx)≤90
         ·rw[ak c8] at H;have ZF:decide ((bt a0 Yx)≤90)=true:=aM c8;clear c8;have H':=Yu H;clear H;have p4:0≤(Yx:Int):=aW (by assumption);have q4:Yx<(a0.size:Int):=aW (by assumption);have hx4:=uV a0 Yx;replace p4:=bS p4;replace q4:=bS q4;go_wp2
          go_roundg k1
          case measure=>have:=HK1.o;omega
          case rel=>exact⟨(wrap64 (Yx+1)),(by first | rfl | (simp;done)|(simp[*];done)),H',⟨by have:=HK1.o;omega⟩,by repeat (first | exact pQ.refl _ | apply pQ.step)⟩
         ·rw[aK c8] at H;have ZF:decide ((bt a0 Yx)≤90)=false:=aN c8;clear c8
          by_cases c9:((bt a0 Yx)=95)
          ·rw[ak c9] at H;have aeb:((bt a0 Yx)==95)=true:=beq_iff_eq.mpr c9;have aiI:((bt a0 Yx) != 95)=false:=bne_eq_false_iff_eq.mpr c9;clear c9;have H':=Yu H;clear H;have p4:0≤(Yx:Int):=aW (by assumption);have q4:Yx<(a0.size:Int):=aW (by assumption);have hx4:=uV a0 Yx;replace p4:=bS p4;replace q4:=bS q4;go_wp2
           go_roundg k1
           case measure=>have:=HK1.o;omega
           case rel=>exact⟨(wrap64 (Yx+1)),(by first | rfl | (simp;done)|(simp[*];done)),H',⟨by have:=HK1.o;omega⟩,by repeat (first | exact pQ.refl _ | apply pQ.step)⟩
          ·rw[aK c9] at H;have aeb:((bt a0 Yx)==95)=false:=beq_eq_false_iff_ne.mpr c9;have aiI:((bt a0 Yx) != 95)=true:=bne_iff_ne.mpr c9
           by_cases c10:Yx=0
           ·rw[ak c10] at H;have adz:(Yx==0)=true:=beq_iff_eq.mpr c10;have afO:(Yx != 0)=false:=bne_eq_false_iff_eq.mpr c10;clear c10;obtain rfl:=bE H;have p4:0≤(Yx:Int):=aW (by assumption);have q4:Yx<(a0.size:Int):=aW (by assumption);have hx4:=uV a0 Yx;replace p4:=bS p4;replace q4:=bS q4;go_wp2;go_ret;exact⟨by first | rfl | (simp;done)|(simp[*];done)|(simp;decide +kernel),by repeat (first | exact pQ.refl _ | apply pQ.step)⟩
           ·rw[aK c10] at H;have adz:(Yx==0)=false:=beq_eq_false_iff_ne.mpr c10;have afO:(Yx != 0)=true:=bne_iff_ne.mpr c10
            by_cases c11:(bt a0 Yx)<48
            ·rw[ak c11] at H;have Z9:decide ((bt a0 Yx)<48)=true:=aM c11;clear c11;obtain rfl:=bE H;have p4:0≤(Yx:Int):=aW (by assumption);have q4:Yx<(a0.size:Int):=aW (by assumption);have hx4:=uV a0 Yx;replace p4:=bS p4;replace q4:=bS q4;go_wp2;go_ret;exact⟨by first | rfl | (simp;done)|(simp[*];done)|(simp;decide +kernel),by repeat (first | exact pQ.refl _ | apply pQ.step)⟩
            ·rw[aK c11] at H;have Z9:decide ((bt a0 Yx)<48)=false:=aN c11;clear c11
             by_cases c12:(bt a0 Yx)>57
             ·rw[ak c12] at H;have agY:decide (57<(bt a0 Yx))=true:=aM c12;clear c12;obtain rfl:=bE H;have p4:0≤(Yx:Int):=aW (by assumption);have q4:Yx<(a0.size:Int):=aW (by assumption);have hx4:=uV a0 Yx;replace p4:=bS p4;replace q4:=bS q4;go_wp2;go_ret;exact⟨by first | rfl | (simp;done)|(simp[*];done)|(simp;decide +kernel),by repeat (first | exact pQ.refl _ | apply pQ.step)⟩
             ·rw[aK c12] at H;have agY:decide (57<(bt a0 Yx))=false:=aN c12;clear c12;have H':=Yu H;clear H;have p4:0≤(Yx:Int):=aW (by assumption);have q4:Yx<(a0.size:Int):=aW (by assumption);have hx4:=uV a0 Yx;replace p4:=bS p4;replace q4:=bS q4;go_wp2
              go_roundg k1
              case measure=>have:=HK1.o;omega
              case rel=>exact⟨(wrap64 (Yx+1)),(by first | rfl | (simp;done)|(simp[*];done)),H',⟨by have:=HK1.o;omega⟩,by repeat (first | exact pQ.refl _ | apply pQ.step)⟩
        ·rw[aK c7] at H;have Zi:decide (65≤(bt a0 Yx))=false:=aN c7;clear c7
         by_cases c13:((bt a0 Yx)=95)
         ·rw[ak c13] at H;have agZ:((bt a0 Yx)==95)=true:=beq_iff_eq.mpr c13;have ag0:((bt a0 Yx) != 95)=false:=bne_eq_false_iff_eq.mpr c13;clear c13;have H':=Yu H;clear H;have p4:0≤(Yx:Int):=aW (by assumption);have q4:Yx<(a0.size:Int):=aW (by assumption);have hx4:=uV a0 Yx;replace p4:=bS p4;replace q4:=bS q4;go_wp2
          go_roundg k1
          case measure=>have:=HK1.o;omega
          case rel=>exact⟨(wrap64 (Yx+1)),(by first | rfl | (simp;done)|(simp[*];done)),H',⟨by have:=HK1.o;omega⟩,by repeat (first | exact pQ.refl _ | apply pQ.step)⟩
         ·rw[aK c13] at H;have agZ:((bt a0 Yx)==95)=false:=beq_eq_false_iff_ne.mpr c13;have ag0:((bt a0 Yx) != 95)=true:=bne_iff_ne.mpr c13
          by_cases c14:Yx=0
          ·rw[ak c14] at H;have acY:(Yx==0)=true:=beq_iff_eq.mpr c14;have ag1:(Yx != 0)=false:=bne_eq_false_iff_eq.mpr c14;clear c14;obtain rfl:=bE H;have p4:0≤(Yx:Int):=aW (by assumption);have q4:Yx<(a0.size:Int):=aW (by assumption);have hx4:=uV a0 Yx;replace p4:=bS p4;replace q4:=bS q4;go_wp2;go_ret;exact⟨by first | rfl | (simp;done)|(simp[*];done)|(simp;decide +kernel),by repeat (first | exact pQ.refl _ | apply pQ.step)⟩
          ·rw[aK c14] at H;have acY:(Yx==0)=false:=beq_eq_false_iff_ne.mpr c14;have ag1:(Yx != 0)=true:=bne_iff_ne.mpr c14
           by_cases c15:(bt a0 Yx)<48
           ·rw[ak c15] at H;have afK:decide ((bt a0 Yx)<48)=true:=aM c15;clear c15;obtain rfl:=bE H;have p4:0≤(Yx:Int):=aW (by assumption);have q4:Yx<(a0.size:Int):=aW (by assumption);have hx4:=uV a0 Yx;replace p4:=bS p4;replace q4:=bS q4;go_wp2;go_ret;exact⟨by first | rfl | (simp;done)|(simp[*];done)|(simp;decide +kernel),by repeat (first | exact pQ.refl _ | apply pQ.step)⟩
           ·rw[aK c15] at H;have afK:decide ((bt a0 Yx)<48)=false:=aN c15;clear c15
            by_cases c16:(bt a0 Yx)>57
            ·rw[ak c16] at H;have afL:decide (57<(bt a0 Yx))=true:=aM c16;clear c16;obtain rfl:=bE H;have p4:0≤(Yx:Int):=aW (by assumption);have q4:Yx<(a0.size:Int):=aW (by assumption);have hx4:=uV a0 Yx;replace p4:=bS p4;replace q4:=bS q4;go_wp2;go_ret;exact⟨by first | rfl | (simp;done)|(simp[*];done)|(simp;decide +kernel),by repeat (first | exact pQ.refl _ | apply pQ.step)⟩
            ·rw[aK c16] at H;have afL:decide (57<(bt a0 Yx))=false:=aN c16;clear c16;have H':=Yu H;clear H;have p4:0≤(Yx:Int):=aW (by assumption);have q4:Yx<(a0.size:Int):=aW (by assumption);have hx4:=uV a0 Yx;replace p4:=bS p4;replace q4:=bS q4;go_wp2
             go_roundg k1
             case measure=>have:=HK1.o;omega
             case rel=>exact⟨(wrap64 (Yx+1)),(by first | rfl | (simp;done)|(simp[*];done)),H',⟨by have:=HK1.o;omega⟩,by repeat (first | exact pQ.refl _ | apply pQ.step)⟩
      ·rw[aK c5] at H;have acH:decide (97≤(bt a0 Yx))=false:=aN c5;clear c5
       by_cases c17:(bt a0 Yx)≥65
       ·rw[ak c17] at H;have aao:decide (65≤(bt a0 Yx))=true:=aM c17;clear c17
        by_cases c18:(bt a0 Yx)≤90
        ·rw[ak c18] at H;have afM:decide ((bt a0 Yx)≤90)=true:=aM c18;clear c18;have H':=Yu H;clear H;have p4:0≤(Yx:Int):=aW (by assumption);have q4:Yx<(a0.size:Int):=aW (by assumption);have hx4:=uV a0 Yx;replace p4:=bS p4;replace q4:=bS q4;go_wp2
         go_roundg k1
         case measure=>have:=HK1.o;omega
         case rel=>exact⟨(wrap64 (Yx+1)),(by first | rfl | (simp;done)|(simp[*];done)),H',⟨by have:=HK1.o;omega⟩,by repeat (first | exact pQ.refl _ | apply pQ.step)⟩
        ·rw[aK c18] at H;have afM:decide ((bt a0 Yx)≤90)=false:=aN c18;clear c18
         by_cases c19:((bt a0 Yx)=95)
         ·rw[ak c19] at H;have adB:((bt a0 Yx)==95)=true:=beq_iff_eq.mpr c19;have adC:((bt a0 Yx) != 95)=false:=bne_eq_false_iff_eq.mpr c19;clear c19;have H':=Yu H;clear H;have p4:0≤(Yx:Int):=aW (by assumption);have q4:Yx<(a0.size:Int):=aW (by assumption);have hx4:=uV a0 Yx;replace p4:=bS p4;replace q4:=bS q4;go_wp2
          go_roundg k1
          case measure=>have:=HK1.o;omega
          case rel=>exact⟨(wrap64 (Yx+1)),(by first | rfl | (simp;done)|(simp[*];done)),H',⟨by have:=HK1.o;omega⟩,by repeat (first | exact pQ.refl _ | apply pQ.step)⟩
         ·rw[aK c19] at H;have adB:((bt a0 Yx)==95)=false:=beq_eq_false_iff_ne.mpr c19;have adC:((bt a0 Yx) != 95)=true:=bne_iff_ne.mpr c19
          by_cases c20:Yx=0
          ·rw[ak c20] at H;have adD:(Yx==0)=true:=beq_iff_eq.mpr c20;have adE:(Yx != 0)=false:=bne_eq_false_iff_eq.mpr c20;clear c20;obtain rfl:=bE H;have p4:0≤(Yx:Int):=aW (by assumption);have q4:Yx<(a0.size:Int):=aW (by assumption);have hx4:=uV a0 Yx;replace p4:=bS p4;replace q4:=bS q4;go_wp2;go_ret;exact⟨by first | rfl | (simp;done)|(simp[*];done)|(simp;decide +kernel),by repeat (first | exact pQ.refl _ | apply pQ.step)⟩
          ·rw[aK c20] at H;have adD:(Yx==0)=false:=beq_eq_false_iff_ne.mpr c20;have adE:(Yx != 0)=true:=bne_iff_ne.mpr c20
           by_cases c21:(bt a0 Yx)<48
           ·rw[ak c21] at H;have ag2:decide ((bt a0 Yx)<48)=true:=aM c21;clear c21;obtain rfl:=bE H;have p4:0≤(Yx:Int):=aW (by assumption);have q4:Yx<(a0.size:Int):=aW (by assumption);have hx4:=uV a0 Yx;replace p4:=bS p4;replace q4:=bS q4;go_wp2;go_ret;exact⟨by first | rfl | (simp;done)|(simp[*];done)|(simp;decide +kernel),by repeat (first | exact pQ.refl _ | apply pQ.step)⟩
           ·rw[aK c21] at H;have ag2:decide ((bt a0 Yx)<48)=false:=aN c21;clear c21
            by_cases c22:(bt a0 Yx)>57
            ·rw[ak c22] at H;have ag3:decide (57<(bt a0 Yx))=true:=aM c22;clear c22;obtain rfl:=bE H;have p4:0≤(Yx:Int):=aW (by assumption);have q4:Yx<(a0.size:Int):=aW (by assumption);have hx4:=uV a0 Yx;replace p4:=bS p4;replace q4:=bS q4;go_wp2;go_ret;exact⟨by first | rfl | (simp;done)|(simp[*];done)|(simp;decide +kernel),by repeat (first | exact pQ.refl _ | apply pQ.step)⟩
            ·rw[aK c22] at H;have ag3:decide (57<(bt a0 Yx))=false:=aN c22;clear c22;have H':=Yu H;clear H;have p4:0≤(Yx:Int):=aW (by assumption);have q4:Yx<(a0.size:Int):=aW (by assumption);have hx4:=uV a0 Yx;replace p4:=bS p4;replace q4:=bS q4;go_wp2
             go_roundg k1
             case measure=>have:=HK1.o;omega
             case rel=>exact⟨(wrap64 (Yx+1)),(by first | rfl | (simp;done)|(simp[*];done)),H',⟨by have:=HK1.o;omega⟩,by repeat (first | exact pQ.refl _ | apply pQ.step)⟩
       ·rw[aK c17] at H;have aao:decide (65≤(bt a0 Yx))=false:=aN c17;clear c17
        by_cases c23:((bt a0 Yx)=95)
        ·rw[ak c23] at H;have adF:((bt a0 Yx)==95)=true:=beq_iff_eq.mpr c23;have ag4:((bt a0 Yx) != 95)=false:=bne_eq_false_iff_eq.mpr c23;clear c23;have H':=Yu H;clear H;have p4:0≤(Yx:Int):=aW (by assumption);have q4:Yx<(a0.size:Int):=aW (by assumption);have hx4:=uV a0 Yx;replace p4:=bS p4;replace q4:=bS q4;go_wp2
         go_roundg k1
         case measure=>have:=HK1.o;omega
         case rel=>exact⟨(wrap64 (Yx+1)),(by first | rfl | (simp;done)|(simp[*];done)),H',⟨by have:=HK1.o;omega⟩,by repeat (first | exact pQ.refl _ | apply pQ.step)⟩
        ·rw[aK c23] at H;have adF:((bt a0 Yx)==95)=false:=beq_eq_false_iff_ne.mpr c23;have ag4:((bt a0 Yx) != 95)=true:=bne_iff_ne.mpr c23
         by_cases c24:Yx=0
         ·rw[ak c24] at H;have ag5:(Yx==0)=true:=beq_iff_eq.mpr c24;have ag6:(Yx != 0)=false:=bne_eq_false_iff_eq.mpr c24;clear c24;obtain rfl:=bE H;have p4:0≤(Yx:Int):=aW (by assumption);have q4:Yx<(a0.size:Int):=aW (by assumption);have hx4:=uV a0 Yx;replace p4:=bS p4;replace q4:=bS q4;go_wp2;go_ret;exact⟨by first | rfl | (simp;done)|(simp[*];done)|(simp;decide +kernel),by repeat (first | exact pQ.refl _ | apply pQ.step)⟩
         ·rw[aK c24] at H;have ag5:(Yx==0)=false:=beq_eq_false_iff_ne.mpr c24;have ag6:(Yx != 0)=true:=bne_iff_ne.mpr c24
          by_cases c25:(bt a0 Yx)<48
          ·rw[ak c25] at H;have ag7:decide ((bt a0 Yx)<48)=true:=aM c25;clear c25;obtain rfl:=bE H;have p4:0≤(Yx:Int):=aW (by assumption);have q4:Yx<(a0.size:Int):=aW (by assumption);have hx4:=uV a0 Yx;replace p4:=bS p4;replace q4:=bS q4;go_wp2;go_ret;exact⟨by first | rfl | (simp;done)|(simp[*];done)|(simp;decide +kernel),by repeat (first | exact pQ.refl _ | apply pQ.step)⟩
          ·rw[aK c25] at H;have ag7:decide ((bt a0 Yx)<48)=false:=aN c25;clear c25
           by_cases c26:(bt a0 Yx)>57
           ·rw[ak c26] at H;have aev:decide (57<(bt a0 Yx))=true:=aM c26;clear c26;obtain rfl:=bE H;have p4:0≤(Yx:Int):=aW (by assumption);have q4:Yx<(a0.size:Int):=aW (by assumption);have hx4:=uV a0 Yx;replace p4:=bS p4;replace q4:=bS q4;go_wp2;go_ret;exact⟨by first | rfl | (simp;done)|(simp[*];done)|(simp;decide +kernel),by repeat (first | exact pQ.refl _ | apply pQ.step)⟩
           ·rw[aK c26] at H;have aev:decide (57<(bt a0 Yx))=false:=aN c26;clear c26;have H':=Yu H;clear H;have p4:0≤(Yx:Int):=aW (by assumption);have q4:Yx<(a0.size:Int):=aW (by assumption);have hx4:=uV a0 Yx;replace p4:=bS p4;replace q4:=bS q4;go_wp2
            go_roundg k1
            case measure=>have:=HK1.o;omega
            case rel=>exact⟨(wrap64 (Yx+1)),(by first | rfl | (simp;done)|(simp[*];done)),H',⟨by have:=HK1.o;omega⟩,by repeat (first | exact pQ.refl _ | apply pQ.step)⟩
     ·rw[aK c3] at H;exact absurd H (by simp)
    ·rw[aK c2] at H;have Z6:decide (Yx<(a0.size:Int))=false:=aN c2;clear c2
     by_cases c27:(a0.size:Int)≥1
     ·rw[ak c27] at H;have ag8:decide (1≤(a0.size:Int))=true:=aM c27;have ag9:decide (1≤a0.size)=true:=aM (by omega);clear c27;obtain rfl:=bE H;go_wp2;go_ret;exact⟨by first | rfl | (simp;done)|(simp[*];done)|(simp;decide +kernel),by repeat (first | exact pQ.refl _ | apply pQ.step)⟩
     ·rw[aK c27] at H;have ag8:decide (1≤(a0.size:Int))=false:=aN c27;have ag9:decide (1≤a0.size)=false:=aN (by omega);clear c27;obtain rfl:=bE H;go_wp2;go_ret;exact⟨by first | rfl | (simp;done)|(simp[*];done)|(simp;decide +kernel),by repeat (first | exact pQ.refl _ | apply pQ.step)⟩
end Go.Proofs.Y.PA
