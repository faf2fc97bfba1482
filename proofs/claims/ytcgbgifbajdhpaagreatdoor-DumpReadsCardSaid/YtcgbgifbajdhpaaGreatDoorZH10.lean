/- Of the law ZHQDumpReads. -/
import Derived.Test.YtcgbgifbajdhpaaGreatDoorZH3
set_option linter.unusedVariables false
set_option linter.unusedSimpArgs false
set_option maxHeartbeats 8000000
set_option maxRecDepth 100000
namespace Go
abbrev aN:=@of_decide_eq_true
abbrev bL:=@eq_true
end Go
namespace Go.Proofs.Y.PA
open Go.RowKit Go.Proofs.YW.oO Go.Proofs.YW.pq Go.Proofs.YW.pz
attribute [local go_sem] sV sZ uE uF sW tq uj um
def qg.l0:Nat→ByteArray→Int→Option (Bool)
 | 0,_,_=>none
 | k+1,x0,x3=>if x3<(x0.size:Int) then (if 0≤x3 then (if (bt x0 x3)≥97 then (if (bt x0 x3)≤122 then (qg.l0 k x0 (wrap64 (x3+1))) else (if (bt x0 x3)≥65 then (if (bt x0 x3)≤90 then (qg.l0 k x0 (wrap64 (x3+1))) else (if ((bt x0 x3)=95) then (qg.l0 k x0 (wrap64 (x3+1))) else (if x3=0 then (some false) else (if (bt x0 x3)<48 then (some false) else (if (bt x0 x3)>57 then (some false) else (qg.l0 k x0 (wrap64 (x3+1)))))))) else (if ((bt x0 x3)=95) then (qg.l0 k x0 (wrap64 (x3+1))) else (if x3=0 then (some false) else (if (bt x0 x3)<48 then (some false) else (if (bt x0 x3)>57 then (some false) else (qg.l0 k x0 (wrap64 (x3+1))))))))) else (if (bt x0 x3)≥65 then (if (bt x0 x3)≤90 then (qg.l0 k x0 (wrap64 (x3+1))) else (if ((bt x0 x3)=95) then (qg.l0 k x0 (wrap64 (x3+1))) else (if x3=0 then (some false) else (if (bt x0 x3)<48 then (some false) else (if (bt x0 x3)>57 then (some false) else (qg.l0 k x0 (wrap64 (x3+1)))))))) else (if ((bt x0 x3)=95) then (qg.l0 k x0 (wrap64 (x3+1))) else (if x3=0 then (some false) else (if (bt x0 x3)<48 then (some false) else (if (bt x0 x3)>57 then (some false) else (qg.l0 k x0 (wrap64 (x3+1))))))))) else (none)) else (if (x0.size:Int)≥1 then (some (decide ((x0.size:Int)≤24))) else (some false))
def qg.f (k:Nat)(a0:ByteArray):Option (Bool):=qg.l0 k a0 0
theorem qg.c (k:Nat)(a0:ByteArray)(r:Bool)(w:World)(h:qg.f k a0=some r) :
 Calls Tryz.prog 99 #[.string a0] w fun e w'=>e = .returned (.bool r)∧pJ w w':=by
 have H:(qg.l0 k a0 0)=some r:=h;clear h;have H':=Y7 H;clear H
 go_enter Tryz.func99,Tryz.ntmps99
 go_wp2
 go_loopg [3] k (fun kq v3 w'=>∃ (Y8:Int),v3 = .int .i64 Y8∧oM (qg.l0 kq a0 Y8=some r)∧oM (kq≤k)∧pJ w w')
 case atStart=>exact⟨(0),(by first | rfl | (simp;done)|(simp[*];done)),H',⟨ay _⟩,by repeat (first | exact pJ.refl _ | apply pJ.step)⟩
 case round=>
  clear H';obtain⟨Y8,rfl,HA,HK1,⟨m1,rfl⟩⟩:=hrel;cases gk with
  | zero=>exact absurd HA.o (by simp[qg.l0])
  | succ k1=>
    have H:=HA.o;clear HA;simp only[qg.l0] at H
    by_cases c2:Y8<(a0.size:Int)
    ·rw[au c2] at H;have aav:decide (Y8<(a0.size:Int))=true:=aC c2;clear c2
     by_cases c3:0≤Y8
     ·rw[au c3] at H;have aax:decide (0≤Y8)=true:=aC c3;clear c3
      by_cases c5:(bt a0 Y8)≥97
      ·rw[au c5] at H;have adJ:decide (97≤(bt a0 Y8))=true:=aC c5;clear c5
       by_cases c6:(bt a0 Y8)≤122
       ·rw[au c6] at H;have afl:decide ((bt a0 Y8)≤122)=true:=aC c6;clear c6;have H':=Y7 H;clear H;have p4:0≤(Y8:Int):=aN (by assumption);have q4:Y8<(a0.size:Int):=aN (by assumption);have hx4:=wC a0 Y8;replace p4:=bL p4;replace q4:=bL q4;go_wp2
        go_roundg k1
        case measure=>have:=HK1.o;omega
        case rel=>exact⟨(wrap64 (Y8+1)),(by first | rfl | (simp;done)|(simp[*];done)),H',⟨by have:=HK1.o;omega⟩,by repeat (first | exact pJ.refl _ | apply pJ.step)⟩
       ·rw[av c6] at H;have afl:decide ((bt a0 Y8)≤122)=false:=aD c6;clear c6
        by_cases c7:(bt a0 Y8)≥65
        ·rw[au c7] at H;have ZV:decide (65≤(bt a0 Y8))=true:=aC c7;clear c7
         by_cases c8:(bt a0 Y8)≤90
         ·rw[au c8] at H;have aac:decide ((bt a0 Y8)≤90)=true:=aC c8;clear c8;have H':=Y7 H;clear H;have p4:0≤(Y8:Int):=aN (by assumption);have q4:Y8<(a0.size:Int):=aN (by assumption);have hx4:=wC a0 Y8;replace p4:=bL p4;replace q4:=bL q4;go_wp2
          go_roundg k1
          case measure=>have:=HK1.o;omega
          case rel=>exact⟨(wrap64 (Y8+1)),(by first | rfl | (simp;done)|(simp[*];done)),H',⟨by have:=HK1.o;omega⟩,by repeat (first | exact pJ.refl _ | apply pJ.step)⟩
         ·rw[av c8] at H;have aac:decide ((bt a0 Y8)≤90)=false:=aD c8;clear c8
          by_cases c9:((bt a0 Y8)=95)
          ·rw[au c9] at H;have aeh:((bt a0 Y8)==95)=true:=beq_iff_eq.mpr c9;have alv:((bt a0 Y8) != 95)=false:=bne_eq_false_iff_eq.mpr c9;clear c9;have H':=Y7 H;clear H;have p4:0≤(Y8:Int):=aN (by assumption);have q4:Y8<(a0.size:Int):=aN (by assumption);have hx4:=wC a0 Y8;replace p4:=bL p4;replace q4:=bL q4;go_wp2
           go_roundg k1
           case measure=>have:=HK1.o;omega
           case rel=>exact⟨(wrap64 (Y8+1)),(by first | rfl | (simp;done)|(simp[*];done)),H',⟨by have:=HK1.o;omega⟩,by repeat (first | exact pJ.refl _ | apply pJ.step)⟩
          ·rw[av c9] at H;have aeh:((bt a0 Y8)==95)=false:=beq_eq_false_iff_ne.mpr c9;have alv:((bt a0 Y8) != 95)=true:=bne_iff_ne.mpr c9
           by_cases c10:Y8=0
           ·rw[au c10] at H;have adB:(Y8==0)=true:=beq_iff_eq.mpr c10;have ahJ:(Y8 != 0)=false:=bne_eq_false_iff_eq.mpr c10;clear c10;obtain rfl:=bB H;have p4:0≤(Y8:Int):=aN (by assumption);have q4:Y8<(a0.size:Int):=aN (by assumption);have hx4:=wC a0 Y8;replace p4:=bL p4;replace q4:=bL q4;go_wp2;go_ret;exact⟨by first | rfl | (simp;done)|(simp[*];done)|(simp;decide +kernel),by repeat (first | exact pJ.refl _ | apply pJ.step)⟩
           ·rw[av c10] at H;have adB:(Y8==0)=false:=beq_eq_false_iff_ne.mpr c10;have ahJ:(Y8 != 0)=true:=bne_iff_ne.mpr c10
            by_cases c11:(bt a0 Y8)<48
            ·rw[au c11] at H;have abb:decide ((bt a0 Y8)<48)=true:=aC c11;clear c11;obtain rfl:=bB H;have p4:0≤(Y8:Int):=aN (by assumption);have q4:Y8<(a0.size:Int):=aN (by assumption);have hx4:=wC a0 Y8;replace p4:=bL p4;replace q4:=bL q4;go_wp2;go_ret;exact⟨by first | rfl | (simp;done)|(simp[*];done)|(simp;decide +kernel),by repeat (first | exact pJ.refl _ | apply pJ.step)⟩
            ·rw[av c11] at H;have abb:decide ((bt a0 Y8)<48)=false:=aD c11;clear c11
             by_cases c12:(bt a0 Y8)>57
             ·rw[au c12] at H;have ahP:decide (57<(bt a0 Y8))=true:=aC c12;clear c12;obtain rfl:=bB H;have p4:0≤(Y8:Int):=aN (by assumption);have q4:Y8<(a0.size:Int):=aN (by assumption);have hx4:=wC a0 Y8;replace p4:=bL p4;replace q4:=bL q4;go_wp2;go_ret;exact⟨by first | rfl | (simp;done)|(simp[*];done)|(simp;decide +kernel),by repeat (first | exact pJ.refl _ | apply pJ.step)⟩
             ·rw[av c12] at H;have ahP:decide (57<(bt a0 Y8))=false:=aD c12;clear c12;have H':=Y7 H;clear H;have p4:0≤(Y8:Int):=aN (by assumption);have q4:Y8<(a0.size:Int):=aN (by assumption);have hx4:=wC a0 Y8;replace p4:=bL p4;replace q4:=bL q4;go_wp2
              go_roundg k1
              case measure=>have:=HK1.o;omega
              case rel=>exact⟨(wrap64 (Y8+1)),(by first | rfl | (simp;done)|(simp[*];done)),H',⟨by have:=HK1.o;omega⟩,by repeat (first | exact pJ.refl _ | apply pJ.step)⟩
        ·rw[av c7] at H;have ZV:decide (65≤(bt a0 Y8))=false:=aD c7;clear c7
         by_cases c13:((bt a0 Y8)=95)
         ·rw[au c13] at H;have ajk:((bt a0 Y8)==95)=true:=beq_iff_eq.mpr c13;have ajl:((bt a0 Y8) != 95)=false:=bne_eq_false_iff_eq.mpr c13;clear c13;have H':=Y7 H;clear H;have p4:0≤(Y8:Int):=aN (by assumption);have q4:Y8<(a0.size:Int):=aN (by assumption);have hx4:=wC a0 Y8;replace p4:=bL p4;replace q4:=bL q4;go_wp2
          go_roundg k1
          case measure=>have:=HK1.o;omega
          case rel=>exact⟨(wrap64 (Y8+1)),(by first | rfl | (simp;done)|(simp[*];done)),H',⟨by have:=HK1.o;omega⟩,by repeat (first | exact pJ.refl _ | apply pJ.step)⟩
         ·rw[av c13] at H;have ajk:((bt a0 Y8)==95)=false:=beq_eq_false_iff_ne.mpr c13;have ajl:((bt a0 Y8) != 95)=true:=bne_iff_ne.mpr c13
          by_cases c14:Y8=0
          ·rw[au c14] at H;have ado:(Y8==0)=true:=beq_iff_eq.mpr c14;have ajm:(Y8 != 0)=false:=bne_eq_false_iff_eq.mpr c14;clear c14;obtain rfl:=bB H;have p4:0≤(Y8:Int):=aN (by assumption);have q4:Y8<(a0.size:Int):=aN (by assumption);have hx4:=wC a0 Y8;replace p4:=bL p4;replace q4:=bL q4;go_wp2;go_ret;exact⟨by first | rfl | (simp;done)|(simp[*];done)|(simp;decide +kernel),by repeat (first | exact pJ.refl _ | apply pJ.step)⟩
          ·rw[av c14] at H;have ado:(Y8==0)=false:=beq_eq_false_iff_ne.mpr c14;have ajm:(Y8 != 0)=true:=bne_iff_ne.mpr c14
           by_cases c15:(bt a0 Y8)<48
           ·rw[au c15] at H;have ae0:decide ((bt a0 Y8)<48)=true:=aC c15;clear c15;obtain rfl:=bB H;have p4:0≤(Y8:Int):=aN (by assumption);have q4:Y8<(a0.size:Int):=aN (by assumption);have hx4:=wC a0 Y8;replace p4:=bL p4;replace q4:=bL q4;go_wp2;go_ret;exact⟨by first | rfl | (simp;done)|(simp[*];done)|(simp;decide +kernel),by repeat (first | exact pJ.refl _ | apply pJ.step)⟩
           ·rw[av c15] at H;have ae0:decide ((bt a0 Y8)<48)=false:=aD c15;clear c15
            by_cases c16:(bt a0 Y8)>57
            ·rw[au c16] at H;have ahM:decide (57<(bt a0 Y8))=true:=aC c16;clear c16;obtain rfl:=bB H;have p4:0≤(Y8:Int):=aN (by assumption);have q4:Y8<(a0.size:Int):=aN (by assumption);have hx4:=wC a0 Y8;replace p4:=bL p4;replace q4:=bL q4;go_wp2;go_ret;exact⟨by first | rfl | (simp;done)|(simp[*];done)|(simp;decide +kernel),by repeat (first | exact pJ.refl _ | apply pJ.step)⟩
            ·rw[av c16] at H;have ahM:decide (57<(bt a0 Y8))=false:=aD c16;clear c16;have H':=Y7 H;clear H;have p4:0≤(Y8:Int):=aN (by assumption);have q4:Y8<(a0.size:Int):=aN (by assumption);have hx4:=wC a0 Y8;replace p4:=bL p4;replace q4:=bL q4;go_wp2
             go_roundg k1
             case measure=>have:=HK1.o;omega
             case rel=>exact⟨(wrap64 (Y8+1)),(by first | rfl | (simp;done)|(simp[*];done)),H',⟨by have:=HK1.o;omega⟩,by repeat (first | exact pJ.refl _ | apply pJ.step)⟩
      ·rw[av c5] at H;have adJ:decide (97≤(bt a0 Y8))=false:=aD c5;clear c5
       by_cases c17:(bt a0 Y8)≥65
       ·rw[au c17] at H;have abd:decide (65≤(bt a0 Y8))=true:=aC c17;clear c17
        by_cases c18:(bt a0 Y8)≤90
        ·rw[au c18] at H;have ahN:decide ((bt a0 Y8)≤90)=true:=aC c18;clear c18;have H':=Y7 H;clear H;have p4:0≤(Y8:Int):=aN (by assumption);have q4:Y8<(a0.size:Int):=aN (by assumption);have hx4:=wC a0 Y8;replace p4:=bL p4;replace q4:=bL q4;go_wp2
         go_roundg k1
         case measure=>have:=HK1.o;omega
         case rel=>exact⟨(wrap64 (Y8+1)),(by first | rfl | (simp;done)|(simp[*];done)),H',⟨by have:=HK1.o;omega⟩,by repeat (first | exact pJ.refl _ | apply pJ.step)⟩
        ·rw[av c18] at H;have ahN:decide ((bt a0 Y8)≤90)=false:=aD c18;clear c18
         by_cases c19:((bt a0 Y8)=95)
         ·rw[au c19] at H;have ae1:((bt a0 Y8)==95)=true:=beq_iff_eq.mpr c19;have ae2:((bt a0 Y8) != 95)=false:=bne_eq_false_iff_eq.mpr c19;clear c19;have H':=Y7 H;clear H;have p4:0≤(Y8:Int):=aN (by assumption);have q4:Y8<(a0.size:Int):=aN (by assumption);have hx4:=wC a0 Y8;replace p4:=bL p4;replace q4:=bL q4;go_wp2
          go_roundg k1
          case measure=>have:=HK1.o;omega
          case rel=>exact⟨(wrap64 (Y8+1)),(by first | rfl | (simp;done)|(simp[*];done)),H',⟨by have:=HK1.o;omega⟩,by repeat (first | exact pJ.refl _ | apply pJ.step)⟩
         ·rw[av c19] at H;have ae1:((bt a0 Y8)==95)=false:=beq_eq_false_iff_ne.mpr c19;have ae2:((bt a0 Y8) != 95)=true:=bne_iff_ne.mpr c19
          by_cases c20:Y8=0
          ·rw[au c20] at H;have ae3:(Y8==0)=true:=beq_iff_eq.mpr c20;have ae4:(Y8 != 0)=false:=bne_eq_false_iff_eq.mpr c20;clear c20;obtain rfl:=bB H;have p4:0≤(Y8:Int):=aN (by assumption);have q4:Y8<(a0.size:Int):=aN (by assumption);have hx4:=wC a0 Y8;replace p4:=bL p4;replace q4:=bL q4;go_wp2;go_ret;exact⟨by first | rfl | (simp;done)|(simp[*];done)|(simp;decide +kernel),by repeat (first | exact pJ.refl _ | apply pJ.step)⟩
          ·rw[av c20] at H;have ae3:(Y8==0)=false:=beq_eq_false_iff_ne.mpr c20;have ae4:(Y8 != 0)=true:=bne_iff_ne.mpr c20
           by_cases c21:(bt a0 Y8)<48
           ·rw[au c21] at H;have ajn:decide ((bt a0 Y8)<48)=true:=aC c21;clear c21;obtain rfl:=bB H;have p4:0≤(Y8:Int):=aN (by assumption);have q4:Y8<(a0.size:Int):=aN (by assumption);have hx4:=wC a0 Y8;replace p4:=bL p4;replace q4:=bL q4;go_wp2;go_ret;exact⟨by first | rfl | (simp;done)|(simp[*];done)|(simp;decide +kernel),by repeat (first | exact pJ.refl _ | apply pJ.step)⟩
           ·rw[av c21] at H;have ajn:decide ((bt a0 Y8)<48)=false:=aD c21;clear c21
            by_cases c22:(bt a0 Y8)>57
            ·rw[au c22] at H;have ajo:decide (57<(bt a0 Y8))=true:=aC c22;clear c22;obtain rfl:=bB H;have p4:0≤(Y8:Int):=aN (by assumption);have q4:Y8<(a0.size:Int):=aN (by assumption);have hx4:=wC a0 Y8;replace p4:=bL p4;replace q4:=bL q4;go_wp2;go_ret;exact⟨by first | rfl | (simp;done)|(simp[*];done)|(simp;decide +kernel),by repeat (first | exact pJ.refl _ | apply pJ.step)⟩
            ·rw[av c22] at H;have ajo:decide (57<(bt a0 Y8))=false:=aD c22;clear c22;have H':=Y7 H;clear H;have p4:0≤(Y8:Int):=aN (by assumption);have q4:Y8<(a0.size:Int):=aN (by assumption);have hx4:=wC a0 Y8;replace p4:=bL p4;replace q4:=bL q4;go_wp2
             go_roundg k1
             case measure=>have:=HK1.o;omega
             case rel=>exact⟨(wrap64 (Y8+1)),(by first | rfl | (simp;done)|(simp[*];done)),H',⟨by have:=HK1.o;omega⟩,by repeat (first | exact pJ.refl _ | apply pJ.step)⟩
       ·rw[av c17] at H;have abd:decide (65≤(bt a0 Y8))=false:=aD c17;clear c17
        by_cases c23:((bt a0 Y8)=95)
        ·rw[au c23] at H;have ae5:((bt a0 Y8)==95)=true:=beq_iff_eq.mpr c23;have ajp:((bt a0 Y8) != 95)=false:=bne_eq_false_iff_eq.mpr c23;clear c23;have H':=Y7 H;clear H;have p4:0≤(Y8:Int):=aN (by assumption);have q4:Y8<(a0.size:Int):=aN (by assumption);have hx4:=wC a0 Y8;replace p4:=bL p4;replace q4:=bL q4;go_wp2
         go_roundg k1
         case measure=>have:=HK1.o;omega
         case rel=>exact⟨(wrap64 (Y8+1)),(by first | rfl | (simp;done)|(simp[*];done)),H',⟨by have:=HK1.o;omega⟩,by repeat (first | exact pJ.refl _ | apply pJ.step)⟩
        ·rw[av c23] at H;have ae5:((bt a0 Y8)==95)=false:=beq_eq_false_iff_ne.mpr c23;have ajp:((bt a0 Y8) != 95)=true:=bne_iff_ne.mpr c23
         by_cases c24:Y8=0
         ·rw[au c24] at H;have ajq:(Y8==0)=true:=beq_iff_eq.mpr c24;have ajr:(Y8 != 0)=false:=bne_eq_false_iff_eq.mpr c24;clear c24;obtain rfl:=bB H;have p4:0≤(Y8:Int):=aN (by assumption);have q4:Y8<(a0.size:Int):=aN (by assumption);have hx4:=wC a0 Y8;replace p4:=bL p4;replace q4:=bL q4;go_wp2;go_ret;exact⟨by first | rfl | (simp;done)|(simp[*];done)|(simp;decide +kernel),by repeat (first | exact pJ.refl _ | apply pJ.step)⟩
         ·rw[av c24] at H;have ajq:(Y8==0)=false:=beq_eq_false_iff_ne.mpr c24;have ajr:(Y8 != 0)=true:=bne_iff_ne.mpr c24
          by_cases c25:(bt a0 Y8)<48
          ·rw[au c25] at H;have ajs:decide ((bt a0 Y8)<48)=true:=aC c25;clear c25;obtain rfl:=bB H;have p4:0≤(Y8:Int):=aN (by assumption);have q4:Y8<(a0.size:Int):=aN (by assumption);have hx4:=wC a0 Y8;replace p4:=bL p4;replace q4:=bL q4;go_wp2;go_ret;exact⟨by first | rfl | (simp;done)|(simp[*];done)|(simp;decide +kernel),by repeat (first | exact pJ.refl _ | apply pJ.step)⟩
          ·rw[av c25] at H;have ajs:decide ((bt a0 Y8)<48)=false:=aD c25;clear c25
           by_cases c26:(bt a0 Y8)>57
           ·rw[au c26] at H;have afZ:decide (57<(bt a0 Y8))=true:=aC c26;clear c26;obtain rfl:=bB H;have p4:0≤(Y8:Int):=aN (by assumption);have q4:Y8<(a0.size:Int):=aN (by assumption);have hx4:=wC a0 Y8;replace p4:=bL p4;replace q4:=bL q4;go_wp2;go_ret;exact⟨by first | rfl | (simp;done)|(simp[*];done)|(simp;decide +kernel),by repeat (first | exact pJ.refl _ | apply pJ.step)⟩
           ·rw[av c26] at H;have afZ:decide (57<(bt a0 Y8))=false:=aD c26;clear c26;have H':=Y7 H;clear H;have p4:0≤(Y8:Int):=aN (by assumption);have q4:Y8<(a0.size:Int):=aN (by assumption);have hx4:=wC a0 Y8;replace p4:=bL p4;replace q4:=bL q4;go_wp2
            go_roundg k1
            case measure=>have:=HK1.o;omega
            case rel=>exact⟨(wrap64 (Y8+1)),(by first | rfl | (simp;done)|(simp[*];done)),H',⟨by have:=HK1.o;omega⟩,by repeat (first | exact pJ.refl _ | apply pJ.step)⟩
     ·rw[av c3] at H;exact absurd H (by simp)
    ·rw[av c2] at H;have aav:decide (Y8<(a0.size:Int))=false:=aD c2;clear c2
     by_cases c27:(a0.size:Int)≥1
     ·rw[au c27] at H;have ajt:decide (1≤(a0.size:Int))=true:=aC c27;have aju:decide (1≤a0.size)=true:=aC (by omega);clear c27;obtain rfl:=bB H;go_wp2;go_ret;exact⟨by first | rfl | (simp;done)|(simp[*];done)|(simp;decide +kernel),by repeat (first | exact pJ.refl _ | apply pJ.step)⟩
     ·rw[av c27] at H;have ajt:decide (1≤(a0.size:Int))=false:=aD c27;have aju:decide (1≤a0.size)=false:=aD (by omega);clear c27;obtain rfl:=bB H;go_wp2;go_ret;exact⟨by first | rfl | (simp;done)|(simp[*];done)|(simp;decide +kernel),by repeat (first | exact pJ.refl _ | apply pJ.step)⟩
end Go.Proofs.Y.PA
