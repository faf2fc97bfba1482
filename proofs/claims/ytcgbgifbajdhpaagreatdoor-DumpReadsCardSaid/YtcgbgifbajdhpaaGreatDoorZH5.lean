/- Of the law ZHQDumpReads. -/
import Derived.Test.YtcgbgifbajdhpaaGreatDoorZH3
set_option linter.unusedVariables false
set_option linter.unusedSimpArgs false
set_option maxHeartbeats 8000000
set_option maxRecDepth 100000
namespace Go
abbrev aI:=@of_decide_eq_true
abbrev bI:=@eq_true
abbrev fI:=@List.map_append
abbrev ow:=@Bool.and_false
end Go
namespace Go.Proofs.Y.PA
open Go.RowKit Go.Proofs.Y.G Go.Proofs.YW.oO Go.Proofs.YW.pq Go.Proofs.YW.pz
theorem Lv.c (r:Int)(w:World):Calls Tryz.prog 140 #[.int .i32 r] w fun e w'=>e = .returned (.bool (Lv r))∧w'=w:=by
 by_cases h1:32≤r
 ·cases h2:(r==127) with
  | true=>
    have HV:oM (Lv r=false):=⟨by rw[Lv,aC (beq_iff_eq.1 h2)];simp⟩;have h2':(r != 127)=false:=bne_eq_false_iff_eq.2 (beq_iff_eq.1 h2)
    go_enter Tryz.func140,Tryz.ntmps140
    go_wp2;go_ret;exact⟨by rw[HV.o];rfl,rfl⟩
  | false=>
    have h2':(r != 127)=true:=bne_iff_ne.2 (beq_eq_false_iff_ne.1 h2);have HV:oM (Lv r=(r != 65533)):=⟨by
     rw[Lv,aC h1,aD (beq_eq_false_iff_ne.1 h2)]
     by_cases h3:r=65533
     ·rw[aC h3,bne_eq_false_iff_eq.2 h3];rfl
     ·rw[aD h3,bne_iff_ne.2 h3];rfl⟩
    go_enter Tryz.func140,Tryz.ntmps140
    go_wp2;go_ret;exact⟨by rw[HV.o];rfl,rfl⟩
 ·have HV:oM (Lv r=false):=⟨by rw[Lv,aD h1];rfl⟩
  go_enter Tryz.func140,Tryz.ntmps140
  go_wp2;go_ret;exact⟨by rw[HV.o];rfl,rfl⟩
theorem V8 (s:ByteArray):(!s.toList.isEmpty)=decide (1≤s.size):=by
 have h:s.toList.length=s.size:=by rw[iK];simp
 generalize s.toList=l at h;rw[← h];cases l with
 | nil=>rfl
 | cons a l=>rw[aC (by simp)];rfl
def uU (s:ByteArray):Bool:=decide (1≤s.size)&&decide (s.size≤40)&&wN s
theorem uU.c (s:ByteArray)(w:World):Calls Tryz.prog 122 #[.string s] w fun e w'=>e = .returned (.bool (uU s))∧Below w.heap.size w w':=by
 go_enter Tryz.func122,Tryz.ntmps122
 go_wp2
 go_loopw [] (fun w'=>∃ (pos b:Nat),w'=w.iter s pos∧oM (wN s=Gj s b pos)∧s.size≤pos+b) (fun w'=>s.size-w'.iterPos w.heap.size)
 case atStart=>exact⟨0,s.size,rfl,⟨rfl⟩,by omega⟩
 case round=>
  obtain⟨pos,b,rfl,HC,hb⟩:=hrel
  by_cases hp:pos<s.size
  ·have hnx:∀ ty,(Instr.next (.pointer (some ⟨w.heap.size,0,none⟩)) true ty).run Tryz.prog (w.iter s pos)=_:=fun ty=>run_next_any w s pos ty hp
   have hwd:=width_pos s pos hp;cases b with
   | zero=>omega
   | succ b=>
     have HS:oM (wN s=(Lv ((Utf8.decode s pos).1:Int)&&Gj s b (pos+(Utf8.decode s pos).2))):=⟨by rw[HC.o,Gj,au hp]⟩;generalize (((Utf8.decode s pos).1:Nat):Int)=r at hnx HS;have HB:=Y7 (xw w s (pos+(Utf8.decode s pos).2));cases hr:Lv r with
     | false=>
       have ag3:oM (∀ W,Calls Tryz.prog 140 #[.int .i32 r] W fun e w'=>e = .returned (.bool false)∧w'=W):=⟨fun W=>hr ▸ Lv.c r W⟩;have HF:oM (wN s=false):=⟨by rw[HS.o,hr];rfl⟩;clear hr
       go_wp2_with (first|(go_at_call 140;(with_reducible refine (ag3.o _).mono ?_);rintro e w1 ⟨rfl,rfl⟩))
       go_ret;exact⟨by rw[uU,HF.o,ow];rfl,HB.o⟩
     | true=>
       have aic:oM (∀ W,Calls Tryz.prog 140 #[.int .i32 r] W fun e w'=>e = .returned (.bool true)∧w'=W):=⟨fun W=>hr ▸ Lv.c r W⟩;have HF:oM (wN s=Gj s b (pos+(Utf8.decode s pos).2)):=⟨by rw[HS.o,hr];rfl⟩;clear hr
       go_wp2_with (first|(go_at_call 140;(with_reducible refine (aic.o _).mono ?_);rintro e w1 ⟨rfl,rfl⟩))
       refine⟨⟨pos+(Utf8.decode s pos).2,b,rfl,HF,by omega⟩,?_⟩;simp;omega
  ·have hnx:∀ ty,(Instr.next (.pointer (some ⟨w.heap.size,0,none⟩)) true ty).run Tryz.prog (w.iter s pos)=_:=fun ty=>run_next_end w s pos ty hp
   have HV:oM (wN s=true):=⟨by rw[HC.o,Nl s b pos hp]⟩;have he:=V8 s
   by_cases h1:1≤s.size
   ·rw[aC h1] at he;go_wp2;go_ret;exact⟨by rw[uU,HV.o,aC h1];simp;omega,xw _ _ _⟩
   ·rw[aD h1] at he;go_wp2;go_ret;exact⟨by rw[uU,aD h1];rfl,xw _ _ _⟩
end Go.Proofs.Y.PA
namespace Go.Proofs.Y.PA
open Go.RowKit Go.Proofs.YW.oO Go.Proofs.YW.pq Go.Proofs.YW.pz
attribute [local go_sem] sV sZ uE uF sW tq uj um
def vg.f (a0:ByteArray):Option (Bool):=if (a0.size:Int)≥1 then (if (a0.size:Int)≤40 then ((uD.f a0).bind fun afm=>(some afm)) else (some false)) else (some false)
theorem vg.c (a0:ByteArray)(r:Bool)(w:World)(h:vg.f a0=some r) :
 Calls Tryz.prog 100 #[.string a0] w fun e w'=>e = .returned (.bool r)∧Below w.heap.size w w':=by
 have HB:=Y7 (aU w.heap.size w);have H:(if (a0.size:Int)≥1 then (if (a0.size:Int)≤40 then ((uD.f a0).bind fun afm=>(some afm)) else (some false)) else (some false))=some r:=h;clear h
 by_cases c2:(a0.size:Int)≥1
 ·rw[au c2] at H;have aav:decide (1≤(a0.size:Int))=true:=aC c2;have aeg:decide (1≤a0.size)=true:=aC (by omega);clear c2
  by_cases c3:(a0.size:Int)≤40
  ·rw[au c3] at H;have aax:decide ((a0.size:Int)≤40)=true:=aC c3;have abx:decide (a0.size≤40)=true:=aC (by omega);clear c3;replace H:=Option.bind_eq_some_iff.mp H;obtain⟨afm,A40,H⟩:=H;replace H:(some afm)=some r:=H;have A4:=Y7 A40;clear A40;obtain rfl:=bB H
   go_enter Tryz.func100,Tryz.ntmps100
   go_wp2_with (first|(go_at_call 128;(with_reducible refine (uD.c a0 afm _ A4.o).mono ?_);rintro e w5 ⟨rfl,hb⟩;have n0_:=Y7 (oP (by repeat (first|(with_reducible first | exact HB.o | apply oN | apply oU | apply oV)|exact HB.o)) hb);clear HB;have HB:=n0_;clear n0_;(try clear hb);(try clear hb2);(try clear hk);(try clear hi)))
   go_ret;exact⟨by first | rfl | (simp[pQ,pR]<;>rfl)|(simp[*,pQ,pR]<;>rfl),by repeat (first|(with_reducible first | exact HB.o | apply oN | apply oU | apply oV)|exact HB.o)⟩
  ·rw[av c3] at H;have aax:decide ((a0.size:Int)≤40)=false:=aD c3;have abx:decide (a0.size≤40)=false:=aD (by omega);clear c3;obtain rfl:=bB H
   go_enter Tryz.func100,Tryz.ntmps100
   go_wp2;go_ret;exact⟨by first | rfl | (simp[pQ,pR]<;>rfl)|(simp[*,pQ,pR]<;>rfl),by repeat (first|(with_reducible first | exact HB.o | apply oN | apply oU | apply oV)|exact HB.o)⟩
 ·rw[av c2] at H;have aav:decide (1≤(a0.size:Int))=false:=aD c2;have aeg:decide (1≤a0.size)=false:=aD (by omega);clear c2;obtain rfl:=bB H
  go_enter Tryz.func100,Tryz.ntmps100
  go_wp2;go_ret;exact⟨by first | rfl | (simp[pQ,pR]<;>rfl)|(simp[*,pQ,pR]<;>rfl),by repeat (first|(with_reducible first | exact HB.o | apply oN | apply oU | apply oV)|exact HB.o)⟩
attribute [local go_sem] sV sZ uE uF sW tq uj um
def qz.l0:Nat→List (qG)→Int→Int→Option (Bool)
 | 0,_,_,_=>none
 | k+1,x0,x5,x6=>if x6<x5 then (if x6>0 then (if 0≤(wrap64 (x6-1)) then (if (wrap64 (x6-1))<(x0.length:Int) then (if 0≤x6 then (if x6<(x0.length:Int) then (if ((pI x0 (wrap64 (x6-1))).f0)≥((pI x0 x6).f0) then (some false) else (qz.l0 k x0 x5 (wrap64 (x6+1)))) else (none)) else (none)) else (none)) else (none)) else (qz.l0 k x0 x5 (wrap64 (x6+1)))) else (some (decide ((x0.length:Int)≤65535)))
def qz.f (k:Nat)(l0:List (qG)):Option (Bool):=qz.l0 k l0 (l0.length:Int) 0
theorem qz.c (k:Nat)(A0:Option Addr)(c0:Nat)(l0:List (qG))(r:Bool)(w:World)(hr0:Kd.C vX w A0 l0.length l0)(hc0:l0.length≤c0)(h:qz.f k l0=some r) :
 Calls Tryz.prog 68 #[.slice A0 l0.length c0] w fun e w'=>e = .returned (.bool r)∧pJ w w':=by
 have HR0:=Y7 hr0;have HC0:=Y7 hc0;clear hr0 hc0;have H:(qz.l0 k l0 (l0.length:Int) 0)=some r:=h;clear h;have H':=Y7 H;clear H
 go_enter Tryz.func68,Tryz.ntmps68
 go_wp2
 repeat (go_quiet (fail);try go_wp2)
 go_loopg [6] k (fun kq v6 w'=>∃ (ZM:Int),v6 = .int .i64 ZM∧oM (qz.l0 kq l0 (l0.length:Int) ZM=some r)∧oM (kq≤k)∧pJ w w')
 case atStart=>exact⟨(0),(by first | rfl | (simp;done)|(simp[*];done)),H',⟨ay _⟩,by repeat (first | exact pJ.refl _ | apply pJ.step)⟩
 case round=>
  clear H';obtain⟨ZM,rfl,HA,HK1,⟨m1,rfl⟩⟩:=hrel;cases gk with
  | zero=>exact absurd HA.o (by simp[qz.l0])
  | succ k1=>
    have H:=HA.o;clear HA;simp only[qz.l0] at H
    by_cases c2:ZM<(l0.length:Int)
    ·rw[au c2] at H;have aav:decide (ZM<(l0.length:Int))=true:=aC c2;clear c2
     by_cases c3:ZM>0
     ·rw[au c3] at H;have aax:decide (0<ZM)=true:=aC c3;clear c3;obtain⟨ji4,adK⟩:∃ j_:Int,(wrap64 (ZM-1))=j_:=⟨_,rfl⟩;replace H:(if 0≤(ji4) then (if (ji4)<(l0.length:Int) then (if 0≤ZM then (if ZM<(l0.length:Int) then (if ((pI l0 (ji4)).f0)≥((pI l0 ZM).f0) then (some false) else (qz.l0 k1 l0 (l0.length:Int) (wrap64 (ZM+1)))) else (none)) else (none)) else (none)) else (none))=some r:=by first|(rw[adK] at H;exact H)|(simp only[adK] at H ⊢;exact H)
      have ajc:(IntKind.i64.wrap (ZM-1))=ji4:=(q8 _).trans adK
      by_cases c5:0≤(ji4)
      ·rw[au c5] at H;have adJ:decide (0≤(ji4))=true:=aC c5;clear c5
       by_cases c6:(ji4)<(l0.length:Int)
       ·rw[au c6] at H;have afl:decide ((ji4)<(l0.length:Int))=true:=aC c6;clear c6
        by_cases c7:0≤ZM
        ·rw[au c7] at H;have ZV:decide (0≤ZM)=true:=aC c7;clear c7
         by_cases c8:ZM<(l0.length:Int)
         ·rw[au c8] at H;have aac:decide (ZM<(l0.length:Int))=true:=aC c8;clear c8
          by_cases c9:((pI l0 (ji4)).f0)≥((pI l0 ZM).f0)
          ·rw[au c9] at H;have aeh:decide (((pI l0 ZM).f0)≤((pI l0 (ji4)).f0))=true:=aC c9;clear c9;obtain rfl:=bB H;have aer:0≤((ji4):Int):=aI (by assumption);have aes:(ji4)<(l0.length:Int):=aI (by assumption);obtain⟨afH,e197,ag4,ag5⟩:=tY HR0.o (ji4) aer aes;cases e197;replace aer:=bI aer;replace aes:=bI aes;have aeu:0≤(ZM:Int):=aI (by assumption);have aev:ZM<(l0.length:Int):=aI (by assumption);obtain⟨afI,aie,ag6,ag7⟩:=tY HR0.o ZM aeu aev;obtain rfl:afH=afI:=(by injection aie);replace aeu:=bI aeu;replace aev:=bI aev;go_wp2
           repeat (go_quiet (fail);try go_wp2)
           go_ret;exact⟨by first | rfl | (simp;done)|(simp only[← adK]<;>(first | rfl | simp))|(simp[*];done),by repeat (first | exact pJ.refl _ | apply pJ.step)⟩
          ·rw[av c9] at H;have aeh:decide (((pI l0 ZM).f0)≤((pI l0 (ji4)).f0))=false:=aD c9;clear c9;have H':=Y7 H;clear H;have aer:0≤((ji4):Int):=aI (by assumption);have aes:(ji4)<(l0.length:Int):=aI (by assumption);obtain⟨afH,e197,ag4,ag5⟩:=tY HR0.o (ji4) aer aes;cases e197;replace aer:=bI aer;replace aes:=bI aes;have aeu:0≤(ZM:Int):=aI (by assumption);have aev:ZM<(l0.length:Int):=aI (by assumption);obtain⟨afI,aie,ag6,ag7⟩:=tY HR0.o ZM aeu aev;obtain rfl:afH=afI:=(by injection aie);replace aeu:=bI aeu;replace aev:=bI aev;go_wp2
           repeat (go_quiet (fail);try go_wp2)
           go_roundg k1
           case measure=>have:=HK1.o;omega
           case rel=>exact⟨(wrap64 (ZM+1)),(by first | rfl | (simp;done)|(simp[*];done)),H',⟨by have:=HK1.o;omega⟩,by repeat (first | exact pJ.refl _ | apply pJ.step)⟩
         ·rw[av c8] at H;exact absurd H (by simp)
        ·rw[av c7] at H;exact absurd H (by simp)
       ·rw[av c6] at H;exact absurd H (by simp)
      ·rw[av c5] at H;exact absurd H (by simp)
     ·rw[av c3] at H;have aax:decide (0<ZM)=false:=aD c3;clear c3;have H':=Y7 H;clear H;go_wp2
      repeat (go_quiet (fail);try go_wp2)
      go_roundg k1
      case measure=>have:=HK1.o;omega
      case rel=>exact⟨(wrap64 (ZM+1)),(by first | rfl | (simp;done)|(simp[*];done)),H',⟨by have:=HK1.o;omega⟩,by repeat (first | exact pJ.refl _ | apply pJ.step)⟩
    ·rw[av c2] at H;have aav:decide (ZM<(l0.length:Int))=false:=aD c2;clear c2;obtain rfl:=bB H;go_wp2
     repeat (go_quiet (fail);try go_wp2)
     go_ret;exact⟨by first | rfl | (simp;done)|(simp[*];done)|(simp;decide +kernel),by repeat (first | exact pJ.refl _ | apply pJ.step)⟩
end Go.Proofs.Y.PA
namespace Go.Proofs.Y.G
open Go.RowKit Go.Proofs.YW.oO Go.Proofs.YW.pq Go.Proofs.YW.pz
structure zZ (w:World):Prop where mk::(o:∀ j,j<4→w.cell? ⟨1,j,none⟩=some (.int .u32 (qj.quarter j:Nat)))
theorem zZ.below {w w1:World}(h:zZ w)(hb:Below w.heap.size w w1):zZ w1:=⟨fun j hj=>pW hb (h.o j hj)⟩
def xL.f (s:Int)(l:List Int):Option Int:=if okB l=true∧0≤s∧s<4294967296 then some ((qj.more s.toNat l:Nat):Int) else none
def wG.f (l:List Int):Option Int:=if okB l=true then some ((qj.more 0 l:Nat):Int) else none
theorem TW (l:List Int)(k:Nat)(hk:k<l.length):qj.nat (l.take (k+1))=qj.nat (l.take k)++[(rd l (k:Int)).toNat]:=by
 have e:rd l (k:Int)=l[k]:=by simp[rd,aV,aR hk]
 rw[bQ hk,e];unfold qj.nat;rw[fI];rfl
theorem NA (r:Nat)(l:List Int)(k:Nat)(hk:k<l.length):qj.run r (qj.nat (l.take (k+1)))=qj.eight (qj.run r (qj.nat (l.take k)) ^^^ (rd l (k:Int)).toNat):=by
 rw[TW l k hk,qj.OV];rfl
theorem JZ {l:List Int}(hl:okB l=true)(k:Nat):∀ x∈l.take k,0≤x∧x<256:=fun x hx=>qV.1 hl x (bT hx)
theorem Qs (a b:Nat)(ha:a<4294967296)(hb:b<4294967296):Go.bits .xor .u32 (a:Int) (b:Int)=((a ^^^ b:Nat):Int):=u32_xor_nat a b ha hb
theorem Iw (j:Nat):qj.quarter j<4294967296:=by unfold qj.quarter;split<;>decide
def O9:Nat→Nat→Nat
 | 0,r=>r
 | n+1,r=>qj.two (O9 n r)
theorem XU {r:Nat}(h:r<4294967296):qj.two r<4294967296:=by rw[qj.U6];exact qj.KZ (qj.KZ h)
theorem Qp {r:Nat}(h:r<4294967296):∀ n,O9 n r<4294967296
 | 0=>h
 | n+1=>XU (Qp h n)
theorem YD (r:Nat):O9 4 r=qj.eight r:=qj.Tx r
def MU (n:Int):Int:=Go.bits .xor .u32 4294967295 n
theorem Cj (S:Nat)(h:S<4294967296):MU (S:Int)=((qj.inv S:Nat):Int):=by
 unfold MU;have:=u32_xor_nat 4294967295 S (by omega) h;rw[qj.inv_def];exact this
theorem Da (n:Int):Op.unary .xor (.int .u32 n)=pure (.int .u32 (MU n)):=rfl
attribute [local go_sem high] Da
theorem xL.c (a0:Int)(A1:Option Addr)(c1:Nat)(l1:List Int)(r:Int)(w:World)(hr1:Kd.C (Kd.int .u8) w A1 l1.length l1)(hc1:l1.length≤c1)(hT:zZ w)(h:xL.f a0 l1=some r) :
 Calls Tryz.prog 127 #[.int .u32 a0,.slice A1 l1.length c1] w fun e w'=>e = .returned (.int .u32 r)∧pJ w w':=by
 have HR:=Y7 hr1;have hlen:l1.length≤9223372036854775807:=Kd.Wq hr1;clear hr1 hc1;unfold xL.f at h;split at h
 case isFalse=>cases h
 case isTrue hok=>
 obtain rfl:=bB h;clear h;obtain⟨hb,h0,h1⟩:=hok;obtain⟨S,rfl⟩:=bO h0;rw[aG];have hi:=Cj S (by omega);clear h0
 go_enter Tryz.func127,Tryz.ntmps127
 go_wp2;have hl:(qj.inv S)<4294967296:=qj.KR (by omega)
 go_loop [5,12] (fun r i=>∃ k:Nat,k≤l1.length∧i = .int .i64 k∧r = .int .u32 (qj.run (qj.inv S) (qj.nat (l1.take k)):Nat)) (fun _ i=>l1.length-(intOf i).toNat)
 case atStart=>exact⟨0,bP _,rfl,rfl⟩
 case round=>
  obtain⟨k,hk,rfl,rfl⟩:=hrel
  by_cases hlt:k<l1.length
  ·obtain⟨ad,rfl,hc⟩:=Kd.vw HR.o (k:Int) (by omega) (by omega);rw[aG] at hc;have hx:=qV.1 hb _ (Fu l1 k hlt);have HT:=Y7 (NA (qj.inv S) l1 k hlt);have hR:=qj.IC hl (qj.BA (JZ hb k));generalize qj.run (qj.inv S) (qj.nat (l1.take k))=R at hR HT ⊢;obtain⟨X,hX⟩:=bO hx.1;rw[hX] at hc hx HT;rw[aG] at HT;clear hX;have hw:IntKind.u32.wrap (X:Int)=(X:Int):=by rw[IntKind.wrap_u32];omega
   have adv:=Qs R X hR (by omega);have hL:R ^^^ X<4294967296:=iW (n:=32) hR (by omega);go_wp2;generalize R ^^^ X=Y at hL HT adv ⊢;clear adv hw hc hx hR
   go_loop [5,20] (fun r i=>∃ j:Nat,j≤4∧i = .int .i64 j∧r = .int .u32 (O9 j Y:Nat)) (fun _ i=>4-(intOf i).toNat)
   case atStart=>exact⟨0,by omega,rfl,rfl⟩
   case round=>
    obtain⟨j,hj,rfl,rfl⟩:=hrel;have hT':=Qp hL j
    by_cases hj4:j<4
    ·have HN:oM (O9 (j+1) Y=qj.two (O9 j Y)):=⟨rfl⟩;generalize O9 j Y=Z at hT' HN ⊢;have hq:=hT.o (Z % 4) (gG _ (by omega));have ha:Go.bits .and .u32 (Z:Int) 3=((Z % 4:Nat):Int):=by
      rw[show (3:Int)=((3:Nat):Int) from rfl,u32_and_nat Z 3 hT' (by omega),nat_mask2]
     have adv:Go.bits .xor .u32 ((Z:Int) / 4) ((qj.quarter (Z % 4):Nat):Int)=((qj.two Z:Nat):Int):=by
      rw[show (Z:Int) / 4=((Z / 4:Nat):Int) from by omega];exact Qs (Z / 4) (qj.quarter (Z % 4)) (by omega) (Iw _)
     generalize qj.two Z=M at adv HN;have hi4:Z % 4<4:=gG _ (by omega);have hq4:=Iw (Z % 4);generalize qj.quarter (Z % 4)=q at hq adv hq4;generalize Z % 4=i at hq ha hi4;have h0:(0:Int)≤(i:Int):=by omega
     have h4:(i:Int)<4:=by omega
     have HH:=Y7 hq4;have HZ:=Y7 hT';clear hi4 hq4 hT' hL h1 hl hi hj;go_wp2
     go_round
     case rel=>exact⟨j+1,by omega,by go_num,by rw[HN.o]⟩
     case measure=>simp[intOf];omega
    ·obtain rfl:j=4:=by omega
     go_wp2
     go_round
     case rel=>exact⟨k+1,by omega,by go_num,by rw[HT.o,YD]⟩
     case measure=>simp[intOf];omega
  ·obtain rfl:k=l1.length:=by omega
   have hfin:MU ((qj.run (qj.inv S) (qj.nat l1):Nat):Int)=((qj.more S l1:Nat):Int):=Cj _ (qj.IC hl (qj.BA (qV.1 hb)));go_wp2;go_ret;exact⟨rfl,pJ.refl _⟩
theorem wG.c (A0:Option Addr)(c0:Nat)(l0:List Int)(r:Int)(w:World)(hr0:Kd.C (Kd.int .u8) w A0 l0.length l0)(hc0:l0.length≤c0)(hT:zZ w)(h:wG.f l0=some r) :
 Calls Tryz.prog 96 #[.slice A0 l0.length c0] w fun e w'=>e = .returned (.int .u32 r)∧pJ w w':=by
 have hm:xL.f 0 l0=some r:=by
  unfold wG.f at h;unfold xL.f;split at h
  ·rename_i hb;rw[au ⟨hb,by omega,by omega⟩];exact h
  ·cases h
 have HR:=Y7 hr0;have HM:=Y7 hm;have HC:=Y7 hc0;clear hr0 hm hc0 h
 go_enter Tryz.func96,Tryz.ntmps96
 go_wp2_with fail
 refine (xL.c _ _ _ _ _ _ HR.o HC.o hT HM.o).mono ?_;rintro e w1 ⟨rfl,⟨n1,rfl⟩⟩;go_wp2;go_ret;exact⟨rfl,⟨n1,rfl⟩⟩
theorem wG.qM {n:Nat}(A0:Option Addr)(c0:Nat)(l0:List Int)(r:Int)(w:World)(hn:l0.length=n)(hr0:Kd.C (Kd.int .u8) w A0 n l0)(hc0:n≤c0)(hT:zZ w)(h:wG.f l0=some r) :
 Calls Tryz.prog 96 #[.slice A0 n c0] w fun e w'=>e = .returned (.int .u32 r)∧pJ w w':=by
 subst hn;exact wG.c A0 c0 l0 r w hr0 hc0 hT h
attribute [local go_sem high] Da
def uQ.f (s:Int)(l:List Int):Option Int:=xL.f s l
def vY.f (l:List Int):Option Int:=wG.f l
def ones:Nat→Nat→Nat
 | 0,r=>r
 | n+1,r=>qj.one (ones n r)
theorem Gx {r:Nat}(h:r<4294967296):∀ n,ones n r<4294967296
 | 0=>h
 | n+1=>qj.KZ (Gx h n)
theorem Yr (r:Nat):ones 8 r=qj.eight r:=rfl
theorem uQ.c (a0:Int)(A1:Option Addr)(c1:Nat)(l1:List Int)(r:Int)(w:World)(hr1:Kd.C (Kd.int .u8) w A1 l1.length l1)(hc1:l1.length≤c1)(h:uQ.f a0 l1=some r) :
 Calls Tryz.prog 98 #[.int .u32 a0,.slice A1 l1.length c1] w fun e w'=>e = .returned (.int .u32 r)∧pJ w w':=by
 have HR:=Y7 hr1;have hlen:l1.length≤9223372036854775807:=Kd.Wq hr1;clear hr1 hc1;unfold uQ.f xL.f at h;split at h
 case isFalse=>cases h
 case isTrue hok=>
 obtain rfl:=bB h;clear h;obtain⟨hb,h0,h1⟩:=hok;obtain⟨S,rfl⟩:=bO h0;rw[aG];have hi:=Cj S (by omega);clear h0
 go_enter Tryz.func98,Tryz.ntmps98
 go_wp2;have hl:(qj.inv S)<4294967296:=qj.KR (by omega)
 go_loop [5,13] (fun r i=>∃ k:Nat,k≤l1.length∧i = .int .i64 k∧r = .int .u32 (qj.run (qj.inv S) (qj.nat (l1.take k)):Nat)) (fun _ i=>l1.length-(intOf i).toNat)
 case atStart=>exact⟨0,bP _,rfl,rfl⟩
 case round=>
  obtain⟨k,hk,rfl,rfl⟩:=hrel
  by_cases hlt:k<l1.length
  ·obtain⟨ad,rfl,hc⟩:=Kd.vw HR.o (k:Int) (by omega) (by omega);rw[aG] at hc;have hx:=qV.1 hb _ (Fu l1 k hlt);have HT:=Y7 (NA (qj.inv S) l1 k hlt);have hR:=qj.IC hl (qj.BA (JZ hb k));generalize qj.run (qj.inv S) (qj.nat (l1.take k))=R at hR HT ⊢;obtain⟨X,hX⟩:=bO hx.1;rw[hX] at hc hx HT;rw[aG] at HT;clear hX;have hw:IntKind.u32.wrap (X:Int)=(X:Int):=by rw[IntKind.wrap_u32];omega
   have adv:=Qs R X hR (by omega);have hL:R ^^^ X<4294967296:=iW (n:=32) hR (by omega);go_wp2;generalize R ^^^ X=Y at hL HT adv ⊢;clear adv hw hc hx hR
   go_loop [5,21] (fun r i=>∃ j:Nat,j≤8∧i = .int .i64 j∧r = .int .u32 (ones j Y:Nat)) (fun _ i=>8-(intOf i).toNat)
   case atStart=>exact⟨0,by omega,rfl,rfl⟩
   case round=>
    obtain⟨j,hj,rfl,rfl⟩:=hrel;have hT':=Gx hL j
    by_cases hj4:j<8
    ·have HN:oM (ones (j+1) Y=qj.one (ones j Y)):=⟨rfl⟩;generalize ones j Y=Z at hT' HN ⊢;have ha:Go.bits .and .u32 (Z:Int) 1=((Z % 2:Nat):Int):=by
      rw[show (1:Int)=((1:Nat):Int) from rfl,u32_and_nat Z 1 hT' (by omega),nat_mask1]
     by_cases hp:Z % 2=1
     ·have adv:Go.bits .xor .u32 ((Z:Int) / 2) 2197175160=((qj.one Z:Nat):Int):=by
       rw[show (Z:Int) / 2=((Z / 2:Nat):Int) from by omega];have:=Qs (Z / 2) 2197175160 (by omega) (by omega);unfold qj.one;rw[au hp];exact this
      rw[hp] at ha;generalize qj.one Z=M at adv HN;have HZ:=Y7 hT';clear hT' hL h1 hl hi hj hp;go_wp2
      go_round
      case rel=>exact⟨j+1,by omega,by go_num,by rw[HN.o]⟩
      case measure=>simp[intOf];omega
     ·have h0:Z % 2=0:=by omega
      have hone:(Z:Int) / 2=((qj.one Z:Nat):Int):=by
       unfold qj.one;rw[av hp,Nat.xor_zero];omega
      rw[h0] at ha;generalize qj.one Z=M at hone HN;have HZ:=Y7 hT';clear hT' hL h1 hl hi hj hp h0;go_wp2
      go_round
      case rel=>exact⟨j+1,by omega,by go_num,by rw[HN.o]⟩
      case measure=>simp[intOf];omega
    ·obtain rfl:j=8:=by omega
     go_wp2
     go_round
     case rel=>exact⟨k+1,by omega,by go_num,by rw[HT.o,Yr]⟩
     case measure=>simp[intOf];omega
  ·obtain rfl:k=l1.length:=by omega
   have hfin:MU ((qj.run (qj.inv S) (qj.nat l1):Nat):Int)=((qj.more S l1:Nat):Int):=Cj _ (qj.IC hl (qj.BA (qV.1 hb)));go_wp2;go_ret;exact⟨rfl,pJ.refl _⟩
theorem vY.c (A0:Option Addr)(c0:Nat)(l0:List Int)(r:Int)(w:World)(hr0:Kd.C (Kd.int .u8) w A0 l0.length l0)(hc0:l0.length≤c0)(h:vY.f l0=some r) :
 Calls Tryz.prog 66 #[.slice A0 l0.length c0] w fun e w'=>e = .returned (.int .u32 r)∧pJ w w':=by
 have hm:uQ.f 0 l0=some r:=by
  unfold vY.f wG.f at h;unfold uQ.f xL.f;split at h
  ·rename_i hb;rw[au ⟨hb,by omega,by omega⟩];exact h
  ·cases h
 have HR:=Y7 hr0;have HM:=Y7 hm;have HC:=Y7 hc0;clear hr0 hm hc0 h
 go_enter Tryz.func66,Tryz.ntmps66
 go_wp2_with fail
 refine (uQ.c _ _ _ _ _ _ HR.o HC.o HM.o).mono ?_;rintro e w1 ⟨rfl,⟨n1,rfl⟩⟩;go_wp2;go_ret;exact⟨rfl,⟨n1,rfl⟩⟩
end Go.Proofs.Y.G
