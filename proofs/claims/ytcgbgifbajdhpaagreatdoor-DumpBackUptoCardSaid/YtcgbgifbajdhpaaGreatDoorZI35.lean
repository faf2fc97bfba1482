/- Of the law rZIQDumpBack. -/
import Derived.Test.YtcgbgifbajdhpaaGreatDoorZI33
import Derived.Test.YtcgbgifbajdhpaaGreatDoorZI27
import Derived.Test.YtcgbgifbajdhpaaGreatDoorZI22
set_option linter.unusedVariables false
set_option linter.unusedSimpArgs false
set_option maxHeartbeats 8000000
set_option maxRecDepth 100000
namespace Go.Proofs.Y.PA
open Go.RowKit Go.Proofs.Y.G Go.Proofs.YW.o7 Go.Proofs.YW.pJ Go.Proofs.YW.pO
theorem Jv (l:List qC)(hl:l.length≤1000000):∀ d i,i+1+d=l.length→∀ k,d<k→qI.l0 k l (l.length:Int) ((i+1:Nat):Int)=some (((List.range d).all fun q=>decide ((pV l ((i+q:Nat):Int)).f0<(pV l ((i+q+1:Nat):Int)).f0))&&decide (l.length≤65535))
 | 0,i,h,k+1,hk=>by
   unfold qI.l0;rw[aK (by omega)];simp;omega
 | d+1,i,h,k+1,hk=>by
   unfold qI.l0;have e1:wrap64 (((i+1:Nat):Int)-1)=((i:Nat):Int):=by rw[yM (by omega) (by omega)];omega
   have e2:wrap64 (((i+1:Nat):Int)+1)=((i+1+1:Nat):Int):=by rw[yM (by omega) (by omega)];omega
   rw[ak (by omega),ak (by omega),e1,ak (by omega),ak (by omega),ak (by omega),ak (by omega),e2,l9,mo,oW]
   by_cases hh:(pV l ((i:Nat):Int)).f0≥(pV l ((i+1:Nat):Int)).f0
   ·rw[ak hh];have h2:¬ (pV l ((i:Nat):Int)).f0<(pV l ((i+1:Nat):Int)).f0:=by omega
    have e3:decide ((pV l ((i+0:Nat):Int)).f0<(pV l ((i+0+1:Nat):Int)).f0)=false:=aN h2;rw[e3,kS,kS]
   ·rw[aK hh,Jv l hl d (i+1) (by omega) k (by omega)];have h2:(pV l ((i:Nat):Int)).f0<(pV l ((i+1:Nat):Int)).f0:=by omega
    have e3:decide ((pV l ((i+0:Nat):Int)).f0<(pV l ((i+0+1:Nat):Int)).f0)=true:=aM h2;rw[e3,jl];congr 3
    funext q
    simp only[Function.comp,show i+1+q=i+(q+1) by omega,ny]
theorem W9 (l:List qC)(hl:l.length≤1000000)(k:Nat)(hk:l.length+1<k):qI.f k l=some (uZ l):=by
 unfold qI.f uZ;obtain⟨k,rfl⟩:∃ k',k=k'+1:=⟨k-1,by omega⟩
 by_cases h:0<l.length
 ·have:=Jv l hl (l.length-1) 0 (by omega) k (by omega);simp only[dX] at this;unfold qI.l0;rw[ak (by omega),aK (by omega)];exact (show wrap64 (0+1)=((1:Nat):Int) from yM (by decide) (by decide)) ▸ this
 ·unfold qI.l0;rw[aK (by omega),show l.length-1=0 by omega];simp;omega
def Bd (x:qJ):Bool:=rF x.f0&&(!decide (x.f1.length=0)&&uZ x.f1)
def IC (l:List qJ)(k:Nat):Bool:=Bd (pK l (k:Int))&&(decide (k=0)||decide (cmpL (pK l ((k-1:Nat):Int)).f0 (pK l (k:Int)).f0<0))
def uH (l:List qJ):Bool:=(List.range l.length).all (IC l)
theorem Lf {l:List qJ}{k:Nat}(hk:k<l.length)(h:IC l k=false):uH l=false:=by
 rw[uH,List.all_eq_false];exact⟨k,List.mem_range.2 hk,by rw[h];simp⟩
theorem Fa {l:List qJ}(h:∀ j,j<l.length→IC l j=true):uH l=true:=by
 rw[uH];simp only[iq,jL];exact h
theorem F9 {l:List qJ}(h:uH l=true):∀ j,j<l.length→IC l j=true:=by
 rw[uH] at h
 simpa only[iq,jL] using h
theorem zB {l:List qJ}{k:Nat}(h:Bd (pK l (k:Int))=false):IC l k=false:=by rw[IC,h];rfl
theorem GX {l:List qJ}(h:Bd (pK l ((0:Nat):Int))=true):IC l 0=true:=by rw[IC,h];rfl
theorem Mk {l:List qJ}{k:Nat}(h:Bd (pK l ((k+1:Nat):Int))=true):IC l (k+1)=decide (cmpL (pK l (k:Int)).f0 (pK l ((k+1:Nat):Int)).f0<0):=by
 rw[IC,h];simp
theorem Ic {l:List qJ}{k:Nat}(h:∀ j,j<k→IC l j=true)(hk:IC l k=true):∀ j,j<k+1→IC l j=true:=fun j hj=>by
 rcases eH j k with h1 | h1
 ·exact h j h1
 ·obtain rfl:j=k:=by omega
  exact hk
theorem JZ {x:qJ}(h:rF x.f0=false):Bd x=false:=by rw[Bd,h];rfl
theorem J2 {x:qJ}(h:x.f1.length=0):Bd x=false:=by rw[Bd,aM h];simp
theorem J3 {x:qJ}(h:uZ x.f1=false):Bd x=false:=by rw[Bd,h];simp
theorem Am {x:qJ}(h:rF x.f0=true)(h0:¬ x.f1.length=0)(h1:uZ x.f1=true):Bd x=true:=by rw[Bd,h,h1,aN h0];rfl
theorem yJ (l:List qJ)(k:Nat)(h:k<l.length):pK l (k:Int)∈l:=by
 have e:pK l (k:Int)=l[k]:=by simp[pK,bn,aQ h]
 rw[e];exact eF h
def KL (l:List qJ):Prop:=∀ x∈l,Ml x.f0∧x.f0.length≤1000000∧x.f1.length≤1000000∧∀ s∈x.f1,Dn s
theorem OM.c (A:Option Addr)(c n:Nat)(l:List qC)(b:Bool)(w:World)(hn:l.length=n)(hr:Kd.C vk w A n l)(hc:n≤c)(hl:n≤1000000)(h:uZ l=b) :
 Calls Tryz.prog 88 #[.slice A n c] w fun e w'=>e = .returned (.bool b)∧Below w.heap.size w w':=by
 subst hn;exact (rG.c (l.length+2) A c l b w hr hc (by rw[R7 l (by omega) _ (by omega),h])).mono fun e w' ⟨he,hd⟩=>⟨he,hd.below⟩
theorem Ky.c (A:Option Addr)(c n:Nat)(l:List qC)(b:Bool)(w:World)(hn:l.length=n)(hr:Kd.C vk w A n l)(hc:n≤c)(hl:n≤1000000)(h:uZ l=b) :
 Calls Tryz.prog 68 #[.slice A n c] w fun e w'=>e = .returned (.bool b)∧Below w.heap.size w w':=by
 subst hn;exact (qI.c (l.length+2) A c l b w hr hc (by rw[W9 l (by omega) _ (by omega),h])).mono fun e w' ⟨he,hd⟩=>⟨he,hd.below⟩
theorem rF.qP (A:Option Addr)(c n:Nat)(l:List rW)(b:Bool)(w:World)(hn:l.length=n)(hr:Kd.C wE w A n l)(hc:n≤c)(h:rF l=b) :
 Calls Tryz.prog 87 #[.slice A n c] w fun e w'=>e = .returned (.bool b)∧Below w.heap.size w w':=h ▸ rF.c A c n l w hn hr hc
theorem Ju.qP (A:Option Addr)(c n:Nat)(l:List rW)(b:Bool)(w:World)(hn:l.length=n)(hr:Kd.C wE w A n l)(hc:n≤c)(hok:Ml l)(h:rF l=b) :
 Calls Tryz.prog 67 #[.slice A n c] w fun e w'=>e = .returned (.bool b)∧Below w.heap.size w w':=h ▸ Ju.c A c n l w hn hr hc hok
theorem uH.c (A:Option Addr)(c n:Nat)(l:List qJ)(w:World)(hn:l.length=n)(hr:Kd.C yD w A n l)(hc:n≤c)(hok:KL l)(hl:n≤1000000) :
 Calls Tryz.prog 53 #[.slice A n c] w fun e w'=>e = .returned (.bool (uH l))∧Below w.heap.size w w':=by
 subst hn;have HR:=Yu hr;have HK:=Yu hok;clear hr hc hok
 go_enter Tryz.func53,Tryz.ntmps53
 go_wp2
 go_loopw [7] (fun i wr=>∃ (k:Nat),k≤l.length∧i = .int .i64 k∧oZ (∀ j,j<k→IC l j=true)∧oZ (Below w.heap.size w wr)) (fun i _=>l.length-(intOf i).toNat)
 case atStart=>exact⟨0,bV _,rfl,⟨fun j hj=>by omega⟩,⟨bq _ _⟩⟩
 case round=>
  obtain⟨k,hk,rfl,HO,HB⟩:=hrel
  by_cases hlt:k<l.length
  ·have hC:=Kd.pI HR.o HB.o;obtain⟨ad,A0,c0,A1,c1,rfl,e0,e1,l0,g0,l1,g1⟩:=uY hC (k:Int) (by omega) (by omega);rw[bf] at e0 e1;have HBAD:=Yu (fun h=>Lf (l:=l) (k:=k) hlt h);have HS:=Yu (fun h=>Ic (l:=l) (k:=k) HO.o h);have HSZ:=Yu (HK.o _ (yJ l k hlt));cases k with
   | zero=>
     obtain⟨x,ex⟩:∃ x,pK l ((0:Nat):Int)=x:=⟨_,rfl⟩;have EX:=Yu ex;rw[ex] at e0 e1 HSZ g0 l0 g1 l1;have G0:=Yu g0;have L0:=Yu l0;have G1:=Yu g1;have L1:=Yu l1;clear hC ex g0 l0 g1 l1;have e0z:wr.cell? ad=some (.slice A0 x.f0.length c0):=by simpa [Addr.add] using e0
     have e1z:wr.cell? ⟨ad.block,ad.off+1,none⟩=some (.slice A1 x.f1.length c1):=by simpa [Addr.add] using e1
     clear e0 e1;have HBA:=Yu (o8 HB.o (.cells #[.slice A0 x.f0.length c0,.slice A1 x.f1.length c1] 51 (0,0)));have HBK:=Yu (qG wr (.cells #[.slice A0 x.f0.length c0,.slice A1 x.f1.length c1] 51 (0,0)));have HW:=Yu (o8 (bq wr.heap.size wr) (.cells #[.slice A0 x.f0.length c0,.slice A1 x.f1.length c1] 51 (0,0)));have hxl:x.f1.length≤1000000:=HSZ.o.2.2.1;cases h1:rF x.f0 with
     | false=>
       have HF:oZ (uH l=false):=⟨HBAD.o (zB (EX.o ▸ JZ h1))⟩;have C1:=Yu (fun W (hb:Below wr.heap.size wr W)=>rF.qP A0 c0 _ x.f0 false W rfl (Kd.pI G0.o hb) L0.o h1);clear h1
       go_wp2_with (first|(go_at_call 87;(with_reducible refine (C1.o _ HW.o).mono ?_);rintro e w1 ⟨rfl,hb⟩;have HB1:=Yu (o9 HBA.o hb);have HW1:=Yu (o9 HW.o hb);have Y0:=Yu (pG HBK.o hb);have b1:=(pq Y0.o 1).trans rfl;clear hb))
       go_wp2;go_ret;exact⟨by rw[HF.o];rfl,HB1.o⟩
     | true=>
       have C1:=Yu (fun W (hb:Below wr.heap.size wr W)=>rF.qP A0 c0 _ x.f0 true W rfl (Kd.pI G0.o hb) L0.o h1)
       by_cases h2:x.f1.length=0
       ·have HF:oZ (uH l=false):=⟨HBAD.o (zB (EX.o ▸ J2 h2))⟩;have h2i:((x.f1.length:Int)==0)=true:=beq_iff_eq.2 (by omega);clear h1 h2
        go_wp2_with (first|(go_at_call 87;(with_reducible refine (C1.o _ HW.o).mono ?_);rintro e w1 ⟨rfl,hb⟩;have HB1:=Yu (o9 HBA.o hb);have HW1:=Yu (o9 HW.o hb);have Y0:=Yu (pG HBK.o hb);have b1:=(pq Y0.o 1).trans rfl;clear hb))
        go_wp2;go_ret;exact⟨by rw[HF.o];rfl,HB1.o⟩
       ·have h2i:((x.f1.length:Int)==0)=false:=beq_eq_false_iff_ne.2 (by omega);cases h3:uZ x.f1 with
        | false=>
          have HF:oZ (uH l=false):=⟨HBAD.o (zB (EX.o ▸ J3 h3))⟩;have C2:=Yu (fun W (hb:Below wr.heap.size wr W)=>OM.c A1 c1 _ x.f1 false W rfl (Kd.pI G1.o hb) L1.o HSZ.o.2.2.1 h3);clear h1 h2 h3
          go_wp2_with (first|(go_at_call 87;(with_reducible refine (C1.o _ HW.o).mono ?_);rintro e w1 ⟨rfl,hb⟩;have HB1:=Yu (o9 HBA.o hb);have HW1:=Yu (o9 HW.o hb);have Y0:=Yu (pG HBK.o hb);have b1:=(pq Y0.o 1).trans rfl;clear hb)|(go_at_call 88;(with_reducible refine (C2.o _ HW1.o).mono ?_);rintro e w2 ⟨rfl,hb⟩;have HB2:=Yu (o9 HB1.o hb);have HW2:=Yu (o9 HW1.o hb);have Z4:=Yu (pG Y0.o hb);clear hb))
          go_wp2;go_ret;exact⟨by rw[HF.o];rfl,HB2.o⟩
        | true=>
          have C2:=Yu (fun W (hb:Below wr.heap.size wr W)=>OM.c A1 c1 _ x.f1 true W rfl (Kd.pI G1.o hb) L1.o HSZ.o.2.2.1 h3);have HG:=Yu (HS.o (GX (EX.o ▸ Am h1 h2 h3)));clear h1 h2 h3
          go_wp2_with (first|(go_at_call 87;(with_reducible refine (C1.o _ HW.o).mono ?_);rintro e w1 ⟨rfl,hb⟩;have HB1:=Yu (o9 HBA.o hb);have HW1:=Yu (o9 HW.o hb);have Y0:=Yu (pG HBK.o hb);have b1:=(pq Y0.o 1).trans rfl;clear hb)|(go_at_call 88;(with_reducible refine (C2.o _ HW1.o).mono ?_);rintro e w2 ⟨rfl,hb⟩;have HB2:=Yu (o9 HB1.o hb);have HW2:=Yu (o9 HW1.o hb);have Z4:=Yu (pG Y0.o hb);clear hb))
          have aA:=BW.cell ((pq Z4.o 0).trans rfl)
          go_wp2_with fail
          refine qL (by kernel_rfl) (by kernel_rfl) ?_
          repeat (any_goals (first | go_big_quiet_step (fail)|quiet_step (fail)))
          all_goals (refine fD ?_;intro _ hw';obtain⟨⟨w3,hb⟩,hw''⟩:=hw';subst hw'';have HB3:=Yu (o9 HB2.o hb);clear hb)
          go_wp2
          go_roundw
          case rel=>exact⟨0+1,by omega,by go_num,HG,HB3⟩
          case measure=>simp[intOf]<;>omega
   | succ k=>
     obtain⟨ad_,B0,d0,B1,d1,ea,q0,q1,m0,n0,m1,n1⟩:=uY hC ((k:Nat):Int) (by omega) (by omega);obtain rfl:=bE ea;rw[bf] at q0 q1;have HSY:=Yu (HK.o _ (yJ l k (by omega)));obtain⟨x,ex⟩:∃ x,pK l ((k+1:Nat):Int)=x:=⟨_,rfl⟩;obtain⟨y,ey⟩:∃ y,pK l ((k:Nat):Int)=y:=⟨_,rfl⟩;have EY:=Yu ey;rw[ey] at q0 q1 n0 m0 HSY;have N0:=Yu n0;have M0:=Yu m0;clear n0 m0 m1 n1 q1;have EX:=Yu ex;rw[ex] at e0 e1 HSZ g0 l0 g1 l1;have G0:=Yu g0;have L0:=Yu l0;have G1:=Yu g1;have L1:=Yu l1;clear hC ex g0 l0 g1 l1 ey ea;have HBA:=Yu (o8 HB.o (.cells #[.slice A0 x.f0.length c0,.slice A1 x.f1.length c1] 51 (0,0)));have HBK:=Yu (qG wr (.cells #[.slice A0 x.f0.length c0,.slice A1 x.f1.length c1] 51 (0,0)));have HW:=Yu (o8 (bq wr.heap.size wr) (.cells #[.slice A0 x.f0.length c0,.slice A1 x.f1.length c1] 51 (0,0)));have hxl:x.f1.length≤1000000:=HSZ.o.2.2.1;have q0a:=xw (.cells #[.slice A0 x.f0.length c0,.slice A1 x.f1.length c1] 51 (0,0)) q0;rw[show ((k+1:Nat):Int)=(k:Int)+1 from by omega] at *;have gg0:decide ((0:Int)<(k:Int)+1)=true:=aM (by omega);have hwk:IntKind.i64.wrap ((k:Int)+1-1)=(k:Int):=by rw[bI];omega
     have gg1:(0:Int)≤(k:Int):=by omega
     have gg2:(k:Int)<(l.length:Int):=by omega
     cases h1:rF x.f0 with
     | false=>
       have HF:oZ (uH l=false):=⟨HBAD.o (zB (EX.o ▸ JZ h1))⟩;have C1:=Yu (fun W (hb:Below wr.heap.size wr W)=>rF.qP A0 c0 _ x.f0 false W rfl (Kd.pI G0.o hb) L0.o h1);clear h1
       go_wp2_with (first|(go_at_call 87;(with_reducible refine (C1.o _ HW.o).mono ?_);rintro e w1 ⟨rfl,hb⟩;have HB1:=Yu (o9 HBA.o hb);have HW1:=Yu (o9 HW.o hb);have Y0:=Yu (pG HBK.o hb);have b1:=(pq Y0.o 1).trans rfl;clear hb))
       go_wp2;go_ret;exact⟨by rw[HF.o];rfl,HB1.o⟩
     | true=>
       have C1:=Yu (fun W (hb:Below wr.heap.size wr W)=>rF.qP A0 c0 _ x.f0 true W rfl (Kd.pI G0.o hb) L0.o h1)
       by_cases h2:x.f1.length=0
       ·have HF:oZ (uH l=false):=⟨HBAD.o (zB (EX.o ▸ J2 h2))⟩;have h2i:((x.f1.length:Int)==0)=true:=beq_iff_eq.2 (by omega);clear h1 h2
        go_wp2_with (first|(go_at_call 87;(with_reducible refine (C1.o _ HW.o).mono ?_);rintro e w1 ⟨rfl,hb⟩;have HB1:=Yu (o9 HBA.o hb);have HW1:=Yu (o9 HW.o hb);have Y0:=Yu (pG HBK.o hb);have b1:=(pq Y0.o 1).trans rfl;clear hb))
        go_wp2;go_ret;exact⟨by rw[HF.o];rfl,HB1.o⟩
       ·have h2i:((x.f1.length:Int)==0)=false:=beq_eq_false_iff_ne.2 (by omega);cases h3:uZ x.f1 with
        | false=>
          have HF:oZ (uH l=false):=⟨HBAD.o (zB (EX.o ▸ J3 h3))⟩;have C2:=Yu (fun W (hb:Below wr.heap.size wr W)=>OM.c A1 c1 _ x.f1 false W rfl (Kd.pI G1.o hb) L1.o HSZ.o.2.2.1 h3);clear h1 h2 h3
          go_wp2_with (first|(go_at_call 87;(with_reducible refine (C1.o _ HW.o).mono ?_);rintro e w1 ⟨rfl,hb⟩;have HB1:=Yu (o9 HBA.o hb);have HW1:=Yu (o9 HW.o hb);have Y0:=Yu (pG HBK.o hb);have b1:=(pq Y0.o 1).trans rfl;clear hb)|(go_at_call 88;(with_reducible refine (C2.o _ HW1.o).mono ?_);rintro e w2 ⟨rfl,hb⟩;have HB2:=Yu (o9 HB1.o hb);have HW2:=Yu (o9 HW1.o hb);have Z4:=Yu (pG Y0.o hb);clear hb))
          go_wp2;go_ret;exact⟨by rw[HF.o];rfl,HB2.o⟩
        | true=>
          have C2:=Yu (fun W (hb:Below wr.heap.size wr W)=>OM.c A1 c1 _ x.f1 true W rfl (Kd.pI G1.o hb) L1.o HSZ.o.2.2.1 h3);have HQ:=Mk (l:=l) (k:=k) (by rw[show ((k+1:Nat):Int)=(k:Int)+1 from by omega,EX.o];exact Am h1 h2 h3);rw[show ((k+1:Nat):Int)=(k:Int)+1 from by omega,EX.o,EY.o] at HQ;have C3:=Yu (fun W (hb:Below wr.heap.size wr W)=>cmpL.c B0 A0 d0 c0 _ _ y.f0 x.f0 W rfl rfl (Kd.pI N0.o hb) (Kd.pI G0.o hb) HSY.o.2.1);clear h1 h2 h3
          by_cases hd:cmpL y.f0 x.f0<0
          ·have HG:=Yu (HS.o (by rw[HQ,aM hd]));have hd1:decide ((0:Int)≤cmpL y.f0 x.f0)=false:=aN (by omega);clear HQ hd
           go_wp2_with (first|(go_at_call 87;(with_reducible refine (C1.o _ HW.o).mono ?_);rintro e w1 ⟨rfl,hb⟩;have HB1:=Yu (o9 HBA.o hb);have HW1:=Yu (o9 HW.o hb);have Y0:=Yu (pG HBK.o hb);have b1:=(pq Y0.o 1).trans rfl;clear hb)|(go_at_call 88;(with_reducible refine (C2.o _ HW1.o).mono ?_);rintro e w2 ⟨rfl,hb⟩;have HB2:=Yu (o9 HB1.o hb);have HW2:=Yu (o9 HW1.o hb);have Z4:=Yu (pG Y0.o hb);clear hb))
           have aA:=BW.cell ((pq Z4.o 0).trans rfl);have pA:=BW.cell (qm HW2.o q0)
           go_wp2_with fail
           refine qL (by kernel_rfl) (by kernel_rfl) ?_
           repeat (any_goals (first | go_big_quiet_step ((go_at_call 71;refine qQ (C3.o _ ?_);exact o9 HW2.o (BW.hb _)))|quiet_step ((go_at_call 71;refine qQ (C3.o _ ?_);exact o9 HW2.o (BW.hb _)))))
           all_goals (refine fD ?_;intro _ hw';obtain⟨⟨w3,hb⟩,hw''⟩:=hw';subst hw'';have HB3:=Yu (o9 HB2.o hb);clear hb)
           go_wp2
           go_roundw
           case rel=>exact⟨k+1+1,by omega,by go_num,HG,HB3⟩
           case measure=>simp[intOf]<;>omega
          ·have HF:oZ (uH l=false):=⟨HBAD.o (by rw[HQ,aN hd])⟩;have hd1:decide ((0:Int)≤cmpL y.f0 x.f0)=true:=aM (by omega);clear HQ hd
           go_wp2_with (first|(go_at_call 87;(with_reducible refine (C1.o _ HW.o).mono ?_);rintro e w1 ⟨rfl,hb⟩;have HB1:=Yu (o9 HBA.o hb);have HW1:=Yu (o9 HW.o hb);have Y0:=Yu (pG HBK.o hb);have b1:=(pq Y0.o 1).trans rfl;clear hb)|(go_at_call 88;(with_reducible refine (C2.o _ HW1.o).mono ?_);rintro e w2 ⟨rfl,hb⟩;have HB2:=Yu (o9 HB1.o hb);have HW2:=Yu (o9 HW1.o hb);have Z4:=Yu (pG Y0.o hb);clear hb))
           have aA:=BW.cell ((pq Z4.o 0).trans rfl);have pA:=BW.cell (qm HW2.o q0)
           go_wp2_with fail
           refine qL (by kernel_rfl) (by kernel_rfl) ?_
           repeat (any_goals (first | go_big_quiet_step ((go_at_call 71;refine qQ (C3.o _ ?_);exact o9 HW2.o (BW.hb _)))|quiet_step ((go_at_call 71;refine qQ (C3.o _ ?_);exact o9 HW2.o (BW.hb _)))))
           all_goals (refine fD ?_;intro _ hw';obtain⟨⟨w3,hb⟩,hw''⟩:=hw';subst hw'';have HB3:=Yu (o9 HB2.o hb);clear hb)
           go_wp2;go_ret;exact⟨by rw[HF.o];rfl,HB3.o⟩
  ·obtain rfl:k=l.length:=by omega
   have HF:oZ (uH l=true):=⟨Fa HO.o⟩;go_wp2;go_ret;exact⟨by rw[HF.o];rfl,HB.o⟩
theorem XR.c (A:Option Addr)(c n:Nat)(l:List qJ)(w:World)(hn:l.length=n)(hr:Kd.C yD w A n l)(hc:n≤c)(hok:KL l)(hl:n≤1000000) :
 Calls Tryz.prog 35 #[.slice A n c] w fun e w'=>e = .returned (.bool (uH l))∧Below w.heap.size w w':=by
 subst hn;have HR:=Yu hr;have HK:=Yu hok;clear hr hc hok
 go_enter Tryz.func35,Tryz.ntmps35
 go_wp2
 go_loopw [7] (fun i wr=>∃ (k:Nat),k≤l.length∧i = .int .i64 k∧oZ (∀ j,j<k→IC l j=true)∧oZ (Below w.heap.size w wr)) (fun i _=>l.length-(intOf i).toNat)
 case atStart=>exact⟨0,bV _,rfl,⟨fun j hj=>by omega⟩,⟨bq _ _⟩⟩
 case round=>
  obtain⟨k,hk,rfl,HO,HB⟩:=hrel
  by_cases hlt:k<l.length
  ·have hC:=Kd.pI HR.o HB.o;obtain⟨ad,A0,c0,A1,c1,rfl,e0,e1,l0,g0,l1,g1⟩:=uY hC (k:Int) (by omega) (by omega);rw[bf] at e0 e1;have HBAD:=Yu (fun h=>Lf (l:=l) (k:=k) hlt h);have HS:=Yu (fun h=>Ic (l:=l) (k:=k) HO.o h);have HSZ:=Yu (HK.o _ (yJ l k hlt));cases k with
   | zero=>
     obtain⟨x,ex⟩:∃ x,pK l ((0:Nat):Int)=x:=⟨_,rfl⟩;have EX:=Yu ex;rw[ex] at e0 e1 HSZ g0 l0 g1 l1;have G0:=Yu g0;have L0:=Yu l0;have G1:=Yu g1;have L1:=Yu l1;clear hC ex g0 l0 g1 l1;have e0z:wr.cell? ad=some (.slice A0 x.f0.length c0):=by simpa [Addr.add] using e0
     have e1z:wr.cell? ⟨ad.block,ad.off+1,none⟩=some (.slice A1 x.f1.length c1):=by simpa [Addr.add] using e1
     clear e0 e1;have HBA:=Yu (o8 HB.o (.cells #[.slice A0 x.f0.length c0,.slice A1 x.f1.length c1] 51 (0,0)));have HBK:=Yu (qG wr (.cells #[.slice A0 x.f0.length c0,.slice A1 x.f1.length c1] 51 (0,0)));have HW:=Yu (o8 (bq wr.heap.size wr) (.cells #[.slice A0 x.f0.length c0,.slice A1 x.f1.length c1] 51 (0,0)));have hxl:x.f1.length≤1000000:=HSZ.o.2.2.1;have aA:=BW.cell ((pq HBK.o 0).trans rfl);have bA:=BW.cell ((pq HBK.o 1).trans rfl);cases h1:rF x.f0 with
     | false=>
       have HF:oZ (uH l=false):=⟨HBAD.o (zB (EX.o ▸ JZ h1))⟩;have C1:=Yu (fun W (hb:Below wr.heap.size wr W)=>Ju.qP A0 c0 _ x.f0 false W rfl (Kd.pI G0.o hb) L0.o HSZ.o.1 h1);clear h1
       go_wp2_with fail
       refine qL (by kernel_rfl) (by kernel_rfl) ?_
       repeat (any_goals (first | go_big_quiet_step (first|(go_at_call 67;refine qQ (C1.o _ ?_);exact o9 HW.o (BW.hb _)))|quiet_step (first|(go_at_call 67;refine qQ (C1.o _ ?_);exact o9 HW.o (BW.hb _)))))
       all_goals (refine fD ?_;intro _ hw';obtain⟨⟨w2,hb⟩,hw''⟩:=hw';subst hw'';have HB2:=Yu (o9 HBA.o hb);clear hb)
       go_wp2;go_ret;exact⟨by rw[HF.o];rfl,HB2.o⟩
     | true=>
       have C1:=Yu (fun W (hb:Below wr.heap.size wr W)=>Ju.qP A0 c0 _ x.f0 true W rfl (Kd.pI G0.o hb) L0.o HSZ.o.1 h1)
       by_cases h2:x.f1.length=0
       ·have HF:oZ (uH l=false):=⟨HBAD.o (zB (EX.o ▸ J2 h2))⟩;have h2i:((x.f1.length:Int)==0)=true:=beq_iff_eq.2 (by omega);clear h1 h2
        go_wp2_with fail
        refine qL (by kernel_rfl) (by kernel_rfl) ?_
        repeat (any_goals (first | go_big_quiet_step (first|(go_at_call 67;refine qQ (C1.o _ ?_);exact o9 HW.o (BW.hb _)))|quiet_step (first|(go_at_call 67;refine qQ (C1.o _ ?_);exact o9 HW.o (BW.hb _)))))
        all_goals (refine fD ?_;intro _ hw';obtain⟨⟨w2,hb⟩,hw''⟩:=hw';subst hw'';have HB2:=Yu (o9 HBA.o hb);clear hb)
        go_wp2;go_ret;exact⟨by rw[HF.o];rfl,HB2.o⟩
       ·have h2i:((x.f1.length:Int)==0)=false:=beq_eq_false_iff_ne.2 (by omega);cases h3:uZ x.f1 with
        | false=>
          have HF:oZ (uH l=false):=⟨HBAD.o (zB (EX.o ▸ J3 h3))⟩;have C2:=Yu (fun W (hb:Below wr.heap.size wr W)=>Ky.c A1 c1 _ x.f1 false W rfl (Kd.pI G1.o hb) L1.o HSZ.o.2.2.1 h3);clear h1 h2 h3
          go_wp2_with fail
          refine qL (by kernel_rfl) (by kernel_rfl) ?_
          repeat (any_goals (first | go_big_quiet_step (first|(go_at_call 67;refine qQ (C1.o _ ?_);exact o9 HW.o (BW.hb _))|(go_at_call 68;refine qQ (C2.o _ ?_);exact o9 HW.o (BW.hb _)))|quiet_step (first|(go_at_call 67;refine qQ (C1.o _ ?_);exact o9 HW.o (BW.hb _))|(go_at_call 68;refine qQ (C2.o _ ?_);exact o9 HW.o (BW.hb _)))))
          all_goals (refine fD ?_;intro _ hw';obtain⟨⟨w2,hb⟩,hw''⟩:=hw';subst hw'';have HB2:=Yu (o9 HBA.o hb);clear hb)
          go_wp2;go_ret;exact⟨by rw[HF.o];rfl,HB2.o⟩
        | true=>
          have C2:=Yu (fun W (hb:Below wr.heap.size wr W)=>Ky.c A1 c1 _ x.f1 true W rfl (Kd.pI G1.o hb) L1.o HSZ.o.2.2.1 h3);have HG:=Yu (HS.o (GX (EX.o ▸ Am h1 h2 h3)));clear h1 h2 h3
          go_wp2_with fail
          refine qL (by kernel_rfl) (by kernel_rfl) ?_
          repeat (any_goals (first | go_big_quiet_step (first|(go_at_call 67;refine qQ (C1.o _ ?_);exact o9 HW.o (BW.hb _))|(go_at_call 68;refine qQ (C2.o _ ?_);exact o9 HW.o (BW.hb _)))|quiet_step (first|(go_at_call 67;refine qQ (C1.o _ ?_);exact o9 HW.o (BW.hb _))|(go_at_call 68;refine qQ (C2.o _ ?_);exact o9 HW.o (BW.hb _)))))
          all_goals (refine fD ?_;intro _ hw';obtain⟨⟨w2,hb⟩,hw''⟩:=hw';subst hw'';have HB2:=Yu (o9 HBA.o hb);clear hb)
          go_wp2
          go_roundw
          case rel=>exact⟨0+1,by omega,by go_num,HG,HB2⟩
          case measure=>simp[intOf]<;>omega
   | succ k=>
     obtain⟨ad_,B0,d0,B1,d1,ea,q0,q1,m0,n0,m1,n1⟩:=uY hC ((k:Nat):Int) (by omega) (by omega);obtain rfl:=bE ea;rw[bf] at q0 q1;have HSY:=Yu (HK.o _ (yJ l k (by omega)));obtain⟨x,ex⟩:∃ x,pK l ((k+1:Nat):Int)=x:=⟨_,rfl⟩;obtain⟨y,ey⟩:∃ y,pK l ((k:Nat):Int)=y:=⟨_,rfl⟩;have EY:=Yu ey;rw[ey] at q0 q1 n0 m0 HSY;have N0:=Yu n0;have M0:=Yu m0;clear n0 m0 m1 n1 q1;have EX:=Yu ex;rw[ex] at e0 e1 HSZ g0 l0 g1 l1;have G0:=Yu g0;have L0:=Yu l0;have G1:=Yu g1;have L1:=Yu l1;clear hC ex g0 l0 g1 l1 ey ea;have HBA:=Yu (o8 HB.o (.cells #[.slice A0 x.f0.length c0,.slice A1 x.f1.length c1] 51 (0,0)));have HBK:=Yu (qG wr (.cells #[.slice A0 x.f0.length c0,.slice A1 x.f1.length c1] 51 (0,0)));have HW:=Yu (o8 (bq wr.heap.size wr) (.cells #[.slice A0 x.f0.length c0,.slice A1 x.f1.length c1] 51 (0,0)));have hxl:x.f1.length≤1000000:=HSZ.o.2.2.1;have q0a:=xw (.cells #[.slice A0 x.f0.length c0,.slice A1 x.f1.length c1] 51 (0,0)) q0;rw[show ((k+1:Nat):Int)=(k:Int)+1 from by omega] at *;have gg0:decide ((0:Int)<(k:Int)+1)=true:=aM (by omega);have hwk:IntKind.i64.wrap ((k:Int)+1-1)=(k:Int):=by rw[bI];omega
     have gg1:(0:Int)≤(k:Int):=by omega
     have gg2:(k:Int)<(l.length:Int):=by omega
     have aA:=BW.cell ((pq HBK.o 0).trans rfl);have bA:=BW.cell ((pq HBK.o 1).trans rfl);have pA:=BW.cell q0a;cases h1:rF x.f0 with
     | false=>
       have HF:oZ (uH l=false):=⟨HBAD.o (zB (EX.o ▸ JZ h1))⟩;have C1:=Yu (fun W (hb:Below wr.heap.size wr W)=>Ju.qP A0 c0 _ x.f0 false W rfl (Kd.pI G0.o hb) L0.o HSZ.o.1 h1);clear h1
       go_wp2_with fail
       refine qL (by kernel_rfl) (by kernel_rfl) ?_
       repeat (any_goals (first | go_big_quiet_step (first|(go_at_call 67;refine qQ (C1.o _ ?_);exact o9 HW.o (BW.hb _)))|quiet_step (first|(go_at_call 67;refine qQ (C1.o _ ?_);exact o9 HW.o (BW.hb _)))))
       all_goals (refine fD ?_;intro _ hw';obtain⟨⟨w2,hb⟩,hw''⟩:=hw';subst hw'';have HB2:=Yu (o9 HBA.o hb);clear hb)
       go_wp2;go_ret;exact⟨by rw[HF.o];rfl,HB2.o⟩
     | true=>
       have C1:=Yu (fun W (hb:Below wr.heap.size wr W)=>Ju.qP A0 c0 _ x.f0 true W rfl (Kd.pI G0.o hb) L0.o HSZ.o.1 h1)
       by_cases h2:x.f1.length=0
       ·have HF:oZ (uH l=false):=⟨HBAD.o (zB (EX.o ▸ J2 h2))⟩;have h2i:((x.f1.length:Int)==0)=true:=beq_iff_eq.2 (by omega);clear h1 h2
        go_wp2_with fail
        refine qL (by kernel_rfl) (by kernel_rfl) ?_
        repeat (any_goals (first | go_big_quiet_step (first|(go_at_call 67;refine qQ (C1.o _ ?_);exact o9 HW.o (BW.hb _)))|quiet_step (first|(go_at_call 67;refine qQ (C1.o _ ?_);exact o9 HW.o (BW.hb _)))))
        all_goals (refine fD ?_;intro _ hw';obtain⟨⟨w2,hb⟩,hw''⟩:=hw';subst hw'';have HB2:=Yu (o9 HBA.o hb);clear hb)
        go_wp2;go_ret;exact⟨by rw[HF.o];rfl,HB2.o⟩
       ·have h2i:((x.f1.length:Int)==0)=false:=beq_eq_false_iff_ne.2 (by omega);cases h3:uZ x.f1 with
        | false=>
          have HF:oZ (uH l=false):=⟨HBAD.o (zB (EX.o ▸ J3 h3))⟩;have C2:=Yu (fun W (hb:Below wr.heap.size wr W)=>Ky.c A1 c1 _ x.f1 false W rfl (Kd.pI G1.o hb) L1.o HSZ.o.2.2.1 h3);clear h1 h2 h3
          go_wp2_with fail
          refine qL (by kernel_rfl) (by kernel_rfl) ?_
          repeat (any_goals (first | go_big_quiet_step (first|(go_at_call 67;refine qQ (C1.o _ ?_);exact o9 HW.o (BW.hb _))|(go_at_call 68;refine qQ (C2.o _ ?_);exact o9 HW.o (BW.hb _)))|quiet_step (first|(go_at_call 67;refine qQ (C1.o _ ?_);exact o9 HW.o (BW.hb _))|(go_at_call 68;refine qQ (C2.o _ ?_);exact o9 HW.o (BW.hb _)))))
          all_goals (refine fD ?_;intro _ hw';obtain⟨⟨w2,hb⟩,hw''⟩:=hw';subst hw'';have HB2:=Yu (o9 HBA.o hb);clear hb)
          go_wp2;go_ret;exact⟨by rw[HF.o];rfl,HB2.o⟩
        | true=>
          have C2:=Yu (fun W (hb:Below wr.heap.size wr W)=>Ky.c A1 c1 _ x.f1 true W rfl (Kd.pI G1.o hb) L1.o HSZ.o.2.2.1 h3);have HQ:=Mk (l:=l) (k:=k) (by rw[show ((k+1:Nat):Int)=(k:Int)+1 from by omega,EX.o];exact Am h1 h2 h3);rw[show ((k+1:Nat):Int)=(k:Int)+1 from by omega,EX.o,EY.o] at HQ;have C3:=Yu (fun W (hb:Below wr.heap.size wr W)=>TG.c B0 A0 d0 c0 _ _ y.f0 x.f0 W rfl rfl (Kd.pI N0.o hb) (Kd.pI G0.o hb) HSY.o.2.1);clear h1 h2 h3
          by_cases hd:cmpL y.f0 x.f0<0
          ·have HG:=Yu (HS.o (by rw[HQ,aM hd]));have hd1:decide ((0:Int)≤cmpL y.f0 x.f0)=false:=aN (by omega);clear HQ hd
           go_wp2_with fail
           refine qL (by kernel_rfl) (by kernel_rfl) ?_
           repeat (any_goals (first | go_big_quiet_step (first|(go_at_call 67;refine qQ (C1.o _ ?_);exact o9 HW.o (BW.hb _))|(go_at_call 68;refine qQ (C2.o _ ?_);exact o9 HW.o (BW.hb _))|(go_at_call 50;refine qQ (C3.o _ ?_);exact o9 HW.o (BW.hb _)))|quiet_step (first|(go_at_call 67;refine qQ (C1.o _ ?_);exact o9 HW.o (BW.hb _))|(go_at_call 68;refine qQ (C2.o _ ?_);exact o9 HW.o (BW.hb _))|(go_at_call 50;refine qQ (C3.o _ ?_);exact o9 HW.o (BW.hb _)))))
           all_goals (refine fD ?_;intro _ hw';obtain⟨⟨w2,hb⟩,hw''⟩:=hw';subst hw'';have HB2:=Yu (o9 HBA.o hb);clear hb)
           go_wp2
           go_roundw
           case rel=>exact⟨k+1+1,by omega,by go_num,HG,HB2⟩
           case measure=>simp[intOf]<;>omega
          ·have HF:oZ (uH l=false):=⟨HBAD.o (by rw[HQ,aN hd])⟩;have hd1:decide ((0:Int)≤cmpL y.f0 x.f0)=true:=aM (by omega);clear HQ hd
           go_wp2_with fail
           refine qL (by kernel_rfl) (by kernel_rfl) ?_
           repeat (any_goals (first | go_big_quiet_step (first|(go_at_call 67;refine qQ (C1.o _ ?_);exact o9 HW.o (BW.hb _))|(go_at_call 68;refine qQ (C2.o _ ?_);exact o9 HW.o (BW.hb _))|(go_at_call 50;refine qQ (C3.o _ ?_);exact o9 HW.o (BW.hb _)))|quiet_step (first|(go_at_call 67;refine qQ (C1.o _ ?_);exact o9 HW.o (BW.hb _))|(go_at_call 68;refine qQ (C2.o _ ?_);exact o9 HW.o (BW.hb _))|(go_at_call 50;refine qQ (C3.o _ ?_);exact o9 HW.o (BW.hb _)))))
           all_goals (refine fD ?_;intro _ hw';obtain⟨⟨w2,hb⟩,hw''⟩:=hw';subst hw'';have HB2:=Yu (o9 HBA.o hb);clear hb)
           go_wp2;go_ret;exact⟨by rw[HF.o];rfl,HB2.o⟩
  ·obtain rfl:k=l.length:=by omega
   have HF:oZ (uH l=true):=⟨Fa HO.o⟩;go_wp2;go_ret;exact⟨by rw[HF.o];rfl,HB.o⟩
def UC (l:List qJ)(m2:Nat)(x:qJ):Prop:=(∃ y∈l,x.f0=y.f0∧∀ s∈x.f1,s∈y.f1)∧x.f0.length≤10∧x.f1.length≤m2
theorem Gt (l:List qJ)(hl:l.length≤2932031007402)(m1 m2:Nat):∀ d i,i+d=l.length→∀ (out:List qJ),out.length≤i→out.length≤m1→(∀ x∈out,UC l m2 x)→∃ r,(∀ k,d<k→ql.l0 k (m1:Int) (m2:Int) out l (l.length:Int) (i:Int)=some r)∧r.length≤m1∧∀ x∈r,UC l m2 x
 | 0,i,h,out,h1,h2,h3=>by
   refine⟨out,fun k hk=>?_,h2,h3⟩;cases k with
   | zero=>omega
   | succ k=>rw[ql.l0,aK (by omega)]
 | d+1,i,h,out,h1,h2,h3=>by
   have hi:i<l.length:=by omega
   have hw:wrap64 ((i:Int)+1)=((i+1:Nat):Int):=by unfold wrap64;omega
   have hm:=yJ l i hi;have hmn:0≤mn ((pK l (i:Int)).f1.length:Int) (m2:Int)∧mn ((pK l (i:Int)).f1.length:Int) (m2:Int)≤((pK l (i:Int)).f1.length:Int)∧mn ((pK l (i:Int)).f1.length:Int) (m2:Int)≤(m2:Int):=by
    unfold mn;split<;>omega
   by_cases hc:(i:Int)<(m1:Int)∧((pK l (i:Int)).f0.length:Int)≤10
   ·obtain⟨r,h4,h5,h6⟩:=Gt l hl m1 m2 d (i+1) (by omega) (out++[⟨(pK l (i:Int)).f0,(pK l (i:Int)).f1.take (mn ((pK l (i:Int)).f1.length:Int) (m2:Int)).toNat⟩]) (by rw[bg];simp;omega) (by rw[bg];simp;omega) (fun x hx=>by
     rcases List.mem_append.1 hx with hx | hx
     ·exact h3 x hx
     ·simp only[iV,iw,lQ] at hx;subst hx;refine⟨⟨_,hm,rfl,fun s hs=>dO hs⟩,by simp only;omega,?_⟩;simp only[bG];omega)
    refine⟨r,fun k hk=>?_,h5,h6⟩;cases k with
    | zero=>omega
    | succ k=>rw[ql.l0,ak (by omega),ak (by omega),ak (by omega),ak hc.1,ak hc.2,ak hmn.1,ak hmn.2.1,ak (by omega),hw];exact h4 k (by omega)
   ·obtain⟨r,h4,h5,h6⟩:=Gt l hl m1 m2 d (i+1) (by omega) out (by omega) h2 h3;refine⟨r,fun k hk=>?_,h5,h6⟩;cases k with
    | zero=>omega
    | succ k=>
      rw[ql.l0,ak (by omega),ak (by omega),ak (by omega),hw]
      by_cases hc1:(i:Int)<(m1:Int)
      ·rw[ak hc1,aK (fun h=>hc ⟨hc1,h⟩)];exact h4 k (by omega)
      ·rw[aK hc1];exact h4 k (by omega)
theorem XH (l:List qJ)(hl:l.length≤2932031007402)(m1 m2:Nat):∃ r,ql.f (l.length+1) l (m1:Int) (m2:Int)=some r∧r.length≤m1∧∀ x∈r,UC l m2 x:=by
 obtain⟨r,h1,h2,h3⟩:=Gt l hl m1 m2 l.length 0 (by omega) [] (bV _) (bV _) (fun x hx=>by cases hx);exact⟨r,h1 _ (by omega),h2,h3⟩
def okW (l:List qJ):Prop:=∀ x∈l,Ml x.f0∧∀ s∈x.f1,Dn s
theorem U0 {l r:List qJ}(hw:okW l)(m2:Nat)(h2:m2≤1000000)(h:∀ x∈r,UC l m2 x):KL r:=fun x hx=>by
 obtain⟨⟨y,hy,e0,e1⟩,h0,h1⟩:=h x hx;refine⟨by rw[e0];exact (hw y hy).1,by omega,by omega,fun s hs=>(hw y hy).2 s (e1 s hs)⟩
end Go.Proofs.Y.PA
