/- Of the law ZHQDumpReads. -/
import Derived.Test.YtcgbgifbajdhpaaGreatDoorZH15
import Derived.Test.YtcgbgifbajdhpaaGreatDoorZH25
import Derived.Test.YtcgbgifbajdhpaaGreatDoorZH12
import Derived.Test.YtcgbgifbajdhpaaGreatDoorZH24
set_option linter.unusedVariables false
set_option linter.unusedSimpArgs false
set_option maxHeartbeats 8000000
set_option maxRecDepth 100000
namespace Go
abbrev nC:=@List.flatMap_cons
end Go
namespace Go.Proofs.Y.PA
open Go.RowKit Go.Proofs.Y.G Go.Proofs.YW.oO Go.Proofs.YW.pq Go.Proofs.YW.pz
def CJ (x:ru):Bool:=sI x.f0&&(!decide (x.f1.length=0)&&vC x.f1)
def KX (l:List ru)(k:Nat):Bool:=CJ (qc l (k:Int))&&(decide (k=0)||decide (cmpL (qc l ((k-1:Nat):Int)).f0 (qc l (k:Int)).f0<0))
def vG (l:List ru):Bool:=(List.range l.length).all (KX l)
theorem Md {l:List ru}{k:Nat}(hk:k<l.length)(h:KX l k=false):vG l=false:=by
 rw[vG,List.all_eq_false];exact⟨k,List.mem_range.2 hk,by rw[h];simp⟩
theorem Kq {l:List ru}(h:∀ j,j<l.length→KX l j=true):vG l=true:=by
 rw[vG];simp only[iU,ku];exact h
theorem Di {l:List ru}(h:vG l=true):∀ j,j<l.length→KX l j=true:=by
 rw[vG] at h
 simpa only[iU,ku] using h
theorem AQ {l:List ru}{k:Nat}(h:CJ (qc l (k:Int))=false):KX l k=false:=by rw[KX,h];rfl
theorem Ij {l:List ru}(h:CJ (qc l ((0:Nat):Int))=true):KX l 0=true:=by rw[KX,h];rfl
theorem M6 {l:List ru}{k:Nat}(h:CJ (qc l ((k+1:Nat):Int))=true):KX l (k+1)=decide (cmpL (qc l (k:Int)).f0 (qc l ((k+1:Nat):Int)).f0<0):=by
 rw[KX,h];simp
theorem IQ {l:List ru}{k:Nat}(h:∀ j,j<k→KX l j=true)(hk:KX l k=true):∀ j,j<k+1→KX l j=true:=fun j hj=>by
 rcases dN j k with h1 | h1
 ·exact h j h1
 ·obtain rfl:j=k:=by omega
  exact hk
theorem Kr {x:ru}(h:sI x.f0=false):CJ x=false:=by rw[CJ,h];rfl
theorem Kt {x:ru}(h:x.f1.length=0):CJ x=false:=by rw[CJ,aC h];simp
theorem Ku {x:ru}(h:vC x.f1=false):CJ x=false:=by rw[CJ,h];simp
theorem D6 {x:ru}(h:sI x.f0=true)(h0:¬ x.f1.length=0)(h1:vC x.f1=true):CJ x=true:=by rw[CJ,h,h1,aD h0];rfl
theorem zw (l:List ru)(k:Nat)(h:k<l.length):qc l (k:Int)∈l:=by
 have e:qc l (k:Int)=l[k]:=by simp[qc,aV,aR h]
 rw[e];exact dL h
def Na (l:List ru):Prop:=∀ x∈l,OB x.f0∧x.f0.length≤1000000∧x.f1.length≤1000000∧∀ s∈x.f1,Bd s
theorem PE.c (A:Option Addr)(c n:Nat)(l:List qG)(b:Bool)(w:World)(hn:l.length=n)(hr:Kd.C vX w A n l)(hc:n≤c)(hl:n≤1000000)(h:vC l=b) :
 Calls Tryz.prog 88 #[.slice A n c] w fun e w'=>e = .returned (.bool b)∧Below w.heap.size w w':=by
 subst hn;exact (rY.c (l.length+2) A c l b w hr hc (by rw[Ta l (by omega) _ (by omega),h])).mono fun e w' ⟨he,hd⟩=>⟨he,hd.below⟩
theorem Lb.c (A:Option Addr)(c n:Nat)(l:List qG)(b:Bool)(w:World)(hn:l.length=n)(hr:Kd.C vX w A n l)(hc:n≤c)(hl:n≤1000000)(h:vC l=b) :
 Calls Tryz.prog 68 #[.slice A n c] w fun e w'=>e = .returned (.bool b)∧Below w.heap.size w w':=by
 subst hn;exact (qz.c (l.length+2) A c l b w hr hc (by rw[OL l (by omega) _ (by omega),h])).mono fun e w' ⟨he,hd⟩=>⟨he,hd.below⟩
theorem sI.qM (A:Option Addr)(c n:Nat)(l:List tQ)(b:Bool)(w:World)(hn:l.length=n)(hr:Kd.C xU w A n l)(hc:n≤c)(h:sI l=b) :
 Calls Tryz.prog 87 #[.slice A n c] w fun e w'=>e = .returned (.bool b)∧Below w.heap.size w w':=h ▸ sI.c A c n l w hn hr hc
theorem Ew.qM (A:Option Addr)(c n:Nat)(l:List tQ)(b:Bool)(w:World)(hn:l.length=n)(hr:Kd.C xU w A n l)(hc:n≤c)(hok:OB l)(h:sI l=b) :
 Calls Tryz.prog 67 #[.slice A n c] w fun e w'=>e = .returned (.bool b)∧Below w.heap.size w w':=h ▸ Ew.c A c n l w hn hr hc hok
theorem vG.c (A:Option Addr)(c n:Nat)(l:List ru)(w:World)(hn:l.length=n)(hr:Kd.C Bc w A n l)(hc:n≤c)(hok:Na l)(hl:n≤1000000) :
 Calls Tryz.prog 53 #[.slice A n c] w fun e w'=>e = .returned (.bool (vG l))∧Below w.heap.size w w':=by
 subst hn;have HR:=Y7 hr;have HK:=Y7 hok;clear hr hc hok
 go_enter Tryz.func53,Tryz.ntmps53
 go_wp2
 go_loopw [7] (fun i wr=>∃ (k:Nat),k≤l.length∧i = .int .i64 k∧oM (∀ j,j<k→KX l j=true)∧oM (Below w.heap.size w wr)) (fun i _=>l.length-(intOf i).toNat)
 case atStart=>exact⟨0,bP _,rfl,⟨fun j hj=>by omega⟩,⟨aU _ _⟩⟩
 case round=>
  obtain⟨k,hk,rfl,HO,HB⟩:=hrel
  by_cases hlt:k<l.length
  ·have hC:=Kd.o9 HR.o HB.o;obtain⟨ad,A0,c0,A1,c1,rfl,e0,e1,l0,g0,l1,g1⟩:=wL hC (k:Int) (by omega) (by omega);rw[aG] at e0 e1;have HBAD:=Y7 (fun h=>Md (l:=l) (k:=k) hlt h);have HS:=Y7 (fun h=>IQ (l:=l) (k:=k) HO.o h);have HSZ:=Y7 (HK.o _ (zw l k hlt));cases k with
   | zero=>
     obtain⟨x,ex⟩:∃ x,qc l ((0:Nat):Int)=x:=⟨_,rfl⟩;have EX:=Y7 ex;rw[ex] at e0 e1 HSZ g0 l0 g1 l1;have G0:=Y7 g0;have L0:=Y7 l0;have G1:=Y7 g1;have L1:=Y7 l1;clear hC ex g0 l0 g1 l1;have e0z:wr.cell? ad=some (.slice A0 x.f0.length c0):=by simpa [Addr.add] using e0
     have e1z:wr.cell? ⟨ad.block,ad.off+1,none⟩=some (.slice A1 x.f1.length c1):=by simpa [Addr.add] using e1
     clear e0 e1;have HBA:=Y7 (oN HB.o (.cells #[.slice A0 x.f0.length c0,.slice A1 x.f1.length c1] 51 (0,0)));have HBK:=Y7 (qx wr (.cells #[.slice A0 x.f0.length c0,.slice A1 x.f1.length c1] 51 (0,0)));have HW:=Y7 (oN (aU wr.heap.size wr) (.cells #[.slice A0 x.f0.length c0,.slice A1 x.f1.length c1] 51 (0,0)));have hxl:x.f1.length≤1000000:=HSZ.o.2.2.1;cases h1:sI x.f0 with
     | false=>
       have HF:oM (vG l=false):=⟨HBAD.o (AQ (EX.o ▸ Kr h1))⟩;have C1:=Y7 (fun W (hb:Below wr.heap.size wr W)=>sI.qM A0 c0 _ x.f0 false W rfl (Kd.o9 G0.o hb) L0.o h1);clear h1
       go_wp2_with (first|(go_at_call 87;(with_reducible refine (C1.o _ HW.o).mono ?_);rintro e w1 ⟨rfl,hb⟩;have HB1:=Y7 (oP HBA.o hb);have HW1:=Y7 (oP HW.o hb);have Zy:=Y7 (o7 HBK.o hb);have b1:=(oQ Zy.o 1).trans rfl;clear hb))
       go_wp2;go_ret;exact⟨by rw[HF.o];rfl,HB1.o⟩
     | true=>
       have C1:=Y7 (fun W (hb:Below wr.heap.size wr W)=>sI.qM A0 c0 _ x.f0 true W rfl (Kd.o9 G0.o hb) L0.o h1)
       by_cases h2:x.f1.length=0
       ·have HF:oM (vG l=false):=⟨HBAD.o (AQ (EX.o ▸ Kt h2))⟩;have h2i:((x.f1.length:Int)==0)=true:=beq_iff_eq.2 (by omega);clear h1 h2
        go_wp2_with (first|(go_at_call 87;(with_reducible refine (C1.o _ HW.o).mono ?_);rintro e w1 ⟨rfl,hb⟩;have HB1:=Y7 (oP HBA.o hb);have HW1:=Y7 (oP HW.o hb);have Zy:=Y7 (o7 HBK.o hb);have b1:=(oQ Zy.o 1).trans rfl;clear hb))
        go_wp2;go_ret;exact⟨by rw[HF.o];rfl,HB1.o⟩
       ·have h2i:((x.f1.length:Int)==0)=false:=beq_eq_false_iff_ne.2 (by omega);cases h3:vC x.f1 with
        | false=>
          have HF:oM (vG l=false):=⟨HBAD.o (AQ (EX.o ▸ Ku h3))⟩;have C2:=Y7 (fun W (hb:Below wr.heap.size wr W)=>PE.c A1 c1 _ x.f1 false W rfl (Kd.o9 G1.o hb) L1.o HSZ.o.2.2.1 h3);clear h1 h2 h3
          go_wp2_with (first|(go_at_call 87;(with_reducible refine (C1.o _ HW.o).mono ?_);rintro e w1 ⟨rfl,hb⟩;have HB1:=Y7 (oP HBA.o hb);have HW1:=Y7 (oP HW.o hb);have Zy:=Y7 (o7 HBK.o hb);have b1:=(oQ Zy.o 1).trans rfl;clear hb)|(go_at_call 88;(with_reducible refine (C2.o _ HW1.o).mono ?_);rintro e w2 ⟨rfl,hb⟩;have HB2:=Y7 (oP HB1.o hb);have HW2:=Y7 (oP HW1.o hb);have aaN:=Y7 (o7 Zy.o hb);clear hb))
          go_wp2;go_ret;exact⟨by rw[HF.o];rfl,HB2.o⟩
        | true=>
          have C2:=Y7 (fun W (hb:Below wr.heap.size wr W)=>PE.c A1 c1 _ x.f1 true W rfl (Kd.o9 G1.o hb) L1.o HSZ.o.2.2.1 h3);have HG:=Y7 (HS.o (Ij (EX.o ▸ D6 h1 h2 h3)));clear h1 h2 h3
          go_wp2_with (first|(go_at_call 87;(with_reducible refine (C1.o _ HW.o).mono ?_);rintro e w1 ⟨rfl,hb⟩;have HB1:=Y7 (oP HBA.o hb);have HW1:=Y7 (oP HW.o hb);have Zy:=Y7 (o7 HBK.o hb);have b1:=(oQ Zy.o 1).trans rfl;clear hb)|(go_at_call 88;(with_reducible refine (C2.o _ HW1.o).mono ?_);rintro e w2 ⟨rfl,hb⟩;have HB2:=Y7 (oP HB1.o hb);have HW2:=Y7 (oP HW1.o hb);have aaN:=Y7 (o7 Zy.o hb);clear hb))
          have aA:=BW.cell ((oQ aaN.o 0).trans rfl)
          go_wp2_with fail
          refine qD (by kernel_rfl) (by kernel_rfl) ?_
          repeat (any_goals (first | go_big_quiet_step (fail)|quiet_step (fail)))
          all_goals (refine dU ?_;intro _ hw';obtain⟨⟨w3,hb⟩,hw''⟩:=hw';subst hw'';have HB3:=Y7 (oP HB2.o hb);clear hb)
          go_wp2
          go_roundw
          case rel=>exact⟨0+1,by omega,by go_num,HG,HB3⟩
          case measure=>simp[intOf]<;>omega
   | succ k=>
     obtain⟨ad_,B0,d0,B1,d1,ea,q0,q1,m0,n0,m1,n1⟩:=wL hC ((k:Nat):Int) (by omega) (by omega);obtain rfl:=bB ea;rw[aG] at q0 q1;have HSY:=Y7 (HK.o _ (zw l k (by omega)));obtain⟨x,ex⟩:∃ x,qc l ((k+1:Nat):Int)=x:=⟨_,rfl⟩;obtain⟨y,ey⟩:∃ y,qc l ((k:Nat):Int)=y:=⟨_,rfl⟩;have EY:=Y7 ey;rw[ey] at q0 q1 n0 m0 HSY;have N0:=Y7 n0;have M0:=Y7 m0;clear n0 m0 m1 n1 q1;have EX:=Y7 ex;rw[ex] at e0 e1 HSZ g0 l0 g1 l1;have G0:=Y7 g0;have L0:=Y7 l0;have G1:=Y7 g1;have L1:=Y7 l1;clear hC ex g0 l0 g1 l1 ey ea;have HBA:=Y7 (oN HB.o (.cells #[.slice A0 x.f0.length c0,.slice A1 x.f1.length c1] 51 (0,0)));have HBK:=Y7 (qx wr (.cells #[.slice A0 x.f0.length c0,.slice A1 x.f1.length c1] 51 (0,0)));have HW:=Y7 (oN (aU wr.heap.size wr) (.cells #[.slice A0 x.f0.length c0,.slice A1 x.f1.length c1] 51 (0,0)));have hxl:x.f1.length≤1000000:=HSZ.o.2.2.1;have q0a:=yG (.cells #[.slice A0 x.f0.length c0,.slice A1 x.f1.length c1] 51 (0,0)) q0;rw[show ((k+1:Nat):Int)=(k:Int)+1 from by omega] at *;have gg0:decide ((0:Int)<(k:Int)+1)=true:=aC (by omega);have hwk:IntKind.i64.wrap ((k:Int)+1-1)=(k:Int):=by rw[bD];omega
     have gg1:(0:Int)≤(k:Int):=by omega
     have gg2:(k:Int)<(l.length:Int):=by omega
     cases h1:sI x.f0 with
     | false=>
       have HF:oM (vG l=false):=⟨HBAD.o (AQ (EX.o ▸ Kr h1))⟩;have C1:=Y7 (fun W (hb:Below wr.heap.size wr W)=>sI.qM A0 c0 _ x.f0 false W rfl (Kd.o9 G0.o hb) L0.o h1);clear h1
       go_wp2_with (first|(go_at_call 87;(with_reducible refine (C1.o _ HW.o).mono ?_);rintro e w1 ⟨rfl,hb⟩;have HB1:=Y7 (oP HBA.o hb);have HW1:=Y7 (oP HW.o hb);have Zy:=Y7 (o7 HBK.o hb);have b1:=(oQ Zy.o 1).trans rfl;clear hb))
       go_wp2;go_ret;exact⟨by rw[HF.o];rfl,HB1.o⟩
     | true=>
       have C1:=Y7 (fun W (hb:Below wr.heap.size wr W)=>sI.qM A0 c0 _ x.f0 true W rfl (Kd.o9 G0.o hb) L0.o h1)
       by_cases h2:x.f1.length=0
       ·have HF:oM (vG l=false):=⟨HBAD.o (AQ (EX.o ▸ Kt h2))⟩;have h2i:((x.f1.length:Int)==0)=true:=beq_iff_eq.2 (by omega);clear h1 h2
        go_wp2_with (first|(go_at_call 87;(with_reducible refine (C1.o _ HW.o).mono ?_);rintro e w1 ⟨rfl,hb⟩;have HB1:=Y7 (oP HBA.o hb);have HW1:=Y7 (oP HW.o hb);have Zy:=Y7 (o7 HBK.o hb);have b1:=(oQ Zy.o 1).trans rfl;clear hb))
        go_wp2;go_ret;exact⟨by rw[HF.o];rfl,HB1.o⟩
       ·have h2i:((x.f1.length:Int)==0)=false:=beq_eq_false_iff_ne.2 (by omega);cases h3:vC x.f1 with
        | false=>
          have HF:oM (vG l=false):=⟨HBAD.o (AQ (EX.o ▸ Ku h3))⟩;have C2:=Y7 (fun W (hb:Below wr.heap.size wr W)=>PE.c A1 c1 _ x.f1 false W rfl (Kd.o9 G1.o hb) L1.o HSZ.o.2.2.1 h3);clear h1 h2 h3
          go_wp2_with (first|(go_at_call 87;(with_reducible refine (C1.o _ HW.o).mono ?_);rintro e w1 ⟨rfl,hb⟩;have HB1:=Y7 (oP HBA.o hb);have HW1:=Y7 (oP HW.o hb);have Zy:=Y7 (o7 HBK.o hb);have b1:=(oQ Zy.o 1).trans rfl;clear hb)|(go_at_call 88;(with_reducible refine (C2.o _ HW1.o).mono ?_);rintro e w2 ⟨rfl,hb⟩;have HB2:=Y7 (oP HB1.o hb);have HW2:=Y7 (oP HW1.o hb);have aaN:=Y7 (o7 Zy.o hb);clear hb))
          go_wp2;go_ret;exact⟨by rw[HF.o];rfl,HB2.o⟩
        | true=>
          have C2:=Y7 (fun W (hb:Below wr.heap.size wr W)=>PE.c A1 c1 _ x.f1 true W rfl (Kd.o9 G1.o hb) L1.o HSZ.o.2.2.1 h3);have HQ:=M6 (l:=l) (k:=k) (by rw[show ((k+1:Nat):Int)=(k:Int)+1 from by omega,EX.o];exact D6 h1 h2 h3);rw[show ((k+1:Nat):Int)=(k:Int)+1 from by omega,EX.o,EY.o] at HQ;have C3:=Y7 (fun W (hb:Below wr.heap.size wr W)=>cmpL.c B0 A0 d0 c0 _ _ y.f0 x.f0 W rfl rfl (Kd.o9 N0.o hb) (Kd.o9 G0.o hb) HSY.o.2.1);clear h1 h2 h3
          by_cases hd:cmpL y.f0 x.f0<0
          ·have HG:=Y7 (HS.o (by rw[HQ,aC hd]));have hd1:decide ((0:Int)≤cmpL y.f0 x.f0)=false:=aD (by omega);clear HQ hd
           go_wp2_with (first|(go_at_call 87;(with_reducible refine (C1.o _ HW.o).mono ?_);rintro e w1 ⟨rfl,hb⟩;have HB1:=Y7 (oP HBA.o hb);have HW1:=Y7 (oP HW.o hb);have Zy:=Y7 (o7 HBK.o hb);have b1:=(oQ Zy.o 1).trans rfl;clear hb)|(go_at_call 88;(with_reducible refine (C2.o _ HW1.o).mono ?_);rintro e w2 ⟨rfl,hb⟩;have HB2:=Y7 (oP HB1.o hb);have HW2:=Y7 (oP HW1.o hb);have aaN:=Y7 (o7 Zy.o hb);clear hb))
           have aA:=BW.cell ((oQ aaN.o 0).trans rfl);have pA:=BW.cell (pW HW2.o q0)
           go_wp2_with fail
           refine qD (by kernel_rfl) (by kernel_rfl) ?_
           repeat (any_goals (first | go_big_quiet_step ((go_at_call 71;refine qU (C3.o _ ?_);exact oP HW2.o (BW.hb _)))|quiet_step ((go_at_call 71;refine qU (C3.o _ ?_);exact oP HW2.o (BW.hb _)))))
           all_goals (refine dU ?_;intro _ hw';obtain⟨⟨w3,hb⟩,hw''⟩:=hw';subst hw'';have HB3:=Y7 (oP HB2.o hb);clear hb)
           go_wp2
           go_roundw
           case rel=>exact⟨k+1+1,by omega,by go_num,HG,HB3⟩
           case measure=>simp[intOf]<;>omega
          ·have HF:oM (vG l=false):=⟨HBAD.o (by rw[HQ,aD hd])⟩;have hd1:decide ((0:Int)≤cmpL y.f0 x.f0)=true:=aC (by omega);clear HQ hd
           go_wp2_with (first|(go_at_call 87;(with_reducible refine (C1.o _ HW.o).mono ?_);rintro e w1 ⟨rfl,hb⟩;have HB1:=Y7 (oP HBA.o hb);have HW1:=Y7 (oP HW.o hb);have Zy:=Y7 (o7 HBK.o hb);have b1:=(oQ Zy.o 1).trans rfl;clear hb)|(go_at_call 88;(with_reducible refine (C2.o _ HW1.o).mono ?_);rintro e w2 ⟨rfl,hb⟩;have HB2:=Y7 (oP HB1.o hb);have HW2:=Y7 (oP HW1.o hb);have aaN:=Y7 (o7 Zy.o hb);clear hb))
           have aA:=BW.cell ((oQ aaN.o 0).trans rfl);have pA:=BW.cell (pW HW2.o q0)
           go_wp2_with fail
           refine qD (by kernel_rfl) (by kernel_rfl) ?_
           repeat (any_goals (first | go_big_quiet_step ((go_at_call 71;refine qU (C3.o _ ?_);exact oP HW2.o (BW.hb _)))|quiet_step ((go_at_call 71;refine qU (C3.o _ ?_);exact oP HW2.o (BW.hb _)))))
           all_goals (refine dU ?_;intro _ hw';obtain⟨⟨w3,hb⟩,hw''⟩:=hw';subst hw'';have HB3:=Y7 (oP HB2.o hb);clear hb)
           go_wp2;go_ret;exact⟨by rw[HF.o];rfl,HB3.o⟩
  ·obtain rfl:k=l.length:=by omega
   have HF:oM (vG l=true):=⟨Kq HO.o⟩;go_wp2;go_ret;exact⟨by rw[HF.o];rfl,HB.o⟩
theorem WH.c (A:Option Addr)(c n:Nat)(l:List ru)(w:World)(hn:l.length=n)(hr:Kd.C Bc w A n l)(hc:n≤c)(hok:Na l)(hl:n≤1000000) :
 Calls Tryz.prog 35 #[.slice A n c] w fun e w'=>e = .returned (.bool (vG l))∧Below w.heap.size w w':=by
 subst hn;have HR:=Y7 hr;have HK:=Y7 hok;clear hr hc hok
 go_enter Tryz.func35,Tryz.ntmps35
 go_wp2
 go_loopw [7] (fun i wr=>∃ (k:Nat),k≤l.length∧i = .int .i64 k∧oM (∀ j,j<k→KX l j=true)∧oM (Below w.heap.size w wr)) (fun i _=>l.length-(intOf i).toNat)
 case atStart=>exact⟨0,bP _,rfl,⟨fun j hj=>by omega⟩,⟨aU _ _⟩⟩
 case round=>
  obtain⟨k,hk,rfl,HO,HB⟩:=hrel
  by_cases hlt:k<l.length
  ·have hC:=Kd.o9 HR.o HB.o;obtain⟨ad,A0,c0,A1,c1,rfl,e0,e1,l0,g0,l1,g1⟩:=wL hC (k:Int) (by omega) (by omega);rw[aG] at e0 e1;have HBAD:=Y7 (fun h=>Md (l:=l) (k:=k) hlt h);have HS:=Y7 (fun h=>IQ (l:=l) (k:=k) HO.o h);have HSZ:=Y7 (HK.o _ (zw l k hlt));cases k with
   | zero=>
     obtain⟨x,ex⟩:∃ x,qc l ((0:Nat):Int)=x:=⟨_,rfl⟩;have EX:=Y7 ex;rw[ex] at e0 e1 HSZ g0 l0 g1 l1;have G0:=Y7 g0;have L0:=Y7 l0;have G1:=Y7 g1;have L1:=Y7 l1;clear hC ex g0 l0 g1 l1;have e0z:wr.cell? ad=some (.slice A0 x.f0.length c0):=by simpa [Addr.add] using e0
     have e1z:wr.cell? ⟨ad.block,ad.off+1,none⟩=some (.slice A1 x.f1.length c1):=by simpa [Addr.add] using e1
     clear e0 e1;have HBA:=Y7 (oN HB.o (.cells #[.slice A0 x.f0.length c0,.slice A1 x.f1.length c1] 51 (0,0)));have HBK:=Y7 (qx wr (.cells #[.slice A0 x.f0.length c0,.slice A1 x.f1.length c1] 51 (0,0)));have HW:=Y7 (oN (aU wr.heap.size wr) (.cells #[.slice A0 x.f0.length c0,.slice A1 x.f1.length c1] 51 (0,0)));have hxl:x.f1.length≤1000000:=HSZ.o.2.2.1;have aA:=BW.cell ((oQ HBK.o 0).trans rfl);have bA:=BW.cell ((oQ HBK.o 1).trans rfl);cases h1:sI x.f0 with
     | false=>
       have HF:oM (vG l=false):=⟨HBAD.o (AQ (EX.o ▸ Kr h1))⟩;have C1:=Y7 (fun W (hb:Below wr.heap.size wr W)=>Ew.qM A0 c0 _ x.f0 false W rfl (Kd.o9 G0.o hb) L0.o HSZ.o.1 h1);clear h1
       go_wp2_with fail
       refine qD (by kernel_rfl) (by kernel_rfl) ?_
       repeat (any_goals (first | go_big_quiet_step (first|(go_at_call 67;refine qU (C1.o _ ?_);exact oP HW.o (BW.hb _)))|quiet_step (first|(go_at_call 67;refine qU (C1.o _ ?_);exact oP HW.o (BW.hb _)))))
       all_goals (refine dU ?_;intro _ hw';obtain⟨⟨w2,hb⟩,hw''⟩:=hw';subst hw'';have HB2:=Y7 (oP HBA.o hb);clear hb)
       go_wp2;go_ret;exact⟨by rw[HF.o];rfl,HB2.o⟩
     | true=>
       have C1:=Y7 (fun W (hb:Below wr.heap.size wr W)=>Ew.qM A0 c0 _ x.f0 true W rfl (Kd.o9 G0.o hb) L0.o HSZ.o.1 h1)
       by_cases h2:x.f1.length=0
       ·have HF:oM (vG l=false):=⟨HBAD.o (AQ (EX.o ▸ Kt h2))⟩;have h2i:((x.f1.length:Int)==0)=true:=beq_iff_eq.2 (by omega);clear h1 h2
        go_wp2_with fail
        refine qD (by kernel_rfl) (by kernel_rfl) ?_
        repeat (any_goals (first | go_big_quiet_step (first|(go_at_call 67;refine qU (C1.o _ ?_);exact oP HW.o (BW.hb _)))|quiet_step (first|(go_at_call 67;refine qU (C1.o _ ?_);exact oP HW.o (BW.hb _)))))
        all_goals (refine dU ?_;intro _ hw';obtain⟨⟨w2,hb⟩,hw''⟩:=hw';subst hw'';have HB2:=Y7 (oP HBA.o hb);clear hb)
        go_wp2;go_ret;exact⟨by rw[HF.o];rfl,HB2.o⟩
       ·have h2i:((x.f1.length:Int)==0)=false:=beq_eq_false_iff_ne.2 (by omega);cases h3:vC x.f1 with
        | false=>
          have HF:oM (vG l=false):=⟨HBAD.o (AQ (EX.o ▸ Ku h3))⟩;have C2:=Y7 (fun W (hb:Below wr.heap.size wr W)=>Lb.c A1 c1 _ x.f1 false W rfl (Kd.o9 G1.o hb) L1.o HSZ.o.2.2.1 h3);clear h1 h2 h3
          go_wp2_with fail
          refine qD (by kernel_rfl) (by kernel_rfl) ?_
          repeat (any_goals (first | go_big_quiet_step (first|(go_at_call 67;refine qU (C1.o _ ?_);exact oP HW.o (BW.hb _))|(go_at_call 68;refine qU (C2.o _ ?_);exact oP HW.o (BW.hb _)))|quiet_step (first|(go_at_call 67;refine qU (C1.o _ ?_);exact oP HW.o (BW.hb _))|(go_at_call 68;refine qU (C2.o _ ?_);exact oP HW.o (BW.hb _)))))
          all_goals (refine dU ?_;intro _ hw';obtain⟨⟨w2,hb⟩,hw''⟩:=hw';subst hw'';have HB2:=Y7 (oP HBA.o hb);clear hb)
          go_wp2;go_ret;exact⟨by rw[HF.o];rfl,HB2.o⟩
        | true=>
          have C2:=Y7 (fun W (hb:Below wr.heap.size wr W)=>Lb.c A1 c1 _ x.f1 true W rfl (Kd.o9 G1.o hb) L1.o HSZ.o.2.2.1 h3);have HG:=Y7 (HS.o (Ij (EX.o ▸ D6 h1 h2 h3)));clear h1 h2 h3
          go_wp2_with fail
          refine qD (by kernel_rfl) (by kernel_rfl) ?_
          repeat (any_goals (first | go_big_quiet_step (first|(go_at_call 67;refine qU (C1.o _ ?_);exact oP HW.o (BW.hb _))|(go_at_call 68;refine qU (C2.o _ ?_);exact oP HW.o (BW.hb _)))|quiet_step (first|(go_at_call 67;refine qU (C1.o _ ?_);exact oP HW.o (BW.hb _))|(go_at_call 68;refine qU (C2.o _ ?_);exact oP HW.o (BW.hb _)))))
          all_goals (refine dU ?_;intro _ hw';obtain⟨⟨w2,hb⟩,hw''⟩:=hw';subst hw'';have HB2:=Y7 (oP HBA.o hb);clear hb)
          go_wp2
          go_roundw
          case rel=>exact⟨0+1,by omega,by go_num,HG,HB2⟩
          case measure=>simp[intOf]<;>omega
   | succ k=>
     obtain⟨ad_,B0,d0,B1,d1,ea,q0,q1,m0,n0,m1,n1⟩:=wL hC ((k:Nat):Int) (by omega) (by omega);obtain rfl:=bB ea;rw[aG] at q0 q1;have HSY:=Y7 (HK.o _ (zw l k (by omega)));obtain⟨x,ex⟩:∃ x,qc l ((k+1:Nat):Int)=x:=⟨_,rfl⟩;obtain⟨y,ey⟩:∃ y,qc l ((k:Nat):Int)=y:=⟨_,rfl⟩;have EY:=Y7 ey;rw[ey] at q0 q1 n0 m0 HSY;have N0:=Y7 n0;have M0:=Y7 m0;clear n0 m0 m1 n1 q1;have EX:=Y7 ex;rw[ex] at e0 e1 HSZ g0 l0 g1 l1;have G0:=Y7 g0;have L0:=Y7 l0;have G1:=Y7 g1;have L1:=Y7 l1;clear hC ex g0 l0 g1 l1 ey ea;have HBA:=Y7 (oN HB.o (.cells #[.slice A0 x.f0.length c0,.slice A1 x.f1.length c1] 51 (0,0)));have HBK:=Y7 (qx wr (.cells #[.slice A0 x.f0.length c0,.slice A1 x.f1.length c1] 51 (0,0)));have HW:=Y7 (oN (aU wr.heap.size wr) (.cells #[.slice A0 x.f0.length c0,.slice A1 x.f1.length c1] 51 (0,0)));have hxl:x.f1.length≤1000000:=HSZ.o.2.2.1;have q0a:=yG (.cells #[.slice A0 x.f0.length c0,.slice A1 x.f1.length c1] 51 (0,0)) q0;rw[show ((k+1:Nat):Int)=(k:Int)+1 from by omega] at *;have gg0:decide ((0:Int)<(k:Int)+1)=true:=aC (by omega);have hwk:IntKind.i64.wrap ((k:Int)+1-1)=(k:Int):=by rw[bD];omega
     have gg1:(0:Int)≤(k:Int):=by omega
     have gg2:(k:Int)<(l.length:Int):=by omega
     have aA:=BW.cell ((oQ HBK.o 0).trans rfl);have bA:=BW.cell ((oQ HBK.o 1).trans rfl);have pA:=BW.cell q0a;cases h1:sI x.f0 with
     | false=>
       have HF:oM (vG l=false):=⟨HBAD.o (AQ (EX.o ▸ Kr h1))⟩;have C1:=Y7 (fun W (hb:Below wr.heap.size wr W)=>Ew.qM A0 c0 _ x.f0 false W rfl (Kd.o9 G0.o hb) L0.o HSZ.o.1 h1);clear h1
       go_wp2_with fail
       refine qD (by kernel_rfl) (by kernel_rfl) ?_
       repeat (any_goals (first | go_big_quiet_step (first|(go_at_call 67;refine qU (C1.o _ ?_);exact oP HW.o (BW.hb _)))|quiet_step (first|(go_at_call 67;refine qU (C1.o _ ?_);exact oP HW.o (BW.hb _)))))
       all_goals (refine dU ?_;intro _ hw';obtain⟨⟨w2,hb⟩,hw''⟩:=hw';subst hw'';have HB2:=Y7 (oP HBA.o hb);clear hb)
       go_wp2;go_ret;exact⟨by rw[HF.o];rfl,HB2.o⟩
     | true=>
       have C1:=Y7 (fun W (hb:Below wr.heap.size wr W)=>Ew.qM A0 c0 _ x.f0 true W rfl (Kd.o9 G0.o hb) L0.o HSZ.o.1 h1)
       by_cases h2:x.f1.length=0
       ·have HF:oM (vG l=false):=⟨HBAD.o (AQ (EX.o ▸ Kt h2))⟩;have h2i:((x.f1.length:Int)==0)=true:=beq_iff_eq.2 (by omega);clear h1 h2
        go_wp2_with fail
        refine qD (by kernel_rfl) (by kernel_rfl) ?_
        repeat (any_goals (first | go_big_quiet_step (first|(go_at_call 67;refine qU (C1.o _ ?_);exact oP HW.o (BW.hb _)))|quiet_step (first|(go_at_call 67;refine qU (C1.o _ ?_);exact oP HW.o (BW.hb _)))))
        all_goals (refine dU ?_;intro _ hw';obtain⟨⟨w2,hb⟩,hw''⟩:=hw';subst hw'';have HB2:=Y7 (oP HBA.o hb);clear hb)
        go_wp2;go_ret;exact⟨by rw[HF.o];rfl,HB2.o⟩
       ·have h2i:((x.f1.length:Int)==0)=false:=beq_eq_false_iff_ne.2 (by omega);cases h3:vC x.f1 with
        | false=>
          have HF:oM (vG l=false):=⟨HBAD.o (AQ (EX.o ▸ Ku h3))⟩;have C2:=Y7 (fun W (hb:Below wr.heap.size wr W)=>Lb.c A1 c1 _ x.f1 false W rfl (Kd.o9 G1.o hb) L1.o HSZ.o.2.2.1 h3);clear h1 h2 h3
          go_wp2_with fail
          refine qD (by kernel_rfl) (by kernel_rfl) ?_
          repeat (any_goals (first | go_big_quiet_step (first|(go_at_call 67;refine qU (C1.o _ ?_);exact oP HW.o (BW.hb _))|(go_at_call 68;refine qU (C2.o _ ?_);exact oP HW.o (BW.hb _)))|quiet_step (first|(go_at_call 67;refine qU (C1.o _ ?_);exact oP HW.o (BW.hb _))|(go_at_call 68;refine qU (C2.o _ ?_);exact oP HW.o (BW.hb _)))))
          all_goals (refine dU ?_;intro _ hw';obtain⟨⟨w2,hb⟩,hw''⟩:=hw';subst hw'';have HB2:=Y7 (oP HBA.o hb);clear hb)
          go_wp2;go_ret;exact⟨by rw[HF.o];rfl,HB2.o⟩
        | true=>
          have C2:=Y7 (fun W (hb:Below wr.heap.size wr W)=>Lb.c A1 c1 _ x.f1 true W rfl (Kd.o9 G1.o hb) L1.o HSZ.o.2.2.1 h3);have HQ:=M6 (l:=l) (k:=k) (by rw[show ((k+1:Nat):Int)=(k:Int)+1 from by omega,EX.o];exact D6 h1 h2 h3);rw[show ((k+1:Nat):Int)=(k:Int)+1 from by omega,EX.o,EY.o] at HQ;have C3:=Y7 (fun W (hb:Below wr.heap.size wr W)=>Uy.c B0 A0 d0 c0 _ _ y.f0 x.f0 W rfl rfl (Kd.o9 N0.o hb) (Kd.o9 G0.o hb) HSY.o.2.1);clear h1 h2 h3
          by_cases hd:cmpL y.f0 x.f0<0
          ·have HG:=Y7 (HS.o (by rw[HQ,aC hd]));have hd1:decide ((0:Int)≤cmpL y.f0 x.f0)=false:=aD (by omega);clear HQ hd
           go_wp2_with fail
           refine qD (by kernel_rfl) (by kernel_rfl) ?_
           repeat (any_goals (first | go_big_quiet_step (first|(go_at_call 67;refine qU (C1.o _ ?_);exact oP HW.o (BW.hb _))|(go_at_call 68;refine qU (C2.o _ ?_);exact oP HW.o (BW.hb _))|(go_at_call 50;refine qU (C3.o _ ?_);exact oP HW.o (BW.hb _)))|quiet_step (first|(go_at_call 67;refine qU (C1.o _ ?_);exact oP HW.o (BW.hb _))|(go_at_call 68;refine qU (C2.o _ ?_);exact oP HW.o (BW.hb _))|(go_at_call 50;refine qU (C3.o _ ?_);exact oP HW.o (BW.hb _)))))
           all_goals (refine dU ?_;intro _ hw';obtain⟨⟨w2,hb⟩,hw''⟩:=hw';subst hw'';have HB2:=Y7 (oP HBA.o hb);clear hb)
           go_wp2
           go_roundw
           case rel=>exact⟨k+1+1,by omega,by go_num,HG,HB2⟩
           case measure=>simp[intOf]<;>omega
          ·have HF:oM (vG l=false):=⟨HBAD.o (by rw[HQ,aD hd])⟩;have hd1:decide ((0:Int)≤cmpL y.f0 x.f0)=true:=aC (by omega);clear HQ hd
           go_wp2_with fail
           refine qD (by kernel_rfl) (by kernel_rfl) ?_
           repeat (any_goals (first | go_big_quiet_step (first|(go_at_call 67;refine qU (C1.o _ ?_);exact oP HW.o (BW.hb _))|(go_at_call 68;refine qU (C2.o _ ?_);exact oP HW.o (BW.hb _))|(go_at_call 50;refine qU (C3.o _ ?_);exact oP HW.o (BW.hb _)))|quiet_step (first|(go_at_call 67;refine qU (C1.o _ ?_);exact oP HW.o (BW.hb _))|(go_at_call 68;refine qU (C2.o _ ?_);exact oP HW.o (BW.hb _))|(go_at_call 50;refine qU (C3.o _ ?_);exact oP HW.o (BW.hb _)))))
           all_goals (refine dU ?_;intro _ hw';obtain⟨⟨w2,hb⟩,hw''⟩:=hw';subst hw'';have HB2:=Y7 (oP HBA.o hb);clear hb)
           go_wp2;go_ret;exact⟨by rw[HF.o];rfl,HB2.o⟩
  ·obtain rfl:k=l.length:=by omega
   have HF:oM (vG l=true):=⟨Kq HO.o⟩;go_wp2;go_ret;exact⟨by rw[HF.o];rfl,HB.o⟩
def xQ (l:List qG)(j:Nat):List qG:=(l.take (j*20+zH l.length j)).drop (j*20)
theorem y5 (l:List qG)(j:Nat):(xQ l j).length=zH l.length j:=by
 unfold xQ zH;rw[aX,aW];omega
theorem zS {l:List qG}{j:Nat}{x:qG}(h:x∈xQ l j):x∈l:=bT (bU h)
theorem Ng (l:List qG)(j i:Nat)(h:i<zH l.length j):pI (xQ l j) (i:Int)=pI l ((j*20+i:Nat):Int):=by
 simp only[pI,aG,aV,xQ,eY,dB];rw[au (by omega)]
theorem zO {l:List qG}(h:vC l=true)(j:Nat):vC (xQ l j)=true:=by
 unfold vC at h ⊢;rw[y5];simp only[dw,iU,ku,fM] at h ⊢;refine⟨fun i hi=>?_,by unfold zH;omega⟩;rw[Ng l j i (by omega),Ng l j (i+1) (by omega)];exact h.1 (j*20+i) (by unfold zH at hi;omega)
theorem Ec {q:List qG}(hq:q.length≤20)(hok:∀ x∈q,Bd x)(hc:vC q=true):(sU q).length≤410:=by
 have h1:=(Az (tH q q.length) _ (ay _)).1;rw[Qc] at h1;rw[sU,aT,pY];have h3:=wD q hok q.length (ay _);have:=h1.near;omega
noncomputable def wW (u:List Int)(q:List qG):List Int:=rD (u.length+(sU q).length) 4++(u++(sU q))
noncomputable def yI (u:List Int)(l:List qG)(k:Nat):List Int:=(List.range k).flatMap fun j=>wW u (xQ l j)
noncomputable def Dt (x:ru):List Int:=yI (vQ x.f0) x.f1 ((x.f1.length+19) / 20)
noncomputable def vE (l:List ru):List Int:=l.flatMap Dt
theorem Hu (u:List Int)(l:List qG)(k:Nat):yI u l (k+1)=yI u l k++wW u (xQ l k):=by
 simp[yI,mq,jH]
theorem Bt {u:List Int}{q:List qG}(hu:u.length≤600)(hq:q.length≤20)(hok:∀ x∈q,Bd x)(hc:vC q=true):(wW u q).length≤1014:=by
 have:=Ec hq hok hc;rw[wW,aT,aT,pY];omega
theorem Jw {u:List Int}{l:List qG}(hu:u.length≤600)(hok:∀ x∈l,Bd x)(hc:vC l=true):∀ k,(yI u l k).length≤1014*k
 | 0=>by simp[yI]
 | k+1=>by
   have ih:=Jw hu hok hc k;have:=Bt (q:=xQ l k) hu (by rw[y5];unfold zH;omega) (fun x hx=>hok x (zS hx)) (zO hc k);rw[Hu,aT];omega
theorem Jv (l:List ru)(k:Nat)(h:k<l.length):vE (l.take (k+1))=vE (l.take k)++Dt (qc l (k:Int)):=by
 have e:qc l (k:Int)=l[k]:=by simp[qc,aV,aR h]
 rw[bQ h,e,vE,vE,jH];simp
theorem Cc {l:List tQ}(h:sI l=true):(vQ l).length≤600:=by
 have h1:=Bq h l.length (ay _);have h2:=(vB h).2.1;rw[Eb] at h1;omega
theorem Ju (l:List ru)(k:Nat):(vE (l.take k)).length≤(vE l).length:=by
 have h:vE l=vE (l.take k)++vE (l.drop k):=by
  unfold vE;rw[← jH,fG]
 rw[h,aT];omega
noncomputable def AO (u:List Int)(l:List qG)(ks:List Nat):List Int:=ks.flatMap fun j=>wW u (xQ l j)
theorem Ol (u:List Int)(l:List qG)(ks:List Nat)(k:Nat):AO u l (ks++[k])=AO u l ks++wW u (xQ l k):=by simp[AO,jH]
theorem Jy {u:List Int}{l:List qG}(hu:u.length≤600)(hok:∀ x∈l,Bd x)(hc:vC l=true):∀ ks:List Nat,(AO u l ks).length≤1014*ks.length
 | []=>by simp[AO]
 | k::ks=>by
   have ih:=Jy hu hok hc ks;have:=Bt (q:=xQ l k) hu (by rw[y5];unfold zH;omega) (fun x hx=>hok x (zS hx)) (zO hc k);have e:AO u l (k::ks)=wW u (xQ l k)++AO u l ks:=rfl;rw[e,aT,bq];omega
structure But (O B:Nat) (a b:World):Prop where
 os:b.os=a.os
 tape:b.tape=a.tape
 output:b.output=a.output
 size:a.heap.size≤b.heap.size
 block:∀ k,k<B→k≠O→b.heap[k]? = a.heap[k]?
theorem But.refl (O B:Nat)(a:World):But O B a a:=⟨rfl,rfl,rfl,ay _,fun _ _ _=>rfl⟩
theorem But.trans {O B:Nat}{a b c:World}(h:But O B a b)(k:But O B b c):But O B a c:=
 ⟨k.os.trans h.os,k.tape.trans h.tape,k.output.trans h.output,bY h.size k.size,fun i hi hn=>(k.block i hi hn).trans (h.block i hi hn)⟩
theorem But.of_below {O B:Nat}{a b:World}(h:Below B a b):But O B a b:=⟨h.os,h.tape,h.output,h.size,fun k hk _=>h.block k hk⟩
theorem But.below {O B n:Nat}{a b:World}(h:But O B a b)(h1:n≤O)(h2:n≤B):Below n a b:=⟨h.os,h.tape,h.output,h.size,fun k hk=>h.block k (by omega) (by omega)⟩
theorem But.setCell {O B:Nat}{a b:World}(h:But O B a b)(i:Nat)(v:Value):But O B a (b.setCell ⟨O,i,none⟩ v):=
 ⟨h.os,h.tape,h.output,by simpa using h.size,fun k hk hn=>(fQ b ⟨O,i,none⟩ v k hn).trans (h.block k hk hn)⟩
theorem But.grown {O B:Nat}{a b c:World}{row:Option Nat}(h:But O B a b)(hg:b.grownBy c row)(hB:B≤a.heap.size)(hr:∀ r,row=some r→B≤r):But O B a c:=
 ⟨hg.os.trans h.os,hg.tape.trans h.tape,hg.output.trans h.output,bY h.size hg.size,fun k hk hn=>(hg.block k (by have:=h.size;omega) (fun e=>by have:=hr k e.symm;omega)).trans (h.block k hk hn)⟩
theorem Sm {α:Type}{d:Kd α}{e base:Nat}{w1 w2:World}{v:Value}{xs:List α}{row:Option Nat}(h:Kd.R d e w1 base (fun _=>True) v xs)(hg:w1.grownBy w2 row)(hr:∀ r,row=some r→∃ o:Obj,w1.heap[r]? = some o∧o.isCells=false):Kd.R d e w2 base (fun _=>True) v xs:=
 Kd.qR (Kd.Gr (Kd.uK h) hg (fun k hk he=>by
  obtain⟨o,ho,hc⟩:=hr k he.symm;obtain⟨q,_,cells,hcl⟩:=hk.2.2.2;rw[hcl] at ho;injection ho with ho
  subst ho;cases hc)) (fun _ _=>bE)
def WB (D:Nat):Deferred:={ target := .collected D,args := #[] }
theorem Ep {F:Fence}{n:Nat}{P:Program}{fn:Func}{tmps:Array Value}{R:Ending→World→Prop}(M:World→Prop)(hend:∀ W,M W→LeavesInM F n P fn tmps R [] .returning W) :
 ∀ (Ds:List Nat) (W:World),Ds.Nodup→(∀ D∈Ds,W.heap[D]? = some (.deferred (some [])))→(∀ D∈Ds,∀ W,M W→W.heap[D]? = some (.deferred (some []))→M (W.putObj D (.deferred none)))→M W→LeavesInM F n P fn tmps R (Ds.map WB) .returning W
 | [],W,_,_,_,hM=>hend W hM
 | D::Ds,W,hn,hD,hS,hM=>by
   have h0:=hD D (by simp);refine⟨by simp,.inl ⟨D,_,rfl,run_takeDeferred h0,?_⟩⟩;rw[List.nodup_cons] at hn;refine Ep M hend Ds _ hn.2 (fun D' h'=>?_) (fun D' h'=>hS D' (by simp[h'])) (hS D (by simp) W hM h0);rw[lD (fun e=>hn.1 (by subst e;exact h'))];exact hD D' (by simp[h'])
theorem strOfNums_bytes (s:ByteArray):strOfNums (bytesOf s)=s:=by
 apply ByteArray.ext;apply Array.ext';simp[strOfNums,bytesOf,Function.comp_def]
theorem Im (s:ByteArray)(y:List Int):tX (KE s++y)=some (s,y):=by
 have hl:(bytesOf s).length=s.size:=bytesOf_length s;simp only[KE,iC,tX];rw[aG,av (by rw[aT,hl];omega),← hl,eP,fV,strOfNums_bytes]
 ·rfl
 ·rfl
theorem Js (l:List tQ)(r:List Int):∀ k,k≤l.length→sO (l.flatMap Jd++r) k=some (l.take k,(l.drop k).flatMap Jd++r)
 | 0,_=>by simp[sO]
 | k+1,h=>by
   rw[sO,Js l r k (by omega),fP (by omega:k<l.length),bQ (by omega:k<l.length)];simp only[cZ,nC,Jd,bC];rw[Im];simp only[cZ];rw[Im];rfl
theorem QK (l:List tQ)(r:List Int)(h:sI l=true):rR (vQ l++r)=(l,r,0):=by
 have h1:=Js l r l.length (ay _);rw[dz,lQ] at h1;simp only[List.flatMap_nil,cB] at h1;simp only[vQ,iC,rR,aG];rw[h1];simp only[h,oL]
theorem QN {l:List tQ}(h:sI l=true):okB (vQ l)=true:=by
 have hp:=vB h;have hb:∀ s:ByteArray,∀ x∈bytesOf s,0≤x∧x<256:=fun s x hx=>by
  simp only[bytesOf,nH] at hx;obtain⟨c,_,rfl⟩:=hx;exact⟨by omega,by have:=c.toNat_lt;omega⟩
 have ht:∀ s:ByteArray,s.size<256→∀ x∈KE s,0≤x∧x<256:=fun s hs x hx=>by
  rcases List.mem_cons.1 hx with rfl | hx
  ·omega
  ·exact hb s x hx
 refine qV.2 fun x hx=>?_
 rcases List.mem_cons.1 hx with rfl | hx
 ·have:=hp.2.1;omega
 ·obtain⟨y,hy,hx⟩:=List.mem_flatMap.1 hx;obtain⟨k,hk,rfl⟩:=List.mem_iff_getElem.1 hy;have hs:=Au (hp.2.2 k hk);have e:qN l (k:Int)=l[k]:=by simp[qN,aV,aR hk]
  rw[e] at hs;rcases List.mem_append.1 hx with hx | hx
  ·exact ht _ (by omega) x hx
  ·exact ht _ (by omega) x hx
theorem wB (N i:Nat):okB (rD N i)=true:=qV.2 fun x hx=>LW N i x hx
theorem wY {a b:List Int}(ha:okB a=true)(hb:okB b=true):okB (a++b)=true:=qV.2 fun x hx=>(List.mem_append.1 hx).elim (qV.1 ha x) (qV.1 hb x)
def NC (b:List Int):Nat:=wI 0 (b.take 4)
def seg (b:List Int):List Int:=(b.take (4+NC b)).drop 4
theorem V5 {b:List Int}(h:okB b=true):NC b<4294967296:=by
 have:=zi h 4;exact this
theorem XG.c (A:Option Addr)(c n:Nat)(b:List Int)(w:World)(hn:b.length=n)(hr:Kd.C (Kd.int .u8) w A n b)(hc:n≤c)(hok:okB b=true)(h4:4≤n)(A':Option Addr)(c' m:Nat)(hcut:∀ W:World,(Instr.slice 24 (.slice A n c) (some (.int .i64 4)) none none).run Tryz.prog W = .ok (.slice A' m c') W) :
 Calls Tryz.prog 65 #[.slice A n c,.int .i64 4] w fun e w'=>e = .returned (.tuple #[.int .i64 ((NC b:Nat):Int),.slice A' m c',.bool true])∧Below w.heap.size w w':=by
 subst hn;have h4i:¬ ((b.length:Int)<4):=by omega
 have akl:=V5 hok;have h4l:(b.take 4).length=4:=by rw[aW];omega
 have GET:oM (Calls Tryz.prog 97 #[.slice A 4 c] w fun e w'=>e = .returned (.tuple #[.int .u64 ((NC b:Nat):Int),.bool true])∧Below w.heap.size w w'):=⟨by
  have h1:=tT.c A c (b.take 4) ((NC b:Nat):Int) true w (Kd.wZ hr (by omega)) (by omega) (by rw[tT.f,vI.f,au (tC hok (fun x hx=>bT hx)),au (by omega)];rfl);rw[h4l] at h1;exact h1.mono fun e w' ⟨he,hd⟩=>⟨he,hd.below⟩⟩
 generalize NC b=N at *;clear hr hok h4
 go_enter Tryz.func65,Tryz.ntmps65
 go_wp2_with (first|(go_at_call 97;(with_reducible refine GET.o.mono ?_);rintro e w1 ⟨rfl,hb⟩;have HB1:=Y7 hb;clear hb))
 go_region
 all_goals go_wp2
 all_goals (refine bf (fB rfl _ _ _) rfl ?_)
 all_goals exact⟨rfl,q9 HB1.o⟩
end Go.Proofs.Y.PA
