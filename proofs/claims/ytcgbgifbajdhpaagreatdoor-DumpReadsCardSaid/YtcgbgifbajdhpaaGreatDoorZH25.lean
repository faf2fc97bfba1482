/- Of the law ZHQDumpReads. -/
import Derived.Test.YtcgbgifbajdhpaaGreatDoorZH23
set_option linter.unusedVariables false
set_option linter.unusedSimpArgs false
set_option maxHeartbeats 8000000
set_option maxRecDepth 100000
namespace Go.Proofs.Y.PA
open Go.RowKit Go.Proofs.Y.G Go.Proofs.YW.oO Go.Proofs.YW.pq Go.Proofs.YW.pz
theorem JM (l:List qG)(hl:l.length≤1000000):∀ d i,i+1+d=l.length→∀ k,d<k→qz.l0 k l (l.length:Int) ((i+1:Nat):Int)=some (((List.range d).all fun q=>decide ((pI l ((i+q:Nat):Int)).f0<(pI l ((i+q+1:Nat):Int)).f0))&&decide (l.length≤65535))
 | 0,i,h,k+1,hk=>by
   unfold qz.l0;rw[av (by omega)];simp;omega
 | d+1,i,h,k+1,hk=>by
   unfold qz.l0;have e1:wrap64 (((i+1:Nat):Int)-1)=((i:Nat):Int):=by rw[wK (by omega) (by omega)];omega
   have e2:wrap64 (((i+1:Nat):Int)+1)=((i+1+1:Nat):Int):=by rw[wK (by omega) (by omega)];omega
   rw[au (by omega),au (by omega),e1,au (by omega),au (by omega),au (by omega),au (by omega),e2,lI,oG,oJ]
   by_cases hh:(pI l ((i:Nat):Int)).f0≥(pI l ((i+1:Nat):Int)).f0
   ·rw[au hh];have h2:¬ (pI l ((i:Nat):Int)).f0<(pI l ((i+1:Nat):Int)).f0:=by omega
    have e3:decide ((pI l ((i+0:Nat):Int)).f0<(pI l ((i+0+1:Nat):Int)).f0)=false:=aD h2;rw[e3,kE,kE]
   ·rw[av hh,JM l hl d (i+1) (by omega) k (by omega)];have h2:(pI l ((i:Nat):Int)).f0<(pI l ((i+1:Nat):Int)).f0:=by omega
    have e3:decide ((pI l ((i+0:Nat):Int)).f0<(pI l ((i+0+1:Nat):Int)).f0)=true:=aC h2;rw[e3,jc];congr 3
    funext q
    simp only[Function.comp,show i+1+q=i+(q+1) by omega,mJ]
theorem OL (l:List qG)(hl:l.length≤1000000)(k:Nat)(hk:l.length+1<k):qz.f k l=some (vC l):=by
 unfold qz.f vC;obtain⟨k,rfl⟩:∃ k',k=k'+1:=⟨k-1,by omega⟩
 by_cases h:0<l.length
 ·have:=JM l hl (l.length-1) 0 (by omega) k (by omega);simp only[dK] at this;unfold qz.l0;rw[au (by omega),av (by omega)];exact (show wrap64 (0+1)=((1:Nat):Int) from wK (by decide) (by decide)) ▸ this
 ·unfold qz.l0;rw[av (by omega),show l.length-1=0 by omega];simp;omega
theorem OU.alloc {B g:Nat}{W:World}{L:List Bool}(h:OU B W g L)(o:Obj):OU B (W.alloc o) g L:=by
 obtain⟨u,h1,h2⟩:=h;exact⟨u,pK h1 _,Kd.sJ h2 _⟩
theorem OU.drew {B g:Nat}{W:World}{L:List Bool}(h:OU B W g L):OU B W.drew g L:=h
theorem OU.lt {B g:Nat}{W:World}{L:List Bool}(h:OU B W g L):g<W.heap.size:=by
 obtain⟨u,h1,_⟩:=h;exact qQ h1
theorem PG {w W:World}{ad:Addr}{n:Nat}{l:List qG}(hr:Kd.C vX w (some ad) n l)(hb:Below w.heap.size w W)(j:Nat)(hj:j<n):W.cell? (ad.add (j*2))=some (.int .i64 (pI l (j:Int)).f0)∧W.cell? ⟨(ad.add (j*2)).block,(ad.add (j*2)).off+1,none⟩=some (.int .u64 (pI l (j:Int)).f1):=by
 obtain⟨ad',e,h0,h1⟩:=tY (Kd.o9 hr hb) (j:Int) (by omega) (by omega);obtain rfl:=bB e;rw[aG] at h0 h1;exact⟨h0,h1⟩
theorem DI.at_ (B g:Nat)(L:List Bool)(V:Int)(x:Nat)(w0 w:World)(hO:OU B w g L)(hB:Below B w0 w)(hgB:B≤g)(hV:V=(x:Int))(hx:x<18446744073709551616)(hL:L.length≤6000000) :
 Calls Tryz.prog 83 #[.pointer (some ⟨g,0,none⟩),.int .u64 V] w fun e w'=>e = .returned (.tuple #[])∧OU B w' g (L++sK x)∧Below B w0 w'∧zJ g w w':=by
 subst hV;exact DI.c B g L x w0 w hO hB hgB hx hL
theorem Vd (a:Int):wrap64 (wrap64 a-0)=wrap64 a:=by
 have:=wrap64_in a;rw[Int.sub_zero];exact wK this.1 this.2
theorem Ct.bad (A:Option Addr)(c:Nat)(l:List qG)(w:World)(hr:Kd.C vX w A l.length l)(hc:l.length≤c)(hlen:l.length≤20000)(h:vC l=false) :
 Calls Tryz.prog 48 #[.slice A l.length c] w fun e w'=>e = .returned (.tuple #[.slice none 0 0,.int .i64 1])∧Below w.heap.size w w':=by
 have HR:=Y7 hr;have HC:=Y7 hc;have HF:oM (qz.f 100000 l=some false):=⟨by rw[OL l (by omega) _ (by omega),h]⟩;clear hr hc hlen h
 go_enter Tryz.func48,Tryz.ntmps48
 go_wp2_with (go_at_call 68;(with_reducible refine (qz.c 100000 _ _ l false _ HR.o HC.o HF.o).mono ?_);rintro e w1 ⟨rfl,hd⟩;have HB:=Y7 hd.below;clear hd)
 refine bg (dD rfl _ _ _) rfl ?_;exact⟨rfl,HB.o⟩
theorem Ct.ok (A:Option Addr)(c:Nat)(l:List qG)(w:World)(hr:Kd.C vX w A l.length l)(hc:l.length≤c)(hw:∀ x∈l,Bd x)(hlen:l.length≤20000)(h:vC l=true) :
 Calls Tryz.prog 48 #[.slice A l.length c] w fun e w'=>∃ v:Value,e = .returned (.tuple #[v,.int .i64 0])∧Kd.R (Kd.int .u8) 5 w' w.heap.size (fun _=>True) v (sU l)∧Below w.heap.size w w':=by
 have HR:=Y7 hr;have HC:=Y7 hc;have HW:=Y7 hw;have HLN:=Y7 hlen;have HF:oM (qz.f 100000 l=some true):=⟨by rw[OL l (by omega) _ (by omega),h]⟩;clear hr hc hw h hlen
 go_enter Tryz.func48,Tryz.ntmps48
 go_wp2_with (first
  | (go_at_call 68;(with_reducible refine (qz.c 100000 _ _ l true _ HR.o HC.o HF.o).mono ?_);rintro e w1 ⟨rfl,hd⟩;have HB1:=Y7 hd.below;clear hd)
  | ((with_reducible refine qm (N:=14) rfl ?_);refine rF ?hg (N:=14) ?hd (cs := #[.slice none 0 0]) (t:=137) ?hr ?_;(case hd=>rfl);(case hg=>rfl);(case hr=>first|(go_simp;done)|(go_simp;rfl));intro g hg w2 Zo hb;have HB2:=Y7 (oP HB1.o hb);have HBK:=Y7 Zo;have HG:oM (w.heap.size≤g):=⟨by have:=HB1.o.size;omega⟩;clear hb Zo hg))
 have HPK:oM (OU w.heap.size w2 g (tH l 0)):=⟨_,HBK.o,Kd.tJ _ _ _ _ _⟩
 go_loopw [17] (fun i wr=>∃ k:Nat,k≤l.length∧i = .int .i64 k∧oM (OU w.heap.size wr g (tH l k))∧oM (Below w.heap.size w wr)) (fun i _=>l.length-(intOf i).toNat)
 case atStart=>exact⟨0,bP _,rfl,HPK,HB2⟩
 case round=>
  clear HPK HBK HB2;obtain⟨k,hk,rfl,HP,HB⟩:=hrel;have hl2:l.length≤20000:=HLN.o
  by_cases hlt:k<l.length
  ·have hC:=Kd.o9 HR.o HB.o;obtain⟨ad,rfl,h0,h1⟩:=tY hC (k:Int) (by omega) (by omega);rw[aG] at h0 h1;have hx:=HW.o _ (xR l k hlt);have hgw:=(HP.o).lt;have HGN:oM (wr.heap.size≠g):=⟨by omega⟩;have HLE:=Y7 (wD l HW.o k hk);clear hC hgw;cases k with
   | zero=>
     obtain⟨v0,hv0⟩:=bO (uy (pI l 0).f0).1;obtain⟨v1,hv1⟩:=bO hx.2.1;have CA:=Y7 (fun W h1 h2=>tF.at_ w.heap.size g [] (IntKind.u64.wrap (pI l 0).f0) 64 v0 64 w W h1 h2 HG.o hv0 rfl (by have:=(uy (pI l 0).f0).2;omega) (by decide) (by simp));have CB:=Y7 (fun W h1 h2=>tF.at_ w.heap.size g ([]++low v0 64) (pI l 0).f1 64 v1 64 w W h1 h2 HG.o hv1 rfl (by have:=hx.2.2;omega) (by decide) (by simp));have EV:oM ((IntKind.u64.wrap (pI l 0).f0).toNat=v0∧(pI l 0).f1.toNat=v1):=⟨by rw[hv0];rfl,by have h_:(pI l 0).f1=(v1:Int):=hv1;rw[h_];rfl⟩;clear hv0 hv1 hx;have h0':wr.cell? ad=some (.int .i64 (pI l 0).f0):=by simpa [Addr.add] using h0
     have h1':wr.cell? ⟨ad.block,ad.off+1,none⟩=some (.int .u64 (pI l 0).f1):=by simpa [Addr.add] using h1
     clear h0 h1
     go_wp2_with (first
      | (go_at_call 81;(with_reducible refine (CA.o _ (HP.o.alloc _) (oN HB.o _)).mono ?_);rintro e w3 ⟨rfl,hp,hb,hk⟩;have HP3:=Y7 hp;have BX:=hk wr.heap.size _ _ HGN.o (by decide) (qx wr _);have f1:=(oQ BX 1).trans rfl;have HB3:=Y7 hb;clear hp hb hk BX)
      | (go_at_call 81;(with_reducible refine (CB.o _ HP3.o HB3.o).mono ?_);rintro e w4 ⟨rfl,hp,hb,hk⟩;have HP4:=Y7 hp;have HB4:=Y7 hb;clear hp hb hk))
     go_roundw
     case rel=>
      refine⟨1,by omega,by go_num,⟨?_⟩,HB4⟩;have:=HP4.o;rw[cB,← EV.o.1,← EV.o.2] at this;exact this
     case measure=>simp[intOf];omega
   | succ k=>
     have hx1:=HW.o _ (xR l k (by omega));obtain⟨x,ex⟩:∃ x,pI l ((k+1:Nat):Int)=x:=⟨_,rfl⟩;obtain⟨y,ey⟩:∃ y,pI l ((k:Nat):Int)=y:=⟨_,rfl⟩;rw[ex] at h0 h1 hx;rw[ey] at hx1;have hxi:=Ph hx.2 hx1.2;obtain⟨q,eq⟩:∃ q,x.f1.toNat ^^^ y.f1.toNat=q:=⟨_,rfl⟩;rw[eq] at hxi;have CI:=Y7 (fun V W h1 h2=>OC.c w.heap.size g (tH l (k+1)) V w W h1 h2 HG.o (by have:=HLE.o;omega));have CX:=Y7 (fun V U W h1 h2 hU=>DI.at_ w.heap.size g (tH l (k+1)++intBits V) U q w W h1 h2 HG.o hU hxi.2 (by have:=HLE.o;have:=yC V;rw[aT];omega));have HXI:=Y7 hxi.1;have HST:oM (tH l (k+2)=tH l (k+1)++(intBits (wrap64 (wrap64 (x.f0-y.f0)-uP l (k+1)))++sK q)):=⟨by rw[← eq,← ex,← ey];rfl⟩;have HCY:=Y7 (fun W hb=>ey ▸ PG HR.o (W:=W) hb k (by omega));have BX:=Y7 (qx wr (.cells #[.int .i64 x.f0,.int .u64 x.f1] 70));have HPA:=Y7 (HP.o.alloc (.cells #[.int .i64 x.f0,.int .u64 x.f1] 70));have HBA:=Y7 (oN HB.o (.cells #[.int .i64 x.f0,.int .u64 x.f1] 70));clear hx hx1 hxi eq;cases k with
     | zero=>
       rw[show ((0+1:Nat):Int)=1 from rfl] at *;have y0:(wr.alloc (.cells #[.int .i64 x.f0,.int .u64 x.f1] 70)).cell? ad=some (.int .i64 y.f0):=by simpa [Addr.add] using (HCY.o _ HBA.o).1
       have x0:(wr.alloc (.cells #[.int .i64 x.f0,.int .u64 x.f1] 70)).cell? ⟨wr.heap.size,0,none⟩=some (.int .i64 x.f0):=(oQ BX.o 0).trans rfl;have h0':wr.cell? ⟨ad.block,ad.off+2,none⟩=some (.int .i64 x.f0):=by simpa [Addr.add] using h0
       have h1':wr.cell? ⟨ad.block,ad.off+2+1,none⟩=some (.int .u64 x.f1):=by simpa [Addr.add] using h1
       have hxi:=HXI.o;have b3:(0:Int)<(l.length:Int):=by omega
       have b4:0<l.length:=by omega
       have hw0:IntKind.i64.wrap 0=0:=by decide
       have hw1:IntKind.i64.wrap (1-1)=0:=by decide
       clear h0 h1 ex ey
       go_wp2_with fail
       go_region_held3 (fun W=>W.cell? ⟨wr.heap.size,0,none⟩=some (.int .i64 x.f0)∧W.cell? ad=some (.int .i64 y.f0)) (first | exact⟨x0,y0⟩ | exact⟨x3,y3⟩)
        (first|(go_at_call 82;(refine (CI.o _ _ ?s1 ?s2).mono ?_);(case s1=>exact HPA.o.drew);(case s2=>exact oV HBA.o);rintro e w3 ⟨rfl,hp,hb,hk⟩;have bx3:=hk wr.heap.size _ _ HGN.o (by decide) (pX BX.o);have x3:=(oQ bx3 0).trans rfl;have y3:w3.cell? ad=some (.int .i64 y.f0):=(by simpa [Addr.add] using (HCY.o _ hb).1);have HP3:=Y7 hp;have HB3:=Y7 hb;have BX3:=Y7 bx3;clear hp hb hk bx3))
       clear x0 y0;have x1:w3.cell? ⟨wr.heap.size,1,none⟩=some (.int .u64 x.f1):=(oQ BX3.o 1).trans rfl;have y1:w3.cell? ⟨ad.block,ad.off+1,none⟩=some (.int .u64 y.f1):=by simpa [Addr.add] using (HCY.o _ HB3.o).2
       go_wp2_with fail
       go_region_held3 (fun W=>W.cell? ⟨wr.heap.size,1,none⟩=some (.int .u64 x.f1)∧W.cell? ⟨ad.block,ad.off+1,none⟩=some (.int .u64 y.f1)) (first | exact⟨x1,y1⟩ | exact⟨x4,y4⟩)
        (first|(go_at_call 83;(refine (CX.o _ _ _ HP3.o.drew ?s4 ?s5).mono ?_);(case s4=>exact oV HB3.o);(case s5=>first | exact hxi | rfl);rintro e w4 ⟨rfl,hp,hb,hk⟩;have bx4:=hk wr.heap.size _ _ HGN.o (by decide) (pX BX3.o);have x4:w4.cell? ⟨wr.heap.size,1,none⟩=some (.int .u64 x.f1):=(oQ bx4 1).trans rfl;have y4:w4.cell? ⟨ad.block,ad.off+1,none⟩=some (.int .u64 y.f1):=(by simpa [Addr.add] using (HCY.o _ hb).2);have HP4:=Y7 hp;have HB4:=Y7 hb;clear hp hb hk bx4))
       clear x1 y1 x3 y3
       go_wp2_with fail
       go_roundw
       case rel=>
        refine⟨0+2,by omega,by go_num,⟨?_⟩,HB4⟩;have h_:=HP4.o;simp only[q8] at h_;rw[show uP l (0+1)=0 from rfl,Vd] at HST;rw[HST.o,← bC];exact h_
       case measure=>simp[intOf]<;>omega
     | succ k=>
       rw[show ((k+1+1:Nat):Int)=(k:Int)+2 from by omega] at *;obtain⟨z,ez⟩:∃ z,pI l ((k:Nat):Int)=z:=⟨_,rfl⟩;have HSP:oM (uP l (k+1+1)=wrap64 (y.f0-z.f0)):=⟨by rw[← ey,← ez];rfl⟩;have HCZ:=Y7 (fun W hb=>ez ▸ PG HR.o (W:=W) hb k (by omega));have y0:=(HCY.o _ HBA.o).1;have z0:=(HCZ.o _ HBA.o).1;have x0:(wr.alloc (.cells #[.int .i64 x.f0,.int .u64 x.f1] 70)).cell? ⟨wr.heap.size,0,none⟩=some (.int .i64 x.f0):=(oQ BX.o 0).trans rfl;have hxi:=HXI.o;have b0:(0:Int)≤(k:Int):=by omega
       have b1:(k:Int)<(l.length:Int):=by omega
       have b2:(0:Int)≤(k:Int)+1:=by omega
       have b3:(k:Int)+1<(l.length:Int):=by omega
       have hwk:IntKind.i64.wrap (k:Int)=(k:Int):=(q8 _).trans (wK (by omega) (by omega));have amH:IntKind.i64.wrap ((k:Int)+1)=(k:Int)+1:=(q8 _).trans (wK (by omega) (by omega));have amI:IntKind.i64.wrap ((k:Int)+2-1)=(k:Int)+1:=(q8 _).trans ((wK (by omega) (by omega)).trans (by omega));have amJ:IntKind.i64.wrap ((k:Int)+2-2)=(k:Int):=(q8 _).trans ((wK (by omega) (by omega)).trans (by omega));have hn1:((k:Int)+1).toNat=k+1:=by omega
       have d0:((k:Int)+2==0)=false:=beq_eq_false_iff_ne.2 (by omega);have d1:((k:Int)+2==1)=false:=beq_eq_false_iff_ne.2 (by omega);clear ex ey ez
       go_wp2_with fail
       go_region_held3 (fun W=>W.cell? ⟨wr.heap.size,0,none⟩=some (.int .i64 x.f0)∧W.cell? (ad.add ((k+1)*2))=some (.int .i64 y.f0)∧W.cell? (ad.add (k*2))=some (.int .i64 z.f0)) (first | exact⟨x0,y0,z0⟩ | exact⟨x3,y3,z3⟩)
        (first|(go_at_call 82;(refine (CI.o _ _ ?s6 ?s7).mono ?_);(case s6=>exact HPA.o.drew);(case s7=>exact oV HBA.o);rintro e w3 ⟨rfl,hp,hb,hk⟩;have bx3:=hk wr.heap.size _ _ HGN.o (by decide) (pX BX.o);have x3:w3.cell? ⟨wr.heap.size,0,none⟩=some (.int .i64 x.f0):=(oQ bx3 0).trans rfl;have y3:=(HCY.o _ hb).1;have z3:=(HCZ.o _ hb).1;have HP3:=Y7 hp;have HB3:=Y7 hb;have BX3:=Y7 bx3;clear hp hb hk bx3))
       clear x0 y0 z0;have x1:w3.cell? ⟨wr.heap.size,1,none⟩=some (.int .u64 x.f1):=(oQ BX3.o 1).trans rfl;have y1:=(HCY.o _ HB3.o).2
       go_wp2_with fail
       go_region_held3 (fun W=>W.cell? ⟨wr.heap.size,1,none⟩=some (.int .u64 x.f1)∧W.cell? ⟨(ad.add ((k+1)*2)).block,(ad.add ((k+1)*2)).off+1,none⟩=some (.int .u64 y.f1)) (first | exact⟨x1,y1⟩ | exact⟨x4,y4⟩)
        (first|(go_at_call 83;(refine (CX.o _ _ _ HP3.o.drew ?s9 ?s10).mono ?_);(case s9=>exact oV HB3.o);(case s10=>first | exact hxi | rfl);rintro e w4 ⟨rfl,hp,hb,hk⟩;have bx4:=hk wr.heap.size _ _ HGN.o (by decide) (pX BX3.o);have x4:w4.cell? ⟨wr.heap.size,1,none⟩=some (.int .u64 x.f1):=(oQ bx4 1).trans rfl;have y4:=(HCY.o _ hb).2;have HP4:=Y7 hp;have HB4:=Y7 hb;clear hp hb hk bx4))
       clear x1 y1 x3 y3 z3
       go_wp2_with fail
       go_roundw
       case rel=>
        refine⟨k+1+2,by omega,by go_num,⟨?_⟩,HB4⟩;have h_:=HP4.o;simp only[q8] at h_;rw[← HSP.o] at h_;rw[HST.o,← bC];exact h_
       case measure=>simp[intOf]<;>omega
  ·obtain rfl:k=l.length:=by omega
   have hL7:=wD l HW.o l.length (ay _);obtain⟨L,hL⟩:∃ L,tH l l.length=L:=⟨_,rfl⟩;rw[hL] at HP hL7;have HEN:oM (sU l=rD l.length 2++DJ L L.length):=⟨by rw[sU,hL,Qc]⟩;have HL7:oM (L.length≤4000000):=⟨by omega⟩;obtain⟨u,hu1,hu2⟩:=HP.o;obtain⟨A8,c8,rfl⟩:=Kd.pO hu2;have HU1:=Y7 hu1;have HU2:=Y7 hu2;have HPF:oM (G.tV.f (l.length:Int) 2=some (rD l.length 2)):=⟨by have h_:=Qd (q:=(l.length:Int)) (by omega) (by omega) 2;rw[YW (by omega)] at h_;exact h_⟩;clear hu1 hu2 hL hL7
   go_wp2_with (go_at_call 34;(with_reducible refine (G.tV.c _ _ _ _ HPF.o).mono ?_);rintro e w5 ⟨v5,rfl,hr,hb⟩;have HR5:=Y7 hr;have HB5:=Y7 (oP HB.o hb);have HU5:=Y7 (Kd.qo HU2.o hb);have BK5:=Y7 (o7 HU1.o hb);have z5:w5.cell? ⟨g,0,none⟩=some (.slice A8 L.length c8):=(oQ BK5.o 0).trans rfl;clear hr hb)
   have HS5:oM (w.heap.size≤wr.heap.size):=⟨HB.o.size⟩;clear HP HB HU1 HU2;obtain⟨A7,c7,rfl⟩:=Kd.pO HR5.o;have HR6:oM (Kd.R (Kd.int .u8) 5 w5 w.heap.size (fun _=>True) (.slice A7 (rD l.length 2).length c7) (rD l.length 2++DJ L 0)):=⟨by
    rw[show rD l.length 2++DJ L 0=rD l.length 2 from dZ _];exact Kd.qW HR5.o HS5.o⟩
   go_loopw [7,91] (fun v7 i wx=>∃ j:Nat,j≤L.length∧i = .int .i64 j∧oM (Kd.R (Kd.int .u8) 5 wx w.heap.size (fun _=>True) v7 (rD l.length 2++DJ L j))∧oM (Kd.R Kd.bool 4 wx w.heap.size (fun _=>True) (.slice A8 L.length c8) L)∧oM (Below w.heap.size w wx)) (fun _ i _=>L.length-(intOf i).toNat)
   case atStart=>exact⟨0,bP _,rfl,HR6,HU5,HB5⟩
   case round=>
    clear HR5 HR6 HU5 HB5 BK5 z5;obtain⟨j,hj,rfl,HX,HO,HB⟩:=hrel;have hL7:L.length≤4000000:=HL7.o
    by_cases hlt:j<L.length
    ·obtain⟨ad8,rfl,z8⟩:=Kd.Vq (Kd.pE HO.o).2.2 (j:Int) (by omega) (by omega);rw[aG] at z8;have hbit:Ld false L (j:Int)=L.getD j false:=by simp[Ld]
     rw[hbit] at z8;have hpl:(DJ L j).length=(j+7) / 8:=by have h_:=(Az L j (by omega)).1;have:=h_.le;have:=h_.near;omega
     have HXL:oM ((rD l.length 2++DJ L j).length=2+(j+7) / 8):=⟨by rw[aT,pY,hpl]⟩;obtain⟨A7,c7,e7⟩:=Kd.pO HX.o;rw[HXL.o] at e7;subst e7;have HAZ:oM (rD l.length 2++vS (DJ L j) j=if j % 8=0 then rD l.length 2++DJ L j++[0] else rD l.length 2++DJ L j):=⟨by unfold vS;split<;>simp⟩;have HPF:=Y7 (fun hb=>Uk (L:=L) hlt hb);have HPT:=Y7 (fun hb=>VT (L:=L) (m:=2) hlt hb (rD l.length 2) (pY _ _));have HAL:oM ((rD l.length 2++vS (DJ L j) j).length=2+j / 8+1):=⟨by rw[aT,pY,zL (Az L j (by omega)).1];omega⟩;have HOB:oM (Bh (rD l.length 2++vS (DJ L j) j)):=⟨fun x hx=>by
      rcases List.mem_append.1 hx with hx | hx
      ·exact qV.1 (P7 _ _) x hx
      ·unfold vS at hx;split at hx
       ·rcases List.mem_append.1 hx with hx | hx
        ·exact (Az L j (by omega)).1.bytes x hx
        ·rw[List.mem_singleton.1 hx];exact⟨by decide,by decide⟩
       ·exact (Az L j (by omega)).1.bytes x hx⟩
     clear hbit hpl;generalize vS (DJ L j) j=Z at *;generalize L.getD j false=bt at *
     go_upto_if 98 with (fail)
     go_cut [7] (fun v7 wc=>oM (Kd.R (Kd.int .u8) 5 wc w.heap.size (fun _=>True) v7 (rD l.length 2++Z))∧oM (Kd.R Kd.bool 4 wc w.heap.size (fun _=>True) (.slice (some ad8) L.length c8) L)∧oM (Below w.heap.size w wc))
     case first=>
      by_cases hm:j % 8=0
      ·have hmb:((j:Int) % 8==0)=true:=beq_iff_eq.2 (by omega);have HE:=HAZ.o;rw[au hm] at HE;have HE:=Y7 HE;clear hm
       go_wp2_with ((with_reducible refine uh (b := .append) (xs := #[.tmp 99,.tmp 100]) rfl ?_);at_builtin;refine Kd.yw (Kd.int .u8) (w0:=w) w.heap.size rfl (.tmp 99) (.tmp 100) 24 5 (.int .u8 0) 1 rfl Tryz.underlying24 rW rfl (by decide) (by omega) (.slice A7 (2+(j+7) / 8) c7) (rD l.length 2++DJ L j) 0 [.int .u8 0] (fun _=>True) (fun _=>False) rfl ?hx ?aP (fun _ hk=>hk.elim) (fun _ _=>bE) HX.o HB.o HB.o.size ?aL ?_;(case hx=>first | rfl | (go_simp;done)|(show Value.slice _ 1 1=Value.slice _ 1 1;simp;done));(case aP=>exact rfl);(case aL=>have:=HXL.o;omega);intro v9 w9 ho hb hg9 hat;have HX9:=Y7 ho;have HB9:=Y7 hb;have HO9:=Y7 (Kd.Sk HO.o HX.o (by decide) hg9);clear ho hb hg9 hat)
       go_meet
       exact⟨⟨by rw[HE.o];exact HX9.o⟩,HO9,HB9⟩
      ·have hmb:((j:Int) % 8==0)=false:=beq_eq_false_iff_ne.2 (by omega);have HE:=HAZ.o;rw[av hm] at HE;have HE:=Y7 HE;clear hm
       go_wp2_with (fail)
       go_meet
       exact⟨⟨by rw[HE.o];exact HX.o⟩,HO,HB⟩
     case rest=>
      obtain⟨HX2,HO2,HB2⟩:=hcut;clear HX HO HB;cases bt with
      | false=>
        go_wp2_with fail
        go_roundw
        case rel=>exact⟨j+1,by omega,by go_num,⟨by rw[HPF.o rfl];exact HX2.o⟩,HO2,HB2⟩
        case measure=>simp[intOf]<;>omega
      | true=>
        obtain⟨s1,s2,s3⟩:=HPT.o rfl;obtain⟨gb,c9,e9,hgb,hgl,cl,hcl⟩:=Kd.EO HX2.o (by rw[s2];omega);subst e9;rw[s2] at HX2;rw[s2];obtain⟨hc,hf⟩:=Kd.Gq 0 HX2.o ((2+j / 8:Nat):Int) (by omega) (by omega);have HP:=Y7 (Kd.N8 HX2.o ((2+j / 8:Nat):Int) (Go.bits .or .u8 (Z.getD (j / 8) 0) (128 / 2 ^ (j % 8))));rw[show Ld (0:Int) (rD l.length 2++Z) ((2+j / 8:Nat):Int)=Z.getD (j / 8) 0 from s3] at hc;rw[aG] at hc hf HP;rw[s1] at HP;obtain⟨N,hN⟩:∃ N,2+j / 8=N:=⟨_,rfl⟩;rw[hN] at hc hf HP HX2;rw[hN];obtain⟨q,hq⟩:∃ q,j % 8=q:=⟨_,rfl⟩;have hq8:q<8:=hq ▸ gG _ (by decide);have hqi:(j:Int) % 8=(q:Int):=by omega
        rw[hq] at HP;have hN0:(0:Int)≤(N:Int):=by omega
        have hN1:(N:Int)<(N:Int)+1:=by omega
        have hNw:IntKind.i64.wrap (N:Int)=(N:Int):=(q8 _).trans (wK (by omega) (by omega));clear s1 s2 s3 hN hq;clear HPT;generalize Z.getD (j / 8) 0=ov at *
        go_wp2_with fail
        go_region
        all_goals
         go_wp2_with fail
         go_roundw
         case rel=>exact⟨j+1,by omega,by go_num,⟨Kd.vK HP.o.1⟩,⟨Kd.vK (Kd.Sk HO2.o HX2.o (by decide) HP.o.2)⟩,⟨oV (HB2.o.setCell (p:=⟨gb,N,none⟩) hgb _)⟩⟩
         case measure=>simp[intOf]<;>omega
    ·obtain rfl:j=L.length:=by omega
     obtain⟨A7,c7,e7⟩:=Kd.pO HX.o;subst e7
     go_wp2_with fail
     refine bg (dD rfl _ _ _) rfl ?_;refine⟨_,rfl,?_,HB.o⟩;rw[HEN.o];exact HX.o
end Go.Proofs.Y.PA
