/- Of the law rZIQDumpBack. -/
import Derived.Test.YtcgbgifbajdhpaaGreatDoorZI39
set_option linter.unusedVariables false
set_option linter.unusedSimpArgs false
set_option maxHeartbeats 8000000
set_option maxRecDepth 100000
namespace Go
abbrev mG:=@List.drop_subset
end Go
namespace Go.Proofs.Y.PA
open Go.RowKit Go.Proofs.Y.G Go.Proofs.YW.o7 Go.Proofs.YW.pJ Go.Proofs.YW.pO
theorem XB {w:World}{A:Option Addr}{n:Nat}{xs:List Int}(h:Kd.C (Kd.int .u8) w A n xs)(i:Nat)(hi:i<n):∃ ad,A=some ad∧w.cell? (ad.add i)=some (.int .u8 (rd xs i)):=by
 obtain⟨ad,c,e,hl,hK,hc⟩:=Kd.Bh h (0:Int) (i:Int) (by omega) (by omega);refine⟨ad,e,?_⟩;have hK':c=[.int .u8 (xs.getD (i:Int).toNat 0)]:=hK;have h1:=hc 0 (.int .u8 (xs.getD (i:Int).toNat 0)) (by rw[hK'];rfl);rw[bf,show (Kd.int .u8).sz=1 from rfl,kZ,iB] at h1;rw[h1];simp[rd]
def Tz (b:List Int):Bool:=decide (rd b 0=208∧rd b 1=215)
theorem QC {b:List Int}(h:2≤b.length):decide (b.take 2=[208,215])=Tz b:=by
 match b,h with
 | x::y::b,_=>simp[Tz,rd]
theorem hasPrefix.c (A:Option Addr)(c n:Nat)(b:List Int)(A1:Option Addr)(c1:Nat)(w:World)(hn:b.length=n)(hr:Kd.C (Kd.int .u8) w A n b)(hc:n≤c)(hok:okB b=true)(h2:2≤n)(hr1:Kd.C (Kd.int .u8) w A1 2 [208,215])(hc1:2≤c1) :
 Calls Tryz.prog 115 #[.slice A n c,.slice A1 2 c1] w fun e w'=>e = .returned (.bool (Tz b))∧Below w.heap.size w w':=by
 subst hn;have EQ:=Yu (bytes_Equal.c A c (b.take 2) A1 c1 [208,215] (Tz b) w (Kd.zI hr h2) (by rw[bG];omega) hr1 hc1 (by
  rw[bytes_Equal.f,ak ⟨xM hok (fun x hx=>dO hx),by decide⟩,QC h2]))
 rw[show (b.take 2).length=2 by rw[bG];omega,show ([208,215]:List Int).length=2 from rfl] at EQ;have hge:((b.length:Int)≥2):=by omega
 clear hr hok hr1
 go_enter Tryz.func115,Tryz.ntmps115
 go_wp2_with (first|(go_at_call 38;(with_reducible refine EQ.o.mono ?_);rintro e w1 ⟨rfl,hb⟩;have HB1:=Yu hb.below;clear hb))
 go_ret;exact⟨rfl,HB1.o⟩
theorem ND.c (A:Option Addr)(c n:Nat)(b:List Int)(p k:Nat)(w:World)(hn:b.length=n)(hr:Kd.C (Kd.int .u8) w A n b)(hc:n≤c)(hok:okB b=true)(hk:1≤k∧k≤4)(hp:p+k≤n)(hlen:n≤1000000000) :
 Calls Tryz.prog 116 #[.slice A n c,.int .i64 p,.int .i64 k] w fun e w'=>e = .returned (.int .i64 (yA 0 ((b.drop p).take k):Nat))∧Below w.heap.size w w':=by
 subst hn;obtain⟨A2,c2,r,hr2,HC2,hc2,hmid'⟩:=U8 A c b p (p+k) (by omega) hp hc;have hmid:=hmid' (p:Int) ((p:Int)+(k:Int)) rfl (by omega);have hrr:r=(b.drop p).take k:=by rw[hr2.o,List.drop_take];congr 1;omega
 have hrl:r.length=k:=by rw[hrr,bG,bB];omega
 have hro:okB r=true:=xM hok (fun x hx=>by rw[hrr] at hx;exact dU (dO hx));have hlt:yA 0 r<4294967296:=by
  have h1:=JX r (rT.1 hro) 0 0 (by decide);rw[dX,hrl] at h1;exact d9 h1 (by have:=eT (show 0<256 by decide) hk.2;simpa using this)
 have GET:oZ (Calls Tryz.prog 63 #[.slice A2 r.length c2] w fun e w'=>e = .returned (.tuple #[.int .u64 ((yA 0 r:Nat):Int),.bool true])∧pQ w w'):=⟨wz.c A2 c2 r ((yA 0 r:Nat):Int) true w (HC2.o w hr) hc2 (by rw[wz.f,ak hro,ak (by omega)])⟩;have hsum:IntKind.i64.wrap ((p:Int)+(k:Int))=(p:Int)+(k:Int):=by rw[bI];omega
 have hwv:IntKind.i64.wrap ((yA 0 r:Nat):Int)=((yA 0 r:Nat):Int):=by rw[bI];omega
 rw[← hrr];clear hr hok hmid' HC2 hr2 hrr hro;generalize yA 0 r=V at *
 go_enter Tryz.func116,Tryz.ntmps116
 rw[hrl] at GET
 go_wp2_with (first|(go_at_call 63;(with_reducible refine GET.o.mono ?_);rintro e w1 ⟨rfl,hb⟩;have HB1:=Yu hb.below;clear hb))
 go_ret;exact⟨rfl,HB1.o⟩
theorem yF (tmps:Array Value)(W:World)(r:Nat)(x0 x1 x2:Value)(h:W.heap[r]? = some (.cells #[x0,x1,x2] 80 (0,0)))(h2:tmps.getD 2 undef = .pointer (some ⟨r,0,none⟩)) :
 (results Tryz.f79 tmps).run Tryz.prog W = .ok (.tuple #[.agg #[x0,x1,x2],tmps.getD 3 undef]) W:=by
 have c0:=(pq h 0).trans rfl;have c1:=(pq h 1).trans rfl;have c2:=(pq h 2).trans rfl;simp at h2;simp[results,Tryz.f79,go_sem,h2,c0,c1,c2]
def wQ (w:World)(b:List Int)(e:Ending)(w':World):Prop:=∃ (k n:Nat) (v:Value) (p:List Int) (m:Nat),e = .returned (.tuple #[.agg #[.int .i64 k,.int .i64 n,v],.int .i64 m])∧Kd.R (Kd.int .u8) 5 w' w.heap.size (fun _=>True) v p∧Below w.heap.size w w'∧(wh b=none∧m=0∨wh b=some ⟨k,n,p⟩∧m=13+p.length)
theorem wQ.none_ {w W:World}{b:List Int}(h:wh b=none)(hb:Below w.heap.size w W):wQ w b (.returned (.tuple #[.agg #[.int .i64 0,.int .i64 0,.slice none 0 0],.int .i64 0])) W:=
 ⟨0,0,_,[],0,rfl,Kd.ug _ _ _ _ _,hb,.inl ⟨h,rfl⟩⟩
theorem vT {w W:World}{x0 x1 x2:Value}(hb:Below w.heap.size w W):Below w.heap.size w (((W.setCell ⟨w.heap.size,0,none⟩ x0).setCell ⟨w.heap.size,1,none⟩ x1).setCell ⟨w.heap.size,2,none⟩ x2):=
 ((hb.setCell (p:=⟨w.heap.size,0,none⟩) (aD _) _).setCell (p:=⟨w.heap.size,1,none⟩) (aD _) _).setCell (p:=⟨w.heap.size,2,none⟩) (aD _) _
theorem wY {w:World}{g t:Nat}{o0 o1 o2:Value}(h:w.heap[g]? = some (.cells #[o0,o1,o2] t (0,0)))(x0 x1 x2:Value):(((w.setCell ⟨g,0,none⟩ x0).setCell ⟨g,1,none⟩ x1).setCell ⟨g,2,none⟩ x2).heap[g]? = some (.cells #[x0,x1,x2] t (0,0)):=
 qH (qH (qH h 0 _ rfl) 1 _ rfl) 2 _ rfl
def BS (w W:World):Prop:=Below w.heap.size w W∧∃ x0 x1 x2:Value,W.heap[w.heap.size]? = some (.cells #[x0,x1,x2] 80 (0,0))
theorem BS.Yh {w:World}(W W':World)(h:BS w W)(hb:Below W.heap.size W W'):BS w W':=by
 obtain⟨h1,x0,x1,x2,h2⟩:=h;exact⟨o9 h1 hb,x0,x1,x2,pG h2 hb⟩
theorem BS.lt {w W:World}(h:BS w W):w.heap.size+1≤W.heap.size:=by
 obtain⟨h1,x0,x1,x2,h2⟩:=h;exact rE h2
theorem Wq {w W:World}{v x0 x1 x2:Value}{xs:List Int}(h:Kd.R (Kd.int .u8) 5 W (w.heap.size+1) (fun _=>True) v xs):Kd.R (Kd.int .u8) 5 (((W.setCell ⟨w.heap.size,0,none⟩ x0).setCell ⟨w.heap.size,1,none⟩ x1).setCell ⟨w.heap.size,2,none⟩ x2) (w.heap.size+1) (fun k=>True∧w.heap.size+1≤k∧k<W.heap.size∧True) v xs:=by
 have h1:=Kd.sD (ok':=fun k=>True∧w.heap.size+1≤k∧k<W.heap.size∧True) (Kd.vD h) (fun k hk=>⟨dD,hk.2.1,hk.2.2.1,dD⟩);have hok:∀ k,(True∧w.heap.size+1≤k∧k<W.heap.size∧True)→k≠w.heap.size:=fun k hk=>by have:=hk.2.1;omega
 exact Kd.uG (Kd.uG (Kd.uG h1 (p:=⟨w.heap.size,0,none⟩) hok _) (p:=⟨w.heap.size,1,none⟩) hok _) (p:=⟨w.heap.size,2,none⟩) hok _
def Nn (B nm:Nat)(p:List Int):Nat→Value→World→Prop
 | 0,v,_=>v = .int .i64 nm
 | _+1,v,W=>Kd.R (Kd.int .u8) 5 W B (fun _=>True) v p
theorem K9 {B nm:Nat}{p:List Int}:∀ (i:Nat) (v:Value) (W W':World),Nn B nm p i v W→Below W.heap.size W W'→Nn B nm p i v W'
 | 0,_,_,_,h,_=>h
 | _+1,_,_,_,h,hb=>Kd.qO h hb
theorem begins.c (A:Option Addr)(c n:Nat)(b:List Int)(w:World)(hn:b.length=n)(hr:Kd.C (Kd.int .u8) w A n b)(hc:n≤c)(hok:okB b=true)(hlen:n≤1000000000)(hT:zD w) :
 Calls Tryz.prog 79 #[.slice A n c] w (wQ w b):=by
 have HN:=Yu hn;have HR:=Yu hr;have HOK:=Yu hok;have HT:=Yu hT;have HX:=Yu (qG w (.cells #[.int .i64 0,.int .i64 0,.slice none 0 0] 80 (0,0)));have HBA:=Yu (o8 (bq w.heap.size w) (.cells #[.int .i64 0,.int .i64 0,.slice none 0 0] 80 (0,0)))
 by_cases h13:n<13
 ·have HE:oZ (wh b=none):=⟨by rw[wh,ak (by omega)]⟩;have ajG:((n:Int)<13):=by omega
  clear hr hok hT h13 hn
  go_enter Tryz.func79,Tryz.ntmps79
  go_wp2_with fail
  refine bW (yF _ _ w.heap.size _ _ _ HX.o rfl) rfl ?_;exact wQ.none_ HE.o HBA.o
 ·have ajG:¬ ((n:Int)<13):=by omega
  obtain⟨ad,hA,hc2⟩:=XB hr 2 (by omega);subst hA;have HC2:=Yu (show w.cell? ⟨ad.block,ad.off+2,none⟩=some (.int .u8 (rd b 2)) from hc2);have hb2:0≤rd b 2∧rd b 2<256:=rT.1 hok _ (Kz b 2 (by omega));have hbi:=hb2.1;have hbj:=hb2.2;obtain⟨pr,hpr⟩:∃ pr,Tz b=pr:=⟨_,rfl⟩;have adw:=Yu hpr;have hn2:(2:Int)<(n:Int):=by omega
  cases pr with
  | false=>
    have HE:oZ (wh b=none):=⟨by
     rw[wh,aK (by omega),ak];have:=dQ hpr;omega⟩
    clear hr hok hT hn hb2 hpr hc2
    go_enter Tryz.func79,Tryz.ntmps79
    go_wp2_with (first|(go_at_call 95;(with_reducible refine (uE.c [208,215] _ rfl).mono ?_);rintro e w2 ⟨v2,rfl,hr2,hb⟩;obtain⟨A2,c2,hv2⟩:=Kd.qo hr2;replace hv2:v2 = .slice A2 2 c2:=hv2;subst hv2;have HM2:oZ (2≤c2∧Kd.C (Kd.int .u8) w2 A2 2 [208,215]):=⟨⟨(Kd.pR hr2).2.1,(Kd.pR hr2).2.2⟩⟩;have HB2:=Yu (o9 HBA.o hb);have HX2:=Yu (pG HX.o hb);clear hr2 hb)|(go_at_call 115;(with_reducible refine (hasPrefix.c _ c n b A2 c2 _ HN.o (Kd.pI HR.o HB2.o) hc HOK.o (by omega) HM2.o.2 HM2.o.1).mono ?_);rintro e w3 ⟨rfl,hb⟩;rw[adw.o];have HB3:=Yu (o9 HB2.o hb);have HX3:=Yu (pG HX2.o hb);have e2:=qm HB3.o HC2.o;have q0:=(pq HX3.o 0).trans rfl;have q1:=(pq HX3.o 1).trans rfl;have q2:=(pq HX3.o 2).trans rfl;have y0:=pE HX3.o 0;have y1:=pE HX3.o 1;have y2:=pE HX3.o 2;clear hb))
    refine bW (yF _ _ w.heap.size _ _ _ (wY HX3.o _ _ _) rfl) rfl ?_;exact wQ.none_ HE.o (vT HB3.o)
  | true=>
    have ad6:rd b 0=208∧rd b 1=215:=aR hpr
    by_cases hk1:rd b 2<1
    ·have HE:oZ (wh b=none):=⟨by
      rw[wh,aK (by omega),ak (by omega)]⟩
     clear hr hok hT hn hb2 hpr hc2 ad6;generalize rd b 2=k2 at *
     go_enter Tryz.func79,Tryz.ntmps79
     go_wp2_with (first|(go_at_call 95;(with_reducible refine (uE.c [208,215] _ rfl).mono ?_);rintro e w2 ⟨v2,rfl,hr2,hb⟩;obtain⟨A2,c2,hv2⟩:=Kd.qo hr2;replace hv2:v2 = .slice A2 2 c2:=hv2;subst hv2;have HM2:oZ (2≤c2∧Kd.C (Kd.int .u8) w2 A2 2 [208,215]):=⟨⟨(Kd.pR hr2).2.1,(Kd.pR hr2).2.2⟩⟩;have HB2:=Yu (o9 HBA.o hb);have HX2:=Yu (pG HX.o hb);clear hr2 hb)|(go_at_call 115;(with_reducible refine (hasPrefix.c _ c n b A2 c2 _ HN.o (Kd.pI HR.o HB2.o) hc HOK.o (by omega) HM2.o.2 HM2.o.1).mono ?_);rintro e w3 ⟨rfl,hb⟩;rw[adw.o];have HB3:=Yu (o9 HB2.o hb);have HX3:=Yu (pG HX2.o hb);have e2:=qm HB3.o HC2.o;have q0:=(pq HX3.o 0).trans rfl;have q1:=(pq HX3.o 1).trans rfl;have q2:=(pq HX3.o 2).trans rfl;have y0:=pE HX3.o 0;have y1:=pE HX3.o 1;have y2:=pE HX3.o 2;clear hb))
     refine bW (yF _ _ w.heap.size _ _ _ (wY HX3.o _ _ _) rfl) rfl ?_;exact wQ.none_ HE.o (vT HB3.o)
    ·by_cases hk3:3<rd b 2
     ·have HE:oZ (wh b=none):=⟨by
       rw[wh,aK (by omega),ak (by omega)]⟩
      have akF:¬ (rd b 2<1):=hk1;clear hr hok hT hn hb2 hpr hc2 ad6;generalize rd b 2=k2 at *
      go_enter Tryz.func79,Tryz.ntmps79
      go_wp2_with (first|(go_at_call 95;(with_reducible refine (uE.c [208,215] _ rfl).mono ?_);rintro e w2 ⟨v2,rfl,hr2,hb⟩;obtain⟨A2,c2,hv2⟩:=Kd.qo hr2;replace hv2:v2 = .slice A2 2 c2:=hv2;subst hv2;have HM2:oZ (2≤c2∧Kd.C (Kd.int .u8) w2 A2 2 [208,215]):=⟨⟨(Kd.pR hr2).2.1,(Kd.pR hr2).2.2⟩⟩;have HB2:=Yu (o9 HBA.o hb);have HX2:=Yu (pG HX.o hb);clear hr2 hb)|(go_at_call 115;(with_reducible refine (hasPrefix.c _ c n b A2 c2 _ HN.o (Kd.pI HR.o HB2.o) hc HOK.o (by omega) HM2.o.2 HM2.o.1).mono ?_);rintro e w3 ⟨rfl,hb⟩;rw[adw.o];have HB3:=Yu (o9 HB2.o hb);have HX3:=Yu (pG HX2.o hb);have e2:=qm HB3.o HC2.o;have q0:=(pq HX3.o 0).trans rfl;have q1:=(pq HX3.o 1).trans rfl;have q2:=(pq HX3.o 2).trans rfl;have y0:=pE HX3.o 0;have y1:=pE HX3.o 1;have y2:=pE HX3.o 2;clear hb))
      refine bW (yF _ _ w.heap.size _ _ _ (wY HX3.o _ _ _) rfl) rfl ?_;exact wQ.none_ HE.o (vT HB3.o)
     ·have ad7:¬ (rd b 2<1)∧¬ (rd b 2>3):=⟨hk1,by omega⟩;obtain⟨kd,hkd⟩:∃ kd:Nat,rd b 2=(kd:Int):=⟨(rd b 2).toNat,by omega⟩;obtain⟨s,hs⟩:∃ s,yA 0 ((b.drop 7).take 2)=s:=⟨_,rfl⟩;have akG:s<65536:=by
       have h1:=JX ((b.drop 7).take 2) (fun x hx=>rT.1 hok x (dU (dO hx))) 0 0 (by decide);rw[hs,dX,show ((b.drop 7).take 2).length=2 by rw[bG,bB];omega] at h1;exact h1
      have F7:oZ (∀ W,Below w.heap.size w W→Calls Tryz.prog 116 #[.slice (some ad) n c,.int .i64 7,.int .i64 2] W fun e w'=>e = .returned (.int .i64 (s:Nat))∧Below W.heap.size W w'):=⟨fun W hb=>by
       have h1:=ND.c (some ad) c n b 7 2 W hn (Kd.pI hr hb) hc hok (by decide) (by omega) hlen;rw[hs] at h1;exact h1⟩
      have h3a:=ad7.1;have h3b:=ad7.2;have hend:IntKind.i64.wrap (9+(s:Int))=9+(s:Int):=by rw[bI];omega
      have akf:IntKind.i64.wrap (9+(s:Int)+4)=9+(s:Int)+4:=by rw[bI];omega
      by_cases hs1:1000<s
      ·have HE:oZ (wh b=none):=⟨by rw[wh,aK (by omega),aK (by omega),hs,ak (.inl hs1)]⟩;have hsi:((s:Int)>1000):=by omega
       rw[hkd] at HC2 h3a h3b hbi hbj;clear hr hok hT hn hb2 hpr hc2 ad6 hk1 hk3 ad7 hkd hs
       go_enter Tryz.func79,Tryz.ntmps79
       go_wp2_with (first|(go_at_call 95;(with_reducible refine (uE.c [208,215] _ rfl).mono ?_);rintro e w2 ⟨v2,rfl,hr2,hb⟩;obtain⟨A2,c2,hv2⟩:=Kd.qo hr2;replace hv2:v2 = .slice A2 2 c2:=hv2;subst hv2;have HM2:oZ (2≤c2∧Kd.C (Kd.int .u8) w2 A2 2 [208,215]):=⟨⟨(Kd.pR hr2).2.1,(Kd.pR hr2).2.2⟩⟩;have HB2:=Yu (o9 HBA.o hb);have HX2:=Yu (pG HX.o hb);clear hr2 hb)|(go_at_call 115;(with_reducible refine (hasPrefix.c _ c n b A2 c2 _ HN.o (Kd.pI HR.o HB2.o) hc HOK.o (by omega) HM2.o.2 HM2.o.1).mono ?_);rintro e w3 ⟨rfl,hb⟩;rw[adw.o];have HB3:=Yu (o9 HB2.o hb);have HX3:=Yu (pG HX2.o hb);have e2:=qm HB3.o HC2.o;clear hb)|(go_at_call 116;(with_reducible refine (F7.o _ HB3.o).mono ?_);rintro e w5 ⟨rfl,hb⟩;have HB5:=Yu (o9 HB3.o hb);have HX5:=Yu (pG HX3.o hb);have q0:=(pq HX5.o 0).trans rfl;have q1:=(pq HX5.o 1).trans rfl;have q2:=(pq HX5.o 2).trans rfl;have y0:=pE HX5.o 0;have y1:=pE HX5.o 1;have y2:=pE HX5.o 2;clear hb))
       refine bW (yF _ _ w.heap.size _ _ _ (wY HX5.o _ _ _) rfl) rfl ?_;exact wQ.none_ HE.o (vT HB5.o)
      ·have hsi:¬ ((s:Int)>1000):=by omega
       by_cases hln:n<13+s
       ·have HE:oZ (wh b=none):=⟨by rw[wh,aK (by omega),aK (by omega),hs,ak (.inr (by omega))]⟩;have hli:((n:Int)<9+(s:Int)+4):=by omega
        rw[hkd] at HC2 h3a h3b hbi hbj;clear hr hok hT hn hb2 hpr hc2 ad6 hk1 hk3 ad7 hkd hs
        go_enter Tryz.func79,Tryz.ntmps79
        go_wp2_with (first|(go_at_call 95;(with_reducible refine (uE.c [208,215] _ rfl).mono ?_);rintro e w2 ⟨v2,rfl,hr2,hb⟩;obtain⟨A2,c2,hv2⟩:=Kd.qo hr2;replace hv2:v2 = .slice A2 2 c2:=hv2;subst hv2;have HM2:oZ (2≤c2∧Kd.C (Kd.int .u8) w2 A2 2 [208,215]):=⟨⟨(Kd.pR hr2).2.1,(Kd.pR hr2).2.2⟩⟩;have HB2:=Yu (o9 HBA.o hb);have HX2:=Yu (pG HX.o hb);clear hr2 hb)|(go_at_call 115;(with_reducible refine (hasPrefix.c _ c n b A2 c2 _ HN.o (Kd.pI HR.o HB2.o) hc HOK.o (by omega) HM2.o.2 HM2.o.1).mono ?_);rintro e w3 ⟨rfl,hb⟩;rw[adw.o];have HB3:=Yu (o9 HB2.o hb);have HX3:=Yu (pG HX2.o hb);have e2:=qm HB3.o HC2.o;clear hb)|(go_at_call 116;(with_reducible refine (F7.o _ HB3.o).mono ?_);rintro e w5 ⟨rfl,hb⟩;have HB5:=Yu (o9 HB3.o hb);have HX5:=Yu (pG HX3.o hb);have q0:=(pq HX5.o 0).trans rfl;have q1:=(pq HX5.o 1).trans rfl;have q2:=(pq HX5.o 2).trans rfl;have y0:=pE HX5.o 0;have y1:=pE HX5.o 1;have y2:=pE HX5.o 2;clear hb))
        refine bW (yF _ _ w.heap.size _ _ _ (wY HX5.o _ _ _) rfl) rfl ?_;exact wQ.none_ HE.o (vT HB5.o)
       ·have hli:¬ ((n:Int)<9+(s:Int)+4):=by omega
        obtain⟨V,hV⟩:∃ V,yA 0 ((b.drop (9+s)).take 4)=V:=⟨_,rfl⟩;have akH:V<4294967296:=by
         have h1:=JX ((b.drop (9+s)).take 4) (fun x hx=>rT.1 hok x (dU (dO hx))) 0 0 (by decide);rw[hV,dX,show ((b.drop (9+s)).take 4).length=4 by rw[bG,bB];omega] at h1;exact h1
        have FE:oZ (∀ W,Below w.heap.size w W→Calls Tryz.prog 116 #[.slice (some ad) n c,.int .i64 (9+(s:Int)),.int .i64 4] W fun e w'=>e = .returned (.int .i64 (V:Nat))∧Below W.heap.size W w'):=⟨fun W hb=>by
         have h1:=ND.c (some ad) c n b (9+s) 4 W hn (Kd.pI hr hb) hc hok (by decide) (by omega) hlen;rw[hV,show ((9+s:Nat):Int)=9+(s:Int) by omega] at h1;exact h1⟩
        obtain⟨S,hS⟩:∃ S,Dy (b.take (9+s))=S:=⟨_,rfl⟩;have hto:okB (b.take (9+s))=true:=xM hok (fun x hx=>dO hx);have htl:(b.take (9+s)).length=9+s:=by rw[bG];omega
        have SUM:oZ (∀ W,Below w.heap.size w W→Calls Tryz.prog 96 #[.slice (some ad) (9+s) c] W fun e w'=>e = .returned (.int .u32 (S:Nat))∧Below W.heap.size W w'):=⟨fun W hb=>by
         have h1:=wT.qP (some ad) c (b.take (9+s)) (S:Nat) W htl (by have h2:=Kd.zI (m:=9+s) (xs:=b) (by rw[hn];exact Kd.pI hr hb) (by omega);rwa [htl] at h2) (by omega) (hT.below hb) (by rw[wT.f,ak hto,← hS];rfl);exact h1.mono fun e w' ⟨he,hd⟩=>⟨he,hd.below⟩⟩
        obtain⟨i05,acJ,_,hsz5,_⟩:=info_parts uS;have ah0:∀ W:World,(Instr.slice 24 (.slice (some ad) n c) none (some (.int .i64 (9+(s:Int)))) none).run Tryz.prog W = .ok (.slice (some ad) (9+s) c) W:=fun W=>by
         have h1:=Gc (P:=Tryz.prog) 24 5 .i64 Tryz.underlying24 acJ (some ad) n c (9+(s:Int)) (by omega) (by omega) hc W;rwa [show (9+(s:Int)).toNat=9+s by omega] at h1
        have akI:IntKind.u32.wrap (V:Int)=(V:Int):=by simp[IntKind.wrap,IntKind.bits,IntKind.signed];omega
        by_cases hSV:S=V
        ·obtain⟨nm,hnm⟩:∃ nm,yA 0 ((b.drop 3).take 4)=nm:=⟨_,rfl⟩;obtain⟨pay,hpay⟩:∃ pay,(b.take (9+s)).drop 9=pay:=⟨_,rfl⟩;have hpl:pay.length=s:=by rw[← hpay,bB,htl];omega
         have HE:oZ (wh b=some ⟨kd,nm,pay⟩):=⟨by rw[wh,aK (by omega),aK (by omega),hs,aK (by omega),hS,hV,aK (by omega),hnm,hpay,hkd,bf]⟩;have F3:oZ (∀ W,Below w.heap.size w W→Calls Tryz.prog 116 #[.slice (some ad) n c,.int .i64 3,.int .i64 4] W fun e w'=>e = .returned (.int .i64 (nm:Nat))∧Below W.heap.size W w'):=⟨fun W hb=>by
          have h1:=ND.c (some ad) c n b 3 4 W hn (Kd.pI hr hb) hc hok (by decide) (by omega) hlen;rw[hnm] at h1;exact h1⟩
         obtain⟨A3,c3,r3,hr3,HC3,hc3,hmid'⟩:=U8 (some ad) c b 9 (9+s) (by omega) (by omega) (by omega);have hmid:=hmid' 9 (9+(s:Int)) rfl (by omega);rw[hn] at hmid;have ajH:r3=pay:=by rw[hr3.o,hpay]
         subst ajH;have CLO:oZ (∀ W,Below w.heap.size w W→Calls Tryz.prog 16 #[.slice A3 r3.length c3] W fun e w'=>∃ v:Value,e = .returned v∧Kd.R (Kd.int .u8) 5 w' W.heap.size (fun _=>True) v r3∧Below W.heap.size W w'):=⟨fun W hb=>(Ri.c A3 c3 r3 r3.length W rfl (HC3.o W (by rw[hn];exact Kd.pI hr hb)) hc3 (by omega))⟩;rw[hpl] at CLO;have heq:((S:Int) != (V:Int))=false:=by simp;omega
         have hki:IntKind.i64.wrap (kd:Int)=(kd:Int):=by rw[bI];omega
         rw[hkd] at HC2 h3a h3b hbi hbj;clear hr hok hT hn hb2 hpr hc2 ad6 hk1 hk3 ad7 hkd hs hS hV hto htl hSV acJ hsz5 hmid' hr3 HC3 hpay hnm
         go_enter Tryz.func79,Tryz.ntmps79
         go_wp2_with (first|(go_at_call 95;(with_reducible refine (uE.c [208,215] _ rfl).mono ?_);rintro e w2 ⟨v2,rfl,hr2,hb⟩;obtain⟨A2,c2,hv2⟩:=Kd.qo hr2;replace hv2:v2 = .slice A2 2 c2:=hv2;subst hv2;have HM2:oZ (2≤c2∧Kd.C (Kd.int .u8) w2 A2 2 [208,215]):=⟨⟨(Kd.pR hr2).2.1,(Kd.pR hr2).2.2⟩⟩;have HB2:=Yu (o9 HBA.o hb);have HX2:=Yu (pG HX.o hb);clear hr2 hb)|(go_at_call 115;(with_reducible refine (hasPrefix.c _ c n b A2 c2 _ HN.o (Kd.pI HR.o HB2.o) hc HOK.o (by omega) HM2.o.2 HM2.o.1).mono ?_);rintro e w3 ⟨rfl,hb⟩;rw[adw.o];have HB3:=Yu (o9 HB2.o hb);have HX3:=Yu (pG HX2.o hb);have e2:=qm HB3.o HC2.o;clear hb)|(go_at_call 116;(with_reducible refine (F7.o _ HB3.o).mono ?_);rintro e w5 ⟨rfl,hb⟩;have HB5:=Yu (o9 HB3.o hb);have HX5:=Yu (pG HX3.o hb);have q0:=(pq HX5.o 0).trans rfl;have q1:=(pq HX5.o 1).trans rfl;have q2:=(pq HX5.o 2).trans rfl;have y0:=pE HX5.o 0;have y1:=pE HX5.o 1;have y2:=pE HX5.o 2;clear hb)|(go_at_call 96;(with_reducible refine (SUM.o _ HB5.o).mono ?_);rintro e w6 ⟨rfl,hb⟩;have HB6:=Yu (o9 HB5.o hb);have HX6:=Yu (pG HX5.o hb);clear hb q0 q1 q2 y0 y1 y2)|(go_at_call 116;(with_reducible refine (FE.o _ HB6.o).mono ?_);rintro e w7 ⟨rfl,hb⟩;have HB7:=Yu (o9 HB6.o hb);have HX7:=Yu (pG HX6.o hb);have q0:=(pq HX7.o 0).trans rfl;have q1:=(pq HX7.o 1).trans rfl;have q2:=(pq HX7.o 2).trans rfl;have y0:=pE HX7.o 0;have y1:=pE HX7.o 1;have y2:=pE HX7.o 2;clear hb))
         clear q0 q1 q2 y0 y1 y2 HX3 HX5 HX6 HB3 HB5 HB6 SUM FE F7 ah0;have HC7:oZ (∀ W',BS w W'→W'.cell? ⟨ad.block,ad.off+2,none⟩=some (.int .u8 kd)):=⟨fun W' hb=>qm hb.1 HC2.o⟩;have HS:oZ (BS w w7.drew):=⟨rM HB7.o,_,_,_,qg HX7.o⟩;refine xR (by kernel_rfl) (qy.start (n:=14) (S:=BS w) (by decide) ?_);refine qy.take' (i:=0) (v:=?_) rfl rfl (by kernel_rfl) (fun _ _ _ h=>by cases h.1) (Or.inl ⟨by rfl,?_⟩) HS.o ?_
         rotate_left
         ·(intro W' hW';have c2_:=HC7.o W' hW';go_simp;try (with_reducible rfl))
         try simp only[ah,aI,ay]
         refine qy.take' (i:=1) (v:=?_) rfl rfl (by kernel_rfl) (fun _ _ _ h=>by cases h.1) (Or.inl ⟨by rfl,?_⟩) HS.o ?_
         rotate_left
         ·(intro W' hW';have c2_:=HC7.o W' hW';go_simp;try (with_reducible rfl))
         try simp only[ah,aI,ay]
         refine qy.take' (i:=2) (v:=?_) rfl rfl (by kernel_rfl) (fun _ _ _ h=>by cases h.1) (Or.inl ⟨by rfl,?_⟩) HS.o ?_
         rotate_left
         ·(intro W' hW';have c2_:=HC7.o W' hW';go_simp;try (with_reducible rfl))
         try simp only[ah,aI,ay]
         refine qy.take' (i:=3) (v:=?_) rfl rfl (by kernel_rfl) (fun _ _ _ h=>by cases h.1) (Or.inl ⟨by rfl,?_⟩) HS.o ?_
         rotate_left
         ·(intro W' hW';have c2_:=HC7.o W' hW';go_simp;try (with_reducible rfl))
         try simp only[ah,aI,ay]
         refine qy.take' (i:=4) (v:=?_) rfl rfl (by kernel_rfl) (fun _ _ _ h=>by cases h.1) (Or.inl ⟨by rfl,?_⟩) HS.o ?_
         rotate_left
         ·(intro W' hW';have c2_:=HC7.o W' hW';go_simp;try (with_reducible rfl))
         try simp only[ah,aI,ay]
         refine qy.take' (i:=6) (v:=?_) rfl rfl (by kernel_rfl) (fun _ _ _ h=>by cases h.1) (Or.inl ⟨by rfl,?_⟩) HS.o ?_
         rotate_left
         ·(intro W' hW';have c2_:=HC7.o W' hW';go_simp;try (with_reducible rfl))
         try simp only[ah,aI,ay]
         refine qy.take' (i:=7) (v:=?_) rfl rfl (by kernel_rfl) (fun _ _ _ h=>by cases h.1) (Or.inl ⟨by rfl,?_⟩) HS.o ?_
         rotate_left
         ·(intro W' hW';have c2_:=HC7.o W' hW';go_simp;try (with_reducible rfl))
         try simp only[ah,aI,ay]
         refine qy.take' (i:=8) (v:=?_) rfl rfl (by kernel_rfl) (fun _ _ _ h=>by cases h.1) (Or.inl ⟨by rfl,?_⟩) HS.o ?_
         rotate_left
         ·(intro W' hW';have c2_:=HC7.o W' hW';go_simp;try (with_reducible rfl))
         try simp only[ah,aI,ay]
         refine qy.take' (i:=11) (v:=?_) rfl rfl (by kernel_rfl) (fun _ _ _ h=>by cases h.1) (Or.inl ⟨by rfl,?_⟩) HS.o ?_
         rotate_left
         ·(intro W' hW';have c2_:=HC7.o W' hW';go_simp;try (with_reducible rfl))
         try simp only[ah,aI,ay]
         refine qy.take' (i:=12) (v:=?_) rfl rfl (by kernel_rfl) (fun _ _ _ h=>by cases h.1) (Or.inl ⟨by rfl,?_⟩) HS.o ?_
         rotate_left
         ·(intro W' hW';have c2_:=HC7.o W' hW';go_simp;try (with_reducible rfl))
         try simp only[ah,aI,ay]
         refine qy.many (f:=2) [5,9] [58,62] (Nn (w.heap.size+1) nm r3) K9 (by kernel_rfl) rfl (by decide) HS.o BS.Yh ?many ?rest
         case many=>
          intro j i d o h1 h2 h3;rcases j with _ | _ | j
          ·cases h1;cases h2;cases h3;refine⟨rfl,fun y W' hW'=>?_⟩;simp only[uM,ah,aI,ay];go_simp
           refine (F3.o W' hW'.1).mono ?_;rintro e w8 ⟨rfl,hb8⟩;exact⟨rfl,hb8⟩
          ·cases h1;cases h2;cases h3;refine⟨rfl,fun y W' hW'=>?_⟩;simp only[uM,ah,aI,ay];go_simp
           refine (CLO.o W' hW'.1).mono ?_;rintro e w8 ⟨v8,rfl,hr8,hb8⟩;exact⟨Kd.sj hr8 hW'.lt,hb8⟩
          ·simp at h1
         case rest=>
          intro y W2 hW2 hΦ;have r0:=hΦ 0 (by decide);have r1:=hΦ 1 (by decide);simp only[uM,ah,aI,ay];clear hΦ;generalize y 0=v0 at *;generalize y (0+1)=v1 at *;replace r0:v0 = .int .i64 nm:=r0;replace r1:Kd.R (Kd.int .u8) 5 W2 (w.heap.size+1) (fun _=>True) v1 r3:=r1;subst r0;obtain⟨A5,c5,hv1⟩:=Kd.qo r1;rw[hpl] at hv1;subst hv1;have HR5:=Yu r1;have HS2:=Yu hW2;obtain⟨o0,o1,o2,hx8⟩:=hW2.2;have HX8:=Yu hx8;clear r1 hW2 hx8;refine qy.one (i:=10) rfl (by kernel_rfl) (by rfl) (fun K1 hK1=>?_);go_simp
          refine hK1 _ _ HS2.o ?_;clear hK1;have q0:=(pq HX8.o 0).trans rfl;have q1:=(pq HX8.o 1).trans rfl;have q2:=(pq HX8.o 2).trans rfl;have y0:=pE HX8.o 0;have y1:=pE HX8.o 1;have y2:=pE HX8.o 2;refine qy.one (i:=13) rfl (by kernel_rfl) (by rfl) (fun K2 hK2=>?_);go_simp
          have HS3:oZ (BS w (((W2.setCell ⟨w.heap.size,0,none⟩ (.int .i64 kd)).setCell ⟨w.heap.size,1,none⟩ (.int .i64 nm)).setCell ⟨w.heap.size,2,none⟩ (.slice A5 s c5))):=⟨vT HS2.o.1,_,_,_,wY HX8.o _ _ _⟩;have HX9:=Yu (wY HX8.o (.int .i64 kd) (.int .i64 nm) (.slice A5 s c5));refine hK2 _ _ HS3.o ?_;clear hK2 q0 q1 q2 y0 y1 y2;refine qy.last rfl (by kernel_rfl) (by rfl) (fun K3 hK3=>?_);go_simp
          refine hK3 _ _ ⟨rfl,?_⟩;clear hK3
          go_wp2_with fail
          refine bW (yF _ _ w.heap.size _ _ _ HX9.o rfl) rfl ?_;refine⟨kd,nm,_,r3,13+s,?_,Kd.sD (Kd.sj (Wq HR5.o) (mg _)) (fun _ _=>dD),HS3.o.1,.inr ⟨HE.o,by rw[hpl]⟩⟩;show Ending.returned (.tuple #[.agg #[.int .i64 kd,.int .i64 nm,.slice A5 s c5],.int .i64 (9+(s:Int)+4)])=_;rw[show 9+(s:Int)+4=((13+s:Nat):Int) by omega]
        ·have HE:oZ (wh b=none):=⟨by rw[wh,aK (by omega),aK (by omega),hs,aK (by omega),hS,hV,ak hSV]⟩;have hne:((S:Int) != (V:Int))=true:=by simp;omega
         rw[hkd] at HC2 h3a h3b hbi hbj;clear hr hok hT hn hb2 hpr hc2 ad6 hk1 hk3 ad7 hkd hs hS hV hto htl hSV acJ hsz5
         go_enter Tryz.func79,Tryz.ntmps79
         go_wp2_with (first|(go_at_call 95;(with_reducible refine (uE.c [208,215] _ rfl).mono ?_);rintro e w2 ⟨v2,rfl,hr2,hb⟩;obtain⟨A2,c2,hv2⟩:=Kd.qo hr2;replace hv2:v2 = .slice A2 2 c2:=hv2;subst hv2;have HM2:oZ (2≤c2∧Kd.C (Kd.int .u8) w2 A2 2 [208,215]):=⟨⟨(Kd.pR hr2).2.1,(Kd.pR hr2).2.2⟩⟩;have HB2:=Yu (o9 HBA.o hb);have HX2:=Yu (pG HX.o hb);clear hr2 hb)|(go_at_call 115;(with_reducible refine (hasPrefix.c _ c n b A2 c2 _ HN.o (Kd.pI HR.o HB2.o) hc HOK.o (by omega) HM2.o.2 HM2.o.1).mono ?_);rintro e w3 ⟨rfl,hb⟩;rw[adw.o];have HB3:=Yu (o9 HB2.o hb);have HX3:=Yu (pG HX2.o hb);have e2:=qm HB3.o HC2.o;clear hb)|(go_at_call 116;(with_reducible refine (F7.o _ HB3.o).mono ?_);rintro e w5 ⟨rfl,hb⟩;have HB5:=Yu (o9 HB3.o hb);have HX5:=Yu (pG HX3.o hb);have q0:=(pq HX5.o 0).trans rfl;have q1:=(pq HX5.o 1).trans rfl;have q2:=(pq HX5.o 2).trans rfl;have y0:=pE HX5.o 0;have y1:=pE HX5.o 1;have y2:=pE HX5.o 2;clear hb)|(go_at_call 96;(with_reducible refine (SUM.o _ HB5.o).mono ?_);rintro e w6 ⟨rfl,hb⟩;have HB6:=Yu (o9 HB5.o hb);have HX6:=Yu (pG HX5.o hb);clear hb q0 q1 q2 y0 y1 y2)|(go_at_call 116;(with_reducible refine (FE.o _ HB6.o).mono ?_);rintro e w7 ⟨rfl,hb⟩;have HB7:=Yu (o9 HB6.o hb);have HX7:=Yu (pG HX6.o hb);have q0:=(pq HX7.o 0).trans rfl;have q1:=(pq HX7.o 1).trans rfl;have q2:=(pq HX7.o 2).trans rfl;have y0:=pE HX7.o 0;have y1:=pE HX7.o 1;have y2:=pE HX7.o 2;clear hb))
         refine bW (yF _ _ w.heap.size _ _ _ (wY HX7.o _ _ _) rfl) rfl ?_;exact wQ.none_ HE.o (vT HB7.o)
theorem Ae {P:Program}{a:Act}{w:World}{Q:Exit→Act→World→Prop}{c rest:Code}(l:Nat)(J:Act→World→Prop)(μ:Act→World→Nat)(hf:findLabel c l=some (.seq .skip rest))
 (pass:∀ a w,J a w→rest.wp P (Exit.jump l (fun a' w'=>J a' w'∧μ a' w'<μ a w) Q) a w)
 (first:(∀ a w,J a w→rest.wp P (Exit.jump l J Q) a w)→c.wp P (Exit.jump l J Q) a w):(Code.scope c).wp P Q a w:=
 wp_scope_jumps l J μ hf (first fun a w h=>wp_mono (pass a w h) (fun e a' w' hq=>by
  cases e<;>first | exact hq | exact⟨hq.1,hq.2.1⟩)) fun a w h=>wp_seq (wp_skip (pass a w h))
theorem OH {b:List Int}{f:Fr}(hok:okB b=true)(h:wh b=some f):okB f.pay=true:=by
 simp only[wh] at h
 repeat' split at h
 all_goals first | cases h | skip
 exact xM hok (fun x hx=>dO (dU hx))
theorem Vx.c (p:Nat)(A:Option Addr)(c n:Nat)(b:List Int)(w:World)(Inv:List Fr→World→Prop)(hn:b.length=n)(hc:n≤c)(hok:okB b=true)(hlen:n≤1000000000)
 (hC:∀ fs W,Inv fs W→Kd.C (Kd.int .u8) W A n b) (hT:∀ fs W,Inv fs W→zD W) (hst:∀ fs W W',Inv fs W→Below W.heap.size W W'→Inv fs W')
 (aeT:∀ fs (f:Fr) W (A':Option Addr) (c':Nat),Inv fs W→(f::fs).length≤n→f.pay.length≤1000→okB f.pay=true→Kd.C (Kd.int .u8) W A' f.pay.length f.pay→f.pay.length≤c'→Calls Tryz.prog 74 #[.pointer (some ⟨p,0,none⟩),.agg #[.int .i64 f.kind,.int .i64 f.num,.slice A' f.pay.length c']] W fun e W'=>e = .returned (.tuple #[])∧Inv (fs++[f]) W')
 (h0:Inv [] w) :
 Calls Tryz.prog 44 #[.slice A n c,.func (.func 74) #[.pointer (some ⟨p,0,none⟩)] #[]] w fun e w'=>e = .returned (.tuple #[])∧Inv (um b) w':=by
 go_enter Tryz.func44,Tryz.ntmps44
 refine Ae 0 (fun a' w'=>∃ (at_:Nat) (fs:List Fr) (u5 u6 u7 u8 u9 u10 u11 u12 u13 u14 u15 u16 u17 u18 u19 u20 u21 u22 u23 u24 u25 u26 u27:Value),a'={ tmps := #[.slice A n c,.func (.func 74) #[.pointer (some ⟨p,0,none⟩)] #[],undef,undef,.int .i64 at_,u5,u6,u7,u8,u9,u10,u11,u12,u13,u14,u15,u16,u17,u18,u19,u20,u21,u22,u23,u24,u25,u26,u27],defers:=[] }∧at_≤n∧fs.length≤at_∧fs++um (b.drop at_)=um b∧Inv fs w') (fun a' _=>n-(intOf (a'.tmps.getD 4 undef)).toNat) rfl ?_ ?_
 ·rintro a' wr ⟨at_,fs,u5,u6,u7,u8,u9,u10,u11,u12,u13,u14,u15,u16,u17,u18,u19,u20,u21,u22,u23,u24,u25,u26,u27,rfl,hat,hfl,hfs,hi⟩;have HI:=Yu hi;have HFS:=Yu hfs;have HFL:=Yu hfl;clear hfs hfl hi
  by_cases hge:n≤at_
  ·have agI:((at_:Int)≥(n:Int)):=by omega
   have HE:oZ (fs=um b):=⟨by rw[← HFS.o,gP (by omega),Cz,fq]⟩
   go_wp2_with fail
   simp only[Exit.jump];refine bW (gL rfl _ _ _) rfl ?_;exact⟨rfl,by rw[← HE.o];exact HI.o⟩
  ·have agI:¬ ((at_:Int)≥(n:Int)):=by omega
   have ajI:((at_:Int)<(n:Int)):=by omega
   obtain⟨A1,c1,r,hr,HCR,hc1,_,hcut⟩:=Sd A c b at_ (by omega) (by omega);have hr':=hr.o;have hrl:r.length=n-at_:=by rw[hr',bB,hn]
   have aap:=hcut (at_:Int) rfl;rw[hn] at aap HCR;have HB0:=Yu (begins.c A1 c1 r.length r wr rfl (HCR.o _ (hC _ _ HI.o)) hc1 (xM hok (by rw[hr'];exact mG _ _)) (by omega) (hT _ _ HI.o));have Zw:IntKind.i64.wrap ((at_:Int)+1)=(at_:Int)+1:=by rw[bI];omega
   cases hbg:wh r with
   | none=>
     have BEG:oZ (Calls Tryz.prog 79 #[.slice A1 r.length c1] wr fun e w'=>∃ (k nm:Nat) (A2:Option Addr) (n2 c2:Nat),e = .returned (.tuple #[.agg #[.int .i64 k,.int .i64 nm,.slice A2 n2 c2],.int .i64 0])∧Below wr.heap.size wr w'∧True):=⟨HB0.o.mono fun e w' ⟨k,nm,v,q,m,he,hR,hb,h⟩=>by
      rcases h with ⟨_,rfl⟩ | ⟨h,_⟩
      ·obtain⟨A2,c2,rfl⟩:=Kd.qo hR;exact⟨k,nm,A2,_,c2,he,hb,dD⟩
      ·rw[hbg] at h;cases h⟩
     have HE:oZ (fs++um (b.drop (at_+1))=um b):=⟨by rw[← HFS.o,← hr',Jh (b:=r) (by omega) hbg,hr',jM]⟩;clear hr hr' HCR hcut HB0 hbg;rw[hrl] at *
     go_wp2_with (first|(go_at_call 79;(with_reducible refine BEG.o.mono ?_);rintro e w2 ⟨k2,m2,A2,n2,c2,rfl,hb,hx⟩;have HB2:=Yu hb;have HX2:=Yu hx;clear hb hx)|(go_at_call 74;(with_reducible refine (TELL.o _ (hst _ _ _ (hst _ _ _ HI.o HB2.o) (o8 (bq _ _) _)) _ _ ⟨Kd.pI HX2.o.1 (o8 (bq _ _) _),HX2.o.2⟩).mono ?_);rintro e w3 ⟨rfl,hi⟩;have HI3:=Yu hi;clear hi))
     go_step3
     refine⟨rfl,⟨at_+1,fs,_,_,_,_,_,_,_,_,_,_,_,_,_,_,_,_,_,_,_,_,_,_,_,rfl,by omega,by have:=HFL.o;omega,HE.o,hst _ _ _ (hst _ _ _ HI.o HB2.o) (o8 (bq _ _) _)⟩,?_⟩;simp[intOf];omega
   | some f=>
     have hbl:=wX hbg;have hpo:okB f.pay=true:=OH (xM hok (by rw[hr'];exact mG _ _)) hbg;have hpl:f.pay.length≤1000:=hbl.2.1;have hfr:uW f≤r.length:=hbl.1;have agJ:uW f=13+f.pay.length:=rfl;have BEG:oZ (Calls Tryz.prog 79 #[.slice A1 r.length c1] wr fun e w'=>∃ (k nm:Nat) (A2:Option Addr) (n2 c2:Nat),e = .returned (.tuple #[.agg #[.int .i64 f.kind,.int .i64 f.num,.slice A2 f.pay.length c2],.int .i64 (13+f.pay.length:Nat)])∧Below wr.heap.size wr w'∧Kd.C (Kd.int .u8) w' A2 f.pay.length f.pay∧f.pay.length≤c2):=⟨HB0.o.mono fun e w' ⟨k,nm,v,q,m,he,hR,hb,h⟩=>by
      rcases h with ⟨h,_⟩ | ⟨h,rfl⟩
      ·rw[hbg] at h;cases h
      ·rw[hbg] at h;cases h;obtain⟨A2,c2,rfl⟩:=Kd.qo hR;exact⟨0,0,A2,0,c2,he,hb,(Kd.pR hR).2.2,(Kd.pR hR).2.1⟩⟩
     have ah1:at_+(13+f.pay.length)≤n:=by omega
     clear hbl hfr agJ;have HE:oZ ((fs++[f])++um (b.drop (at_+(13+f.pay.length)))=um b):=⟨by rw[← HFS.o,← hr',DN (b:=r) hbg,hr',jM,bH];rfl⟩;have TELL:oZ (∀ W,Inv fs W→∀ A2 c2,Kd.C (Kd.int .u8) W A2 f.pay.length f.pay∧f.pay.length≤c2→Calls Tryz.prog 74 #[.pointer (some ⟨p,0,none⟩),.agg #[.int .i64 f.kind,.int .i64 f.num,.slice A2 f.pay.length c2]] W fun e W'=>e = .returned (.tuple #[])∧Inv (fs++[f]) W'):=⟨fun W hW A2 c2 h=>aeT fs f W A2 c2 hW (by simp only[bC];have:=HFL.o;omega) hpl hpo h.1 h.2⟩;have hmi:IntKind.i64.wrap ((at_:Int)+((13+f.pay.length:Nat):Int))=((at_+(13+f.pay.length):Nat):Int):=by rw[bI];omega
     have hm0:(((13+f.pay.length:Nat):Int)==0)=false:=by simp;omega
     clear hr hr' HCR hcut HB0 hbg;rw[hrl] at *
     go_wp2_with (first|(go_at_call 79;(with_reducible refine BEG.o.mono ?_);rintro e w2 ⟨k2,m2,A2,n2,c2,rfl,hb,hx⟩;have HB2:=Yu hb;have HX2:=Yu hx;clear hb hx)|(go_at_call 74;(with_reducible refine (TELL.o _ (hst _ _ _ (hst _ _ _ HI.o HB2.o) (o8 (bq _ _) _)) _ _ ⟨Kd.pI HX2.o.1 (o8 (bq _ _) _),HX2.o.2⟩).mono ?_);rintro e w3 ⟨rfl,hi⟩;have HI3:=Yu hi;clear hi))
     go_step3
     refine⟨rfl,⟨at_+(13+f.pay.length),fs++[f],_,_,_,_,_,_,_,_,_,_,_,_,_,_,_,_,_,_,_,_,_,_,_,rfl,by omega,by have:=HFL.o;simp only[bg,bC,fK];omega,HE.o,HI3.o⟩,?_⟩;simp[intOf];omega
 ·intro H
  go_wp2_with fail
  go_step3
  simp only[Exit.then];rename_i hK;refine hK _ _ ?_;exact H _ _ ⟨0,[],_,_,_,_,_,_,_,_,_,_,_,_,_,_,_,_,_,_,_,_,_,_,_,rfl,bV _,bV _,rfl,h0⟩
theorem Uk.c (p:Nat)(A:Option Addr)(c n:Nat)(b:List Int)(w:World)(Inv:List Fr→World→Prop)(hn:b.length=n)(hc:n≤c)(hok:okB b=true)(hlen:n≤1000000000)
 (hC:∀ fs W,Inv fs W→Kd.C (Kd.int .u8) W A n b) (hT:∀ fs W,Inv fs W→zD W) (hst:∀ fs W W',Inv fs W→Below W.heap.size W W'→Inv fs W')
 (aeT:∀ fs (f:Fr) W (A':Option Addr) (c':Nat),Inv fs W→(f::fs).length≤n→f.pay.length≤1000→okB f.pay=true→Kd.C (Kd.int .u8) W A' f.pay.length f.pay→f.pay.length≤c'→Calls Tryz.prog 45 #[.agg #[.int .i64 f.kind,.int .i64 f.num,.slice A' f.pay.length c'],.pointer (some ⟨p,0,none⟩)] W fun e W'=>e = .returned (.tuple #[])∧Inv (fs++[f]) W')
 (h0:Inv [] w) :
 Calls Tryz.prog 44 #[.slice A n c,.func (.func 45) #[] #[.pointer (some ⟨p,0,none⟩)]] w fun e w'=>e = .returned (.tuple #[])∧Inv (um b) w':=by
 go_enter Tryz.func44,Tryz.ntmps44
 refine Ae 0 (fun a' w'=>∃ (at_:Nat) (fs:List Fr) (u5 u6 u7 u8 u9 u10 u11 u12 u13 u14 u15 u16 u17 u18 u19 u20 u21 u22 u23 u24 u25 u26 u27:Value),a'={ tmps := #[.slice A n c,.func (.func 45) #[] #[.pointer (some ⟨p,0,none⟩)],undef,undef,.int .i64 at_,u5,u6,u7,u8,u9,u10,u11,u12,u13,u14,u15,u16,u17,u18,u19,u20,u21,u22,u23,u24,u25,u26,u27],defers:=[] }∧at_≤n∧fs.length≤at_∧fs++um (b.drop at_)=um b∧Inv fs w') (fun a' _=>n-(intOf (a'.tmps.getD 4 undef)).toNat) rfl ?_ ?_
 ·rintro a' wr ⟨at_,fs,u5,u6,u7,u8,u9,u10,u11,u12,u13,u14,u15,u16,u17,u18,u19,u20,u21,u22,u23,u24,u25,u26,u27,rfl,hat,hfl,hfs,hi⟩;have HI:=Yu hi;have HFS:=Yu hfs;have HFL:=Yu hfl;clear hfs hfl hi
  by_cases hge:n≤at_
  ·have agI:((at_:Int)≥(n:Int)):=by omega
   have HE:oZ (fs=um b):=⟨by rw[← HFS.o,gP (by omega),Cz,fq]⟩
   go_wp2_with fail
   simp only[Exit.jump];refine bW (gL rfl _ _ _) rfl ?_;exact⟨rfl,by rw[← HE.o];exact HI.o⟩
  ·have agI:¬ ((at_:Int)≥(n:Int)):=by omega
   have ajI:((at_:Int)<(n:Int)):=by omega
   obtain⟨A1,c1,r,hr,HCR,hc1,_,hcut⟩:=Sd A c b at_ (by omega) (by omega);have hr':=hr.o;have hrl:r.length=n-at_:=by rw[hr',bB,hn]
   have aap:=hcut (at_:Int) rfl;rw[hn] at aap HCR;have HB0:=Yu (begins.c A1 c1 r.length r wr rfl (HCR.o _ (hC _ _ HI.o)) hc1 (xM hok (by rw[hr'];exact mG _ _)) (by omega) (hT _ _ HI.o));have Zw:IntKind.i64.wrap ((at_:Int)+1)=(at_:Int)+1:=by rw[bI];omega
   cases hbg:wh r with
   | none=>
     have BEG:oZ (Calls Tryz.prog 79 #[.slice A1 r.length c1] wr fun e w'=>∃ (k nm:Nat) (A2:Option Addr) (n2 c2:Nat),e = .returned (.tuple #[.agg #[.int .i64 k,.int .i64 nm,.slice A2 n2 c2],.int .i64 0])∧Below wr.heap.size wr w'∧True):=⟨HB0.o.mono fun e w' ⟨k,nm,v,q,m,he,hR,hb,h⟩=>by
      rcases h with ⟨_,rfl⟩ | ⟨h,_⟩
      ·obtain⟨A2,c2,rfl⟩:=Kd.qo hR;exact⟨k,nm,A2,_,c2,he,hb,dD⟩
      ·rw[hbg] at h;cases h⟩
     have HE:oZ (fs++um (b.drop (at_+1))=um b):=⟨by rw[← HFS.o,← hr',Jh (b:=r) (by omega) hbg,hr',jM]⟩;clear hr hr' HCR hcut HB0 hbg;rw[hrl] at *
     go_wp2_with (first|(go_at_call 79;(with_reducible refine BEG.o.mono ?_);rintro e w2 ⟨k2,m2,A2,n2,c2,rfl,hb,hx⟩;have HB2:=Yu hb;have HX2:=Yu hx;clear hb hx)|(go_at_call 45;(with_reducible refine (TELL.o _ (hst _ _ _ (hst _ _ _ HI.o HB2.o) (o8 (bq _ _) _)) _ _ ⟨Kd.pI HX2.o.1 (o8 (bq _ _) _),HX2.o.2⟩).mono ?_);rintro e w3 ⟨rfl,hi⟩;have HI3:=Yu hi;clear hi))
     go_step3
     refine⟨rfl,⟨at_+1,fs,_,_,_,_,_,_,_,_,_,_,_,_,_,_,_,_,_,_,_,_,_,_,_,rfl,by omega,by have:=HFL.o;omega,HE.o,hst _ _ _ (hst _ _ _ HI.o HB2.o) (o8 (bq _ _) _)⟩,?_⟩;simp[intOf];omega
   | some f=>
     have hbl:=wX hbg;have hpo:okB f.pay=true:=OH (xM hok (by rw[hr'];exact mG _ _)) hbg;have hpl:f.pay.length≤1000:=hbl.2.1;have hfr:uW f≤r.length:=hbl.1;have agJ:uW f=13+f.pay.length:=rfl;have BEG:oZ (Calls Tryz.prog 79 #[.slice A1 r.length c1] wr fun e w'=>∃ (k nm:Nat) (A2:Option Addr) (n2 c2:Nat),e = .returned (.tuple #[.agg #[.int .i64 f.kind,.int .i64 f.num,.slice A2 f.pay.length c2],.int .i64 (13+f.pay.length:Nat)])∧Below wr.heap.size wr w'∧Kd.C (Kd.int .u8) w' A2 f.pay.length f.pay∧f.pay.length≤c2):=⟨HB0.o.mono fun e w' ⟨k,nm,v,q,m,he,hR,hb,h⟩=>by
      rcases h with ⟨h,_⟩ | ⟨h,rfl⟩
      ·rw[hbg] at h;cases h
      ·rw[hbg] at h;cases h;obtain⟨A2,c2,rfl⟩:=Kd.qo hR;exact⟨0,0,A2,0,c2,he,hb,(Kd.pR hR).2.2,(Kd.pR hR).2.1⟩⟩
     have ah1:at_+(13+f.pay.length)≤n:=by omega
     clear hbl hfr agJ;have HE:oZ ((fs++[f])++um (b.drop (at_+(13+f.pay.length)))=um b):=⟨by rw[← HFS.o,← hr',DN (b:=r) hbg,hr',jM,bH];rfl⟩;have TELL:oZ (∀ W,Inv fs W→∀ A2 c2,Kd.C (Kd.int .u8) W A2 f.pay.length f.pay∧f.pay.length≤c2→Calls Tryz.prog 45 #[.agg #[.int .i64 f.kind,.int .i64 f.num,.slice A2 f.pay.length c2],.pointer (some ⟨p,0,none⟩)] W fun e W'=>e = .returned (.tuple #[])∧Inv (fs++[f]) W'):=⟨fun W hW A2 c2 h=>aeT fs f W A2 c2 hW (by simp only[bC];have:=HFL.o;omega) hpl hpo h.1 h.2⟩;have hmi:IntKind.i64.wrap ((at_:Int)+((13+f.pay.length:Nat):Int))=((at_+(13+f.pay.length):Nat):Int):=by rw[bI];omega
     have hm0:(((13+f.pay.length:Nat):Int)==0)=false:=by simp;omega
     clear hr hr' HCR hcut HB0 hbg;rw[hrl] at *
     go_wp2_with (first|(go_at_call 79;(with_reducible refine BEG.o.mono ?_);rintro e w2 ⟨k2,m2,A2,n2,c2,rfl,hb,hx⟩;have HB2:=Yu hb;have HX2:=Yu hx;clear hb hx)|(go_at_call 45;(with_reducible refine (TELL.o _ (hst _ _ _ (hst _ _ _ HI.o HB2.o) (o8 (bq _ _) _)) _ _ ⟨Kd.pI HX2.o.1 (o8 (bq _ _) _),HX2.o.2⟩).mono ?_);rintro e w3 ⟨rfl,hi⟩;have HI3:=Yu hi;clear hi))
     go_step3
     refine⟨rfl,⟨at_+(13+f.pay.length),fs++[f],_,_,_,_,_,_,_,_,_,_,_,_,_,_,_,_,_,_,_,_,_,_,_,rfl,by omega,by have:=HFL.o;simp only[bg,bC,fK];omega,HE.o,HI3.o⟩,?_⟩;simp[intOf];omega
 ·intro H
  go_wp2_with fail
  go_step3
  simp only[Exit.then];rename_i hK;refine hK _ _ ?_;exact H _ _ ⟨0,[],_,_,_,_,_,_,_,_,_,_,_,_,_,_,_,_,_,_,_,_,_,_,_,rfl,bV _,bV _,rfl,h0⟩
theorem count.c (p k:Nat)(a1 a2 a3:Value)(w:World)(hk:k<9223372036854775807)(hp:w.heap[p]? = some (.cells #[.int .i64 k] 3 (0,0))) :
 Calls Tryz.prog 45 #[.agg #[a1,a2,a3],.pointer (some ⟨p,0,none⟩)] w fun e w'=>e = .returned (.tuple #[])∧w'.heap[p]? = some (.cells #[.int .i64 ((k+1:Nat):Int)] 3 (0,0))∧(∀ B,B≤p→Below B w w'):=by
 have hlt:=rE hp;have HX:=Yu (pU hp (.cells #[a1,a2,a3] 80 (0,0)));have q0:=(pq HX.o 0).trans rfl;have y0:=pE HX.o 0;have hk1:IntKind.i64.wrap ((k:Int)+1)=((k+1:Nat):Int):=by rw[bI];omega
 have HP:=Yu hp;clear hp
 go_enter Tryz.func45,Tryz.ntmps45
 go_wp2_with fail
 refine jS (gL rfl _ _ _) rfl ?_;exact⟨rfl,pU (qH HP.o 0 _ rfl) _,fun B hB=>((bq B w).setCell (p:=⟨p,0,none⟩) hB _).alloc (by rw[World.size_setCell];omega) _⟩
theorem frames.c (A:Option Addr)(c n:Nat)(b:List Int)(w:World)(hn:b.length=n)(hr:Kd.C (Kd.int .u8) w A n b)(hc:n≤c)(hok:okB b=true)(hlen:n≤1000000000)(hT:zD w) :
 Calls Tryz.prog 20 #[.slice A n c] w fun e w'=>e = .returned (.int .i64 (um b).length)∧Below w.heap.size w w':=by
 have HX:=Yu (qG w (.cells #[.int .i64 0] 3 (0,0)));have HB:=Yu (o8 (bq w.heap.size w) (.cells #[.int .i64 0] 3 (0,0)));have TH:=Yu (Uk.c w.heap.size A c n b (w.alloc (.cells #[.int .i64 0] 3 (0,0))) (fun fs W=>W.heap[w.heap.size]? = some (.cells #[.int .i64 ((fs.length:Nat):Int)] 3 (0,0))∧Below w.heap.size w W) hn hc hok hlen
  (fun fs W h=>Kd.pI hr h.2) (fun fs W h=>hT.below h.2) (fun fs W W' h hb=>⟨pG h.1 hb,o9 h.2 hb⟩)
  (fun fs f W A' c' h hl _ _ _ _=>(count.c w.heap.size fs.length _ _ _ W (by simp only[bC] at hl;omega) h.1).mono fun e w' ⟨he,hx,hb⟩=>⟨he,by rw[bg];exact hx,h.2.trans (hb _ (aD _))⟩)
  ⟨HX.o,HB.o⟩)
 clear hr hok hT
 go_enter Tryz.func20,Tryz.ntmps20
 go_wp2_with (go_at_call 44;(with_reducible refine TH.o.mono ?_);rintro e w1 ⟨rfl,hx,hb⟩;have HX1:=Yu hx;have HB1:=Yu hb;have q0:=(pq HX1.o 0).trans rfl;clear hx hb)
 go_ret;exact⟨rfl,HB1.o⟩
end Go.Proofs.Y.PA
