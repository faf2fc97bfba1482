/- Of the law ZHQDumpReads. -/
import Derived.Test.YtcgbgifbajdhpaaGreatDoorZH24
import Derived.Test.YtcgbgifbajdhpaaGreatDoorZH25
set_option linter.unusedVariables false
set_option linter.unusedSimpArgs false
set_option maxHeartbeats 8000000
set_option maxRecDepth 100000
namespace Go.Proofs.Y.PA
open Go.RowKit Go.Proofs.Y.G Go.Proofs.YW.oO Go.Proofs.YW.pq Go.Proofs.YW.pz
theorem Yv.c (g:Nat)(xb:List Int)(p:Nat)(bad:Bool)(c:Nat)(r:Nat × Nat × Bool)(w0 w:World)(hI:oZ w0 w g xb (p:Int) bad)(hB:Below w0.heap.size w0 w)(hx:Bh xb)(hl:xb.length≤100000)(hp:p≤8*xb.length)(hc:c≤64)(h:rT xb p bad c=r) :
 Calls Tryz.prog 118 #[.pointer (some ⟨g,0,none⟩),.int .i64 (c:Int)] w fun e w'=>e = .returned (.int .u64 (r.1:Int))∧oZ w0 w' g xb (r.2.1:Int) r.2.2∧Below w0.heap.size w0 w'∧pG w w' g none:=by
 subst h;exact o8.c 100 g xb p bad c _ _ _ w0 w hI hB (BO hx hl p bad c hc hp 100 (by omega))
theorem YS.c (g:Nat)(xb:List Int)(p:Nat)(bad:Bool)(r:Int × Nat × Bool)(w0 w:World)(hI:oZ w0 w g xb (p:Int) bad)(hB:Below w0.heap.size w0 w)(hx:Bh xb)(hl:xb.length≤100000)(hp:p≤8*xb.length)(h:wT xb 4 p bad=r) :
 Calls Tryz.prog 119 #[.pointer (some ⟨g,0,none⟩)] w fun e w'=>e = .returned (.int .i64 r.1)∧oZ w0 w' g xb (r.2.1:Int) r.2.2∧Below w0.heap.size w0 w'∧pG w w' g none:=by
 subst h;exact qw.c 100 g xb p bad _ _ _ w0 w hI hB (XR hx hl p bad hp)
theorem YT.c (g:Nat)(xb:List Int)(p:Nat)(bad:Bool)(r:Int × Nat × Bool)(w0 w:World)(hI:oZ w0 w g xb (p:Int) bad)(hB:Below w0.heap.size w0 w)(hx:Bh xb)(hl:xb.length≤100000)(hp:p≤8*xb.length)(h:rX xb p bad=r) :
 Calls Tryz.prog 120 #[.pointer (some ⟨g,0,none⟩)] w fun e w'=>e = .returned (.int .u64 r.1)∧oZ w0 w' g xb (r.2.1:Int) r.2.2∧Below w0.heap.size w0 w'∧pG w w' g none:=by
 subst h;exact tL.c 100 g xb p bad _ _ _ w0 w hI hB (XV hx hl p bad hp)
theorem VX {n:Nat}(A0:Option Addr)(c0:Nat)(l0:List Int)(r1:Int)(r2:Bool)(w:World)(hn:l0.length=n)(hr0:Kd.C (Kd.int .u8) w A0 l0.length l0)(hc0:n≤c0)(h:vI.f l0=some (r1,r2)) :
 Calls Tryz.prog 97 #[.slice A0 n c0] w fun e w'=>e = .returned (.tuple #[.int .u64 r1,.bool r2])∧Below w.heap.size w w':=by
 subst hn;exact (G.tT.c A0 c0 l0 r1 r2 w hr0 hc0 h).mono fun e w' ⟨he,hd⟩=>⟨he,hd.below⟩
theorem K7 {n:Nat}(A:Option Addr)(c:Nat)(l:List qG)(w:World)(eb:List Int)(ee:Int)(hn:l.length=n)(hr:Kd.C vX w A l.length l)(hc:n≤c)(hw:∀ x∈l,Bd x)(hlen:n≤20000)(he:xM l=(eb,ee)) :
 Calls Tryz.prog 48 #[.slice A n c] w fun e w'=>∃ v:Value,e = .returned (.tuple #[v,.int .i64 ee])∧Kd.R (Kd.int .u8) 5 w' w.heap.size (fun _=>True) v eb∧Below w.heap.size w w':=by
 subst hn;cases h:vC l with
 | true=>
   rw[xM,au h] at he;obtain⟨rfl,rfl⟩:=jT he;exact Ct.ok A c l w hr hc hw hlen h
 | false=>
   rw[xM,av (by rw[h];simp)] at he;obtain⟨rfl,rfl⟩:=jT he;refine (Ct.bad A c l w hr hc hlen h).mono ?_;rintro e w' ⟨rfl,hb⟩;exact⟨_,rfl,Kd.tJ _ _ _ _ _,hb⟩
theorem KC (b:List Int)(hlen:b.length≤2500):(∀ x∈(wH b).1,Bd x)∧(wH b).1.length≤20000:=by
 have h:=Hq (b.drop 2) (8*(b.length-2)) (by omega) (wI 0 (b.take 2));unfold wH;split
 ·exact⟨fun x hx=>absurd hx (by simp),by simp⟩
 ·split
  ·exact⟨h.1,bY h.2.1 (by omega)⟩
  ·exact⟨fun x hx=>absurd hx (by simp),by simp⟩
def X4 (b:List Int)(l:List qG)(e:Int):Prop:=(e=0∧xM l=(b,0)∧(∀ x∈l,Bd x)∧l.length≤20000∨e=5∧l=[])∧∀ l0,Good b l0→e=0∧l=l0
theorem Vp {b:List Int}{l:List qG}{e:Int}(h:X4 b l e)(hlen:b.length≤2500):wH b=(l,e):=QL h.1 h.2 (KC b hlen).1 (KC b hlen).2
theorem Vo {b xb:List Int}{l:List qG}{k p:Nat}{s:qG}(h:Kj b xb l k s p true)(hk:∀ l0,Good b l0→k<l0.length):X4 b [] 5:=
 ⟨.inr ⟨rfl,rfl⟩,fun l0 hg=>absurd (h.2.2 l0 hg (hk l0 hg)) (by simp)⟩
theorem K6.Xg (A:Option Addr)(c:Nat)(b:List Int)(w:World)(hr:Kd.C (Kd.int .u8) w A b.length b)(hc:b.length≤c)(hok:okB b=true)(hlen:b.length≤2500) :
 Calls Tryz.prog 85 #[.slice A b.length c] w fun e w'=>∃ (v:Value) (l:List qG) (ee:Int),e = .returned (.tuple #[v,.int .i64 ee])∧X4 b l ee∧Kd.R vX 70 w' w.heap.size (fun _=>True) v l∧Below w.heap.size w w':=by
 by_cases h2:b.length<2
 ·have d0:decide ((b.length:Int)<2)=true:=aC (by omega);have HA:oM (X4 b [] 5):=⟨.inr ⟨rfl,rfl⟩,fun l0 hg=>absurd (Ci hg rfl).2.2.2 (by omega)⟩;clear h2 hr hc
  go_enter Tryz.func85,Tryz.ntmps85
  go_wp2;refine bg (dD rfl _ _ _) rfl ?_;exact⟨_,[],5,rfl,HA.o,Kd.tJ _ _ _ _ _,aU _ _⟩
 have d0:decide ((b.length:Int)<2)=false:=aD (by omega);obtain⟨xb,hxb⟩:∃ xb,b.drop 2=xb:=⟨_,rfl⟩;have hxl:xb.length=b.length-2:=by rw[← hxb,aX]
 obtain⟨hget,agD⟩:=Yh hok (by omega);obtain⟨n,hn⟩:∃ n,wI 0 (b.take 2)=n:=⟨_,rfl⟩;rw[hn] at hget agD;have HGN:oM (∀ l0,Good b l0→l0.length=n):=⟨fun l0 hg=>by rw[← (Ci hg hxb).2.2.1,hn]⟩;have adU:Bh xb:=fun x hx=>qV.1 hok x (bU (hxb ▸ hx))
 obtain⟨i05,abh,_,hsz5,_⟩:=nE rW;have hto:=Dp (P:=Tryz.prog) 24 5 .i64 Tryz.underlying24 abh A b.length c 2 (by omega) (by omega) hc;have adt:=Mr (P:=Tryz.prog) 24 5 .i64 Tryz.underlying24 abh 1 hsz5 A b.length c 2 (by omega) (by omega);have hdr:=Kd.Bf (m:=2) (c:=c) hr (by omega) hc;rw[hxb] at hdr;obtain⟨A',hA'⟩:∃ A',(if c=(2:Int).toNat then A else A.map (·.add ((2:Int).toNat*1)))=A':=⟨_,rfl⟩;rw[hA'] at adt;have HX:oM (Kd.C (Kd.int .u8) w A' xb.length xb):=⟨by rw[← hA'];exact hdr⟩;have HTK:=Y7 (Kd.wZ hr (show 2≤b.length by omega));have HTL:oM ((b.take 2).length=2):=⟨by rw[aW];omega⟩;have agE:=Y7 hget;have HRB:=Y7 hr;have HC:=Y7 hc;have HOK:=Y7 hok;have HOX:=Y7 adU;have HXB:=Y7 hxb;have HLX:oM (xb.length≤2500):=⟨by omega⟩;have HLB:=Y7 hlen;rw[show (2:Int).toNat=2 from rfl,← hxl] at adt;rw[show (2:Int).toNat=2 from rfl] at hto;clear hr hc hok adU hA' hdr hget hxl hn hxb hlen
 go_enter Tryz.func85,Tryz.ntmps85
 go_wp2_with (first
  | (go_at_call 97;(with_reducible refine (VX A c (b.take 2) (n:Int) true _ HTL.o HTK.o (by have:=HC.o;omega) agE.o).mono ?_);rintro e w1 ⟨rfl,hb⟩;have HB1:=Y7 hb;clear hb)
  | ((with_reducible refine qm (N:=24) rfl ?_);refine rF ?hg (N:=24) ?hd (cs := #[.slice A' xb.length (c-2),.int .i64 0,.bool false]) (t:=172) ?hr ?_;(case hd=>rfl);(case hg=>rfl);(case hr=>first|(go_simp;done)|(go_simp;rfl));intro g hg w2 Zo hb;have HB2:=Y7 (oP HB1.o hb);have HS2:oM (oZ w w2 g xb 0 false):=⟨⟨A',c-2,Zo,by have:=HB1.o.size;omega,HX.o⟩⟩;clear hb Zo hg))
 clear hto adt HTK HTL agE HB1;have agM:oM (xb.length≤100000):=⟨by have:=HLX.o;omega⟩;have CT:=Y7 (fun p bad r W hI hB hp h=>(show Calls Tryz.prog 118 #[.pointer (some ⟨g,0,none⟩),.int .i64 64] W fun e w'=>e = .returned (.int .u64 ((r:Nat × Nat × Bool).1:Int))∧oZ w w' g xb (r.2.1:Int) r.2.2∧Below w.heap.size w w'∧pG W w' g none from Yv.c g xb p bad 64 r w W hI hB HOX.o agM.o hp (by decide) h));have CI:=Y7 (fun p bad r W hI hB hp h=>YS.c g xb p bad r w W hI hB HOX.o agM.o hp h);have CX:=Y7 (fun p bad r W hI hB hp h=>YT.c g xb p bad r w W hI hB HOX.o agM.o hp h)
 go_loopw [7,27] (fun v7 i wr=>∃ (k:Nat) (l:List qG) (p:Nat),k≤n∧i = .int .i64 k∧oM (RI b xb l k p∧(k=0→p=0))∧oM (Kd.R vX 70 wr w.heap.size (fun q=>q≠g) v7 l)∧oM (oZ w wr g xb (p:Int) false)∧oM (Below w.heap.size w wr)) (fun _ i _=>n-(intOf i).toNat)
 case atStart=>exact⟨0,[],0,bP _,rfl,⟨⟨rfl,fun x hx=>absurd hx (by simp),ay _,by omega,fun l0 hg _=>⟨rfl,rfl⟩⟩,fun _=>rfl⟩,⟨Kd.tJ _ _ _ _ _⟩,HS2,HB2⟩
 case round=>
  clear HS2 HB2;obtain⟨k,l,p,hk,rfl,HI0,HO,HS,HB⟩:=hrel;have HI:=Y7 HI0.o.1;have HZ:=Y7 HI0.o.2;clear HI0;obtain⟨A7,c7,rfl⟩:=Kd.pO HO.o;have aeV:l.length≤20000:=by have:=HI.o.1;have:=HI.o.2.2.1;have:=HI.o.2.2.2.1;have:=HLX.o;omega
  by_cases hlt:k<n
  ·have HLL:oM (l.length=k):=⟨HI.o.1⟩;have HP8:=Y7 HI.o.2.2.2.1;have HLK:oM (∀ l0,Good b l0→k<l0.length):=⟨fun l0 hg=>by rw[HGN.o l0 hg];exact hlt⟩;have gne:oM (wr.heap.size≠g):=⟨by have:=HS.o.lt;omega⟩;have HOA:=Y7 (Kd.sJ (Kd.qR (ok':=fun q=>q≠g∧q≠wr.heap.size) (Kd.uK HO.o) (fun q hq=>⟨hq.1,by have:=hq.2;omega⟩)) (.cells #[.int .i64 0,.int .u64 0] 70));have HBA:=Y7 (oN HB.o (.cells #[.int .i64 0,.int .u64 0] 70));have HSA:=Y7 (HS.o.alloc (.cells #[.int .i64 0,.int .u64 0] 70));have HXA:=Y7 (qx wr (.cells #[.int .i64 0,.int .u64 0] 70));have HWA:oM (wr.heap.size<(wr.alloc (.cells #[.int .i64 0,.int .u64 0] 70)).heap.size):=⟨by simp⟩;have HBS:oM (w.heap.size≤wr.heap.size):=⟨HB.o.size⟩;clear aeV
   go_upto_block 2 with (fail)
   go_cut [] (fun wx=>∃ (T V:Int) (p':Nat) (bad':Bool),oM (Kj b xb l k ⟨T,V⟩ p' bad')∧oM (wx.heap[wr.heap.size]? = some (.cells #[.int .i64 T,.int .u64 V] 70 (0,0)))∧oM (oZ w wx g xb (p':Int) bad')∧oM (Kd.R vX 70 wx w.heap.size (fun q=>q≠g) (.slice A7 l.length c7) l)∧oM (Below w.heap.size w wx))
   case first=>
    cases k with
    | zero=>
      obtain rfl:p=0:=HZ.o rfl;obtain rfl:l=[]:=dx HLL.o;obtain⟨a,ha⟩:∃ a,rT xb 0 false 64=a:=⟨_,rfl⟩;obtain⟨d,hd⟩:∃ d,rT xb a.2.1 a.2.2 64=d:=⟨_,rfl⟩;have HST:=Y7 (YR HOX.o agM.o HXB.o HI.o ha hd rfl);have HA:=Y7 ha;have HD:=Y7 hd;have HP2:oM (a.2.1≤8*xb.length):=⟨ha ▸ (uT xb 0 false 64 (by omega)).2.1⟩;clear ha hd
      go_wp2_with (first
       | (go_at_call 118;(with_reducible refine (CT.o 0 false a _ HSA.o HBA.o HP8.o HA.o).mono ?_);rintro e w3 ⟨rfl,hs,hb,hk⟩;have hx3:=(hk.2 wr.heap.size HWA.o gne.o (by simp)).trans HXA.o;have c30:=(oQ hx3 0).trans rfl;have f30:=oW hx3 0;have HX3:oM ((w3.setCell ⟨wr.heap.size,0,none⟩ (.int .i64 (wrap64 (a.1:Int)))).heap[wr.heap.size]? = some (.cells #[.int .i64 (wrap64 (a.1:Int)),.int .u64 0] 70 (0,0))):=⟨qF hx3 0 _ rfl⟩;have HS3:oM (oZ w (w3.setCell ⟨wr.heap.size,0,none⟩ (.int .i64 (wrap64 (a.1:Int)))) g xb (a.2.1:Int) a.2.2):=⟨hs.far (p:=⟨wr.heap.size,0,none⟩) gne.o.symm _⟩;have HB3:oM (Below w.heap.size w (w3.setCell ⟨wr.heap.size,0,none⟩ (.int .i64 (wrap64 (a.1:Int))))):=⟨hb.setCell (p:=⟨wr.heap.size,0,none⟩) HBS.o _⟩;have HO3:oM (Kd.R vX 70 (w3.setCell ⟨wr.heap.size,0,none⟩ (.int .i64 (wrap64 (a.1:Int)))) w.heap.size (fun q=>q≠g∧q≠wr.heap.size) (.slice A7 ([]:List qG).length c7) []):=⟨Kd.sS (p:=⟨wr.heap.size,0,none⟩) (Kd.vL HOA.o hk (fun _ q=>q.1)) (fun _ q=>q.2) _⟩;have HW3:oM (wr.heap.size<(w3.setCell ⟨wr.heap.size,0,none⟩ (.int .i64 (wrap64 (a.1:Int)))).heap.size):=⟨by have:=hk.1;have:=HWA.o;simp[World.setCell] at *;omega⟩;clear hs hb hk hx3)
       | (go_at_call 118;(with_reducible refine (CT.o a.2.1 a.2.2 d _ HS3.o HB3.o HP2.o HD.o).mono ?_);rintro e w4 ⟨rfl,hs,hb,hk⟩;have hx4:=(hk.2 wr.heap.size HW3.o gne.o (by simp)).trans HX3.o;have c41:=(oQ hx4 1).trans rfl;have f41:=oW hx4 1;have HX4:=Y7 hx4;have HS4:=Y7 hs;have HB4:=Y7 hb;have HO4:=Y7 (Kd.vL HO3.o hk (fun _ q=>q.1));clear hs hb hk hx4))
      go_meet
      exact⟨wrap64 (a.1:Int),(d.1:Int),d.2.1,d.2.2,HST,⟨qF HX4.o 1 _ rfl⟩,⟨HS4.o.far (p:=⟨wr.heap.size,1,none⟩) gne.o.symm _⟩,⟨Kd.qR (Kd.sS (p:=⟨wr.heap.size,1,none⟩) HO4.o (fun _ q=>q.2) _) (fun _ q=>q.1)⟩,⟨HB4.o.setCell (p:=⟨wr.heap.size,1,none⟩) HBS.o _⟩⟩
    | succ k=>
      obtain⟨y,hy⟩:∃ y,pI l (k:Int)=y:=⟨_,rfl⟩;obtain⟨a,ha⟩:∃ a,wT xb 4 p false=a:=⟨_,rfl⟩;obtain⟨d,hd⟩:∃ d,rX xb a.2.1 a.2.2=d:=⟨_,rfl⟩;have hst:=V3 HOX.o agM.o HXB.o HI.o hy ha hd;obtain⟨Tn,hTn⟩:∃ Tn,wrap64 (y.f0+wrap64 (uP l (k+1)+a.1))=Tn:=⟨_,rfl⟩;rw[hTn] at hst;have HST:=Y7 hst;have HA:=Y7 ha;have HD:=Y7 hd;have HY:=Y7 hy;have HP2:oM (a.2.1≤8*xb.length):=⟨ha ▸ (BL xb 4 p false HP8.o).2.1⟩;have hll:l.length=k+1:=HLL.o;have HCK:oM (∀ (Q:Prop) (W:World),pG W W g none→Q→Q):=⟨fun _ _ _ h=>h⟩;clear HCK;obtain⟨ad,e7,y0,y1⟩:=tY (Kd.pE HOA.o).2.2 (k:Int) (by omega) (by omega);subst e7;rw[aG,hy] at y0 y1;obtain⟨inn,hown⟩:=Kd.FL HOA.o;have hn1:ad.block≠g:=Et hown (Kd.Ka HOA.o (fun q hq=>hq.1));have hn2:ad.block≠wr.heap.size:=Et hown (Kd.Ka HOA.o (fun q hq=>hq.2));have HNA:=Y7 (And.intro hn1 hn2);clear hown hn1 hn2 hy ha hd hst;cases k with
      | zero=>
        rw[show ((0+1:Nat):Int)=1 from rfl] at *;have HTN:oM (Tn=wrap64 (y.f0+a.1)):=⟨by rw[← hTn,show uP l (0+1)=0 from rfl,J7,Int.zero_add]⟩;have hs0:(wr.alloc (.cells #[.int .i64 0,.int .u64 0] 70)).cell? ad=some (.int .i64 y.f0):=by simpa [Addr.add] using y0
        have HN1:oM (ad.block≠g∧ad.block≠wr.heap.size):=HNA;have HCK:oM (∀ (W W':World),pG W W' g none→W.cell? ad=some (.int .i64 y.f0)→W'.cell? ad=some (.int .i64 y.f0)):=⟨fun W W' hk h=>yc hk h HNA.o.1⟩;have HCF:oM (∀ (W:World) (q:Addr),q.block=wr.heap.size→∀ v,W.cell? ad=some (.int .i64 y.f0)→(W.setCell q v).cell? ad=some (.int .i64 y.f0)):=⟨fun W q hq v h=>(cell_far (by rw[hq];exact HNA.o.2) v).trans h⟩;have b3:(0:Int)<(l.length:Int):=by omega
        have b4:0<l.length:=by omega
        clear y0 y1 hTn hll
        go_wp2_with fail
        go_cut [] (fun wx=>oM (wx.heap[wr.heap.size]? = some (.cells #[.int .i64 Tn,.int .u64 0] 70 (0,0)))∧oM (oZ w wx g xb (a.2.1:Int) a.2.2)∧oM (Kd.R vX 70 wx w.heap.size (fun q=>q≠g∧q≠wr.heap.size) (.slice (some ad) l.length c7) l)∧oM (Below w.heap.size w wx)∧oM (wr.heap.size<wx.heap.size))
        case first=>
         go_region_held3 (fun W=>W.cell? ad=some (.int .i64 y.f0)) (first | exact hs0 | exact hs1 | exact hs2 _)
          (first|(go_at_call 119;(refine (CI.o p false a _ ?am3 ?am4 HP8.o HA.o).mono ?_);(case am3=>exact HSA.o.drew);(case am4=>exact oV HBA.o);rintro e w3 ⟨rfl,hs,hb,hk⟩;have hs1:=HCK.o _ w3 hk hs0;have hs2:=(fun v=>HCF.o w3 ⟨wr.heap.size,0,none⟩ rfl v hs1);have hx3:=(hk.2 wr.heap.size HWA.o gne.o (by simp)).trans HXA.o;have c30:=(oQ hx3 0).trans rfl;have f30:=oW hx3 0;have HX3:=Y7 hx3;have HS3:=Y7 hs;have HB3:=Y7 hb;have HK3:=Y7 hk;clear hx3 hs hb hk))
         all_goals
          go_wp2_with fail
          go_meet
          refine⟨⟨?_⟩,⟨?_⟩,⟨?_⟩,⟨?_⟩,⟨?_⟩⟩
          ·rw[HTN.o];simp only[q8];exact qF HX3.o 0 _ rfl
          ·exact HS3.o.far (p:=⟨wr.heap.size,0,none⟩) gne.o.symm _
          ·exact Kd.sS (p:=⟨wr.heap.size,0,none⟩) (Kd.vL (Kd.vK HOA.o) HK3.o (fun _ q=>q.1)) (fun _ q=>q.2) _
          ·exact HB3.o.setCell (p:=⟨wr.heap.size,0,none⟩) HBS.o _
          ·exact dA (qQ HX3.o) (nJ (by simp[World.setCell]))
        case rest=>
         obtain⟨HX5,HS5,HO5,HB5,HW5⟩:=hcut;obtain⟨ad5,e5,_,t0⟩:=tY (Kd.pE HO5.o).2.2 ((0:Nat):Int) (by omega) (by omega);obtain rfl:=bB e5;clear e5 hs0;have t1:wc.cell? ⟨ad.block,ad.off+1,none⟩=some (.int .u64 y.f1):=by rw[show ((0:Nat):Int)=0 from rfl] at t0;have h_:=HY.o;rw[show ((0:Nat):Int)=0 from rfl] at h_;rw[h_] at t0;simpa [Addr.add] using t0
         clear t0
         go_wp2_with fail
         go_region_held3 (fun W=>W.cell? ⟨ad.block,ad.off+1,none⟩=some (.int .u64 y.f1)) (first | exact t1 | exact t2 | exact t3 _)
          (first|(go_at_call 120;(refine (CX.o a.2.1 a.2.2 d _ ?am5 ?am6 HP2.o HD.o).mono ?_);(case am5=>exact HS5.o.drew);(case am6=>exact oV HB5.o);rintro e w6 ⟨rfl,hs,hb,hk⟩;have t2:w6.cell? ⟨ad.block,ad.off+1,none⟩=some (.int .u64 y.f1):=(yc hk t1 HN1.o.1);have t3:=(fun v=>(cell_far (p:=⟨wr.heap.size,1,none⟩) (W:=w6) (a:=⟨ad.block,ad.off+1,none⟩) HN1.o.2 v).trans t2);have hx6:=(hk.2 wr.heap.size HW5.o gne.o (by simp)).trans HX5.o;have c61:=(oQ hx6 1).trans rfl;have f61:=oW hx6 1;have HX6:=Y7 hx6;have HS6:=Y7 hs;have HB6:=Y7 hb;have HK6:=Y7 hk;clear hx6 hs hb hk))
         all_goals
          go_wp2_with fail
          go_meet
          exact⟨Tn,Go.bits .xor .u64 y.f1 d.1,d.2.1,d.2.2,HST,⟨qF HX6.o 1 _ rfl⟩,⟨HS6.o.far (p:=⟨wr.heap.size,1,none⟩) gne.o.symm _⟩,⟨Kd.qR (Kd.sS (p:=⟨wr.heap.size,1,none⟩) (Kd.vL (Kd.vK HO5.o) HK6.o (fun _ q=>q.1)) (fun _ q=>q.2) _) (fun _ q=>q.1)⟩,⟨HB6.o.setCell (p:=⟨wr.heap.size,1,none⟩) HBS.o _⟩⟩
      | succ k=>
        obtain⟨z,hz⟩:∃ z,pI l (k:Int)=z:=⟨_,rfl⟩;obtain⟨ad',e8,z0,-⟩:=tY (Kd.pE HOA.o).2.2 (k:Int) (by omega) (by omega);obtain rfl:=bB e8;rw[aG,hz] at z0;have HSP:oM (uP l (k+1+1)=wrap64 (y.f0-z.f0)):=⟨by rw[← HY.o,← hz];rfl⟩;have HTN:oM (Tn=wrap64 (wrap64 (y.f0+wrap64 (y.f0-z.f0))+a.1)):=⟨by rw[← hTn,HSP.o,J7,wrap_add,Int.add_assoc]⟩;have hs0:(wr.alloc (.cells #[.int .i64 0,.int .u64 0] 70)).cell? (ad.add ((k+1)*2))=some (.int .i64 y.f0)∧(wr.alloc (.cells #[.int .i64 0,.int .u64 0] 70)).cell? (ad.add (k*2))=some (.int .i64 z.f0):=⟨y0,z0⟩;have HN1:oM ((ad.add ((k+1)*2)).block≠g∧(ad.add ((k+1)*2)).block≠wr.heap.size):=⟨by rw[add_block];exact HNA.o⟩;have HN2:oM ((ad.add (k*2)).block≠g∧(ad.add (k*2)).block≠wr.heap.size):=⟨by rw[add_block];exact HNA.o⟩;have HCK:oM (∀ (W W':World),pG W W' g none→(W.cell? (ad.add ((k+1)*2))=some (.int .i64 y.f0)∧W.cell? (ad.add (k*2))=some (.int .i64 z.f0))→(W'.cell? (ad.add ((k+1)*2))=some (.int .i64 y.f0)∧W'.cell? (ad.add (k*2))=some (.int .i64 z.f0))):=⟨fun W W' hk h=>⟨yc hk h.1 HN1.o.1,yc hk h.2 HN2.o.1⟩⟩;have HCF:oM (∀ (W:World) (q:Addr),q.block=wr.heap.size→∀ v,(W.cell? (ad.add ((k+1)*2))=some (.int .i64 y.f0)∧W.cell? (ad.add (k*2))=some (.int .i64 z.f0))→((W.setCell q v).cell? (ad.add ((k+1)*2))=some (.int .i64 y.f0)∧(W.setCell q v).cell? (ad.add (k*2))=some (.int .i64 z.f0))):=⟨fun W q hq v h=>⟨(cell_far (by rw[hq];exact HN1.o.2) v).trans h.1,(cell_far (by rw[hq];exact HN2.o.2) v).trans h.2⟩⟩;rw[show ((k+1+1:Nat):Int)=(k:Int)+2 from by omega] at *;have b0:(0:Int)≤(k:Int):=by omega
        have b1:(k:Int)<(l.length:Int):=by omega
        have b2:(0:Int)≤(k:Int)+1:=by omega
        have b3:(k:Int)+1<(l.length:Int):=by omega
        have hwk:IntKind.i64.wrap (k:Int)=(k:Int):=(q8 _).trans (wK (by omega) (by omega));have amH:IntKind.i64.wrap ((k:Int)+1)=(k:Int)+1:=(q8 _).trans (wK (by omega) (by omega));have amI:IntKind.i64.wrap ((k:Int)+2-1)=(k:Int)+1:=(q8 _).trans ((wK (by omega) (by omega)).trans (by omega));have amJ:IntKind.i64.wrap ((k:Int)+2-2)=(k:Int):=(q8 _).trans ((wK (by omega) (by omega)).trans (by omega));have hn1:((k:Int)+1).toNat=k+1:=by omega
        have d1:((k:Int)+2==0)=false:=beq_eq_false_iff_ne.2 (by omega);have d2:((k:Int)+2==1)=false:=beq_eq_false_iff_ne.2 (by omega);clear y0 y1 z0 hz e8 hTn hll
        go_wp2_with fail
        go_cut [] (fun wx=>oM (wx.heap[wr.heap.size]? = some (.cells #[.int .i64 Tn,.int .u64 0] 70 (0,0)))∧oM (oZ w wx g xb (a.2.1:Int) a.2.2)∧oM (Kd.R vX 70 wx w.heap.size (fun q=>q≠g∧q≠wr.heap.size) (.slice (some ad) l.length c7) l)∧oM (Below w.heap.size w wx)∧oM (wr.heap.size<wx.heap.size))
        case first=>
         go_region_held3 (fun W=>W.cell? (ad.add ((k+1)*2))=some (.int .i64 y.f0)∧W.cell? (ad.add (k*2))=some (.int .i64 z.f0)) (first | exact hs0 | exact hs1 | exact hs2 _)
          (first|(go_at_call 119;(refine (CI.o p false a _ ?aa3 ?aa4 HP8.o HA.o).mono ?_);(case aa3=>exact HSA.o.drew);(case aa4=>exact oV HBA.o);rintro e w3 ⟨rfl,hs,hb,hk⟩;have hs1:=HCK.o _ w3 hk hs0;have hs2:=(fun v=>HCF.o w3 ⟨wr.heap.size,0,none⟩ rfl v hs1);have hx3:=(hk.2 wr.heap.size HWA.o gne.o (by simp)).trans HXA.o;have c30:=(oQ hx3 0).trans rfl;have f30:=oW hx3 0;have HX3:=Y7 hx3;have HS3:=Y7 hs;have HB3:=Y7 hb;have HK3:=Y7 hk;clear hx3 hs hb hk))
         all_goals
          go_wp2_with fail
          go_meet
          refine⟨⟨?_⟩,⟨?_⟩,⟨?_⟩,⟨?_⟩,⟨?_⟩⟩
          ·rw[HTN.o];simp only[q8];exact qF HX3.o 0 _ rfl
          ·exact HS3.o.far (p:=⟨wr.heap.size,0,none⟩) gne.o.symm _
          ·exact Kd.sS (p:=⟨wr.heap.size,0,none⟩) (Kd.vL (Kd.vK HOA.o) HK3.o (fun _ q=>q.1)) (fun _ q=>q.2) _
          ·exact HB3.o.setCell (p:=⟨wr.heap.size,0,none⟩) HBS.o _
          ·exact dA (qQ HX3.o) (nJ (by simp[World.setCell]))
        case rest=>
         obtain⟨HX5,HS5,HO5,HB5,HW5⟩:=hcut;obtain⟨ad5,e5,_,t0⟩:=tY (Kd.pE HO5.o).2.2 ((k+1:Nat):Int) (by omega) (by omega);obtain rfl:=bB e5;clear e5 hs0;have t1:wc.cell? ⟨(ad.add ((k+1)*2)).block,(ad.add ((k+1)*2)).off+1,none⟩=some (.int .u64 y.f1):=by have h_:=HY.o;rw[h_,aG] at t0;exact t0
         clear t0
         go_wp2_with fail
         go_region_held3 (fun W=>W.cell? ⟨(ad.add ((k+1)*2)).block,(ad.add ((k+1)*2)).off+1,none⟩=some (.int .u64 y.f1)) (first | exact t1 | exact t2 | exact t3 _)
          (first|(go_at_call 120;(refine (CX.o a.2.1 a.2.2 d _ ?aa5 ?u124 HP2.o HD.o).mono ?_);(case aa5=>exact HS5.o.drew);(case u124=>exact oV HB5.o);rintro e w6 ⟨rfl,hs,hb,hk⟩;have t2:w6.cell? ⟨(ad.add ((k+1)*2)).block,(ad.add ((k+1)*2)).off+1,none⟩=some (.int .u64 y.f1):=(yc hk t1 HN1.o.1);have t3:=(fun v=>(cell_far (p:=⟨wr.heap.size,1,none⟩) (W:=w6) (a:=⟨(ad.add ((k+1)*2)).block,(ad.add ((k+1)*2)).off+1,none⟩) HN1.o.2 v).trans t2);have hx6:=(hk.2 wr.heap.size HW5.o gne.o (by simp)).trans HX5.o;have c61:=(oQ hx6 1).trans rfl;have f61:=oW hx6 1;have HX6:=Y7 hx6;have HS6:=Y7 hs;have HB6:=Y7 hb;have HK6:=Y7 hk;clear hx6 hs hb hk))
         all_goals
          go_wp2_with fail
          go_meet
          exact⟨Tn,Go.bits .xor .u64 y.f1 d.1,d.2.1,d.2.2,HST,⟨qF HX6.o 1 _ rfl⟩,⟨HS6.o.far (p:=⟨wr.heap.size,1,none⟩) gne.o.symm _⟩,⟨Kd.qR (Kd.sS (p:=⟨wr.heap.size,1,none⟩) (Kd.vL (Kd.vK HO5.o) HK6.o (fun _ q=>q.1)) (fun _ q=>q.2) _) (fun _ q=>q.1)⟩,⟨HB6.o.setCell (p:=⟨wr.heap.size,1,none⟩) HBS.o _⟩⟩
   case rest=>
    obtain⟨T,V,p',bad',HST,akp,HS2,HO2,HB2⟩:=hcut;obtain⟨A9,c9,hs9,am7,-⟩:=HS2.o;have s92:=(oQ hs9 2).trans rfl;have x20:=(oQ akp.o 0).trans rfl;have x21:=(oQ akp.o 1).trans rfl;clear hs9 am7;cases bad' with
    | true=>
      have HAN:=Y7 (Vo HST.o HLK.o)
      go_wp2_with fail
      refine bg (dD rfl _ _ _) rfl ?_;exact⟨_,[],5,rfl,HAN.o,Kd.tJ _ _ _ _ _,HB2.o⟩
    | false=>
      have aeV:l.length≤20000:=by have:=HLL.o;have:=HP8.o;have:=HI.o.2.2.1;have:=HLX.o;omega
      have afu:=Y7 aeV;clear aeV
      go_wp2_with ((with_reducible refine uh (b := .append) (xs := #[.tmp 97,.tmp 99]) rfl ?_);at_builtin;refine Kd.yw vX (w0:=w) w.heap.size rfl (.tmp 97) (.tmp 99) 49 70 (.agg #[.int .i64 0,.int .u64 0]) 16 rfl Tryz.underlying49 ze rfl (by decide) (by omega) (.slice A7 l.length c7) l (⟨T,V⟩:qG) [.int .i64 T,.int .u64 V] (fun q=>q≠g) (fun _=>False) rfl ?hx ?aP (fun _ hk=>hk.elim) ?aF HO2.o HB2.o HB2.o.size ?aL ?_;(case hx=>first | rfl | (go_simp;done)|(show Value.slice _ 1 1=Value.slice _ 1 1;simp;done));(case aP=>exact En _ _ _ (⟨T,V⟩:qG));(case aF=>exact fun q hq e=>by have:=HS2.o.lt;omega);(case aL=>have:=afu.o;omega);intro v9 w9 ho hb hg9 hat;have HO9:=Y7 ho;have HB9:=Y7 hb;have HS9:=Y7 (HS2.o.grown hg9 (HS2.o.own_ne HO2.o (by decide)));clear ho hb hg9 hat)
      go_roundw
      case rel=>exact⟨k+1,l++[(⟨T,V⟩:qG)],p',by omega,by go_num,⟨⟨HST.o.2.1 rfl,fun h=>absurd h (by omega)⟩⟩,HO9,HS9,HB9⟩
      case measure=>simp[intOf]<;>omega
  ·obtain rfl:k=n:=by omega
   have HIO:oM (∀ x∈l,Bd x):=⟨HI.o.2.1⟩;obtain⟨eb,ee,henc⟩:∃ eb ee,xM l=(eb,ee):=⟨_,_,rfl⟩;have aaD:=Y7 henc;have aeS:oM (okB eb=true):=⟨by have:=Bp l aeV HI.o.2.1;rw[henc] at this;exact this⟩;have afu:=Y7 aeV;have HGE:oM (∀ l0,Good b l0→l=l0):=⟨fun l0 hg=>by
    have h1:=(HI.o.2.2.2.2 l0 hg (by rw[HGN.o l0 hg];exact ay _)).1;rw[h1,← HGN.o l0 hg,dz]⟩
   have HBAD:oM (¬ xM l=(b,0)→X4 b [] 5):=⟨fun hne=>⟨.inr ⟨rfl,rfl⟩,fun l0 hg=>by
    have h1:=HGE.o l0 hg;refine absurd ?_ hne;rw[h1,xM,au hg.2.1,hg.2.2.2]⟩⟩
   clear henc aeV
   by_cases hee:ee=0
   ·subst hee;have aiO:((0:Int) != 0)=false:=rfl;cases heq:decide (eb=b) with
    | false=>
      have HEQ:=Y7 heq
      go_wp2_with (first
       | (go_at_call 48;(with_reducible refine (K7 A7 c7 l _ eb 0 rfl (Kd.pE HO.o).2.2 (Kd.pE HO.o).2.1 HIO.o afu.o aaD.o).mono ?_);rintro e w6 ⟨v6,rfl,hr6,hb⟩;obtain⟨A6,c6,rfl⟩:=Kd.pO hr6;have HB6:=Y7 (oP HB.o hb);have ai6:=Kd.vJ (P:=Tryz.prog) (A:=A6) (c:=c6) Tryz.underlying24 Tryz.underlying5 Tryz.underlying9 (Kd.pE hr6).2.2;have ai7:=Kd.vJ (P:=Tryz.prog) (A:=A) (c:=c) Tryz.underlying24 Tryz.underlying5 Tryz.underlying9 (Kd.o9 HRB.o HB6.o);have hse:=wU aeS.o HOK.o;rw[HEQ.o] at hse;clear hr6 hb))
      refine bg (dD rfl _ _ _) rfl ?_;exact⟨_,[],5,rfl,HBAD.o (by rw[aaD.o];intro q;exact dF HEQ.o (eU Prod.fst q)),Kd.tJ _ _ _ _ _,HB6.o⟩
    | true=>
      have HEQ:=Y7 heq
      go_wp2_with (first
       | (go_at_call 48;(with_reducible refine (K7 A7 c7 l _ eb 0 rfl (Kd.pE HO.o).2.2 (Kd.pE HO.o).2.1 HIO.o afu.o aaD.o).mono ?_);rintro e w6 ⟨v6,rfl,hr6,hb⟩;obtain⟨A6,c6,rfl⟩:=Kd.pO hr6;have HB6:=Y7 (oP HB.o hb);have HO6:=Y7 (Kd.qo HO.o hb);have ai6:=Kd.vJ (P:=Tryz.prog) (A:=A6) (c:=c6) Tryz.underlying24 Tryz.underlying5 Tryz.underlying9 (Kd.pE hr6).2.2;have ai7:=Kd.vJ (P:=Tryz.prog) (A:=A) (c:=c) Tryz.underlying24 Tryz.underlying5 Tryz.underlying9 (Kd.o9 HRB.o HB6.o);have hse:=wU aeS.o HOK.o;rw[HEQ.o] at hse;clear hr6 hb))
      refine bg (dD rfl _ _ _) rfl ?_;exact⟨_,l,0,rfl,⟨.inl ⟨rfl,by rw[aaD.o];exact eU (fun z=>(z,(0:Int))) (aJ HEQ.o),HIO.o,afu.o⟩,fun l0 hg=>⟨rfl,HGE.o l0 hg⟩⟩,Kd.qR HO6.o (fun _ _=>bE),HB6.o⟩
   ·have aiO:(ee != 0)=true:=bne_iff_ne.2 hee;have HEE:=Y7 hee;clear hee
    go_wp2_with (first
     | (go_at_call 48;(with_reducible refine (K7 A7 c7 l _ eb ee rfl (Kd.pE HO.o).2.2 (Kd.pE HO.o).2.1 HIO.o afu.o aaD.o).mono ?_);rintro e w6 ⟨v6,rfl,hr6,hb⟩;obtain⟨A6,c6,rfl⟩:=Kd.pO hr6;have HB6:=Y7 (oP HB.o hb);clear hr6 hb))
    refine bg (dD rfl _ _ _) rfl ?_;exact⟨_,[],5,rfl,HBAD.o (by rw[aaD.o];intro q;exact HEE.o (eU Prod.snd q)),Kd.tJ _ _ _ _ _,HB6.o⟩
theorem K6.qM {n:Nat}(A:Option Addr)(c:Nat)(b:List Int)(w:World)(rl:List qG)(re:Int)(hn:b.length=n)(hr:Kd.C (Kd.int .u8) w A b.length b)(hc:n≤c)(hok:okB b=true)(hlen:n≤2500)(he:wH b=(rl,re)) :
 Calls Tryz.prog 85 #[.slice A n c] w fun e w'=>∃ v:Value,e = .returned (.tuple #[v,.int .i64 re])∧Kd.R vX 70 w' w.heap.size (fun _=>True) v rl∧Below w.heap.size w w':=by
 subst hn;refine (K6.Xg A c b w hr hc hok hlen).mono ?_;rintro e w' ⟨v,l,ee,rfl,ha,hr,hb⟩;have h1:=Vp ha hlen;rw[he] at h1;obtain⟨rfl,rfl⟩:=jT h1;exact⟨v,rfl,hr,hb⟩
end Go.Proofs.Y.PA
