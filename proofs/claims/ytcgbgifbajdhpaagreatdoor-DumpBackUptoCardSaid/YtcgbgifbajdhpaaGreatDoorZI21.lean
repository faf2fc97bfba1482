/- Of the law rZIQDumpBack. -/
import Derived.Test.YtcgbgifbajdhpaaGreatDoorZI7
set_option linter.unusedVariables false
set_option linter.unusedSimpArgs false
set_option maxHeartbeats 2000000
set_option maxRecDepth 100000
namespace Go
abbrev bT:=@eq_true
abbrev gN:=@Go.results_none
abbrev jS:=@Go.bodyPost_end
abbrev ko:=@Int.one_mul
end Go
namespace Go.Proofs.Y.PA
open Go.RowKit Go.Proofs.Y.G Go.Proofs.YW.o7 Go.Proofs.YW.pJ Go.Proofs.YW.pO
attribute [local go_sem] rZ r9 sU sV
abbrev rz.f:=G.rz.f
theorem rz.c (A0:Option Addr)(c0:Nat)(l0:List Int)(r:List Int)(w:World)(hr0:Kd.C (Kd.int .u8) w A0 l0.length l0)(hc0:l0.length≤c0)(h:rz.f l0=some r) :
 Calls Tryz.prog 142 #[.slice A0 l0.length c0] w fun e w'=>∃ v0_:Value,e = .returned (v0_)∧Kd.R (Kd.int .u8) 5 w' w.heap.size (fun _=>True) v0_ r∧Below w.heap.size w w':=G.rz.c A0 c0 l0 r w hr0 hc0 h
def FI (g:Nat)(w w':World):Prop:=∀ (q:Nat) (cs:Array Value) (t:Nat),q≠g→5≠t→w.heap[q]? = some (.cells cs t (0,0))→w'.heap[q]? = some (.cells cs t (0,0))
def JU (N c:Int):Int:=if c<8-N % 8 then c else 8-N % 8
def RF (N v c:Int):Int:=Go.bits .and .u64 (shr .u64 v (c-JU N c)) (IntKind.u64.wrap ((shl .u64 1 (JU N c))-1)) % 256
def yS (l:List Int)(N:Int):List Int:=if N % 8=0 then l++[0] else l
def RD (N v c:Int)(b:Int):Int:=Go.bits .or .u8 b (shl .u8 (RF N v c) (8-N % 8-JU N c))
def UK (l:List Int)(N v c:Int):List Int:=(yS l N).set ((yS l N).length-1) (RD N v c ((yS l N).getD ((yS l N).length-1) 0))
def rP.l0:Nat→List Int→Int→Int→Int→Option (List Int × Int)
 | 0,_,_,_,_=>none
 | k+1,l,N,v,c=>if c≤0 then some (l,N) else if 0≤N∧N≤8*l.length∧8*l.length-N<8∧l.length<1000000000∧c≤1000 then rP.l0 k (UK l N v c) (N+JU N c) v (c-JU N c) else none
def rP.f (l:List Int)(N v c:Int):Option (List Int × Int):=rP.l0 70 l N v c
theorem rP.c (B g:Nat)(w0:World)(v0:Value)(l0:List Int)(a0:Int)(a1:Int)(a2:Int)(r1:List Int)(r2:Int)(w:World)(ho:Kd.R (Kd.int .u8) 5 w B (fun _=>True) v0 l0)(hg:w.heap[g]? = some (.cells #[v0,.int .i64 a0] 149 (0,0)))(hgB:B≤g)(hB:Below B w0 w)(h:rP.f l0 a0 a1 a2=some (r1,r2)) :
 Calls Tryz.prog 143 #[.pointer (some ⟨g,0,none⟩),.int .u64 a1,.int .i64 a2] w fun e w'=>∃ v':Value,e = .returned (.tuple #[])∧w'.heap[g]? = some (.cells #[v',.int .i64 r2] 149 (0,0))∧Kd.R (Kd.int .u8) 5 w' B (fun _=>True) v' r1∧Below B w0 w'∧FI g w w':=by
 have HO:=Yu ho;have BK:=Yu hg;have HB:=Yu hB;have HGB:=Yu hgB;have HKT:oZ (FI g w w):=⟨fun _ _ _ _ _ h=>h⟩;have H':oZ (rP.l0 70 l0 a0 a1 a2=some (r1,r2)):=⟨h⟩;clear ho hg hB hgB h
 go_enter Tryz.func143,Tryz.ntmps143
 go_wp2_with (fail)
 go_loopg [2] 70 (fun kq v2 w'=>∃ (l:List Int) (N c:Int) (u:Value),v2 = .int .i64 c∧oZ (rP.l0 kq l N a1 c=some (r1,r2))∧oZ (kq≤70)∧oZ (Kd.R (Kd.int .u8) 5 w' B (fun _=>True) u l)∧oZ (w'.heap[g]? = some (.cells #[u,.int .i64 N] 149 (0,0)))∧oZ (Below B w0 w')∧oZ (FI g w w'))
 case atStart=>exact⟨l0,a0,a2,v0,rfl,H',⟨aD _⟩,HO,BK,HB,HKT⟩
 case round=>
  clear H' HO BK HB HKT;obtain⟨l,N,c,u,rfl,HA,HK,HO,BK,HB,HKT⟩:=hrel;cases gk with
  | zero=>exact absurd HA.o (by simp[rP.l0])
  | succ k1=>
    have H:=HA.o;clear HA;simp only[rP.l0] at H
    by_cases hc:c≤0
    ·rw[ak hc] at H;obtain⟨rfl,rfl⟩:=nH (bE H);have hd:decide (0<c)=false:=aN (by omega);clear H hc
     go_wp2_with (fail)
     refine jS (gN rfl _ _ _) rfl ?_;exact⟨u,rfl,BK.o,HO.o,HB.o,HKT.o⟩
    ·rw[aK hc] at H;split at H
     case isFalse=>cases H
     case isTrue hg=>
     have HA:=Yu H;clear H;obtain⟨hN0,hN8,hN7,hl9,hc9⟩:=hg;have hd:decide (0<c)=true:=aM (by omega);have hm:Int.tmod N 8=N % 8:=Int.tmod_eq_emod_of_nonneg hN0;obtain⟨m,hm'⟩:∃ m,N % 8=m:=⟨_,rfl⟩;rw[hm'] at hm;have HM:=Yu hm';have hz0:wr.cell? ⟨g,0,none⟩=some u:=pq BK.o 0;have hz1:wr.cell? ⟨g,1,none⟩=some (.int .i64 N):=pq BK.o 1;have hf0:=pE BK.o 0;have hf1:=pE BK.o 1;have HN:=Yu (And.intro hN0 (And.intro hN8 (And.intro hN7 (And.intro hl9 hc9))));clear hN0 hN8 hN7 hl9 hc9 hm'
     go_upto_if 16 with (fail)
     go_cut [] (fun wc=>∃ (v:Value),oZ (Kd.R (Kd.int .u8) 5 wc B (fun _=>True) v (yS l N))∧oZ (wc.heap[g]? = some (.cells #[v,.int .i64 N] 149 (0,0)))∧oZ (Below B w0 wc)∧oZ (FI g w wc))
     case first=>
      by_cases h0:m=0
      ·have hb0:(m==0)=true:=beq_iff_eq.2 h0;have HAL:oZ (yS l N=l++[0]):=⟨by unfold yS;rw[HM.o,ak h0]⟩;clear h0
       go_wp2_with (first|((with_reducible refine uR (b := .append) (xs := #[.tmp 21,.tmp 22]) rfl ?_);at_builtin;refine Kd.zK (Kd.int .u8) (w0:=w0) B rfl (.tmp 21) (.tmp 22) 24 5 (.int .u8 0) 1 rfl Tryz.underlying24 uS rfl (by decide) (by omega) u l 0 [.int .u8 0] (fun _=>True) (fun _=>False) rfl rfl ?aP (fun _ hk=>hk.elim) ?aF ?aO ?aB ?aS ?aL ?_;(case aP=>exact rfl);(case aB=>exact (by repeat (first|(with_reducible first | exact HB.o | apply o8 | apply pz | apply pF)|exact HB.o)));(case aF=>exact (fun _ _=>dD));(case aO=>exact (by (with_reducible repeat (first | apply Kd.vO | apply Kd.Aj | apply Kd.FR));exact HO.o));(case aS=>exact (by have h_:=HGB.o;have h2_:=rE BK.o;simp;omega));(case aL=>have:=HN.o;omega);intro v4 w4 ho hb hg hat;have n0_:=Yu (rQ (g:=g) (o := .cells #[u,.int .i64 N] 149 (0,0)) (by (with_reducible repeat (first | refine qh ?_ _ | refine qg ?_ | refine pU ?_ _));exact BK.o) hg (Kd.JN HO.o BK.o (by decide)));have n2_:=Yu (hb);have n3_:=Yu (ho);have n4_:oZ (FI g w w4):=⟨fun q cs t hq ht hh=>have h_:=HKT.o q cs t hq ht hh;rQ (by (with_reducible repeat (first | refine qh ?_ _ | refine qg ?_ | refine pU ?_ _));exact h_) hg (Kd.JN HO.o h_ ht)⟩;clear BK;clear HB;clear HO;clear HKT;have HKT:=n4_;clear n4_;have BK:=n0_;have HB:=n2_;have HO:=n3_;clear n0_ n2_ n3_;clear ho hb hg hat;have hz0:=pq BK.o 0;have hz1:w4.cell? ⟨g,1,none⟩=some (.int .i64 N):=pq BK.o 1;have hf0:=pE BK.o 0;have hf1:=pE BK.o 1;obtain⟨A4,c4,e4⟩:=Kd.qo HO.o;subst e4))
       go_meet
       case rel => 
        have HO1:=HO.o;rw[show (l++[(0:Int)]).length=l.length+1 by simp] at HO1;refine⟨.slice A4 (l.length+1) c4,⟨?_⟩,⟨?_⟩,⟨?_⟩,⟨?_⟩⟩
        ·rw[HAL.o];exact Kd.sD (Kd.uG (p:=⟨g,0,none⟩) (Kd.ze HO1 BK.o (by decide)) (fun _ hk=>hk.2) (.slice A4 (l.length+1) c4)) (fun _ _=>dD)
        ·exact qH (cs := #[u,.int .i64 N]) BK.o 0 (.slice A4 (l.length+1) c4) rfl
        ·exact HB.o.setCell HGB.o _
        ·exact fun q cs t hq ht hh=>uU (p:=⟨g,0,none⟩) (HKT.o q cs t hq ht hh) hq _
      ·have hb0:(m==0)=false:=beq_eq_false_iff_ne.2 h0;have HAL:oZ (yS l N=l):=⟨by unfold yS;rw[HM.o,aK h0]⟩;clear h0
       go_wp2_with (fail)
       go_meet
       case rel=>exact⟨u,⟨by rw[HAL.o];exact HO.o⟩,BK,HB,HKT⟩
     case rest=>
      clear HO BK HB HKT hz0 hz1 hf0 hf1;obtain⟨v,HO,BK,HB,HKT⟩:=hcut;have hpos:0<(yS l N).length:=by have:=HM.o;have:=HN.o;unfold yS;split<;>simp<;>omega
      have HS:oZ (UK l N a1 c=(yS l N).set ((yS l N).length-1) (RD N a1 c ((yS l N).getD ((yS l N).length-1) 0))):=⟨rfl⟩;have HX:oZ ((yS l N).length≤1000000000):=⟨by have:=HN.o;unfold yS;split<;>simp<;>omega⟩;generalize yS l N=L at HO hpos HS HX;obtain⟨go,co,eo,gb,gl,cl,HGr⟩:=Kd.FT HO.o hpos;subst eo;have hz0:wc.cell? ⟨g,0,none⟩=some (.slice (some ⟨go,0,none⟩) L.length co):=pq BK.o 0;have hz1:wc.cell? ⟨g,1,none⟩=some (.int .i64 N):=pq BK.o 1;have hf0:=pE BK.o 0;have hf1:=pE BK.o 1;obtain⟨F,hF⟩:∃ F,8-m=F:=⟨_,rfl⟩;have hFw:IntKind.i64.wrap (8-m)=F:=by rw[rH,hF];have:=HM.o;exact yM (by omega) (by omega)
      obtain⟨T,hT⟩:∃ T,(if c<F then c else F)=T:=⟨_,rfl⟩;have HT:oZ (JU N c=T∧0<T∧T≤F∧T≤c∧F≤8∧8-m=F):=⟨by have:=HM.o;unfold JU;rw[HM.o,hF];refine⟨hT,?_⟩;rw[← hT];split<;>omega⟩;obtain⟨Z,hZ⟩:∃ Z,c-T=Z:=⟨_,rfl⟩;obtain⟨G,hG⟩:∃ G,F-T=G:=⟨_,rfl⟩;have hb:=HN.o;have hb':=HT.o;have hm8:=HM.o;have hZw:IntKind.i64.wrap (c-T)=Z:=by rw[rH,hZ];exact yM (by omega) (by omega)
      have hGw:IntKind.i64.wrap (F-T)=G:=by rw[rH,hG];exact yM (by omega) (by omega)
      have hNw:IntKind.i64.wrap (N+T)=N+T:=by rw[rH];exact yM (by omega) (by omega)
      have hLw:IntKind.i64.wrap ((L.length:Int)-1)=(L.length:Int)-1:=by have:=HX.o;rw[rH];exact yM (by omega) (by omega)
      have hZ0:=bT (show 0≤Z by omega);have hT0:=bT (show 0≤T by omega);have hG0:=bT (show 0≤G by omega);obtain⟨S1,hS1⟩:∃ S,shr .u64 a1 Z=S:=⟨_,rfl⟩;have akk:a1 / 2 ^ min Z.toNat 64=S1:=hS1;have akl:=Ed (k := .u64) hS1;obtain⟨S2,hS2⟩:∃ S,shl .u64 1 T=S:=⟨_,rfl⟩;have aiR:IntKind.u64.wrap (2 ^ min T.toNat 64)=S2:=by have h_:IntKind.u64.wrap (1*2 ^ min T.toNat 64)=S2:=hS2;rw[ko] at h_;exact h_
      have aiS:T≤64→IntKind.u64.wrap (2 ^ T.toNat)=S2:=fun adn=>by have h_:=wO (k := .u64) hS2 adn;rw[ko] at h_;exact h_
      obtain⟨Pp,hP⟩:∃ Pp,Go.bits .and .u64 S1 (IntKind.u64.wrap (S2-1)) % 256=Pp:=⟨_,rfl⟩;have HP:oZ (RF N a1 c=Pp):=⟨by unfold RF;rw[hb'.1,hZ,hS1,hS2,hP]⟩;obtain⟨S3,hS3⟩:∃ S,shl .u8 Pp G=S:=⟨_,rfl⟩;have akm:IntKind.u8.wrap (Pp*2 ^ min G.toNat 8)=S3:=hS3;have akn:=wO (k := .u8) hS3;have HBB:oZ (∀ b,RD N a1 c b=Go.bits .or .u8 b S3):=⟨fun b=>by unfold RD;rw[HP.o,hb'.1,hm8,hb'.2.2.2.2.2,hG,hS3]⟩;have HZG:oZ (c-T=Z∧F-T=G):=⟨hZ,hG⟩;clear hF hZ hG hS1 hS2 hS3 hb hb' hm8
      go_wp2_with (fail)
      go_quiet (fail)
      go_wp2_with (fail)
      have BK2:=Yu (qh BK.o nq);have HO2:=Yu (Kd.Aj HO.o nq);have HB2:=Yu (pz HB.o nq);have agn:oZ (FI g w (wc.drewN nq)):=⟨fun q cs t hq ht hh=>qh (HKT.o q cs t hq ht hh) nq⟩;clear HKT BK HO HB HGr hz0 hz1 hf0 hf1 gl;generalize wc.drewN nq=W2 at BK2 HO2 HB2 agn ⊢;have hz0:W2.cell? ⟨g,0,none⟩=some (.slice (some ⟨go,0,none⟩) L.length co):=pq BK2.o 0;have hz1:W2.cell? ⟨g,1,none⟩=some (.int .i64 N):=pq BK2.o 1;have hf0:=pE BK2.o 0;have hf1:=pE BK2.o 1;obtain⟨I,hI⟩:∃ I:Int,(L.length:Int)-1=I:=⟨_,rfl⟩;have ako:IntKind.i64.wrap ((L.length:Int)-1)=I:=hLw.trans hI;clear hLw;have hI0:=bT (show 0≤I by omega);have hI1:=bT (show I<(L.length:Int) by omega);have HII:=Yu hI;obtain⟨hx0,hxf⟩:=Kd.OE 0 HO2.o I (by omega) (by omega);have HQ:=Yu (Kd.Wp HO2.o I (Go.bits .or .u8 (rd L I) S3));rw[show TI 0 L I=rd L I from rfl] at hx0;clear hI
      go_region
      have hgo:g≠go:=fun e=>Kd.JN HO2.o BK2.o (by decide) (by rw[e];rfl)
      have HO3:=Yu (Kd.FR HQ.o);have BK3:=Yu (qg (uU (p:=⟨go,I.toNat,none⟩) BK2.o hgo (Value.int .u8 (Go.bits .or .u8 (rd L I) S3))));have HB3:=Yu (pF (HB2.o.setCell (p:=⟨go,I.toNat,none⟩) gb (Value.int .u8 (Go.bits .or .u8 (rd L I) S3))));have ahc:oZ (FI g w (W2.setCell ⟨go,I.toNat,none⟩ (Value.int .u8 (Go.bits .or .u8 (rd L I) S3))).drew):=⟨fun q cs t hq ht hh=>have h_:=agn.o q cs t hq ht hh;qg (uU (p:=⟨go,I.toNat,none⟩) h_ (fun e=>Kd.JN HO2.o h_ ht (by rw[e];rfl)) _)⟩;clear hz0 hz1 hf0 hf1 hx0 hxf HQ HO2 BK2 HB2 agn;generalize (W2.setCell ⟨go,I.toNat,none⟩ (Value.int .u8 (Go.bits .or .u8 (rd L I) S3))).drew=W3 at HO3 BK3 HB3 ahc ⊢;have hz1:W3.cell? ⟨g,1,none⟩=some (.int .i64 N):=pq BK3.o 1;have hf1:=pE BK3.o 1
      go_wp2_with (fail)
      go_roundg k1
      case measure=>have:=HK.o;omega
      case rel=>
       have ht:=HT.o.1;refine⟨L.set I.toNat (Go.bits .or .u8 (rd L I) S3),N+T,c-T,.slice (some ⟨go,0,none⟩) L.length co,by rw[HZG.o.1],⟨?_⟩,⟨by have:=HK.o;omega⟩,⟨?_⟩,⟨?_⟩,⟨?_⟩,⟨?_⟩⟩
       ·have h_:=HA.o;rw[ht,HS.o,HBB.o] at h_;have e1:I.toNat=L.length-1:=by have:=HII.o;omega
        rw[show rd L I=L.getD (L.length-1) 0 by unfold rd;rw[e1],e1];exact h_
       ·exact Kd.sD (Kd.uG (p:=⟨g,1,none⟩) (Kd.ze HO3.o BK3.o (by decide)) (fun _ hk=>hk.2) (.int .i64 (N+T))) (fun _ _=>dD)
       ·exact qH (cs := #[.slice (some ⟨go,0,none⟩) L.length co,.int .i64 N]) BK3.o 1 (.int .i64 (N+T)) rfl
       ·exact HB3.o.setCell HGB.o _
       ·exact fun q cs t hq ht hh=>uU (p:=⟨g,1,none⟩) (ahc.o q cs t hq ht hh) hq _
end Go.Proofs.Y.PA
