/- Of the law ZHQDumpReads. -/
import Derived.Test.YtcgbgifbajdhpaaGreatDoorZH3
set_option linter.unusedVariables false
set_option linter.unusedSimpArgs false
set_option maxHeartbeats 2000000
set_option maxRecDepth 100000
namespace Go
abbrev bM:=@eq_true
abbrev dQ:=@Go.results_none
abbrev fF:=@Go.bodyPost_end
abbrev gK:=@Int.one_mul
end Go
namespace Go.Proofs.Y.PA
open Go.RowKit Go.Proofs.Y.G Go.Proofs.YW.oO Go.Proofs.YW.pq Go.Proofs.YW.pz
attribute [local go_sem] sV sZ uE uF
abbrev rE.f:=G.rE.f
theorem rE.c (A0:Option Addr)(c0:Nat)(l0:List Int)(r:List Int)(w:World)(hr0:Kd.C (Kd.int .u8) w A0 l0.length l0)(hc0:l0.length≤c0)(h:rE.f l0=some r) :
 Calls Tryz.prog 142 #[.slice A0 l0.length c0] w fun e w'=>∃ v0_:Value,e = .returned (v0_)∧Kd.R (Kd.int .u8) 5 w' w.heap.size (fun _=>True) v0_ r∧Below w.heap.size w w':=G.rE.c A0 c0 l0 r w hr0 hc0 h
def GU (g:Nat)(w w':World):Prop:=∀ (q:Nat) (cs:Array Value) (t:Nat),q≠g→5≠t→w.heap[q]? = some (.cells cs t (0,0))→w'.heap[q]? = some (.cells cs t (0,0))
def Kk (N c:Int):Int:=if c<8-N % 8 then c else 8-N % 8
def Sz (N v c:Int):Int:=Go.bits .and .u64 (shr .u64 v (c-Kk N c)) (IntKind.u64.wrap ((shl .u64 1 (Kk N c))-1)) % 256
def zK (l:List Int)(N:Int):List Int:=if N % 8=0 then l++[0] else l
def Sy (N v c:Int)(b:Int):Int:=Go.bits .or .u8 b (shl .u8 (Sz N v c) (8-N % 8-Kk N c))
def Vn (l:List Int)(N v c:Int):List Int:=(zK l N).set ((zK l N).length-1) (Sy N v c ((zK l N).getD ((zK l N).length-1) 0))
def sj.l0:Nat→List Int→Int→Int→Int→Option (List Int × Int)
 | 0,_,_,_,_=>none
 | k+1,l,N,v,c=>if c≤0 then some (l,N) else if 0≤N∧N≤8*l.length∧8*l.length-N<8∧l.length<1000000000∧c≤1000 then sj.l0 k (Vn l N v c) (N+Kk N c) v (c-Kk N c) else none
def sj.f (l:List Int)(N v c:Int):Option (List Int × Int):=sj.l0 70 l N v c
theorem sj.c (B g:Nat)(w0:World)(v0:Value)(l0:List Int)(a0:Int)(a1:Int)(a2:Int)(r1:List Int)(r2:Int)(w:World)(ho:Kd.R (Kd.int .u8) 5 w B (fun _=>True) v0 l0)(hg:w.heap[g]? = some (.cells #[v0,.int .i64 a0] 149 (0,0)))(hgB:B≤g)(hB:Below B w0 w)(h:sj.f l0 a0 a1 a2=some (r1,r2)) :
 Calls Tryz.prog 143 #[.pointer (some ⟨g,0,none⟩),.int .u64 a1,.int .i64 a2] w fun e w'=>∃ v':Value,e = .returned (.tuple #[])∧w'.heap[g]? = some (.cells #[v',.int .i64 r2] 149 (0,0))∧Kd.R (Kd.int .u8) 5 w' B (fun _=>True) v' r1∧Below B w0 w'∧GU g w w':=by
 have HO:=Y7 ho;have BK:=Y7 hg;have HB:=Y7 hB;have HGB:=Y7 hgB;have HKT:oM (GU g w w):=⟨fun _ _ _ _ _ h=>h⟩;have H':oM (sj.l0 70 l0 a0 a1 a2=some (r1,r2)):=⟨h⟩;clear ho hg hB hgB h
 go_enter Tryz.func143,Tryz.ntmps143
 go_wp2_with (fail)
 go_loopg [2] 70 (fun kq v2 w'=>∃ (l:List Int) (N c:Int) (u:Value),v2 = .int .i64 c∧oM (sj.l0 kq l N a1 c=some (r1,r2))∧oM (kq≤70)∧oM (Kd.R (Kd.int .u8) 5 w' B (fun _=>True) u l)∧oM (w'.heap[g]? = some (.cells #[u,.int .i64 N] 149 (0,0)))∧oM (Below B w0 w')∧oM (GU g w w'))
 case atStart=>exact⟨l0,a0,a2,v0,rfl,H',⟨ay _⟩,HO,BK,HB,HKT⟩
 case round=>
  clear H' HO BK HB HKT;obtain⟨l,N,c,u,rfl,HA,HK,HO,BK,HB,HKT⟩:=hrel;cases gk with
  | zero=>exact absurd HA.o (by simp[sj.l0])
  | succ k1=>
    have H:=HA.o;clear HA;simp only[sj.l0] at H
    by_cases hc:c≤0
    ·rw[au hc] at H;obtain⟨rfl,rfl⟩:=jT (bB H);have hd:decide (0<c)=false:=aD (by omega);clear H hc
     go_wp2_with (fail)
     refine fF (dQ rfl _ _ _) rfl ?_;exact⟨u,rfl,BK.o,HO.o,HB.o,HKT.o⟩
    ·rw[av hc] at H;split at H
     case isFalse=>cases H
     case isTrue hg=>
     have HA:=Y7 H;clear H;obtain⟨hN0,hN8,hN7,hl9,hc9⟩:=hg;have hd:decide (0<c)=true:=aC (by omega);have hm:Int.tmod N 8=N % 8:=Int.tmod_eq_emod_of_nonneg hN0;obtain⟨m,hm'⟩:∃ m,N % 8=m:=⟨_,rfl⟩;rw[hm'] at hm;have HM:=Y7 hm';have hz0:wr.cell? ⟨g,0,none⟩=some u:=oQ BK.o 0;have hz1:wr.cell? ⟨g,1,none⟩=some (.int .i64 N):=oQ BK.o 1;have hf0:=oW BK.o 0;have hf1:=oW BK.o 1;have HN:=Y7 (And.intro hN0 (And.intro hN8 (And.intro hN7 (And.intro hl9 hc9))));clear hN0 hN8 hN7 hl9 hc9 hm'
     go_upto_if 16 with (fail)
     go_cut [] (fun wc=>∃ (v:Value),oM (Kd.R (Kd.int .u8) 5 wc B (fun _=>True) v (zK l N))∧oM (wc.heap[g]? = some (.cells #[v,.int .i64 N] 149 (0,0)))∧oM (Below B w0 wc)∧oM (GU g w wc))
     case first=>
      by_cases h0:m=0
      ·have hb0:(m==0)=true:=beq_iff_eq.2 h0;have HAL:oM (zK l N=l++[0]):=⟨by unfold zK;rw[HM.o,au h0]⟩;clear h0
       go_wp2_with (first|((with_reducible refine uh (b := .append) (xs := #[.tmp 21,.tmp 22]) rfl ?_);at_builtin;refine Kd.yw (Kd.int .u8) (w0:=w0) B rfl (.tmp 21) (.tmp 22) 24 5 (.int .u8 0) 1 rfl Tryz.underlying24 rW rfl (by decide) (by omega) u l 0 [.int .u8 0] (fun _=>True) (fun _=>False) rfl rfl ?aP (fun _ hk=>hk.elim) ?aF ?aO ?aB ?aS ?aL ?_;(case aP=>exact rfl);(case aB=>exact (by repeat (first|(with_reducible first | exact HB.o | apply oN | apply oU | apply oV)|exact HB.o)));(case aF=>exact (fun _ _=>bE));(case aO=>exact (by (with_reducible repeat (first | apply Kd.sJ | apply Kd.wm | apply Kd.vK));exact HO.o));(case aS=>exact (by have h_:=HGB.o;have h2_:=qQ BK.o;simp;omega));(case aL=>have:=HN.o;omega);intro v4 w4 ho hb hg hat;have n0_:=Y7 (qK (g:=g) (o := .cells #[u,.int .i64 N] 149 (0,0)) (by (with_reducible repeat (first | refine qd ?_ _ | refine pX ?_ | refine pK ?_ _));exact BK.o) hg (Kd.DZ HO.o BK.o (by decide)));have n2_:=Y7 (hb);have n3_:=Y7 (ho);have n4_:oM (GU g w w4):=⟨fun q cs t hq ht hh=>have h_:=HKT.o q cs t hq ht hh;qK (by (with_reducible repeat (first | refine qd ?_ _ | refine pX ?_ | refine pK ?_ _));exact h_) hg (Kd.DZ HO.o h_ ht)⟩;clear BK;clear HB;clear HO;clear HKT;have HKT:=n4_;clear n4_;have BK:=n0_;have HB:=n2_;have HO:=n3_;clear n0_ n2_ n3_;clear ho hb hg hat;have hz0:=oQ BK.o 0;have hz1:w4.cell? ⟨g,1,none⟩=some (.int .i64 N):=oQ BK.o 1;have hf0:=oW BK.o 0;have hf1:=oW BK.o 1;obtain⟨A4,c4,e4⟩:=Kd.pO HO.o;subst e4))
       go_meet
       case rel => 
        have HO1:=HO.o;rw[show (l++[(0:Int)]).length=l.length+1 by simp] at HO1;refine⟨.slice A4 (l.length+1) c4,⟨?_⟩,⟨?_⟩,⟨?_⟩,⟨?_⟩⟩
        ·rw[HAL.o];exact Kd.qR (Kd.sS (p:=⟨g,0,none⟩) (Kd.yL HO1 BK.o (by decide)) (fun _ hk=>hk.2) (.slice A4 (l.length+1) c4)) (fun _ _=>bE)
        ·exact qF (cs := #[u,.int .i64 N]) BK.o 0 (.slice A4 (l.length+1) c4) rfl
        ·exact HB.o.setCell HGB.o _
        ·exact fun q cs t hq ht hh=>vH (p:=⟨g,0,none⟩) (HKT.o q cs t hq ht hh) hq _
      ·have hb0:(m==0)=false:=beq_eq_false_iff_ne.2 h0;have HAL:oM (zK l N=l):=⟨by unfold zK;rw[HM.o,av h0]⟩;clear h0
       go_wp2_with (fail)
       go_meet
       case rel=>exact⟨u,⟨by rw[HAL.o];exact HO.o⟩,BK,HB,HKT⟩
     case rest=>
      clear HO BK HB HKT hz0 hz1 hf0 hf1;obtain⟨v,HO,BK,HB,HKT⟩:=hcut;have hpos:0<(zK l N).length:=by have:=HM.o;have:=HN.o;unfold zK;split<;>simp<;>omega
      have HS:oM (Vn l N a1 c=(zK l N).set ((zK l N).length-1) (Sy N a1 c ((zK l N).getD ((zK l N).length-1) 0))):=⟨rfl⟩;have HX:oM ((zK l N).length≤1000000000):=⟨by have:=HN.o;unfold zK;split<;>simp<;>omega⟩;generalize zK l N=L at HO hpos HS HX;obtain⟨go,co,eo,gb,gl,cl,HGr⟩:=Kd.EO HO.o hpos;subst eo;have hz0:wc.cell? ⟨g,0,none⟩=some (.slice (some ⟨go,0,none⟩) L.length co):=oQ BK.o 0;have hz1:wc.cell? ⟨g,1,none⟩=some (.int .i64 N):=oQ BK.o 1;have hf0:=oW BK.o 0;have hf1:=oW BK.o 1;obtain⟨F,hF⟩:∃ F,8-m=F:=⟨_,rfl⟩;have hFw:IntKind.i64.wrap (8-m)=F:=by rw[q8,hF];have:=HM.o;exact wK (by omega) (by omega)
      obtain⟨T,hT⟩:∃ T,(if c<F then c else F)=T:=⟨_,rfl⟩;have HT:oM (Kk N c=T∧0<T∧T≤F∧T≤c∧F≤8∧8-m=F):=⟨by have:=HM.o;unfold Kk;rw[HM.o,hF];refine⟨hT,?_⟩;rw[← hT];split<;>omega⟩;obtain⟨Z,hZ⟩:∃ Z,c-T=Z:=⟨_,rfl⟩;obtain⟨G,hG⟩:∃ G,F-T=G:=⟨_,rfl⟩;have hb:=HN.o;have hb':=HT.o;have hm8:=HM.o;have hZw:IntKind.i64.wrap (c-T)=Z:=by rw[q8,hZ];exact wK (by omega) (by omega)
      have hGw:IntKind.i64.wrap (F-T)=G:=by rw[q8,hG];exact wK (by omega) (by omega)
      have hNw:IntKind.i64.wrap (N+T)=N+T:=by rw[q8];exact wK (by omega) (by omega)
      have hLw:IntKind.i64.wrap ((L.length:Int)-1)=(L.length:Int)-1:=by have:=HX.o;rw[q8];exact wK (by omega) (by omega)
      have hZ0:=bM (show 0≤Z by omega);have hT0:=bM (show 0≤T by omega);have hG0:=bM (show 0≤G by omega);obtain⟨S1,hS1⟩:∃ S,shr .u64 a1 Z=S:=⟨_,rfl⟩;have aoi:a1 / 2 ^ min Z.toNat 64=S1:=hS1;have aoj:=Cz (k := .u64) hS1;obtain⟨S2,hS2⟩:∃ S,shl .u64 1 T=S:=⟨_,rfl⟩;have alF:IntKind.u64.wrap (2 ^ min T.toNat 64)=S2:=by have h_:IntKind.u64.wrap (1*2 ^ min T.toNat 64)=S2:=hS2;rw[gK] at h_;exact h_
      have alG:T≤64→IntKind.u64.wrap (2 ^ T.toNat)=S2:=fun aaP=>by have h_:=uW (k := .u64) hS2 aaP;rw[gK] at h_;exact h_
      obtain⟨Pp,hP⟩:∃ Pp,Go.bits .and .u64 S1 (IntKind.u64.wrap (S2-1)) % 256=Pp:=⟨_,rfl⟩;have HP:oM (Sz N a1 c=Pp):=⟨by unfold Sz;rw[hb'.1,hZ,hS1,hS2,hP]⟩;obtain⟨S3,hS3⟩:∃ S,shl .u8 Pp G=S:=⟨_,rfl⟩;have aok:IntKind.u8.wrap (Pp*2 ^ min G.toNat 8)=S3:=hS3;have aol:=uW (k := .u8) hS3;have HBB:oM (∀ b,Sy N a1 c b=Go.bits .or .u8 b S3):=⟨fun b=>by unfold Sy;rw[HP.o,hb'.1,hm8,hb'.2.2.2.2.2,hG,hS3]⟩;have HZG:oM (c-T=Z∧F-T=G):=⟨hZ,hG⟩;clear hF hZ hG hS1 hS2 hS3 hb hb' hm8
      go_wp2_with (fail)
      go_quiet (fail)
      go_wp2_with (fail)
      have BK2:=Y7 (qd BK.o nq);have HO2:=Y7 (Kd.wm HO.o nq);have HB2:=Y7 (oU HB.o nq);have aiC:oM (GU g w (wc.drewN nq)):=⟨fun q cs t hq ht hh=>qd (HKT.o q cs t hq ht hh) nq⟩;clear HKT BK HO HB HGr hz0 hz1 hf0 hf1 gl;generalize wc.drewN nq=W2 at BK2 HO2 HB2 aiC ⊢;have hz0:W2.cell? ⟨g,0,none⟩=some (.slice (some ⟨go,0,none⟩) L.length co):=oQ BK2.o 0;have hz1:W2.cell? ⟨g,1,none⟩=some (.int .i64 N):=oQ BK2.o 1;have hf0:=oW BK2.o 0;have hf1:=oW BK2.o 1;obtain⟨I,hI⟩:∃ I:Int,(L.length:Int)-1=I:=⟨_,rfl⟩;have aom:IntKind.i64.wrap ((L.length:Int)-1)=I:=hLw.trans hI;clear hLw;have hI0:=bM (show 0≤I by omega);have hI1:=bM (show I<(L.length:Int) by omega);have HII:=Y7 hI;obtain⟨hx0,hxf⟩:=Kd.Gq 0 HO2.o I (by omega) (by omega);have HQ:=Y7 (Kd.Xa HO2.o I (Go.bits .or .u8 (rd L I) S3));rw[show Ld 0 L I=rd L I from rfl] at hx0;clear hI
      go_region
      have hgo:g≠go:=fun e=>Kd.DZ HO2.o BK2.o (by decide) (by rw[e];rfl)
      have HO3:=Y7 (Kd.vK HQ.o);have BK3:=Y7 (pX (vH (p:=⟨go,I.toNat,none⟩) BK2.o hgo (Value.int .u8 (Go.bits .or .u8 (rd L I) S3))));have HB3:=Y7 (oV (HB2.o.setCell (p:=⟨go,I.toNat,none⟩) gb (Value.int .u8 (Go.bits .or .u8 (rd L I) S3))));have ajx:oM (GU g w (W2.setCell ⟨go,I.toNat,none⟩ (Value.int .u8 (Go.bits .or .u8 (rd L I) S3))).drew):=⟨fun q cs t hq ht hh=>have h_:=aiC.o q cs t hq ht hh;pX (vH (p:=⟨go,I.toNat,none⟩) h_ (fun e=>Kd.DZ HO2.o h_ ht (by rw[e];rfl)) _)⟩;clear hz0 hz1 hf0 hf1 hx0 hxf HQ HO2 BK2 HB2 aiC;generalize (W2.setCell ⟨go,I.toNat,none⟩ (Value.int .u8 (Go.bits .or .u8 (rd L I) S3))).drew=W3 at HO3 BK3 HB3 ajx ⊢;have hz1:W3.cell? ⟨g,1,none⟩=some (.int .i64 N):=oQ BK3.o 1;have hf1:=oW BK3.o 1
      go_wp2_with (fail)
      go_roundg k1
      case measure=>have:=HK.o;omega
      case rel=>
       have ht:=HT.o.1;refine⟨L.set I.toNat (Go.bits .or .u8 (rd L I) S3),N+T,c-T,.slice (some ⟨go,0,none⟩) L.length co,by rw[HZG.o.1],⟨?_⟩,⟨by have:=HK.o;omega⟩,⟨?_⟩,⟨?_⟩,⟨?_⟩,⟨?_⟩⟩
       ·have h_:=HA.o;rw[ht,HS.o,HBB.o] at h_;have e1:I.toNat=L.length-1:=by have:=HII.o;omega
        rw[show rd L I=L.getD (L.length-1) 0 by unfold rd;rw[e1],e1];exact h_
       ·exact Kd.qR (Kd.sS (p:=⟨g,1,none⟩) (Kd.yL HO3.o BK3.o (by decide)) (fun _ hk=>hk.2) (.int .i64 (N+T))) (fun _ _=>bE)
       ·exact qF (cs := #[.slice (some ⟨go,0,none⟩) L.length co,.int .i64 N]) BK3.o 1 (.int .i64 (N+T)) rfl
       ·exact HB3.o.setCell HGB.o _
       ·exact fun q cs t hq ht hh=>vH (p:=⟨g,1,none⟩) (ajx.o q cs t hq ht hh) hq _
end Go.Proofs.Y.PA
