/- Of the law ZHQDumpReads. -/
import Derived.Test.YtcgbgifbajdhpaaGreatDoorZH11
set_option linter.unusedVariables false
set_option linter.unusedSimpArgs false
set_option maxHeartbeats 8000000
set_option maxRecDepth 100000
namespace Go
abbrev fB:=@Go.results_tmp3
abbrev nJ:=@Nat.le_of_eq
abbrev oK:=@Nat.sub_self
end Go
namespace Go.Proofs.Y.PA
open Go.RowKit Go.Proofs.Y.G Go.Proofs.YW.oO Go.Proofs.YW.pq Go.Proofs.YW.pz
def uJ (w:World)(b:List Int)(e:Ending)(w':World):Prop:=∃ v1 v2:Value,e = .returned (.tuple #[v1,v2,.int .i64 (rR b).2.2])∧Kd.R xU 68 w' w.heap.size (fun _=>True) v1 (rR b).1∧Kd.R (Kd.int .u8) 5 w' w.heap.size (fun _=>True) v2 (rR b).2.1∧Below w.heap.size w w'
theorem uJ.bad {w w':World}{b:List Int}{q:Int}(h:rR b=([],[],q))(hb:Below w.heap.size w w'):uJ w b (.returned (.tuple #[.slice none 0 0,.slice none 0 0,.int .i64 q])) w':=by
 refine⟨_,_,by rw[h],?_,?_,hb⟩
 ·rw[h];exact Kd.tJ _ _ _ _ _
 ·rw[h];exact Kd.tJ _ _ _ _ _
theorem uJ.nil {w w':World}{b:List Int}(h:b.length=0)(hb:Below w.heap.size w w'):uJ w b (.returned (.tuple #[.slice none 0 0,.slice none 0 0,.int .i64 3])) w' :=
 uJ.bad (by rw[dx h];rfl) hb
theorem zN {b:List Int}(h:∀ x∈b,0≤x∧x<256)(h0:0<b.length):∃ n:Nat,rd b 0=(n:Int)∧n<256:=by
 have:=h _ (Fu b 0 h0);rw[show ((0:Nat):Int)=0 from rfl] at this;exact⟨(rd b 0).toNat,by omega,by omega⟩
theorem cell0 {w:World}{A:Option Addr}{xs:List Int}(h:Kd.C (Kd.int .u8) w A xs.length xs)(h0:0<xs.length):∃ ad,A=some ad∧w.cell? ad=some (.int .u8 (rd xs 0)):=by
 obtain⟨ad,cb,rfl,_,hKb,hcb⟩:=Kd.CQ h (0:Int) 0 (by omega) (by omega);refine⟨ad,rfl,?_⟩;have:=hcb 0 (.int .u8 (rd xs 0)) (by rw[show cb=[Value.int .u8 (rd xs 0)] from hKb];rfl)
 simpa [Addr.add] using this
theorem set_mid (l:List tQ)(d:Nat)(x y:tQ)(k:Nat)(hk:l.length=k):(l++x::List.replicate d z68).set ((k:Int)).toNat y=l++y::List.replicate d z68:=by
 rw[aG,← hk,iV _ _ (ay _),oK];rfl
theorem Uz (l:List tQ)(d:Nat)(x:tQ)(k:Nat)(hk:l.length=k):qN (l++x::List.replicate d z68) (k:Int)=x:=by
 subst hk;simp[qN,aV]
theorem AB {α:Type}{d:Kd α}{e base n cap g:Nat}{ok:Nat→Prop}{w:World}{xs:List α}(h:Kd.R d e w base ok (.slice (some ⟨g,0,none⟩) n cap) xs)(i:Nat):w.frozen? ⟨g,i,none⟩=false:=by
 obtain⟨cells,hc⟩:=Kd.Ca h g (by simp[Value.ownBlock]);exact oW hc i
theorem Qh {W wS:World}{base g k:Nat}{ok:Nat→Prop}{u v:Value}{xs:List tQ}(j:Nat)(hs:(W.setCell ⟨g,k*2+j,none⟩ u).drew=wS)(h:Kd.R xU 68 (W.drew.setCells g ((k:Int).toNat*xU.sz+j) [u]) base ok v xs):Kd.R xU 68 wS base ok v xs:=by
 subst hs;rw[aG] at h;exact h
theorem Sl {α:Type}{d:Kd α}{e base:Nat}{w1 w2:World}{v:Value}{xs:List α}{o:Obj}(h:Kd.R d e w1 base (fun _=>True) v xs)(hg:(w1.alloc o).grownBy w2 (some w1.heap.size)):Kd.R d e w2 base (fun _=>True) v xs:=
 Kd.qR (Kd.Gr (Kd.qo (Kd.uK h) (oN (aU _ _) o)) hg (fun k hk he=>by injection he with he;have:=hk.2.2.1;omega)) (fun _ _=>bE)
theorem rR.c (A:Option Addr)(c n:Nat)(b:List Int)(w:World)(hn:b.length=n)(hr:Kd.C (Kd.int .u8) w A n b)(hc:n≤c)(hok:okB b=true)(hlen:n≤1000000) :
 Calls Tryz.prog 132 #[.slice A n c] w (uJ w b):=by
 subst hn
 by_cases h0:b.length=0
 ·have HE:=Y7 (fun W=>uJ.nil (w:=w) (w':=W) (b:=b) h0);have h1:((b.length:Int)==0)=true:=beq_iff_eq.2 (by omega);clear h0 hr hc hok hlen
  go_enter Tryz.func132,Tryz.ntmps132
  go_wp2;refine aZ (fB rfl _ _ _) rfl ?_;exact HE.o _ (aU _ _)
 ·have hp:0<b.length:=by omega
  have h1:((b.length:Int)==0)=false:=beq_eq_false_iff_ne.2 (by omega);obtain⟨n,hn,ajM⟩:=zN (qV.1 hok) hp;obtain⟨A1,c1,r0,HR0,HC0,hc1,hcut⟩:=Tf A c b 1 hp hc;have aaO:=hcut 1 rfl;have HRB:=Y7 (HC0.o w hr);have HBY:oM (∀ x∈r0,0≤x∧x<256):=⟨fun x hx=>qV.1 hok x (by rw[HR0.o] at hx;exact bU hx)⟩;have HRL:oM (r0.length≤1000000):=⟨by rw[HR0.o,aX];omega⟩;have hml:=fun W=>Rw .u8 n (by omega) W
  have HSH:oM (sO r0 n=none→rR b=([],[],3)):=⟨fun h=>FP hp hn (by rw[← HR0.o];exact h)⟩;have HFO:oM (∀ l r',sO r0 n=some (l,r')→sI l=false→rR b=([],[],5)):=⟨fun l r' h hc=>Hl hp hn (by rw[← HR0.o];exact h) hc⟩;have HGO:oM (∀ l r',sO r0 n=some (l,r')→sI l=true→rR b=(l,r',0)):=⟨fun l r' h hc=>Mv hp hn (by rw[← HR0.o];exact h) hc⟩;have hl1:(0:Int)<(b.length:Int):=by omega
  obtain⟨ad,rfl,hcell⟩:=cell0 hr hp;rw[hn] at hcell;have HCL:=Y7 hc1;clear hcut h0 hok hn hlen HC0 HR0 hr hc hc1
  go_enter Tryz.func132,Tryz.ntmps132
  go_wp2;have HM:=Y7 (Vl w w.heap.size n (ay _) (by omega));have HB0:=Y7 (oN (aU w.heap.size w) (.cells (madeCells (Value.agg #[.string ⟨#[]⟩,.string ⟨#[]⟩]).cells (n*2)) 68))
  go_loopw [0,21] (fun s i wr=>∃ (k:Nat) (A':Option Addr) (c':Nat) (r:List Int) (l:List tQ),k≤n∧i = .int .i64 k∧s = .slice A' r.length c'∧oM (sO r0 k=some (l,r))∧oM (r.length≤c')∧oM (Kd.C (Kd.int .u8) w A' r.length r)∧oM (Kd.R xU 68 wr w.heap.size (fun _=>True) (.slice (some ⟨w.heap.size,0,none⟩) n n) (l++List.replicate (n-k) z68))∧oM (Below w.heap.size w wr)) (fun _ i _=>n-(intOf i).toNat)
  case atStart=>exact⟨0,A1,c1,r0,[],bP _,rfl,rfl,⟨rfl⟩,HCL,HRB,HM,HB0⟩
  case round=>
   clear HM HB0;obtain⟨k,A',c',r,l,hk,rfl,rfl,HD,HCC,HCR,HV,HB⟩:=hrel;have hlk:=(yZ HD.o).1;have aef:oM (r.length≤1000000):=⟨by have:=(yZ HD.o).2;have:=HRL.o;omega⟩
   by_cases hlt:k<n
   ·have HLK:=Y7 hlk;have HKN:=Y7 hlt;have hki:(k:Int)<(n:Int):=by omega
    have hk0:(0:Int)≤(k:Int):=by omega
    obtain⟨d,hd⟩:∃ d,n-k=d+1:=⟨n-k-1,by omega⟩;have HDD:oM (n-(k+1)=d):=⟨by omega⟩;rw[hd,List.replicate_succ] at HV;have HBX:=Y7 (fun x hx=>HBY.o x (QI HD.o x hx));have HST:=Y7 (fun (h:sO r0 (k+1)=none)=>HSH.o (He hlt h));clear hlk hd hlt
    go_wp2_with fail
    go_quiet (fail)
    generalize hwq:wr.drewN nq=wq;have HVq:oM (Kd.R xU 68 wq w.heap.size (fun _=>True) (.slice (some ⟨w.heap.size,0,none⟩) n n) (l++z68::List.replicate d z68)):=⟨hwq ▸ HV.o⟩;have HBq:oM (Below w.heap.size w wq):=⟨hwq ▸ oU HB.o _⟩;clear hwq HV HB
    go_wp2_with fail
    have hi0:=fun W=>Gv (P:=Tryz.prog) 198 197 Tryz.underlying198 (fun W=>by kernel_rfl) (fun W=>by kernel_rfl) (.pointer (some ⟨w.heap.size,k*2,none⟩)) (.pointer (some ⟨w.heap.size,k*2+1,none⟩)) 0 _ (.inl ⟨rfl,rfl⟩) W
    have hi1:=fun W=>Gv (P:=Tryz.prog) 198 197 Tryz.underlying198 (fun W=>by kernel_rfl) (fun W=>by kernel_rfl) (.pointer (some ⟨w.heap.size,k*2,none⟩)) (.pointer (some ⟨w.heap.size,k*2+1,none⟩)) 1 _ (.inr ⟨rfl,rfl⟩) W
    refine wp_loop_rounds 3 ?_;rw[iP]
    by_cases ha1:r.length=0
    ·have HE:oM (rR b=([],[],3)):=⟨HST.o (Dq HD.o (Ip ha1))⟩;have e1:((r.length:Int)==0)=true:=beq_iff_eq.2 (by omega);clear ha1;go_wp2;refine aZ (fB rfl _ _ _) rfl ?_;exact uJ.bad HE.o HBq.o
    ·have e1:((r.length:Int)==0)=false:=beq_eq_false_iff_ne.2 (by omega);have hp1:0<r.length:=by omega
     obtain⟨m1,hm1,amd⟩:=zN HBX.o hp1;obtain⟨ad1,hA1,ajN⟩:=cell0 (Kd.o9 HCR.o HBq.o) hp1;rw[hm1] at ajN;have hl1:(0:Int)<(r.length:Int):=by omega
     have aoH:=aef.o
     by_cases hs1:(r.length:Int)-1<(m1:Int)
     ·have HE:oM (rR b=([],[],3)):=⟨HST.o (Dq HD.o (Ay hp1 (by rw[hm1];omega) (by rw[hm1];exact hs1)))⟩;subst hA1;clear ha1 hp1 hm1;go_wp2;refine aZ (fB rfl _ _ _) rfl ?_;exact uJ.bad HE.o HBq.o
     ·have hps:=Cq hp1 hm1 (by omega);obtain⟨AM1,cM1,rM1,ajO,ajP,ame,ahU⟩:=TT A' c' r 1 (1+m1) (by omega) (by omega) HCC.o;obtain⟨AX1,cX1,rX1,ahr,ajQ,ajR,aaO⟩:=Tf A' c' r (1+m1) (by omega) HCC.o;rw[← ajO.o,← ahr.o] at hps;have ahs:=Y7 hps;have aiH:=fun W=>ahU 1 (1+(m1:Int)) rfl (by omega) W
      have aiI:=fun W=>aaO (1+(m1:Int)) (by omega) W
      have amf:=Y7 (fun W (hb:Below w.heap.size w W)=>Kd.vJ (P:=Tryz.prog) (A:=AM1) (c:=cM1) Tryz.underlying24 Tryz.underlying5 Tryz.underlying9 (ajP.o W (Kd.o9 HCR.o hb)));have agr:=Y7 (ajQ.o w HCR.o);have ahV:=Y7 ajR;have ahW:oM (∀ x∈rX1,0≤x∧x<256):=⟨fun x hx=>HBX.o x (by rw[ahr.o] at hx;exact bU hx)⟩;have ajS:oM (rX1.length≤1000000):=⟨by rw[ahr.o,aX];omega⟩;have hw1:IntKind.i64.wrap (1+(m1:Int))=1+(m1:Int):=by rw[bD];omega
      have aoI:decide ((r.length:Int)-1<(m1:Int))=false:=aD hs1;clear hps ahU aaO ajP ajO ahr ajQ ajR ame ha1 hp1 hm1 hs1;subst hA1
      go_wp2_with fail
      have ZL:=xu (Kd.pE HVq.o).2.2 (k:Int) (by omega) (by rw[aT,bq,HLK.o];omega);rw[Uz _ _ _ _ HLK.o] at ZL;obtain⟨aoJ,ahX,q01,q11⟩:=ZL;obtain rfl:=bB ahX;rw[aG,add_plain] at q01 q11;have amg:=AB HVq.o 0;have amh:=AB HVq.o (k*2);have ami:=Y7 q01;have amj:=Y7 q11;have ajT:=Y7 (Kd.Wt (i:=(k:Int)) (j:=0) (x':=(⟨strOfNums rM1,⟨#[]⟩⟩:tQ)) (seg:=[.string (strOfNums rM1)]) (c:=[.string ⟨#[]⟩,.string ⟨#[]⟩]) (okp:=fun _=>False) (W:=wq.drew) (show Kd.R _ _ wq.drew _ _ _ _ from HVq.o) hk0 hki rfl (by intro j u hj;rw[aG];match j,hj with | 0,hj=>exact (bB hj) ▸ ami.o | 1,hj=>exact (bB hj) ▸ amj.o | z+2,hj=>simp at hj) (by show 0+1≤2;decide) (Em _ _ _ (⟨strOfNums rM1,⟨#[]⟩⟩:tQ)) (fun _ hk=>hk.elim));have amk:=amf.o wq.drew (oV HBq.o);clear ahX amg
      go_wp2_with fail
      go_region
      go_wp2_with fail
      generalize aiJ:(World.setCell wq ⟨w.heap.size,k*2,none⟩ (.string (strOfNums rM1))).drew=wS1;have ags:=Y7 (Qh 0 aiJ ajT.o.1);have agt:oM (Below w.heap.size w wS1):=⟨aiJ ▸ oV (HBq.o.setCell (p:=⟨w.heap.size,k*2,none⟩) (ay _) _)⟩;rw[set_mid _ _ _ _ _ HLK.o] at ags;clear aiJ amk q01 q11 amh ajT aiH aiI ajN;rw[iP]
      by_cases ha2:rX1.length=0
      ·have HE:oM (rR b=([],[],3)):=⟨HST.o (Dr HD.o ahs.o (Ip ha2))⟩;have e1:((rX1.length:Int)==0)=true:=beq_iff_eq.2 (by omega);clear ha2;go_wp2;refine aZ (fB rfl _ _ _) rfl ?_;exact uJ.bad HE.o agt.o
      ·have e1:((rX1.length:Int)==0)=false:=beq_eq_false_iff_ne.2 (by omega);have hp2:0<rX1.length:=by omega
       obtain⟨m2,hm2,aml⟩:=zN ahW.o hp2;obtain⟨ad2,hA2,ajU⟩:=cell0 (Kd.o9 agr.o agt.o) hp2;rw[hm2] at ajU;have hl2:(0:Int)<(rX1.length:Int):=by omega
       have hrl2:=ajS.o
       by_cases hs2:(rX1.length:Int)-1<(m2:Int)
       ·have HE:oM (rR b=([],[],3)):=⟨HST.o (Dr HD.o ahs.o (Ay hp2 (by rw[hm2];omega) (by rw[hm2];exact hs2)))⟩;subst hA2;clear ha2 hp2 hm2;go_wp2;refine aZ (fB rfl _ _ _) rfl ?_;exact uJ.bad HE.o agt.o
       ·have hps:=Cq hp2 hm2 (by omega);obtain⟨AM2,cM2,rM2,ajV,ajW,amm,ahY⟩:=TT AX1 cX1 rX1 1 (1+m2) (by omega) (by omega) ahV.o;obtain⟨AX2,cX2,rX2,aht,ajX,ajY,ahZ⟩:=Tf AX1 cX1 rX1 (1+m2) (by omega) ahV.o;rw[← ajV.o,← aht.o] at hps;have amn:=Y7 hps;have aiK:=fun W=>ahY 1 (1+(m2:Int)) rfl (by omega) W
        have aiL:=fun W=>ahZ (1+(m2:Int)) (by omega) W
        have amo:=Y7 (fun W (hb:Below w.heap.size w W)=>Kd.vJ (P:=Tryz.prog) (A:=AM2) (c:=cM2) Tryz.underlying24 Tryz.underlying5 Tryz.underlying9 (ajW.o W (Kd.o9 agr.o hb)));have ajZ:=Y7 (ajX.o w agr.o);have aj0:=Y7 ajY;have aob:oM (∀ x∈rX2,0≤x∧x<256):=⟨fun x hx=>ahW.o x (by rw[aht.o] at hx;exact bU hx)⟩;have aoc:oM (rX2.length≤1000000):=⟨by rw[aht.o,aX];omega⟩;have hw2:IntKind.i64.wrap (1+(m2:Int))=1+(m2:Int):=by rw[bD];omega
        have aoK:decide ((rX1.length:Int)-1<(m2:Int))=false:=aD hs2;clear hps ahY ahZ ajW ajV aht ajX ajY amm ha2 hp2 hm2 hs2;subst hA2
        go_wp2_with fail
        have agu:=xu (Kd.pE ags.o).2.2 (k:Int) (by omega) (by rw[aT,bq,HLK.o];omega);rw[Uz _ _ _ _ HLK.o] at agu;obtain⟨aoL,ah0,q02,q12⟩:=agu;obtain rfl:=bB ah0;rw[aG,add_plain] at q02 q12;have amq:=AB ags.o 0;have amr:=AB ags.o (k*2+1);have ams:=Y7 q02;have amt:=Y7 q12;have aj1:=Y7 (Kd.Wt (i:=(k:Int)) (j:=1) (x':=(⟨strOfNums rM1,strOfNums rM2⟩:tQ)) (seg:=[.string (strOfNums rM2)]) (c:=[.string (strOfNums rM1),.string ⟨#[]⟩]) (okp:=fun _=>False) (W:=wS1.drew) (show Kd.R _ _ wS1.drew _ _ _ _ from ags.o) hk0 hki rfl (by intro j u hj;rw[aG];match j,hj with | 0,hj=>exact (bB hj) ▸ ams.o | 1,hj=>exact (bB hj) ▸ amt.o | z+2,hj=>simp at hj) (by show 1+1≤2;decide) (Em _ _ _ (⟨strOfNums rM1,strOfNums rM2⟩:tQ)) (fun _ hk=>hk.elim));have amu:=amo.o wS1.drew (oV agt.o);clear ah0 amq
        go_wp2_with fail
        go_region
        go_wp2_with fail
        generalize aiM:(World.setCell wS1 ⟨w.heap.size,k*2+1,none⟩ (.string (strOfNums rM2))).drew=wS2;have aj2:=Y7 (Qh 1 aiM aj1.o.1);have amv:oM (Below w.heap.size w wS2):=⟨aiM ▸ oV (agt.o.setCell (p:=⟨w.heap.size,k*2+1,none⟩) (ay _) _)⟩;rw[set_mid _ _ _ _ _ HLK.o] at aj2;clear aiM amu q02 q12 amr aj1 aiK aiL ajU;rw[iP];go_wp2
        go_roundw
        case rel=>exact⟨k+1,AX2,cX2,rX2,l++[(⟨strOfNums rM1,strOfNums rM2⟩:tQ)],by omega,by go_num,rfl,⟨Hf HD.o ahs.o amn.o⟩,aj0,ajZ,⟨by rw[HDD.o,bC];exact aj2.o⟩,amv⟩
        case measure=>simp[intOf];omega
   ·obtain rfl:k=n:=by omega
    rw[oK,List.replicate_zero,dZ] at HV;cases hcan:sI l with
    | false=>
      have HE:=Y7 (HFO.o l r HD.o hcan);have HC:oM (∀ c,l.length≤c→Calls Tryz.prog 87 #[.slice (some ⟨w.heap.size,0,none⟩) k c] wr fun e w'=>e = .returned (.bool false)∧Below wr.heap.size wr w'):=⟨fun c hc=>hcan ▸ sI.c _ c k l wr hlk (hlk ▸ (Kd.pE HV.o).2.2) (hlk ▸ hc)⟩;clear hcan
      go_wp2_with (first|(go_at_call 87;(with_reducible refine (HC.o _ (nJ hlk)).mono ?_);rintro e w1 ⟨rfl,hb⟩;have HB1:=Y7 (oP HB.o hb);clear hb))
      refine aZ (fB rfl _ _ _) rfl ?_;exact uJ.bad HE.o HB1.o
    | true=>
      have HE:=Y7 (HGO.o l r HD.o hcan);have HC:oM (∀ c,l.length≤c→Calls Tryz.prog 87 #[.slice (some ⟨w.heap.size,0,none⟩) k c] wr fun e w'=>e = .returned (.bool true)∧Below wr.heap.size wr w'):=⟨fun c hc=>hcan ▸ sI.c _ c k l wr hlk (hlk ▸ (Kd.pE HV.o).2.2) (hlk ▸ hc)⟩;clear hcan
      go_wp2_with (first|(go_at_call 87;(with_reducible refine (HC.o _ (nJ hlk)).mono ?_);rintro e w1 ⟨rfl,hb⟩;have HB1:=Y7 (oP HB.o hb);have HV1:=Y7 (Kd.qo HV.o hb);have HE1:=Y7 (wu (Kd.int .u8) 5 w.heap.size w1 (fun _=>True) (oP HB.o hb).size bE);clear hb)|((with_reducible refine qm (N:=71) rfl ?_);go_must (refine Kd.uX (Value.int .u8) 0 (h1:=fun _=>rfl) (w0:=w) w.heap.size rfl (.tmp 69) (.tmp 70) 24 5 (.int .u8 0) 1 rfl Tryz.underlying24 rW rfl (by decide) _ [] r A' r.length c' (fun _=>True) rfl rfl (fun _ _=>bE) HE1.o (Kd.o9 HCR.o (oN HB1.o _)) (oN HB1.o _) ?hb ?hl ?_;(case hb=>exact (oN HB1.o _).size);(case hl=>(have:=aef.o;simp;omega));intro v1 w2 hR1 hB1 hg_ ho_;rw[cB] at hR1;have HR2:=Y7 hR1;have HB2:=Y7 hB1;have HV2:=Y7 (Sl HV1.o hg_);clear hR1 hB1 hg_ ho_)))
      refine aZ (fB rfl _ _ _) rfl ?_;refine⟨_,_,by rw[HE.o];rfl,?_,?_,HB2.o⟩
      ·rw[HE.o];exact HV2.o
      ·rw[HE.o];exact HR2.o
theorem add_block (a:Addr)(k:Nat):(a.add k).block=a.block:=by unfold Addr.add;split<;>rfl
theorem D8 (A:Option Addr)(c:Nat)(xs:List Int)(m:Nat)(hm:m≤xs.length)(hc:xs.length≤c) :
 ∃ (A':Option Addr) (c':Nat) (r:List Int),oM (r=xs.drop m)∧oM (∀ w:World,Kd.C (Kd.int .u8) w A xs.length xs→Kd.C (Kd.int .u8) w A' r.length r)∧r.length≤c'∧oM (∀ a',A'=some a'→∃ a,A=some a∧a'.block=a.block) ∧
   ∀ i:Int,i=(m:Int)→∀ W:World,(Instr.slice 24 (.slice A xs.length c) (some (.int .i64 i)) none none).run Tryz.prog W = .ok (.slice A' r.length c') W:=by
 obtain⟨i0,hi,hsz⟩:=Ic;refine⟨if c=m then A else A.map (·.add (m*(Kd.int .u8).sz)),c-m,xs.drop m,⟨rfl⟩,⟨fun w h=>Kd.Bf h hm hc⟩,by rw[aX];omega,⟨fun a' h=>?_⟩,fun i hi' W=>?_⟩
 ·split at h
  ·exact⟨a',h,rfl⟩
  ·obtain⟨a,ha,rfl⟩:=Option.map_eq_some_iff.1 h;exact⟨a,ha,add_block a _⟩
 ·subst hi';have hu:=Tryz.underlying24;have hel:Tryz.prog.elem 24=5:=by simp[Program.elem,hu]
  have hu':Tryz.prog.underlying 24=some (.slice (Tryz.prog.elem 24)):=by rw[hel];exact hu
  rw[mP W 24 A xs.length c hu' .i64 (m:Int) (by omega) (by omega),hel];simp only[sizeOf,typeInfo,iL,hi,sliced,Result.andThen,hsz,aG,aX];cases A<;>simp[go_sem,hi,hsz,Kd.int,Kd.scalar]
end Go.Proofs.Y.PA
