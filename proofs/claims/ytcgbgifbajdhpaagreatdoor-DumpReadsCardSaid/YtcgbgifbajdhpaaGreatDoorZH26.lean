/- Of the law ZHQDumpReads. -/
import Derived.Test.YtcgbgifbajdhpaaGreatDoorZH24
import Derived.Test.YtcgbgifbajdhpaaGreatDoorZH22
import Derived.Test.YtcgbgifbajdhpaaGreatDoorZH25
set_option linter.unusedVariables false
set_option linter.unusedSimpArgs false
set_option maxHeartbeats 16000000
set_option maxRecDepth 1000000
namespace Go
abbrev bW:=@Go.World.size_alloc
abbrev gM:=@List.filter_cons
abbrev iD:=@List.cons_append
abbrev jh:=@Go.Sort.get_flatK
abbrev kG:=@Nat.sub_zero
abbrev lg:=@Go.Sort.heap_grow_old
abbrev lK:=@Nat.le_succ
abbrev l6:=@List.Pairwise.sublist
abbrev mF:=@List.getElem!_eq_getElem?_getD
abbrev mG:=@Go.Sort.size_flatK
abbrev nN:=@List.getElem_map
end Go
namespace Go.Proofs.Y.PA
open Go.Shelf Go.RowKit Go.Lib Go.Sort
section
variable {w0 W:World} {blk off:Nat} {d0 dk dk':Array qG}
theorem NP (h:SWK qy 2 w0 blk off dk W)(hb:blk<w0.heap.size)(s:Nat)(vs:List Value)(hs:s+vs.length≤dk.size*2)(he:setMany (flatK qy 2 dk) s vs=flatK qy 2 dk'):SWK qy 2 w0 blk off dk' (W.setCells blk (off+s) vs):=by
 obtain⟨n,os,rfl⟩:=h;refine⟨n,os,?_⟩;unfold sortWorldK;rw[← putRowK_grow qy 2 (Sort.ahead w0 n) os blk off dk hb,← putRowK_grow qy 2 (Sort.ahead w0 n) os blk off dk' hb];unfold putRowK;rw[setCells_putRow _ _ _ _ _ _ (by rw[size_flatK];exact hs),he]
theorem Wi (h:SWK qy 2 w0 blk off dk W)(hb:blk<w0.heap.size)(i:Nat)(hi:i<dk.size)(x:qG) :
 SWK qy 2 w0 blk off (dk.setIfInBounds i x) ((W.setCell ⟨blk,off+i*2,none⟩ (.int .i64 x.f0)).setCell ⟨blk,off+i*2+1,none⟩ (.int .u64 x.f1)):=by
 refine NP h hb (i*2) (qy x) (by show i*2+2≤_;omega) (ext_get! (by simp) fun t ht=>?_);have ht':t<dk.size*2:=by simpa using ht
 rw[get_setMany _ _ _ t (by simpa using ht'),jh _ _ _ t ht',jh _ _ _ t (by simpa using ht')];have h2:(qy x).length=2:=rfl
 by_cases c:t / 2=i
 ·rw[au (by rw[h2];omega),show t-i*2=t % 2 from by omega];congr 2;subst c;simp[getElem!_def,hi]
 ·rw[av (by rw[h2];omega)];congr 2;simp[getElem!_def,jg,jy c]
end
def zs2 (m:Nat):List Value:=(Builtin.zeroCells #[.int .i64 0,.int .u64 0] m).toList
theorem EL (m:Nat):(zs2 m).length=m*2:=by simp[zs2,Builtin.zeroCells]
theorem Qt (m t:Nat)(h:t<m*2):(zs2 m)[t]! = (qy z70)[t % 2]! := by
 have h2:t % 2=0∨t % 2=1:=by omega
 have:(zs2 m)[t]? = some ((#[Value.int .i64 0,.int .u64 0]:Array Value)[t % 2]!):=by
  simp[zs2,Builtin.zeroCells,h]
 rw[mF,this];rcases h2 with h2 | h2<;>rw[h2]<;>rfl
theorem Wp (m:Nat):∀ v∈zs2 m,v.oneCell'=true:=by
 intro v hv;obtain⟨t,ht,rfl⟩:=List.mem_iff_getElem.1 hv;have h2:t % 2=0∨t % 2=1:=by omega
 have h:=Qt m t (by rw[EL] at ht;exact ht);rw[mF,aR ht] at h;have h':(zs2 m)[t]=(qy z70)[t % 2]! := h;rw[h'];rcases h2 with h2 | h2<;>rw[h2]<;>rfl
def Ml (d:Array qG)(k:Nat):Array qG:=((List.range d.size).map fun t=>if t<k then d[t]! else z70).toArray
theorem ET (d:Array qG)(k:Nat):(Ml d k).size=d.size:=by simp[Ml]
theorem Mq (d:Array qG)(k t:Nat)(h:t<d.size):(Ml d k)[t]! = if t<k then d[t]! else z70:=by
 simp[Ml,h]
theorem RJ {w0 W:World}{blk off:Nat}{d:Array qG}(h:SWK qy 2 w0 blk off d W)(hb:blk<w0.heap.size)(k:Nat)(hk:k≤d.size):SWK qy 2 w0 blk off (Ml d k) (W.setCells blk (off+k*2) (zs2 (d.size-k))):=by
 refine NP h hb (k*2) _ (by rw[EL];omega) (ext_get! (by simp[ET]) fun t ht=>?_);have ht':t<d.size*2:=by simpa using ht
 rw[get_setMany _ _ _ t (by simpa using ht'),jh _ _ _ t ht',jh _ _ _ t (by rw[ET];exact ht'),Mq _ _ _ (by omega),EL]
 by_cases c:t / 2<k
 ·rw[av (by omega),au c]
 ·rw[au (by omega),av c,Qt _ _ (by omega),show (t-k*2) % 2=t % 2 from by omega]
theorem QG (W:World)(blk o m c:Nat)(hc:∀ j,j<m*2→(W.cell? ⟨blk,o+j,none⟩).isSome=true)(hf:∀ j,j<m*2→W.frozen? ⟨blk,o+j,none⟩=false)(hm:0<m)(ty:TypeId) :
 Sem.run Tryz.prog (Builtin.clear_ #[49] ty #[.slice (some ⟨blk,o,none⟩) m c]) W = .ok (.tuple #[]) (W.setCells blk o (zs2 m)):=by
 have hst:=mh (P:=Tryz.prog) blk o (zs2 m) 0 W (by rw[EL];simpa using hc) (by rw[EL];simpa using hf) (Wp m);simp only[iA] at hst;have hz:∀ w,(zeroValue 70).run Tryz.prog w = .ok (.agg #[.int .i64 0,.int .u64 0]) w:=fun w=>by kernel_rfl
 obtain⟨q,rfl⟩:∃ q,m=q+1:=⟨m-1,by omega⟩;have hzs:(Builtin.zeroCells (Value.agg #[.int .i64 0,.int .u64 0]).cells (q+1)).toList=zs2 (q+1):=rfl;simp[Builtin.clear_,dV Tryz.underlying49,hz,hzs,hst]
def cK (d:Array qG):Nat→List qG
 | 0=>[]
 | i+1=>if i=0∨d[i]!.f0≠d[i-1]!.f0 then cK d i++[d[i]!] else cK d i
theorem Wz (d:Array qG):∀ i,(cK d i).length≤i
 | 0=>ay _
 | i+1=>by
   have:=Wz d i;rw[cK];split
   ·rw[aT];simp;omega
   ·omega
theorem Wy (d:Array qG)(i:Nat)(h:(d[i]!.f0==d[i-1]!.f0)=false):cK d (i+1)=cK d i++[d[i]!]:=by
 rw[cK,au (.inr (by simpa using h))]
theorem Pz (d:Array qG)(i:Nat)(hi:0<i)(h:(d[i]!.f0==d[i-1]!.f0)=true):cK d (i+1)=cK d i:=by
 rw[cK,av (by rintro (h1 | h1);omega;exact h1 (by simpa using h))]
theorem Lh {α:Type}[Inhabited α](d:Array α)(k:Nat):uw d k (k+1)=[d[k]!]:=by simp[uw]
theorem SH (off a b:Nat):off+(a+b)*2=off+a*2+b*2:=by omega
theorem Te.c (blk off cap:Nat)(d:Array qG)(w:World)(R:RowK qy 2 w blk off d)(hcap:d.size≤cap)(hsz:d.size<1152921504606846976) :
 Calls Tryz.prog 110 #[.slice (some ⟨blk,off,none⟩) d.size cap,.func (.func 111) #[] #[]] w fun e w'=>e = .returned (.slice (some ⟨blk,off,none⟩) (cK d d.size).length cap)∧∃ d',SWK qy 2 w blk off d' w'∧d'.size=d.size∧uw d' 0 (cK d d.size).length=cK d d.size:=by
 have mixed:Tryz.prog.follows .mixedOrders=true:=by kernel_rfl
 have eg:=YI.enters;have S0:Aside (SWK qy 2 w blk off d w):=SWK.start R.hH;have RR:=Y7 R;obtain⟨n,hn⟩:∃ n,n=d.size:=⟨_,rfl⟩;have HN:=Y7 hn;rw[← hn] at hsz hcap ⊢;clear R hn
 by_cases h2:n<2
 ·have h2z:(n:Int)<2:=by omega
  have HE:YW.oO.oM (cK d n=uw d 0 n):=⟨by
   rcases (show n=0∨n=1 from by omega) with h | h
   ·rw[h];rfl
   ·rw[h];rfl⟩
  go_enter Tryz.func110,Tryz.ntmps110
  go_wp2;go_ret;exact⟨by rw[HE.o,AJ,kG];rfl,d,S0,HN.o.symm,by rw[HE.o,AJ,kG]⟩
 ·have h2z:¬ (n:Int)<2:=by omega
  go_enter Tryz.func110,Tryz.ntmps110
  go_wp2
  go_loopg [5] n (fun kx s5 wr=>∃ (k:Nat),s5 = .int .i64 (k+1:Nat)∧k+1≤n∧n-k≤kx∧Aside (SWK qy 2 w blk off d wr)∧YW.oO.oM (cK d (k+1)=uw d 0 (k+1)))
  case atStart=>exact⟨0,rfl,by omega,by omega,S0,⟨rfl⟩⟩
  case round=>
   clear S0;obtain⟨k,rfl,hk,hkx,S1,HE⟩:=hrel
   by_cases hlt:k+1<n
   ·have hltz:(k:Int)+1<(n:Int):=by omega
    have e1:((k:Int)+1).toNat=k+1:=by omega
    have pa:(0:Int)≤(k:Int)+1:=by omega
    have e2:(k:Int)+1-1=(k:Int):=by omega
    have r2:IntKind.i64.wrap ((k:Int)+1-1)=(k:Int):=by rw[bD];omega
    have r3:IntKind.i64.wrap (k:Int)=(k:Int):=by rw[bD];omega
    have bk:(k:Int)<(n:Int):=by omega
    have c0:=fun n' os'=>(rU S1.o RR.o rfl (k+1) (by rw[← HN.o];exact hlt) n' os').1
    have c1:=fun n' os'=>(rU S1.o RR.o rfl (k+1) (by rw[← HN.o];exact hlt) n' os').2
    have g0:=fun n' os'=>(rU S1.o RR.o rfl k (by rw[← HN.o];omega) n' os').1
    have g1:=fun n' os'=>(rU S1.o RR.o rfl k (by rw[← HN.o];omega) n' os').2
    have hc:=fun n' os'=>YI.c d[k+1]! d[k]! (grow (wr.drewN n') os')
    cases hv:(d[k+1]!.f0==d[k]!.f0) with
    | false=>
      have HX:=Y7 (Wy d (k+1) hv);generalize d[k+1]! = x at c0 c1 hc hv;generalize d[k]! = y at g0 g1 hc hv
      go_wp2_with fail
      go_quiet_grown (first|(go_at_fn 111;refine eG (hc _ _)))
      have S2:Aside (SWK qy 2 w blk off d (grow (wr.drewN nq) osq)):=S1.o.grown nq osq;clear c0 c1 g0 g1 hc S1;generalize grow (wr.drewN nq) osq=w2 at S2 ⊢;clear nq osq;go_wp2
      go_roundg (n-(k+1))
      case measure=>omega
      case rel=>exact⟨k+1,by go_num,by omega,ay _,S2,⟨by rw[HX.o,HE.o,yS d (bP (k+1)) (lK (k+1)),Lh]⟩⟩
    | true=>
      have HX:=Y7 (Pz d (k+1) (by omega) hv);generalize d[k+1]! = x at c0 c1 hc hv;generalize d[k]! = y at g0 g1 hc hv
      go_wp2_with fail
      go_quiet_grown (first|(go_at_fn 111;refine eG (hc _ _)))
      have S2:Aside (SWK qy 2 w blk off d (grow (wr.drewN nq) osq)):=S1.o.grown nq osq;clear c0 c1 g0 g1 hc S1;generalize grow (wr.drewN nq) osq=w2 at S2 ⊢;clear nq osq;have hcz:¬ (cap:Int)=(k:Int)+1:=by omega
      have hcz2:¬ cap=k+1:=by omega
      have HCZ:=hcap;go_wp2;rw[hv];clear hv;obtain⟨M,hM⟩:∃ M,M=n-(k+1):=⟨_,rfl⟩;rw[← hM];have hM1:M+(k+1)=n:=by omega
      have HM:=Y7 hM1;have hM2:M+k<n:=by omega
      have hM3:n≤M+k+1:=by omega
      clear hM hM1 hcz hcz2 HCZ
      go_loopg [5,7] M (fun kx s5 s7 wr=>∃ (q j:Nat) (dk:Array qG),s5 = .int .i64 q∧s7 = .int .i64 (j+1:Nat)∧j+1≤M∧k+1≤q∧q≤k+1+j∧M-j≤kx∧Aside (SWK qy 2 w blk off dk wr)∧YW.oO.oM (dk.size=d.size)∧YW.oO.oM (uw dk 0 q=cK d (k+1+(j+1))∧∀ t,q≤t→dk[t]! = d[t]!))
      case atStart=>exact⟨k+1,0,d,by go_num,rfl,by omega,ay _,ay _,by omega,S2,⟨rfl⟩,⟨by rw[show k+1+(0+1)=k+1+1 from rfl,HX.o,HE.o],fun _ _=>rfl⟩⟩
      case round=>
       clear S2 HX HE;obtain⟨q,j,dk,rfl,rfl,hj,hkq,hqj,aeG,S3,HS,HQ⟩:=hrel
       by_cases hlt3:j+1<M
       ·have aaZ:(j:Int)+1<(M:Int):=by omega
        have e1:((j:Int)+1).toNat=j+1:=by omega
        have pa2:(0:Int)≤(j:Int)+1:=by omega
        have e2:(j:Int)+1-1=(j:Int):=by omega
        have r2:IntKind.i64.wrap ((j:Int)+1-1)=(j:Int):=by rw[bD];omega
        have r3:IntKind.i64.wrap (j:Int)=(j:Int):=by rw[bD];omega
        have bj:(j:Int)<(M:Int):=by omega
        have hi1:k+1+(j+1)<dk.size:=by rw[HS.o,← HN.o];omega
        have hi2:k+1+j<dk.size:=by rw[HS.o,← HN.o];omega
        have k0:=rU S3.o RR.o HS.o (k+1+(j+1)) hi1;have k1:=rU S3.o RR.o HS.o (k+1+j) hi2;rw[SH] at k0 k1;have c0:=fun n' os'=>(k0 n' os').1
        have c1:=fun n' os'=>(k0 n' os').2
        have g0:=fun n' os'=>(k1 n' os').1
        have g1:=fun n' os'=>(k1 n' os').2
        have hc:=fun n' os'=>YI.c dk[k+1+(j+1)]! dk[k+1+j]! (grow (wr.drewN n') os')
        have HI:=Y7 (And.intro hi1 hi2);clear k0 k1 hi1 hi2;have HX1:=Y7 (HQ.o.2 (k+1+(j+1)) (by omega));have HX2:=Y7 (HQ.o.2 (k+1+j) (by omega));have K0:=fun (W:World) (S:SWK qy 2 w blk off dk W)=>tN S RR.o HS.o (k+1+(j+1)) HI.o.1
        rw[SH] at K0;have KK:=Y7 K0;clear K0;cases hv:(dk[k+1+(j+1)]!.f0==dk[k+1+j]!.f0) with
        | true=>
          have HX:=Y7 (Pz d (k+1+(j+1)) (by omega) (by rw[← HX1.o,show k+1+(j+1)-1=k+1+j from rfl,← HX2.o];exact hv));generalize dk[k+1+(j+1)]! = x2 at c0 c1 hc hv;generalize dk[k+1+j]! = y2 at g0 g1 hc hv
          go_wp2_with fail
          go_quiet_grown (first|(go_at_fn 111;refine eG (hc _ _)))
          have S4:Aside (SWK qy 2 w blk off dk (grow (wr.drewN nq) osq)):=S3.o.grown nq osq;clear c0 c1 g0 g1 hc S3;generalize grow (wr.drewN nq) osq=w3 at S4 ⊢;clear nq osq;go_wp2
          go_roundg (M-(j+1))
          case measure=>omega
          case rel=>exact⟨q,j+1,dk,rfl,by go_num,by omega,hkq,by omega,ay _,S4,HS,⟨by rw[show k+1+(j+1+1)=k+1+(j+1)+1 from rfl,HX.o];exact HQ.o.1,HQ.o.2⟩⟩
        | false=>
          have HX:=Y7 (Wy d (k+1+(j+1)) (by rw[← HX1.o,show k+1+(j+1)-1=k+1+j from rfl,← HX2.o];exact hv));have HX3:=Y7 (show ∃ x,x=dk[k+1+(j+1)]! from ⟨_,rfl⟩);have KQ:=Y7 (fun (W:World) (S:SWK qy 2 w blk off dk W)=>tN S RR.o HS.o q (by rw[HS.o,← HN.o];omega));generalize hx2:dk[k+1+(j+1)]! = x2 at c0 c1 hc hv KK;generalize dk[k+1+j]! = y2 at g0 g1 hc hv;have HX4:=Y7 hx2;clear hx2
          go_wp2_with fail
          go_quiet_grown (first|(go_at_fn 111;refine eG (hc _ _)))
          have S4:Aside (SWK qy 2 w blk off dk (grow (wr.drewN nq) osq)):=S3.o.grown nq osq;clear c0 c1 g0 g1 hc S3;generalize grow (wr.drewN nq) osq=w3 at S4 ⊢;clear nq osq;obtain⟨p0,p1,_,_⟩:=KK.o w3 S4.o;obtain⟨q0,q1,f0,f1⟩:=KQ.o w3 S4.o;have hqn:(q:Int)<(n:Int):=by omega
          have S5:Aside (SWK qy 2 w blk off (dk.setIfInBounds q x2) ((w3.setCell ⟨blk,off+q*2,none⟩ (.int .i64 x2.f0)).setCell ⟨blk,off+q*2+1,none⟩ (.int .u64 x2.f1))):=Wi S4.o RR.o.hblk q (by rw[HS.o,← HN.o];omega) x2;generalize dk[q]! = y3 at q0 q1;go_wp2
          go_roundg (M-(j+1))
          case measure=>omega
          case rel=>
           have hqs:q<dk.size:=by rw[HS.o,← HN.o];omega
           refine⟨q+1,j+1,dk.setIfInBounds q x2,by go_num,by go_num,by omega,by omega,by omega,ay _,S5,⟨by rw[iY];exact HS.o⟩,⟨?_,fun t ht=>?_⟩⟩
           ·rw[show k+1+(j+1+1)=k+1+(j+1)+1 from rfl,HX.o,← HQ.o.1,← HX1.o,HX4.o,yS _ (bP q) (lK q),Lh,Cx (d:=dk) (d':=dk.setIfInBounds q x2) (fun t h1 h2=>by simp[getElem!_def,jg,show ¬ q=t from by omega])];congr 2;simp[getElem!_def,hqs]
           ·rw[← HQ.o.2 t (by omega)];simp[getElem!_def,jg,show ¬ q=t from by omega]
       ·have hjM:j+1=M:=by omega
        have HJ:=Y7 hjM;have aaZ:¬ (j:Int)+1<(M:Int):=by omega
        have hcl:=QG wr blk (off+q*2) (n-q) (cap-q) (fun i hi=>by
         have hq2:q+i / 2<dk.size:=by rw[HS.o,← HN.o];omega
         have h3:=(tN S3.o RR.o HS.o (q+i / 2) hq2);rcases (show i % 2=0∨i % 2=1 from by omega) with h4 | h4
         ·rw[show off+q*2+i=off+(q+i / 2)*2 from by omega,h3.1];rfl
         ·rw[show off+q*2+i=off+(q+i / 2)*2+1 from by omega,h3.2.1];rfl) (fun i hi=>by
         have hq2:q+i / 2<dk.size:=by rw[HS.o,← HN.o];omega
         have h3:=(tN S3.o RR.o HS.o (q+i / 2) hq2);rcases (show i % 2=0∨i % 2=1 from by omega) with h4 | h4
         ·rw[show off+q*2+i=off+(q+i / 2)*2 from by omega,h3.2.2.1]
         ·rw[show off+q*2+i=off+(q+i / 2)*2+1 from by omega,h3.2.2.2]) (by omega)
        have S6:=RJ S3.o RR.o.hblk q (by rw[HS.o,← HN.o];omega);rw[HS.o,← HN.o] at S6;have S7:Aside (SWK qy 2 w blk off (Ml dk q) (wr.setCells blk (off+q*2) (zs2 (n-q)))):=S6;have HQL:YW.oO.oM ((cK d n).length=q∧uw (Ml dk q) 0 q=cK d n):=⟨by
         have e:=HQ.o.1;rw[HJ.o,mo (k+1) M,HM.o] at e;rw[← e];exact⟨by rw[AJ,kG],Cx (fun t h1 h2=>by rw[Mq _ _ _ (by rw[HS.o,← HN.o];omega),au h2])⟩⟩
        have hcz2:¬ cap=q:=by omega
        have hqn:q≤n:=by omega
        clear S6 hjM;go_wp2;go_ret;exact⟨by rw[HQL.o.1];rfl,Ml dk q,S7.o,by rw[ET];exact HS.o.trans HN.o.symm,by rw[HQL.o.1];exact HQL.o.2⟩
   ·obtain rfl:k+1=n:=by omega
    have hltz:¬ ((k:Int)+1<(k:Int)+1):=by omega
    go_wp2;go_ret;exact⟨by rw[HE.o,AJ,kG];rfl,d,S1.o,HN.o.symm,by rw[HE.o,AJ,kG]⟩
end Go.Proofs.Y.PA
namespace Go.Proofs.Y.PA
open Go.Sort
def Rs (l:List qG):Prop:=l.Pairwise (fun x y=>x.f0<y.f0)
def at_ (v:Int)(l:List qG):List qG:=l.filter (fun x=>decide (x.f0=v))
theorem yX (v:Int)(a b:List qG):at_ v (a++b)=at_ v a++at_ v b:=jQ ..
theorem D5 {v:Int}{l:List qG}(h:∀ x∈l,x.f0≠v):at_ v l=[]:=by
 unfold at_;rw[jW];intro x hx
 simpa using h x hx
theorem vT (v:Int)(x:qG)(l:List qG):at_ v (x::l)=if x.f0=v then x::at_ v l else at_ v l:=by
 unfold at_;rw[gM];simp
theorem Sn:∀ (a b:List qG),Rs a→Rs b→(∀ v,at_ v a=at_ v b)→a=b
 | [],[],_,_,_=>rfl
 | [],y::b,_,_,h=>by
   have:=h y.f0;rw[vT,au rfl] at this;simp[at_] at this
 | x::a,[],_,_,h=>by
   have:=h x.f0;rw[vT,au rfl] at this;simp[at_] at this
 | x::a,y::b,ha,hb,h=>by
   have ha':=List.pairwise_cons.1 ha;have hb':=List.pairwise_cons.1 hb;have na:∀ v,v≤x.f0→at_ v a=[]:=fun v hv=>D5 (fun z hz=>by have:=ha'.1 z hz;omega)
   have nb:∀ v,v≤y.f0→at_ v b=[]:=fun v hv=>D5 (fun z hz=>by have:=hb'.1 z hz;omega)
   have hxy:x.f0=y.f0:=by
    rcases Int.lt_trichotomy x.f0 y.f0 with h1 | h1 | h1
    ·have:=h x.f0;rw[vT,au rfl,vT,av (by omega),nb _ (by omega)] at this;simp at this
    ·exact h1
    ·have:=h y.f0;rw[vT,av (by omega),vT,au rfl,na _ (by omega)] at this;simp at this
   have he:x=y:=by
    have:=h x.f0;rw[vT,au rfl,vT,au hxy.symm,na _ (gV _),nb _ (by omega)] at this
    simpa using this
   subst he;rw[Sn a b ha'.2 hb'.2 (fun v=>by
    have:=h v;rw[vT,vT] at this;split at this
    ·exact (List.cons.inj this).2
    ·exact this)]
def yR (l:List qG)(t:Int):Nat→Nat
 | 0=>0
 | j+1=>if t≤(l.getD j z70).f0 then yR l t j else j+1
def yF (l:List qG)(s:qG):List qG:=
 if yR l s.f0 l.length<l.length∧(l.getD (yR l s.f0 l.length) z70).f0=s.f0 then l.set (yR l s.f0 l.length) s else l.take (yR l s.f0 l.length)++s::l.drop (yR l s.f0 l.length)
theorem GA (l:List qG)(t:Int):∀ j,yR l t j≤j
 | 0=>ay _
 | j+1=>by
   rw[yR];split
   ·exact Nat.le_succ_of_le (GA l t j)
   ·exact ay _
theorem JK (l:List qG)(t:Int):∀ j,(0<yR l t j→(l.getD (yR l t j-1) z70).f0<t)∧∀ i,yR l t j≤i→i<j→t≤(l.getD i z70).f0
 | 0=>⟨fun h=>by rw[yR] at h;omega,fun i _ h=>by omega⟩
 | j+1=>by
   rw[yR]
   by_cases h:t≤(l.getD j z70).f0
   ·rw[au h];obtain⟨h1,h2⟩:=JK l t j;refine⟨h1,fun i h3 h4=>?_⟩;rcases dN i j with h5 | h5
    ·exact h2 i h3 h5
    ·rw[show i=j from by omega];exact h
   ·rw[av h];exact⟨fun _=>by rw[ji];omega,fun i h3 h4=>by omega⟩
theorem N9 {l:List qG}(h:Rs l){i j:Nat}(hij:i<j)(hj:j<l.length):(l.getD i z70).f0<(l.getD j z70).f0:=by
 have:=List.pairwise_iff_getElem.1 h i j (by omega) hj hij
 simpa [aV,aR (show i<l.length by omega),aR hj] using this
theorem II {l:List qG}(h:Rs l)(s:qG):∃ a b,(∀ x∈a,x.f0<s.f0)∧(∀ x∈b,s.f0<x.f0)∧yF l s=a++s::b∧Rs a∧Rs b∧(l=a++b∨∃ y,y.f0=s.f0∧l=a++y::b):=by
 obtain⟨p,hp⟩:∃ p,p=yR l s.f0 l.length:=⟨_,rfl⟩;have hle:p≤l.length:=by rw[hp];exact GA _ _ _
 obtain⟨h1,h2⟩:=JK l s.f0 l.length;rw[← hp] at h1 h2;have ht:∀ x∈l.take p,x.f0<s.f0:=fun x hx=>by
  obtain⟨i,hi,rfl⟩:=List.mem_iff_getElem.1 hx;rw[aW] at hi;rw[j3];have h3:=h1 (by omega);have e:l[i]'(by omega)=l.getD i z70:=by simp[aV,aR (show i<l.length by omega)]
  rw[e];rcases dN i (p-1) with h4 | h4
  ·have:=N9 h h4 (by omega);omega
  ·rw[show i=p-1 from by omega];exact h3
 have hRt:Rs (l.take p):=l6 (List.take_sublist _ _) h
 by_cases hc:p<l.length∧(l.getD p z70).f0=s.f0
 ·have eL:l.getD p z70=l[p]'hc.1:=by simp[aV,aR hc.1]
  refine⟨l.take p,l.drop (p+1),ht,fun x hx=>?_,?_,hRt,l6 (List.drop_sublist _ _) h,.inr ⟨l[p]'hc.1,by rw[← eL];exact hc.2,by rw[← fP hc.1,fH]⟩⟩
  ·obtain⟨i,hi,rfl⟩:=List.mem_iff_getElem.1 hx;rw[aX] at hi;rw[j4];have:=N9 h (show p<p+1+i by omega) (by omega);rw[hc.2] at this
   simpa [aV,aR (show p+1+i<l.length by omega)] using this
  ·unfold yF;rw[← hp,au hc,lJ,au hc.1]
 ·refine⟨l.take p,l.drop p,ht,fun x hx=>?_,?_,hRt,l6 (List.drop_sublist _ _) h,.inl (by rw[fH])⟩
  ·obtain⟨i,hi,rfl⟩:=List.mem_iff_getElem.1 hx;rw[aX] at hi;rw[j4];have e:l[p+i]'(by omega)=l.getD (p+i) z70:=by simp[aV,aR (show p+i<l.length by omega)]
   rw[e];have h0:=h2 p (ay _) (by omega);have h0':s.f0<(l.getD p z70).f0:=by
    rcases Int.lt_or_eq_of_le h0 with h5 | h5
    ·exact h5
    ·exact absurd ⟨by omega,h5.symm⟩ hc
   rcases dW i with h6 | h6
   ·rw[h6];exact h0'
   ·have:=N9 h (show p<p+i by omega) (by omega);omega
  ·unfold yF;rw[← hp,av hc]
theorem Sq {a b:List qG}{s:qG}(ha:∀ x∈a,x.f0<s.f0)(hb:∀ x∈b,s.f0<x.f0)(h1:Rs a)(h2:Rs b):Rs (a++s::b):=by
 refine List.pairwise_append.2 ⟨h1,List.pairwise_cons.2 ⟨hb,h2⟩,fun x hx y hy=>?_⟩;rcases List.mem_cons.1 hy with rfl | hy
 ·exact ha x hx
 ·have:=ha x hx;have:=hb y hy;omega
theorem Qi {l:List qG}(h:Rs l)(s:qG):Rs (yF l s):=by
 obtain⟨a,b,ha,hb,he,h1,h2,_⟩:=II h s;rw[he];exact Sq ha hb h1 h2
theorem V7 {l:List qG}(h:Rs l)(s:qG)(v:Int):at_ v (yF l s)=if s.f0=v then [s] else at_ v l:=by
 obtain⟨a,b,ha,hb,he,h1,h2,hl⟩:=II h s;rw[he,yX,vT]
 by_cases hv:s.f0=v
 ·rw[au hv,au hv,D5 (fun x hx=>by have:=ha x hx;omega),D5 (fun x hx=>by have:=hb x hx;omega)];rfl
 ·rw[av hv,av hv];rcases hl with hl | ⟨y,hy,hl⟩
  ·rw[hl,yX]
  ·rw[hl,yX,vT,av (by omega)]
def vO (l:List qG)(xs:List qG):List qG:=xs.foldl yF l
def vV (xs:List qG):List qG:=vO [] xs
theorem JU:∀ (xs l:List qG),Rs l→Rs (vO l xs)
 | [],_,h=>h
 | x::xs,l,h=>JU xs (yF l x) (Qi h x)
theorem JV (v:Int):∀ (xs l:List qG),Rs l→at_ v (vO l xs)=((at_ v l++at_ v xs).getLast?).toList∨(at_ v xs=[]∧at_ v (vO l xs)=at_ v l)
 | [],l,h => .inr ⟨rfl,rfl⟩
 | x::xs,l,h=>by
   have ih:=JV v xs (yF l x) (Qi h x);rw[V7 h] at ih;rw[vT];show at_ v (vO (yF l x) xs)=_∨_∧at_ v (vO (yF l x) xs)=_
   by_cases hv:x.f0=v
   ·rw[au hv] at ih ⊢;refine .inl ?_;rcases ih with ih | ⟨h1,ih⟩
    ·rw[ih];simp[List.getLast?_append,List.getLast?_cons]
    ·rw[ih,h1];simp
   ·rw[av hv] at ih ⊢;exact ih
theorem Ki:Rs []:=List.Pairwise.nil
theorem Rt (xs:List qG):Rs (vV xs):=JU xs [] Ki
theorem Ru (v:Int)(xs:List qG):at_ v (vV xs)=((at_ v xs).getLast?).toList:=by
 rcases JV v xs [] Ki with h | ⟨h1,h⟩
 ·exact h
 ·rw[vV,h,h1];rfl
theorem UR {l:List qG}{s x:qG}(h:x∈yF l s):x=s∨x∈l:=by
 unfold yF at h;split at h
 ·rcases kR h with h | h
  ·exact .inr h
  ·exact .inl h
 ·rcases List.mem_append.1 h with h | h
  ·exact .inr (bT h)
  ·rcases List.mem_cons.1 h with h | h
   ·exact .inl h
   ·exact .inr (bV h)
theorem ND (l:List qG)(s:qG):0<(yF l s).length∧(yF l s).length≤l.length+1:=by
 have:=GA l s.f0 l.length;unfold yF;split
 ·rename_i h;rw[dY];omega
 ·simp;omega
theorem IG {x:qG}:∀ (xs l:List qG),x∈vO l xs→x∈l∨x∈xs
 | [],_,h => .inl h
 | y::xs,l,h=>by
   rcases IG xs (yF l y) h with h | h
   ·rcases UR h with h | h
    ·exact .inr (by rw[h];exact cO ..)
    ·exact .inl h
   ·exact .inr (dh _ h)
theorem DN:∀ (xs l:List qG),(vO l xs).length≤l.length+xs.length
 | [],l=>ay _
 | x::xs,l=>by
   have h1:=DN xs (yF l x);have h2:=(ND l x).2;show (vO (yF l x) xs).length≤_;rw[bq];omega
theorem Py (d:Array qG)(hs:uV Gi d 0 d.size):∀ i,i≤d.size→Rs (cK d i)∧(∀ x∈cK d i,∃ j,j<i∧d[j]! = x)∧∀ v,at_ v (cK d i)=((at_ v (uw d 0 i)).head?).toList
 | 0,_=>⟨Ki,(fun x h=>by cases h),fun v=>rfl⟩
 | i+1,hi=>by
   obtain⟨h1,h2,h3⟩:=Py d hs i (by omega);have hseg:uw d 0 (i+1)=uw d 0 i++[d[i]!]:=by rw[yS d (bP i) (lK i),Lh]
   rw[cK]
   by_cases hc:i=0∨d[i]!.f0≠d[i-1]!.f0
   ·rw[au hc];have hlt:∀ j,j<i→d[j]!.f0<d[i]!.f0:=fun j hj=>by
     have k1:Gi d[i-1]! ≤ Gi d[i]! := hs (i-1) i (bP _) (by omega) (by omega);have k2:Gi d[j]! ≤ Gi d[i-1]! := by
      rcases dN j (i-1) with k | k
      ·exact hs j (i-1) (bP _) k (by omega)
      ·rw[show j=i-1 from by omega];exact gV _
     have k3:d[i]!.f0≠d[i-1]!.f0:=by
      rcases hc with hc | hc
      ·omega
      ·exact hc
     unfold Gi at k1 k2;omega
    refine⟨Sq (b:=[]) (fun x hx=>?_) (fun x hx=>by cases hx) h1 Ki,fun x hx=>?_,fun v=>?_⟩
    ·obtain⟨j,hj,rfl⟩:=h2 x hx;exact hlt j hj
    ·rcases List.mem_append.1 hx with hx | hx
     ·obtain⟨j,hj,he⟩:=h2 x hx;exact⟨j,by omega,he⟩
     ·rw[fu] at hx;exact⟨i,by omega,hx.symm⟩
    ·rw[hseg,yX,yX,h3,vT]
     by_cases hv:d[i]!.f0=v
     ·rw[au hv];have hn:at_ v (uw d 0 i)=[]:=D5 (fun x hx=>by
       obtain⟨t,_,ht,rfl⟩:=Cn.1 hx;have:=hlt t ht;omega)
      rw[hn];rfl
     ·rw[av hv];simp[at_]
   ·rw[av hc];have hc1:0<i:=by rcases dW i with h | h;exact absurd (.inl h) hc;exact h
    have hc2:d[i]!.f0=d[i-1]!.f0:=Classical.not_not.1 (fun h=>hc (.inr h));refine⟨h1,fun x hx=>?_,fun v=>?_⟩
    ·obtain⟨j,hj,he⟩:=h2 x hx;exact⟨j,by omega,he⟩
    ·rw[h3,hseg,yX,vT]
     by_cases hv:d[i]!.f0=v
     ·have hm:d[i-1]! ∈ at_ v (uw d 0 i):=List.mem_filter.2 ⟨Cn.2 ⟨i-1,bP _,by omega,rfl⟩,by simp;omega⟩
      match hs2:at_ v (uw d 0 i) with
      | []=>rw[hs2] at hm;cases hm
      | y::r=>rfl
     ·rw[av hv];simp[at_]
theorem OP (d d':Array qG)(hm:MG Gi d.reverse 0 d.reverse.size d')(hs:uV Gi d' 0 d'.size):cK d' d'.size=vV d.toList:=by
 obtain⟨h1,_,h3⟩:=Py d' hs d'.size (ay _);refine Sn _ _ h1 (Rt _) (fun v=>?_);rw[h3,Ru];have e:=hm.2.2 v;rw[← hm.1] at e;rw[hm.1] at e;have e2:at_ v (uw d' 0 d'.size)=at_ v d.toList.reverse:=by
  have h4:=hm.2.2 v;rw[Cw,← hm.1,Cw] at h4;rw[Cw];have h5:at_ v d'.toList=at_ v d.reverse.toList:=h4;rw[h5,Array.toList_reverse]
 rw[e2];unfold at_;rw[List.filter_reverse,List.head?_reverse]
end Go.Proofs.Y.PA
namespace Go.Proofs.Y.PA
open Go.RowKit Go.Proofs.Y.G Go.Proofs.YW.oO Go.Proofs.YW.pq Go.Proofs.YW.pz
def yB (l:List qG):List Value:=l.flatMap qy
theorem za (x:qG)(l:List qG):yB (x::l) = .int .i64 x.f0 :: .int .u64 x.f1::yB l:=rfl
theorem Ce:∀ (l:List qG),(yB l).length=l.length*2
 | []=>rfl
 | x::l=>by rw[za,bq,bq,Ce l,bq];omega
theorem EZ:∀ (l:List qG) (j:Nat),j<l.length*2→(yB l)[j]? = (qy (l.getD (j / 2) z70))[j % 2]?
 | [],j,h=>by simp at h
 | x::l,0,_=>rfl
 | x::l,1,_=>rfl
 | x::l,j+2,h=>by
   rw[za,gB,gB,EZ l j (by rw[bq] at h;omega),show (j+2) / 2=j / 2+1 from by omega,show (j+2) % 2=j % 2 from by omega];rfl
theorem TA (d:Array qG)(i:Nat):d.toList.getD i z70=d[i]! := by
 rw[aV,getElem!_def];simp only[jm];cases d[i]? <;> rfl
theorem Mw (x:qG)(j:Nat)(h:j<2):(qy x)[j]? = some (qy x)[j]! := by
 rcases (show j=0∨j=1 from by omega) with rfl | rfl<;>rfl
theorem VR {w:World}{base g cap:Nat}{l:List qG}(h:w.ownsRow base 70 2 (.slice (some ⟨g,0,none⟩) l.length cap) l.length (yB l))(h0:0<l.length):Go.Proofs.RowK qy 2 w g 0 l.toArray∧l.length≤cap∧cap≤maxLen∧base≤g∧∃ cur,w.heap[g]? = some (.cells cur 70 (0,0))∧cur.size=cap*2:=by
 rcases h.2 with ⟨_,h1⟩ | ⟨g',cap',cur,he,hb,hh,h1,h2,h3,h4⟩
 ·omega
 ·have he':g=g'∧cap=cap':=by simpa using he
  obtain⟨rfl,rfl⟩:=he';refine⟨⟨Tj,Ht,fun j hj=>?_,qQ hh⟩,h1,h2,hb,cur,hh,h3⟩;rw[mG] at hj;have hj':j<l.length*2:=by simpa using hj
  refine⟨?_,oW hh _⟩;rw[dK,oQ hh,jh _ _ _ _ hj];have e1:cur[j]? = (yB l)[j]? := by
   rw[← h4,dB,au hj'];simp
  rw[e1,EZ l j hj',Mw _ _ (gG _ (by omega))];have e2:l.getD (j / 2) z70=l.toArray[j / 2]! := by rw[← TA]
  rw[e2];rfl
theorem JY {w W:World}{g:Nat}{d:Array qG}(h:SWK qy 2 w g 0 d W)(hg:g<w.heap.size){cur:Array Value}(hh:w.heap[g]? = some (.cells cur 70 (0,0))) :
 w.grownBy W (some g)∧∃ cur',W.heap[g]? = some (.cells cur' 70 (0,0))∧cur'.size=cur.size:=by
 obtain⟨n,os,rfl⟩:=h;refine⟨⟨rfl,rfl,rfl,by unfold Go.Proofs.sortWorldK Sort.putRowK Sort.grow;simp[Sort.ahead],fun k hk hne=>?_⟩,?_⟩
 ·unfold Go.Proofs.sortWorldK Sort.putRowK;rw[lg _ _ (by simp;exact hk)];show (Sort.mapBlock _ g _).heap[k]? = _;unfold Sort.mapBlock;simp[jl,Sort.ahead];intro e;exact absurd (by rw[e]) hne
 ·unfold Go.Proofs.sortWorldK Sort.putRowK;rw[lg _ _ (by simp;exact hg)];show ∃ cur',(Sort.mapBlock _ g _).heap[g]? = _∧_;unfold Sort.mapBlock;have hh':(Sort.ahead w n).heap[g]? = some (.cells cur 70 (0,0)):=hh;refine⟨_,by rw[jl,au rfl,hh'];rfl,?_⟩;simp[Sort.putCells]
theorem U1 {w W:World}{base g cap m:Nat}{d:Array qG}(h:SWK qy 2 w g 0 d W)(hg:g<w.heap.size){cur:Array Value}(hh:w.heap[g]? = some (.cells cur 70 (0,0)))(hc:cur.size=cap*2){d0:Array qG}(R:Go.Proofs.RowK qy 2 w g 0 d0)(hs:d.size=d0.size)(hb:base≤g)(hm:m≤d.size)(hd:d.size≤cap)(hx:cap≤maxLen) :
 W.ownsRow base 70 2 (.slice (some ⟨g,0,none⟩) m cap) m (yB (uw d 0 m)):=by
 obtain⟨_,cur',h1,h2⟩:=JY h hg hh;have hl:(uw d 0 m).length=m:=by rw[AJ,kG]
 refine⟨by rw[Ce,hl],.inr ⟨g,cap,cur',rfl,hb,h1,by omega,hx,by omega,?_⟩⟩;apply iZ;intro j
 by_cases hj:j<m*2
 ·have hH:=h.holds R.hblk R.hH hs;have hc2:=(hH j (by rw[mG];omega)).1;rw[dK,oQ h1,jh _ _ _ _ (by omega)] at hc2;rw[dB,au hj,EZ _ _ (by rw[hl];exact hj),Mw _ _ (gG _ (by omega))];have e2:(uw d 0 m).getD (j / 2) z70=d[j / 2]! := by
   rw[aV];unfold uw;simp[show j / 2<m from by omega]
  rw[e2]
  simpa using hc2
 ·rw[dS (by rw[aW];omega),dS (by rw[Ce,hl];omega)]
theorem Oi.c (base g cap:Nat)(l:List qG)(w:World)(h:w.ownsRow base 70 2 (.slice (some ⟨g,0,none⟩) l.length cap) l.length (yB l))(h0:0<l.length)(hl:l.length≤1000000) :
 Calls Tryz.prog 73 #[.slice (some ⟨g,0,none⟩) l.length cap] w fun e w'=>e = .returned (.slice (some ⟨g,0,none⟩) (vV l).length cap)∧w'.ownsRow base 70 2 (.slice (some ⟨g,0,none⟩) (vV l).length cap) (vV l).length (yB (vV l))∧w.grownBy w' (some g):=by
 obtain⟨R,h1,h2,hb,cur,hh,hc⟩:=VR h h0;have HR:=Y7 R;have HH:=Y7 (And.intro hh hc);have hsz:l.toArray.size=l.length:=by simp
 have C1:=XK.c g 0 cap l.toArray w R (by rw[hsz];omega);rw[hsz] at C1;have HC1:=Y7 C1;have HSZ:=Y7 hsz;have HSR:oM (l.toArray.reverse.size=l.length):=⟨by simp⟩;have HX:=Y7 (show g<w.heap.size from R.hblk);have HCP:=Y7 (And.intro h1 (And.intro h2 hb));have hl2:l.length<1152921504606846976:=by omega
 clear h hh hc R C1 hsz h1 h2 hb h0;generalize hn:l.length=n at *;have HN:=Y7 hn;clear hn
 go_enter Tryz.func73,Tryz.ntmps73
 go_upto_region 2 with (first|(go_at_call 107;refine HC1.o.mono ?_;rintro _ w1 ⟨rfl,hS⟩;have S1:oM (SWK qy 2 w g 0 l.toArray.reverse w1):=⟨hS⟩;clear hS))
 have hc2:=OY.c 108 Mh Gi Vv Td.enters Td.lays g 0 cap l.toArray.reverse w1 (SWK.row S1.o HR.o (by rw[HSR.o,HSZ.o])) (by rw[HSR.o];exact hl2);rw[HSR.o] at hc2;have HC2:=Y7 hc2;clear hc2
 go_upto_region 4 with (first|(go_at_call 109;refine HC2.o.mono ?_;rintro _ w2 ⟨rfl,d2,hS,hm,hs⟩;have S2:oM (SWK qy 2 w1 g 0 d2 w2):=⟨hS⟩;have M2:=Y7 (And.intro hm hs);clear hS hm hs))
 have HS2:oM (d2.size=n):=⟨M2.o.1.1.trans HSR.o⟩;have S3:oM (SWK qy 2 w g 0 d2 w2):=Y7 (SWK.trans S1.o HX.o S2.o M2.o.1.1);have hc3:=Te.c g 0 cap d2 w2 (SWK.row S3.o HR.o (by rw[HS2.o,HSZ.o])) (by rw[HS2.o];exact HCP.o.1) (by rw[HS2.o];exact hl2);have he:cK d2 d2.size=vV l:=by
  have:=OP l.toArray d2 (by rw[HSR.o];exact M2.o.1) (by rw[HS2.o];exact M2.o.2);rw[this]
 rw[he,HS2.o] at hc3;have HC3:=Y7 hc3;have HE:=Y7 (show (vV l).length≤n from by rw[← he];exact bY (Wz d2 _) (by rw[HS2.o];exact ay _));clear hc3 he
 go_wp2_with (first|(go_at_call 110;refine HC3.o.mono ?_;rintro _ w3 ⟨rfl,d3,hS,hs3,hseg⟩;have S4:oM (SWK qy 2 w2 g 0 d3 w3):=⟨hS⟩;have M4:=Y7 (And.intro hs3 hseg);clear hS hs3 hseg))
 go_ret;have S5:=SWK.trans S3.o HX.o S4.o (M4.o.1.trans HS2.o.symm);refine⟨rfl,?_,(JY S5 HX.o HH.o.1).1⟩;have:=U1 S5 (base:=base) (m:=(vV l).length) (cap:=cap) HX.o HH.o.1 HH.o.2 HR.o (by rw[M4.o.1,HSZ.o]) HCP.o.2.2 (by rw[M4.o.1];exact HE.o) (by rw[M4.o.1];exact HCP.o.1) HCP.o.2.1;rw[M4.o.2] at this;exact this
def Gh (G:List ru)(i:Nat)(t:List tQ):List ru:=G.take i++[⟨t,[]⟩]++G.drop i
def I8 (G:List ru)(i:Nat)(ss:List qG):List ru:=G.set i ⟨(qc G (i:Int)).f0,(qc G (i:Int)).f1++ss⟩
def zf (G:List ru)(t:List tQ):Bool:=decide (posB G t<G.length)&&decide (cmpL (qc G (posB G t:Int)).f0 t=0)
def wO (G:List ru)(t:List tQ):List ru:=if zf G t=true then G else Gh G (posB G t) t
def stepG (G:List ru)(s:ru):List ru:=if s.f1.length=0 then G else I8 (wO G s.f0) (posB G s.f0) s.f1
def sw (l:List ru):List ru:=l.foldl stepG []
def joinL (l:List ru):List ru:=(sw l).map (fun x=>⟨x.f0,vV x.f1⟩)
theorem El (l:List ru)(x:ru):sw (l++[x])=stepG (sw l) x:=by simp[sw,jv]
theorem rz {l:List ru}{i:Nat}(h:i<l.length):qc l (i:Int)=l[i]:=by simp[qc,aV,aR h]
theorem VB {G:List ru}{t:List tQ}(h:zf G t=true):posB G t<G.length∧(qc G (posB G t:Int)).f0=t:=by
 unfold zf at h;rw[dw,jR,jR] at h;exact⟨h.1,(Mk _ _).1 h.2⟩
theorem GD (G:List ru)(t:List tQ):posB G t<(wO G t).length∧(qc (wO G t) (posB G t:Int)).f0=t:=by
 unfold wO
 by_cases h:zf G t=true
 ·rw[au h];exact VB h
 ·rw[av h];have hp:=Cr G t;have hl:posB G t<(Gh G (posB G t) t).length:=by unfold Gh;simp;omega
  refine⟨hl,?_⟩;rw[rz hl];unfold Gh at hl ⊢;rw[iB (by simp;omega),iX (by simp;omega)];simp
theorem Qw {G:List ru}(h:CG G){t:List tQ}(hn:zf G t=false):CG (Gh G (posB G t) t):=by
 have hp:=Cr G t;have hgt:∀ i,posB G t≤i→(hi:i<G.length)→cmpL t G[i].f0<0:=fun i h1 hi=>by
  have h0:=Gy G t (by omega);have h2:cmpL (qc G (posB G t:Int)).f0 t≠0:=fun e=>by
   unfold zf at hn;rw[e] at hn;simp at hn;omega
  have h3:cmpL t (qc G (posB G t:Int)).f0<0:=by rw[Jr];omega
  rcases kX h1 with h4 | h4
  ·have h5:=LP h h4 hi;rw[rz hi] at h5;exact Dm _ _ _ h3 h5
  ·rw[← rz hi,← h4];exact h3
 unfold Gh;unfold CG at h ⊢;have hh:=h;rw[← fH (posB G t) G] at hh;obtain⟨p1,p2,p3⟩:=List.pairwise_append.1 hh;refine List.pairwise_append.2 ⟨List.pairwise_append.2 ⟨p1,lF _ _,fun a ha b hb=>?_⟩,p2,fun a ha b hb=>?_⟩
 ·rw[fu] at hb;subst hb;obtain⟨i,hi,rfl⟩:=List.mem_iff_getElem.1 ha;rw[aW] at hi;rw[j3];have:=Gz G t i (by omega);rw[rz (by omega)] at this;exact this
 ·rcases List.mem_append.1 ha with ha | ha
  ·exact p3 a ha b hb
  ·rw[fu] at ha;subst ha;obtain⟨i,hi,rfl⟩:=List.mem_iff_getElem.1 hb;rw[aX] at hi;rw[j4];exact hgt _ (by omega) (by omega)
theorem Qx {G:List ru}(h:CG G)(t:List tQ):CG (wO G t):=by
 unfold wO
 by_cases hh:zf G t=true
 ·rw[au hh];exact h
 ·rw[av hh];exact Qw h (by simpa using hh)
theorem Sr {G H:List ru}(h:CG G)(he:H.map (·.f0)=G.map (·.f0)):CG H:=by
 have h1:(G.map (·.f0)).Pairwise (fun a b=>cmpL a b<0):=List.pairwise_map.2 h;rw[← he] at h1;exact List.pairwise_map.1 h1
theorem Vm (G:List ru)(i:Nat)(ss:List qG):(I8 G i ss).map (·.f0)=G.map (·.f0):=by
 unfold I8;rw[ko];apply gX
 ·simp
 ·intro j h1 h2;rw[lU];split
  ·rename_i hij;subst hij;simp at h2 ⊢;rw[rz h2]
  ·rfl
theorem Oa {G:List ru}(h:CG G)(s:ru):CG (stepG G s):=by
 unfold stepG;split
 ·exact h
 ·exact Sr (Qx h s.f0) (Vm _ _ _)
theorem Sv:CG []:=List.Pairwise.nil
theorem Jm:∀ (l G:List ru),CG G→CG (l.foldl stepG G)
 | [],_,h=>h
 | x::l,G,h=>Jm l _ (Oa h x)
theorem LQ (l:List ru):CG (sw l):=Jm l [] Sv
theorem Uo (G:List ru)(t:List tQ):(wO G t).length≤G.length+1:=by
 unfold wO Gh;split
 ·omega
 ·simp;omega
theorem RG (G:List ru)(s:ru):(stepG G s).length≤G.length+1:=by
 unfold stepG;split
 ·omega
 ·unfold I8;rw[dY];exact Uo G s.f0
theorem Ir {G:List ru}{t:List tQ}{x:ru}(h:x∈wO G t):x∈G∨x=⟨t,[]⟩:=by
 unfold wO at h;split at h
 ·exact .inl h
 ·unfold Gh at h;rcases List.mem_append.1 h with h | h
  ·rcases List.mem_append.1 h with h | h
   ·exact .inl (bT h)
   ·exact .inr (by simpa using h)
  ·exact .inl (bV h)
theorem OJ (G:List ru)(t:List tQ)(j:Nat)(hj:j<(wO G t).length)(hne:posB G t≠j):(wO G t)[j]∈G:=by
 have hp:=Cr G t;unfold wO at hj ⊢
 by_cases hh:zf G t=true
 ·simp only[au hh] at hj ⊢;exact dL hj
 ·simp only[av hh] at hj ⊢;unfold Gh at hj ⊢;rcases dN j (posB G t) with h | h
  ·rw[iB (by simp;omega),iB (by simp;omega),j3];exact dL _
  ·rw[iX (by simp;omega),j4];exact dL _
theorem JW {P:ru→Prop}{G:List ru}{s:ru}(h:∀ x∈G,P x)(h0:s.f1.length≠0→P ⟨s.f0,s.f1⟩)(h1:s.f1.length≠0→∀ x∈G,x.f0=s.f0→P ⟨s.f0,x.f1++s.f1⟩):∀ x∈stepG G s,P x:=by
 intro x hx;unfold stepG at hx;split at hx
 ·exact h x hx
 ·rename_i hs;obtain⟨hp,hf⟩:=GD G s.f0;obtain⟨j,hj,rfl⟩:=List.mem_iff_getElem.1 hx;have hj':j<(wO G s.f0).length:=by unfold I8 at hj;rw[dY] at hj;exact hj
  clear hx;unfold I8 at hj ⊢;rw[lU];split
  ·rename_i hij;have hm:qc (wO G s.f0) (posB G s.f0:Int)∈wO G s.f0:=by rw[rz hp];exact dL hp
   rcases Ir hm with hm | hm
   ·rw[hf];exact h1 hs _ hm hf
   ·rw[hf,hm];exact h0 hs
  ·rename_i hij;exact h _ (OJ G s.f0 j hj' hij)
theorem Ef {P:ru→Prop}:∀ (l G:List ru),(∀ x∈G,P x)→(∀ s∈l,s.f1.length≠0→P ⟨s.f0,s.f1⟩)→(∀ s∈l,s.f1.length≠0→∀ a,P ⟨s.f0,a⟩→P ⟨s.f0,a++s.f1⟩)→∀ x∈l.foldl stepG G,P x
 | [],_,h,_,_=>h
 | s::l,G,h,h0,h1=>Ef l _ (JW h (fun hs=>h0 s (cO ..) hs) (fun hs x hx hf=>by
    have:=h1 s (cO ..) hs x.f1;rw[← hf] at this ⊢;exact this (h x hx))) (fun x hx=>h0 x (dh _ hx)) (fun x hx=>h1 x (dh _ hx))
theorem Ou (l:List ru):∀ x∈sw l,x.f1.length≠0:=Ef (P:=fun x=>x.f1.length≠0) l [] (fun x hx=>by cases hx) (fun s _ hs=>hs) (fun s _ hs a ha=>by show (a++s.f1).length≠0;rw[aT];omega)
theorem Dv (l:List ru):∀ x∈sw l,∃ s∈l,x.f0=s.f0:=Ef (P:=fun x=>∃ s∈l,x.f0=s.f0) l [] (fun x hx=>by cases hx) (fun s hs _=>⟨s,hs,rfl⟩) (fun s hs _ a ha=>ha)
theorem Ov (l:List ru):∀ x∈sw l,∀ q∈x.f1,∃ s∈l,q∈s.f1:=Ef (P:=fun x=>∀ q∈x.f1,∃ s∈l,q∈s.f1) l [] (fun x hx=>by cases hx) (fun s hs _ q hq=>⟨s,hs,hq⟩) (fun s hs _ a ha q hq=>by
 rcases List.mem_append.1 hq with hq | hq
 ·exact ha q hq
 ·exact⟨s,hs,hq⟩)
def tot:List ru→Nat
 | []=>0
 | x::l=>x.f1.length+tot l
theorem zV:∀ (l:List ru) (x:ru),tot (l++[x])=tot l+x.f1.length
 | [],x=>by simp[tot]
 | y::l,x=>by rw[iD,tot,tot,zV l x];omega
theorem zy (l:List ru):∀ k,tot (l.take k)≤tot l:=by
 induction l with
 | nil=>intro k;simp
 | cons x l ih=>
   intro k;cases k with
   | zero=>simp[tot]
   | succ k=>rw[jG,tot,tot];have:=ih k;omega
theorem Aj (l:List ru):∀ k,k≤l.length→(sw (l.take k)).length≤k∧∀ x∈sw (l.take k),x.f1.length≤tot (l.take k)
 | 0,_=>by simp[sw]
 | k+1,hk=>by
   obtain⟨h1,h2⟩:=Aj l k (by omega);rw[bQ hk,El,zV];refine⟨bY (RG _ _) (by omega),JW (fun x hx=>by have:=h2 x hx;omega) (fun _=>by show l[k].f1.length≤_;omega) (fun _ x hx _=>by show (x.f1++l[k].f1).length≤_;rw[aT];have:=h2 x hx;omega)⟩
theorem Bv (l:List ru):(sw l).length≤l.length∧∀ x∈sw l,x.f1.length≤tot l:=by
 have:=Aj l l.length (ay _);rwa [dz] at this
theorem Ak {w w':World}{base:Nat}{ok:Nat→Prop}{x:qG}{cs:List Value}(h:vX.K w x cs):vX.M w' base ok x cs:=by
 rw[MW h];exact En _ _ _ x
theorem FW (l:List ru)(k:Nat)(hk:k<l.length):sw (l.take (k+1))=stepG (sw (l.take k)) (qc l (k:Int)):=by
 rw[bQ hk,El,rz hk]
theorem Nt:∀ {w:World} {base:Nat} {ok:Nat→Prop} (l:List qG) (inner:List Value),qP (vX.M w base ok) 2 l inner→inner=yB l
 | _,_,_,[],inner,h=>dx (by simpa using h.1)
 | w,base,ok,x::l,inner,h=>by
   have h0:=h.2 0 x rfl;rw[gH,gT] at h0;have ih:=Nt (w:=w) (base:=base) (ok:=ok) l (inner.drop 2) ⟨by rw[aX,h.1,bq];omega,fun j p hj=>by
    have:=h.2 (j+1) p (by simpa using hj);rw[gZ];rwa [show (j+1)*2=2+j*2 from by omega] at this⟩
   rw[za,← ih,← fH 2 inner,Q5 h0];rfl
theorem NH {w:World}{base:Nat}{ok:Nat→Prop}:∀ (l:List qG),qP (vX.M w base ok) 2 l (yB l)
 | []=>qP.none _ _
 | x::l=>qP.front (R:=vX.M w base ok) (c:=[.int .i64 x.f0,.int .u64 x.f1]) (En w base ok x) rfl (NH l) rfl
theorem UM {w:World}{base:Nat}{v:Value}{l:List qG}(h:RS w base v l):w.ownsRow base 70 2 v l.length (yB l):=by
 obtain⟨_,inner,ho,hr⟩:=h;rw[← Nt l inner hr];exact ho
theorem OE {w:World}{base:Nat}{v:Value}{l:List qG}(h:w.ownsRow base 70 2 v l.length (yB l)):RS w base v l:=⟨fun _ _=>bE,yB l,h,NH l⟩
def Nz (x:ru):ru:=⟨x.f0,vV x.f1⟩
def Oz (G:List ru)(j:Nat):List ru:=(G.take j).map Nz++G.drop j
theorem VK (G:List ru)(j:Nat)(h:j<G.length):(Oz G j)[j]? = some G[j]:=by
 unfold Oz;rw[fq (by simp;omega)];simp;rw[dJ (by omega),oK,iA,aR h]
theorem TU (G:List ru)(j:Nat)(h:j<G.length):(Oz G j).set j (Nz G[j])=Oz G (j+1):=by
 unfold Oz;rw[iV _ _ (by simp;omega),bQ h,fJ];simp[dJ (kV h)];rw[fP h];rfl
theorem join.c (A:Option Addr)(c n:Nat)(l:List ru)(w:World)(hn:l.length=n)(hr:Kd.C Bc w A n l)(hlen:n≤100000)(htot:tot l≤1000000)(hlab:∀ x∈l,x.f0.length≤1000000) :
 Calls Tryz.prog 36 #[.slice A n c] w fun e w'=>∃ (A':Option Addr) (c':Nat),e = .returned (.slice A' (joinL l).length c')∧(joinL l).length≤c'∧Kd.C Bc w' A' (joinL l).length (joinL l)∧Below w.heap.size w w':=by
 subst hn;have mixed:Tryz.prog.follows .mixedOrders=true:=by kernel_rfl
 have HR:=Y7 hr;have HT:=Y7 htot;have agF:=Y7 hlab;clear hr htot hlab
 go_enter Tryz.func36,Tryz.ntmps36
 go_wp2
 go_loopg [3,11] l.length (fun kx s3 s11 wr=>∃ (k:Nat) (v:Value) (rs:List Rec),s11 = .int .i64 k∧s3=v∧k≤l.length∧l.length-k≤kx∧oM (Lay wr w.heap.size v rs)∧oM (rs.map (·.x)=sw (l.take k))∧oM (Below w.heap.size w wr))
 case atStart=>exact⟨0,_,[],rfl,rfl,bP _,by omega,⟨Lay.nil _ _⟩,⟨rfl⟩,⟨aU _ _⟩⟩
 case round=>
  obtain⟨k,v,rs,rfl,rfl,hk,hkx,HL,HM,HB⟩:=hrel
  by_cases hlt:k<l.length
  ·obtain⟨ad,A0,c0,A1,c1,rfl,x0,x1,l0,g0,l1,g1⟩:=wL HR.o (k:Int) (by omega) (by omega);rw[aG] at x0 x1;replace x0:=pW HB.o x0;replace x1:=pW HB.o x1;have hkz:(k:Int)<(l.length:Int):=by omega
   have HGT:=Y7 (FW l k hlt);have HSL:oM ((qc l (k:Int)).f0.length≤1000000∧tot (l.take k)+(qc l (k:Int)).f1.length≤1000000):=⟨by
    rw[rz hlt];refine⟨agF.o _ (dL hlt),?_⟩;have h1:=zy l (k+1);rw[bQ hlt,zV] at h1;exact bY h1 HT.o⟩
   have HGL:=Y7 (Aj l k hk);have G0:=Y7 g0;have G1:=Y7 g1;have L0C:=Y7 l0;clear l0 g0 l1 g1;generalize hs:qc l (k:Int)=s at *;have HS:=Y7 hs;clear hs
   by_cases hz:s.f1.length=0
   ·have HZ:=Y7 hz;have hzb:((s.f1.length:Int)==0)=true:=by rw[hz];rfl
    have hzz:(s.f1.length:Int)=0:=by omega
    clear hz;have HL1:=Y7 (HL.o.below (oN (aU _ _) (.cells #[.slice A0 s.f0.length c0,.slice A1 s.f1.length c1] 51 (0,0))));have HB1:=Y7 (oN HB.o (.cells #[.slice A0 s.f0.length c0,.slice A1 s.f1.length c1] 51 (0,0)));generalize s.f0.length=L0 at x0 HL1 HB1;generalize s.f1.length=L1 at x1 HL1 HB1 hzb hzz;go_wp2
    go_roundg (l.length-(k+1))
    case measure=>omega
    case rel=>exact⟨k+1,_,rs,by go_num,rfl,by omega,ay _,HL1,⟨by rw[HM.o,HGT.o,stepG,au HZ.o]⟩,HB1⟩
   ·have HZ:=Y7 hz;have hzb:((s.f1.length:Int)==0)=false:=beq_eq_false_iff_ne.2 (by omega);have hzz:¬ (s.f1.length:Int)=0:=by omega
    clear hz;have HL1:=Y7 (HL.o.below (oN (aU _ _) (.cells #[.slice A0 s.f0.length c0,.slice A1 s.f1.length c1] 51 (0,0))));have HB1:=Y7 (oN HB.o (.cells #[.slice A0 s.f0.length c0,.slice A1 s.f1.length c1] 51 (0,0)));have HX1:=Y7 (qx wr (.cells #[.slice A0 s.f0.length c0,.slice A1 s.f1.length c1] 51 (0,0)));have HNB:oM (some wr.heap.size≠u3.ownBlock):=⟨fun e=>by have:=Kd.Qv HL.o.1 _ e.symm;omega⟩;have HBX:=Y7 (show w.heap.size≤wr.heap.size from HB.o.size);have HF0:oM (s.f0.length=s.f0.length):=⟨rfl⟩;generalize hL0:s.f0.length=L0 at x0 HL1 HB1 HX1 G0;generalize hL1:s.f1.length=L1 at x1 HL1 HB1 HX1 G1 hzb hzz;have HL0:=Y7 hL0;have agG:=Y7 hL1;clear hL0 hL1
    go_upto_region 6 with (fail)
    clear HL HB x0 x1;generalize wr.alloc (.cells #[.slice A0 L0 c0,.slice A1 L1 c1] 51 (0,0))=W1 at HL1 HB1 HX1 ⊢;generalize wr.heap.size=bx at *;have y0:=oQ HX1.o 0;have y1:=oQ HX1.o 1;obtain⟨Av,cv,rfl,hcv,hC⟩:=HL1.o.reads;have HBS:=Y7 (binSearch.c Av A0 cv c0 rs.length L0 (rs.map (·.x)) s.f0 W1 (by rw[bN]) HL0.o hC (Kd.o9 G0.o HB1.o) (by rw[HM.o];exact LQ _) (fun x hx=>by
     rw[HM.o] at hx;obtain⟨q,hq,he⟩:=Dv _ x hx;rw[he];exact agF.o q (bT hq)) (by have:=HGL.o.1;rw[← HM.o,bN] at this;omega))
    have HFB:oM ((decide (posB (rs.map (·.x)) s.f0<rs.length)&&decide (cmpL (qc (rs.map (·.x)) (posB (rs.map (·.x)) s.f0:Int)).f0 s.f0=0))=zf (rs.map (·.x)) s.f0):=⟨by unfold zf;rw[bN]⟩;have HIL:oM (posB (rs.map (·.x)) s.f0≤rs.length):=⟨by have:=Cr (rs.map (·.x)) s.f0;rwa [bN] at this⟩;rw[HFB.o] at HBS;generalize hi:posB (rs.map (·.x)) s.f0=i at HBS HIL;generalize hfb:zf (rs.map (·.x)) s.f0=fb at HBS;have HI:=Y7 hi;have agH:=Y7 hfb;clear hi hfb hC hcv HFB
    go_upto_if 27 with (first|(go_at_call 69;(with_reducible refine HBS.o.mono ?_);rintro e w2 ⟨rfl,hb⟩;have HB2:=Y7 hb;clear hb))
    have HL2:=Y7 (HL1.o.below HB2.o);have HX2:=Y7 (o7 HX1.o HB2.o);have agI:=Y7 (oP HB1.o HB2.o);clear HL1 HX1 HBS y0 y1;have y0:=oQ HX2.o 0;have y1:=oQ HX2.o 1
    go_cut [3] (fun v3 wx=>∃ rs3:List Rec,oM (Lay wx w.heap.size v3 rs3)∧oM (rs3.map (·.x)=wO (rs.map (·.x)) s.f0)∧oM (Below w.heap.size w wx)∧oM (wx.heap[bx]? = some (.cells #[.slice A0 L0 c0,.slice A1 L1 c1] 51 (0,0))))
    case first=>
     cases fb with
     | true=>
       go_wp2_with fail
       go_meet
       exact⟨rs,HL2,⟨by rw[wO,au agH.o]⟩,agI,HX2⟩
     | false=>
       have CL:=Y7 (WJ.c A0 c0 s.f0 L0 w2 HL0.o (by rw[HL0.o];exact Kd.o9 G0.o agI.o) L0C.o HSL.o.1);have HRB:oM (rs.length≤1000000):=⟨by have:=HGL.o.1;rw[← HM.o,bN] at this;omega⟩
       go_wp2_with (first|(go_at_call 54;(with_reducible refine CL.o.mono ?_);rintro e w3 ⟨lv,rfl,hR,hb⟩;obtain⟨Al,cl,rfl⟩:=Kd.pO hR;have HRL:=Y7 hR;have HB3:=Y7 hb;clear hR hb;have HL3:=Y7 (HL2.o.below HB3.o);have HL4:=Y7 (HL3.o.below (oN (aU _ _) (.cells #[.slice Al s.f0.length cl,.slice none 0 0] 51 (0,0))));have aiQ:=Y7 (oN (oP agI.o HB3.o) (.cells #[.slice Al s.f0.length cl,.slice none 0 0] 51 (0,0)));have HN4:oM (some w3.heap.size≠(Value.slice Av rs.length cv).ownBlock):=⟨fun e=>by have:=Kd.Qv HL3.o.1 _ e.symm;omega⟩;have HIN:=Y7 (insert.c w.heap.size rs.length i w3.heap.size (.slice Av rs.length cv) (rs.map wM) (.slice Al s.f0.length cl) (.slice none 0 0) (w3.alloc (.cells #[.slice Al s.f0.length cl,.slice none 0 0] 51 (0,0))) (by rw[bN]) HL4.o.1 HIL.o HRB.o (qx w3 _) HN4.o rfl rfl aiQ.o.size))|(go_at_call 72;(with_reducible refine HIN.o.mono ?_);rintro e w5 ⟨v5,rfl,hR,hg,hat⟩;have HR5:=Y7 hR;have HG5:=Y7 hg;clear hR hg hat))
       go_meet
       have akk:RL (w3.alloc (.cells #[.slice Al s.f0.length cl,.slice none 0 0] 51 (0,0))) w.heap.size (.slice Al s.f0.length cl) s.f0:=Kd.sJ (Kd.qW HRL.o agI.o.size) _;have hX3:=pK (o7 HX2.o HB3.o) (.cells #[.slice Al s.f0.length cl,.slice none 0 0] 51 (0,0));refine⟨rs.take i++[⟨⟨s.f0,[]⟩,.slice Al s.f0.length cl,.slice none 0 0⟩]++rs.drop i,⟨Lay.insert HL4.o HG5.o i ⟨⟨s.f0,[]⟩,.slice Al s.f0.length cl,.slice none 0 0⟩ HR5.o (xO rfl akk HG5.o (xP (by decide) akk HL4.o.1)) (Kd.tJ _ _ _ _ _) rfl⟩,⟨?_⟩,⟨BJ aiQ.o _ aiQ.o.size HG5.o (fun k hk=>HL4.o.SK k hk)⟩,⟨qK hX3 HG5.o HNB.o⟩⟩;rw[wO,av (by rw[agH.o];simp),HI.o,Gh,fJ,fJ,ng,ni];rfl
    case rest=>
     obtain⟨rs3,HL3,HM3,HB3,HX3⟩:=hcut;clear HL2 HX2 agI HB2 y0 y1;have hil:i<rs3.length:=by
      have:=(GD (rs.map (·.x)) s.f0).1;rw[HI.o,← HM3.o,bN] at this;exact this
     obtain⟨gv,aeT,hv3,hgv⟩:=Ih HL3.o (by omega);subst hv3;obtain⟨r,hri⟩:∃ r,rs3[i]? = some r:=⟨_,aR hil⟩;have HRI:=Y7 hri;have HGV:=Y7 hgv;have hRS:=(HL3.o.2.1 r (dI hri)).2;obtain⟨As,cs,hsv⟩:=Kd.pO hRS;obtain⟨_,x2,_,_⟩:=Ig HL3.o i r hri;have x3:=oQ HX3.o 1;have HSV:=Y7 hsv;rw[hsv] at x2 hRS;have HRS:=Y7 hRS;have HBB:oM (w.heap.size≤wc.heap.size):=⟨HB3.o.size⟩;have HLT:oM ((r.x.f1.length+L1)*16≤140737488355328):=⟨by
      have h1:r.x∈wO (rs.map (·.x)) s.f0:=by rw[← HM3.o];exact List.mem_map.2 ⟨r,dI hri,rfl⟩
      have h2:=HSL.o.2;rw[agG.o] at h2;rcases Ir h1 with h1 | h1
      ·rw[HM.o] at h1;have:=HGL.o.2 _ h1;omega
      ·rw[h1];show ((0:Nat)+L1)*16≤_;omega⟩
     have HSM:oM (Kd.C vX wc.drew A1 L1 s.f1):=⟨Kd.o9 G1.o (oV HB3.o)⟩;have HST:oM (sw (l.take (k+1))=I8 (wO (rs.map (·.x)) s.f0) i s.f1):=⟨by
      rw[HGT.o,stepG,av HZ.o,← HM.o,HI.o]⟩
     have hiz:(i:Int)<(rs3.length:Int):=by omega
     generalize hns:r.x.f1.length=ns at x2 HRS;have HNS:=Y7 hns;clear hri hgv hsv hRS hns;replace x2:wc.drew.cell? ⟨gv,i*2+1,none⟩=some (.slice As ns cs):=x2;replace x3:wc.drew.cell? ⟨bx,1,none⟩=some (.slice A1 L1 c1):=x3
     go_upto_region 9 with (fail)
     refine DR (n:=13) (ds:=[9,12]) (S:=fun w'=>w'.cell? ⟨gv,i*2+1,none⟩=some (.slice As ns cs)∧w'.cell? ⟨bx,1,none⟩=some (.slice A1 L1 c1)) #[false,false,false,false,false,false,false,false,false,false,false,false,false] mixed rfl rfl ⟨x2,x3⟩ (fun hS=>?_);refine rC (i:=0) (N:=some 36) (v:=?_) (a':=?_) #[true,false,false,false,false,false,false,false,false,false,false,false,false] rfl rfl (by kernel_rfl) (fun _ _ _ h=>h) (Or.inl ⟨by rfl,?_⟩) ?_ ?_
     rotate_left
     ·intro w';go_simp
      try (with_reducible rfl)
     rotate_left
     ·simp only[Act.put,ah,ak,aj];rfl
     refine rC (i:=1) (N:=some 37) (v:=?_) (a':=?_) #[true,true,false,false,false,false,false,false,false,false,false,false,false] rfl rfl (by kernel_rfl) (fun _ _ _ h=>h) (Or.inl ⟨by rfl,?_⟩) ?_ ?_
     rotate_left
     ·intro w';go_simp
      try (with_reducible rfl)
     rotate_left
     ·simp only[Act.put,ah,ak,aj];rfl
     refine rC (i:=2) (N:=some 38) (v:=?_) (a':=?_) #[true,true,true,false,false,false,false,false,false,false,false,false,false] rfl rfl (by kernel_rfl) (fun _ _ _ h=>h) (Or.inl ⟨by rfl,?_⟩) ?_ ?_
     rotate_left
     ·intro w';go_simp
      try (with_reducible rfl)
     rotate_left
     ·simp only[Act.put,ah,ak,aj];rfl
     refine rC (i:=3) (N:=some 39) (v:=?_) (a':=?_) #[true,true,true,true,false,false,false,false,false,false,false,false,false] rfl rfl (by kernel_rfl) (fun _ _ _ h=>h) (Or.inl ⟨by rfl,?_⟩) ?_ ?_
     rotate_left
     ·intro w';go_simp
      try (with_reducible rfl)
     rotate_left
     ·simp only[Act.put,ah,ak,aj];rfl
     refine rC (i:=4) (N:=some 40) (v:=?_) (a':=?_) #[true,true,true,true,true,false,false,false,false,false,false,false,false] rfl rfl (by kernel_rfl) (fun _ _ _ h=>h) (Or.inl ⟨by rfl,?_⟩) ?_ ?_
     rotate_left
     ·intro w';go_simp
      try (with_reducible rfl)
     rotate_left
     ·simp only[Act.put,ah,ak,aj];rfl
     refine rC (i:=5) (N:=some 41) (v:=?_) (a':=?_) #[true,true,true,true,true,true,false,false,false,false,false,false,false] rfl rfl (by kernel_rfl) (fun _ _ _ h=>h) (Or.inl ⟨by rfl,?_⟩) ?_ ?_
     rotate_left
     ·intro w';go_simp
      try (with_reducible rfl)
     rotate_left
     ·simp only[Act.put,ah,ak,aj];rfl
     refine EI (i:=6) (N:=some 42) (v:=?_) (a':=?_) #[true,true,true,true,true,true,true,false,false,false,false,false,false] rfl rfl (by kernel_rfl) (fun _ _ _ h=>h) (Or.inl ⟨by rfl,?_⟩) hS ?_ ?_
     rotate_left
     ·rintro w' ⟨hc1,hc2⟩;go_simp
      try (with_reducible rfl)
     rotate_left
     ·simp only[Act.put,ah,ak,aj];rfl
     refine rC (i:=7) (N:=some 43) (v:=?_) (a':=?_) #[true,true,true,true,true,true,true,true,false,false,false,false,false] rfl rfl (by kernel_rfl) (fun _ _ _ h=>h) (Or.inl ⟨by rfl,?_⟩) ?_ ?_
     rotate_left
     ·intro w';go_simp
      try (with_reducible rfl)
     rotate_left
     ·simp only[Act.put,ah,ak,aj];rfl
     refine EI (i:=8) (N:=some 44) (v:=?_) (a':=?_) #[true,true,true,true,true,true,true,true,true,false,false,false,false] rfl rfl (by kernel_rfl) (fun _ _ _ h=>h) (Or.inl ⟨by rfl,?_⟩) hS ?_ ?_
     rotate_left
     ·rintro w' ⟨hc1,hc2⟩;go_simp
      try (with_reducible rfl)
     rotate_left
     ·simp only[Act.put,ah,ak,aj];rfl
     refine F4 (i:=9) (N:=some 45) #[true,true,true,true,true,true,true,true,true,true,false,false,false] rfl rfl (by kernel_rfl) (by decide) (fun K hK=>?_);refine Kd.qI vX (w0:=w) w.heap.size (by rfl) (.tmp 42) (.tmp 44) 49 70 (.agg #[.int .i64 0,.int .u64 0]) 16 rfl Tryz.underlying49 ze rfl (by decide) (by omega) (.slice As ns cs) r.x.f1 s.f1 A1 L1 c1 (fun _=>True) (fun _=>False) rfl rfl (Kd.vK HRS.o) HSM.o (fun x cs hx=>Ak hx) (fun _ hk=>hk.elim) (fun _ _=>bE) (oV HB3.o) ?hb ?hl ?_
     case hb=>exact HBB.o
     case hl=>exact HLT.o
     intro v1 w1 hR1 hB1 hg1 ZL;have HR1:oM (RS w1 w.heap.size v1 (r.x.f1++s.f1)):=⟨hR1⟩;have HB4:=Y7 hB1;have HG1:oM (wc.grownBy w1 r.sv.ownBlock):=⟨by rw[HSV.o,HNS.o];exact⟨hg1.os,hg1.tape,hg1.output,hg1.size,hg1.block⟩⟩;have HAT:oM (v1.ownBlock=r.sv.ownBlock∨∃ b,v1.ownBlock=some b∧wc.heap.size≤b):=⟨by rw[HSV.o,HNS.o];exact ZL⟩;clear hR1 hB1 hg1 ZL;refine hK.o _ _ ?_;clear hK K;obtain⟨A9,c9,hv9⟩:=Kd.pO HR1.o;generalize (r.x.f1++s.f1).length=n9 at hv9;subst hv9;refine tu (a':=?_) ?_ ?_
     rotate_left
     ·show Act.put _ (some 45) _=_;simp only[Act.put,ah,ak,aj];rfl
     have HRR:oM (RR w1 w.heap.size (.slice (some ⟨gv,0,none⟩) rs3.length aeT) (rs3.map wM)):=⟨xO rfl HL3.o.1 HG1.o (xP (by decide) HL3.o.1 (HL3.o.2.1 r (dI HRI.o)).2)⟩;obtain⟨_,z1,_,z3⟩:=GH HRR.o i r.lv r.sv (by rw[fK,HRI.o];rfl);have HL5:=Y7 (Lay.samples HL3.o i r HRI.o HG1.o HR1.o HAT.o);have HB5:=Y7 (pF (j:=i*2+1) (v := .slice A9 n9 c9) HB4.o HGV.o);refine rC (i:=10) (N:=some 46) (v:=?_) (a':=?_) #[true,true,true,true,true,true,true,true,true,true,true,false,false] rfl rfl (by kernel_rfl) (fun _ _ _ h=>h) (Or.inl ⟨by rfl,?_⟩) ?_ ?_
     rotate_left
     ·intro w';go_simp
      try (with_reducible rfl)
     rotate_left
     ·simp only[Act.put,ah,ak,aj];rfl
     refine rC (i:=11) (N:=some 47) (v:=?_) (a':=?_) #[true,true,true,true,true,true,true,true,true,true,true,true,false] rfl rfl (by kernel_rfl) (fun _ _ _ h=>h) (Or.inl ⟨by rfl,?_⟩) ?_ ?_
     rotate_left
     ·intro w';go_simp
      try (with_reducible rfl)
     rotate_left
     ·simp only[Act.put,ah,ak,aj];rfl
     refine F4 (i:=12) (N:=none) #[true,true,true,true,true,true,true,true,true,true,true,true,true] rfl rfl (by kernel_rfl) (by decide) (fun K hK=>?_);refine WI (w1:=?_) (by rfl) rfl ?_ ?_
     rotate_left
     ·go_simp
      rfl
     refine hK.o _ _ ?_;clear hK K;refine Hr (by kernel_rfl) ?_
     try go_wp2
     go_roundg (l.length-(k+1))
     case measure=>omega
     case rel=>exact⟨k+1,.slice (some ⟨gv,0,none⟩) rs3.length aeT,_,by first | rfl | go_num,by first | rfl | go_num,by omega,ay _,HL5,⟨by
      rw[HST.o];have hil:i<rs3.length:=(List.getElem?_eq_some_iff.1 HRI.o).1;unfold I8;rw[← HM3.o,ko];have hri:qc (rs3.map (·.x)) (i:Int)=r.x:=by
       rw[rz (by rw[bN];exact hil),nN,(List.getElem?_eq_some_iff.1 HRI.o).2]
      rw[hri]⟩,HB5⟩
  ·obtain rfl:k=l.length:=by omega
   have hkz:¬ (l.length:Int)<(l.length:Int):=by omega
   rw[dz] at HM;have HGL:=Y7 (Bv l);have HGP:=Y7 (Ou l);have HRB:oM (rs.length=(sw l).length):=⟨by rw[← HM.o,bN]⟩;obtain⟨Av,cv,hu,_,_⟩:=HL.o.reads;subst hu;have hrl:rs.length≤100000:=by rw[HRB.o];exact bY HGL.o.1 hlen
   go_wp2
   go_loopg [51] rs.length (fun kx s51 wr=>∃ (j:Nat) (rs2:List Rec),s51 = .int .i64 j∧j≤rs.length∧rs.length-j≤kx∧oM (rs2.length=rs.length)∧oM (Lay wr w.heap.size (.slice Av rs.length cv) rs2)∧oM (rs2.map (·.x)=Oz (sw l) j)∧oM (Below w.heap.size w wr))
   case atStart=>exact⟨0,rs,rfl,bP _,ay _,⟨rfl⟩,HL,⟨by rw[HM.o];rfl⟩,HB⟩
   case round=>
    clear HL HM HB;obtain⟨j,rs2,rfl,hj,aeG,HLE,HL,HM,HB⟩:=hrel
    by_cases hjl:j<rs.length
    ·have hjz:(j:Int)<(rs.length:Int):=by omega
     have hjG:j<(sw l).length:=by rw[← HRB.o];exact hjl
     obtain⟨gv,aeT,he,hgv⟩:=Ih HL.o (by rw[HLE.o];omega);simp only[j5] at he;obtain⟨rfl,hxx,rfl⟩:=he;clear hxx;have hj2:j<rs2.length:=by rw[HLE.o];exact hjl
     obtain⟨r,hri⟩:∃ r,rs2[j]? = some r:=⟨_,aR hj2⟩;have hrx:r.x=(sw l)[j]:=by
      have h1:=VK (sw l) j hjG;rw[← HM.o,fK,hri] at h1
      simpa using h1
     have hm:r.x∈sw l:=by rw[hrx];exact dL hjG
     have hp:=HGP.o _ hm;have hpl:=HGL.o.2 _ hm;have hRS:=(HL.o.2.1 r (dI hri)).2;obtain⟨gs,caps,hsv,hbs,hgs,_⟩:=Kd.EO hRS (by omega);have hown:=UM hRS;rw[hsv] at hown;have HC:=Y7 (Oi.c w.heap.size gs caps r.x.f1 wr hown (by omega) (by have:=HT.o;omega));obtain⟨_,x2,_,_⟩:=Ig HL.o j r hri;rw[hsv] at x2;have HSV:=Y7 hsv;have HRI:=Y7 hri;have HRX:=Y7 hrx;have HGV:=Y7 hgv;have HBS:oM (w.heap.size≤gs):=⟨hbs⟩;have HJG:=Y7 hjG;clear hri hgv hsv hRS hown hbs hgs hrx hm hp hpl;generalize hns:r.x.f1.length=ns at x2 HC;generalize hnr:(vV r.x.f1).length=nr at HC;have HNS:=Y7 hns;have HNR:=Y7 hnr;clear hns hnr
     go_wp2_with (first|(go_at_call 73;(with_reducible refine HC.o.mono ?_);rintro e w2 ⟨rfl,hO,hG⟩;have HO:=Y7 hO;have HG:=Y7 hG;clear hO hG;have HG1:oM (wr.grownBy w2 r.sv.ownBlock):=⟨by rw[HSV.o];exact HG.o⟩;have HRR:oM (RR w2 w.heap.size (.slice (some ⟨gv,0,none⟩) rs.length cv) (rs2.map wM)):=⟨xO rfl HL.o.1 HG1.o (xP (by decide) HL.o.1 (HL.o.2.1 r (dI HRI.o)).2)⟩;obtain⟨_,z1,_,z3⟩:=GH HRR.o j r.lv r.sv (by rw[fK,HRI.o];rfl)))
     have HR1:oM (RS w2 w.heap.size (.slice (some ⟨gs,0,none⟩) nr caps) (vV r.x.f1)):=⟨OE (by rw[HNR.o];exact HO.o)⟩;have HL5:=Y7 (Lay.samples HL.o j r HRI.o HG1.o HR1.o (.inl (by rw[HSV.o];rfl)));have HB5:=Y7 (pF (j:=j*2+1) (v := .slice (some ⟨gs,0,none⟩) nr caps) (BJ HB.o _ HB.o.size HG.o (fun k hk=>by cases hk;exact HBS.o)) HGV.o)
     go_roundg (rs.length-(j+1))
     case measure=>omega
     case rel=>exact⟨j+1,_,by go_num,by omega,ay _,⟨by rw[dY];exact HLE.o⟩,HL5,⟨by
      rw[ko,HM.o,← TU (sw l) j HJG.o];unfold Nz;rw[HRX.o]⟩,HB5⟩
    ·obtain rfl:j=rs.length:=by omega
     have hjz:¬ (rs.length:Int)<(rs.length:Int):=by omega
     have HJ:oM (rs2.map (·.x)=joinL l):=⟨by
      rw[HM.o,Oz,HRB.o,dz,lQ,dZ];rfl⟩
     go_wp2;go_ret;obtain⟨A2,c2,he,hc2,hC⟩:=HL.o.reads;have adI:(joinL l).length=rs2.length:=by rw[← HJ.o,bN]
     refine⟨A2,c2,?_,by rw[adI];exact hc2,by rw[adI,← HJ.o];exact hC,HB.o⟩;rw[adI,← he];rfl
end Go.Proofs.Y.PA
namespace Go.Proofs.Y.PA
def EA (G:List ru)(i:Nat)(ss:List qG):List ru:=G.set i ⟨(qc G (i:Int)).f0,vO (qc G (i:Int)).f1 ss⟩
theorem UO (G:List ru)(i:Nat)(ss:List qG):(EA G i ss).length=G.length:=dY
theorem UQ {G:List ru}{i:Nat}(h:i<G.length):EA G i []=G:=by
 unfold EA;rw[rz h];show G.set i G[i]=G;exact oD h
theorem V6 {G:List ru}{i:Nat}(h:i<G.length)(ss:List qG):(EA G i ss)[i]? = some ⟨(qc G (i:Int)).f0,vO (qc G (i:Int)).f1 ss⟩:=by
 unfold EA;rw[lG h]
theorem Rx {G:List ru}{i:Nat}(ss:List qG)(s:qG) :
 (EA G i ss).set i ⟨(qc G (i:Int)).f0,yF (vO (qc G (i:Int)).f1 ss) s⟩=EA G i (ss++[s]):=by
 unfold EA;rw[List.set_set];unfold vO;rw[jv];rfl
theorem Jh (l a b:List qG):vO l (a++b)=vO (vO l a) b:=by
 unfold vO;rw[jv]
theorem UK {G:List ru}{i:Nat}(h:i<G.length)(ss:List qG):(I8 G i ss).map Nz=EA (G.map Nz) i ss:=by
 unfold I8 EA;rw[ko,rz h,rz (by rw[bN];exact h),nN];unfold Nz vV;rw[Jh]
theorem Iq (G:List ru)(t:List tQ):posB (G.map Nz) t=posB G t:=by
 unfold posB;rw[List.takeWhile_map,bN];rfl
theorem TF (G:List ru)(t:List tQ):zf (G.map Nz) t=zf G t:=by
 unfold zf;rw[Iq,bN]
 by_cases h:posB G t<G.length
 ·rw[rz h,rz (by rw[bN];exact h),nN];rfl
 ·rw[aD h];rfl
theorem Uq (G:List ru)(t:List tQ):wO (G.map Nz) t=(wO G t).map Nz:=by
 unfold wO;rw[TF,Iq];split
 ·rfl
 ·unfold Gh;rw[fJ,fJ,ng,ni];rfl
theorem RH (G:List ru)(s:ru)(h:¬ s.f1.length=0):(stepG G s).map Nz=EA (wO (G.map Nz) s.f0) (posB (G.map Nz) s.f0) s.f1:=by
 unfold stepG;rw[av h,UK (GD G s.f0).1,Uq,Iq]
theorem Iz (a:List qG):(vV a).length≤a.length:=by
 have:=DN a []
 simpa [vV] using this
theorem Rj {G:List ru}{t:List tQ}{q:Nat}(hq:q≤posB G t)(hl:q<G.length)(hc:cmpL (qc G (q:Int)).f0 t<0):q+1≤posB G t:=by
 rcases dN q (posB G t) with h | h
 ·exact h
 ·have:q=posB G t:=by omega
  subst this;exact absurd hc (Gy G t hl)
theorem Rk {G:List ru}{t:List tQ}{q:Nat}(hq:q≤posB G t)(hc:¬ cmpL (qc G (q:Int)).f0 t<0):q=posB G t:=by
 rcases dN q (posB G t) with h | h
 ·exact absurd (Gz G t q h) hc
 ·omega
end Go.Proofs.Y.PA
namespace Go.Proofs.Y.PA
open Go.RowKit Go.Proofs.Y.G Go.Proofs.YW.oO Go.Proofs.YW.pq Go.Proofs.YW.pz
theorem Yx.c (A0 A1 B0 B1:Option Addr)(a0 a1 b0 b1:Nat)(x:ru)(w:World)(hr0:Kd.C xU w A0 x.f0.length x.f0)(hr1:Kd.C vX w A1 x.f1.length x.f1)(hs0:Kd.C xU w B0 x.f0.length x.f0)(hs1:Kd.C vX w B1 x.f1.length x.f1)(h1:x.f1.length≤a1)(h2:x.f1.length≤b1)(hl:x.f0.length≤1000000)(hm:x.f1.length≤1000000) :
 Calls Tryz.prog 40 #[.agg #[.slice A0 x.f0.length a0,.slice A1 x.f1.length a1],.agg #[.slice B0 x.f0.length b0,.slice B1 x.f1.length b1]] w fun e w'=>e = .returned (.bool true)∧Below w.heap.size w w':=by
 obtain⟨o0,ho0⟩:∃ o0:Obj,Obj.cells #[.slice A0 x.f0.length a0,.slice A1 x.f1.length a1] 51=o0:=⟨_,rfl⟩;obtain⟨o1,ho1⟩:∃ o1:Obj,Obj.cells #[.slice B0 x.f0.length b0,.slice B1 x.f1.length b1] 51=o1:=⟨_,rfl⟩;have HB0:=Y7 (oN (oN (aU w.heap.size w) o0) o1);have EQ:=Y7 (Xm.c A0 a0 B0 b0 x.f0.length x.f0 ((w.alloc o0).alloc o1) rfl (Kd.o9 hr0 HB0.o) (Kd.o9 hs0 HB0.o) hl);have ES:=Y7 (fun W (hb:Below w.heap.size w W)=>WM A1 a1 B1 b1 x.f1 W (Kd.o9 hr1 hb) h1 (Kd.o9 hs1 hb) h2 hm);have H0:oM (((w.alloc o0).alloc o1).heap[w.heap.size]? = some o0):=⟨pK (qx w o0) o1⟩;have H1:oM (((w.alloc o0).alloc o1).heap[w.heap.size+1]? = some o1):=⟨by have:=qx (w.alloc o0) o1;rwa [bW] at this⟩;subst ho0 ho1;clear hr0 hr1 hs0 hs1 h1 h2;generalize x.f0.length=n0 at *;generalize x.f1.length=n1 at *
 go_enter Tryz.func40,Tryz.ntmps40
 go_wp2_with (first|(go_at_call 41;(with_reducible refine EQ.o.mono ?_);rintro e w1 ⟨rfl,hb⟩;have HB1:=Y7 (oP HB0.o hb);have x1:=(oQ (o7 H0.o hb) 1).trans rfl;have y1:=(oQ (o7 H1.o hb) 1).trans rfl;clear hb)|(go_at_call 42;(with_reducible refine (ES.o _ HB1.o).mono ?_);rintro e w2 ⟨rfl,hb⟩;have HB2:=Y7 (oP HB1.o hb);clear hb))
 go_ret;exact⟨rfl,HB2.o⟩
def M8 (l:List ru):Prop:=∀ x∈l,x.f0.length≤1000000∧x.f1.length≤1000000
theorem Yf.c (A B:Option Addr)(c d n:Nat)(l:List ru)(w:World)(hn:l.length=n)(hr:Kd.C Bc w A n l)(hs:Kd.C Bc w B n l)(hl:n≤1000000)(hok:M8 l) :
 Calls Tryz.prog 39 #[.slice A n c,.slice B n d,.func (.func 40) #[] #[]] w fun e w'=>e = .returned (.bool true)∧Below w.heap.size w w':=by
 subst hn;have HR:=Y7 hr;have HS:=Y7 hs;have HOK:=Y7 hok;clear hr hs hok;have hnn:((l.length:Int) != (l.length:Int))=false:=by simp
 go_enter Tryz.func39,Tryz.ntmps39
 go_wp2
 go_loopg [17] l.length (fun kx s17 wr=>∃ (k:Nat),s17 = .int .i64 k∧k≤l.length∧l.length-k≤kx∧oM (Below w.heap.size w wr))
 case atStart=>exact⟨0,rfl,bP _,ay _,⟨aU _ _⟩⟩
 case round=>
  obtain⟨k,rfl,hk,hkx,HB⟩:=hrel
  by_cases hlt:k<l.length
  ·obtain⟨ad,A0,c0,A1,c1,rfl,x0,x1,l0,g0,l1,g1⟩:=wL (Kd.o9 HR.o HB.o) (k:Int) (by omega) (by omega);obtain⟨ae,B0,d0,B1,d1,rfl,y0,y1,m0,h0,m1,h1⟩:=wL (Kd.o9 HS.o HB.o) (k:Int) (by omega) (by omega);rw[aG] at x0 x1 y0 y1;have hkz:(k:Int)<(l.length:Int):=by omega
   have hx:(qc l (k:Int)).f0.length≤1000000∧(qc l (k:Int)).f1.length≤1000000:=by
    have e:qc l (k:Int)=l[k]:=by simp[qc,aV,aR hlt]
    rw[e];exact HOK.o _ (dL hlt)
   generalize qc l (k:Int)=x at *;have EE:=Y7 (fun W (hb:Below wr.heap.size wr W)=>Yx.c A0 A1 B0 B1 c0 c1 d0 d1 x W (Kd.o9 g0 hb) (Kd.o9 g1 hb) (Kd.o9 h0 hb) (Kd.o9 h1 hb) l1 m1 hx.1 hx.2);obtain⟨o0,ho0⟩:∃ o0:Obj,Obj.cells #[.slice A0 x.f0.length c0,.slice A1 x.f1.length c1] 51=o0:=⟨_,rfl⟩;obtain⟨o1,ho1⟩:∃ o1:Obj,Obj.cells #[.slice B0 x.f0.length d0,.slice B1 x.f1.length d1] 51=o1:=⟨_,rfl⟩;have HB0:=Y7 (oN (oN (aU wr.heap.size wr) o0) o1);have z0:=pW (oN (aU wr.heap.size wr) o0) y0;have z1:=pW (oN (aU wr.heap.size wr) o0) y1;subst ho0 ho1;clear g0 g1 h0 h1 l0 l1 m0 m1 y0 y1 hx;generalize x.f0.length=n0 at *;generalize x.f1.length=n1 at *
   go_wp2_with (first|(go_at_call 40;(with_reducible refine (EE.o _ HB0.o).mono ?_);rintro e w2 ⟨rfl,hb⟩;have HB2:=Y7 (oP HB.o (oP HB0.o hb));clear hb))
   go_roundg (l.length-(k+1))
   case measure=>omega
   case rel=>exact⟨k+1,by go_num,by omega,ay _,HB2⟩
  ·obtain rfl:k=l.length:=by omega
   have hkz:¬ (l.length:Int)<(l.length:Int):=by omega
   go_wp2;go_ret;exact⟨rfl,HB.o⟩
theorem Qg.c (A B:Option Addr)(c d n:Nat)(l:List ru)(w:World)(hn:l.length=n)(hr:Kd.C Bc w A n l)(hs:Kd.C Bc w B n l)(hl:n≤1000000)(hok:M8 l) :
 Calls Tryz.prog 15 #[.slice A n c,.slice B n d] w fun e w'=>e = .returned (.bool true)∧Below w.heap.size w w':=by
 have EE:=Y7 (Yf.c A B c d n l w hn hr hs hl hok);clear hn hr hs hok
 go_enter Tryz.func15,Tryz.ntmps15
 go_wp2_with (first|(go_at_call 39;(with_reducible refine EE.o.mono ?_);rintro e w2 ⟨rfl,hb⟩;have HB2:=Y7 hb;clear hb))
 go_ret;exact⟨rfl,HB2.o⟩
theorem O8 {m:Nat}:∀ {l:List ru},(∀ x∈l,x.f1.length≤m)→tot l≤l.length*m
 | [],_=>bP _
 | x::l,h=>by
   have h1:=h x (cO ..);have h2:=O8 (fun y hy=>h y (dh _ hy):∀ y∈l,y.f1.length≤m);show x.f1.length+tot l≤(l.length+1)*m;rw[gI,nX];omega
theorem JE (l:List ru):(joinL l).length≤l.length:=by
 have:=(Bv l).1;show ((sw l).map _).length≤_;rwa [bN]
theorem JF {l:List ru}{x:ru}(h:x∈joinL l):(∃ s∈l,x.f0=s.f0)∧x.f1.length≤tot l:=by
 obtain⟨y,hy,rfl⟩:=List.mem_map.1 h;exact⟨Dv l y hy,bY (Iz y.f1) ((Bv l).2 y hy)⟩
theorem Ct.SX {n:Nat}(A:Option Addr)(c:Nat)(l:List qG)(w:World)(hn:l.length=n)(hr:Kd.C vX w A l.length l)(hc:l.length≤c)(hw:∀ x∈l,Bd x)(hlen:l.length≤20000)(h:vC l=true) :
 Calls Tryz.prog 48 #[.slice A n c] w fun e w'=>∃ v:Value,e = .returned (.tuple #[v,.int .i64 0])∧Kd.R (Kd.int .u8) 5 w' w.heap.size (fun _=>True) v (sU l)∧Below w.heap.size w w':=by
 subst hn;exact Ct.ok A c l w hr hc hw hlen h
end Go.Proofs.Y.PA
