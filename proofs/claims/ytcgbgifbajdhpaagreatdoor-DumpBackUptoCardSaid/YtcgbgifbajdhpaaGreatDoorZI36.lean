/- Of the law rZIQDumpBack. -/
import Derived.Test.YtcgbgifbajdhpaaGreatDoorZI32
import Derived.Test.YtcgbgifbajdhpaaGreatDoorZI31
set_option linter.unusedVariables false
set_option linter.unusedSimpArgs false
set_option maxHeartbeats 8000000
set_option maxRecDepth 1000000
namespace Go
abbrev gI:=@List.cons_append
abbrev jA:=@Go.Sort.get_flatK
abbrev kT:=@Nat.sub_zero
abbrev lU:=@Go.Sort.heap_grow_old
abbrev mg:=@Nat.le_succ
abbrev mM:=@List.Pairwise.sublist
abbrev mY:=@List.getElem!_eq_getElem?_getD
abbrev mZ:=@Go.Sort.size_flatK
end Go
namespace Go.Proofs.Y.PA
open Go.Shelf Go.RowKit Go.Lib Go.Sort
section
variable {w0 W:World} {blk off:Nat} {d0 dk dk':Array qC}
theorem MX (h:SWK qp 2 w0 blk off dk W)(hb:blk<w0.heap.size)(s:Nat)(vs:List Value)(hs:s+vs.length≤dk.size*2)(he:setMany (flatK qp 2 dk) s vs=flatK qp 2 dk'):SWK qp 2 w0 blk off dk' (W.setCells blk (off+s) vs):=by
 obtain⟨n,os,rfl⟩:=h;refine⟨n,os,?_⟩;unfold sortWorldK;rw[← putRowK_grow qp 2 (Sort.ahead w0 n) os blk off dk hb,← putRowK_grow qp 2 (Sort.ahead w0 n) os blk off dk' hb];unfold putRowK;rw[setCells_putRow _ _ _ _ _ _ (by rw[size_flatK];exact hs),he]
theorem Vv (h:SWK qp 2 w0 blk off dk W)(hb:blk<w0.heap.size)(i:Nat)(hi:i<dk.size)(x:qC) :
 SWK qp 2 w0 blk off (dk.setIfInBounds i x) ((W.setCell ⟨blk,off+i*2,none⟩ (.int .i64 x.f0)).setCell ⟨blk,off+i*2+1,none⟩ (.int .u64 x.f1)):=by
 refine MX h hb (i*2) (qp x) (by show i*2+2≤_;omega) (ext_get! (by simp) fun t ht=>?_);have ht':t<dk.size*2:=by simpa using ht
 rw[get_setMany _ _ _ t (by simpa using ht'),jA _ _ _ t ht',jA _ _ _ t (by simpa using ht')];have h2:(qp x).length=2:=rfl
 by_cases c:t / 2=i
 ·rw[ak (by rw[h2];omega),show t-i*2=t % 2 from by omega];congr 2;subst c;simp[getElem!_def,hi]
 ·rw[aK (by rw[h2];omega)];congr 2;simp[getElem!_def,jy,jJ c]
end
def zs2 (m:Nat):List Value:=(Builtin.zeroCells #[.int .i64 0,.int .u64 0] m).toList
theorem Dk (m:Nat):(zs2 m).length=m*2:=by simp[zs2,Builtin.zeroCells]
theorem PG (m t:Nat)(h:t<m*2):(zs2 m)[t]! = (qp z70)[t % 2]! := by
 have h2:t % 2=0∨t % 2=1:=by omega
 have:(zs2 m)[t]? = some ((#[Value.int .i64 0,.int .u64 0]:Array Value)[t % 2]!):=by
  simp[zs2,Builtin.zeroCells,h]
 rw[mY,this];rcases h2 with h2 | h2<;>rw[h2]<;>rfl
theorem VF (m:Nat):∀ v∈zs2 m,v.oneCell'=true:=by
 intro v hv;obtain⟨t,ht,rfl⟩:=List.mem_iff_getElem.1 hv;have h2:t % 2=0∨t % 2=1:=by omega
 have h:=PG m t (by rw[Dk] at ht;exact ht);rw[mY,aQ ht] at h;have h':(zs2 m)[t]=(qp z70)[t % 2]! := h;rw[h'];rcases h2 with h2 | h2<;>rw[h2]<;>rfl
def LA (d:Array qC)(k:Nat):Array qC:=((List.range d.size).map fun t=>if t<k then d[t]! else z70).toArray
theorem Dz (d:Array qC)(k:Nat):(LA d k).size=d.size:=by simp[LA]
theorem LB (d:Array qC)(k t:Nat)(h:t<d.size):(LA d k)[t]! = if t<k then d[t]! else z70:=by
 simp[LA,h]
theorem QU {w0 W:World}{blk off:Nat}{d:Array qC}(h:SWK qp 2 w0 blk off d W)(hb:blk<w0.heap.size)(k:Nat)(hk:k≤d.size):SWK qp 2 w0 blk off (LA d k) (W.setCells blk (off+k*2) (zs2 (d.size-k))):=by
 refine MX h hb (k*2) _ (by rw[Dk];omega) (ext_get! (by simp[Dz]) fun t ht=>?_);have ht':t<d.size*2:=by simpa using ht
 rw[get_setMany _ _ _ t (by simpa using ht'),jA _ _ _ t ht',jA _ _ _ t (by rw[Dz];exact ht'),LB _ _ _ (by omega),Dk]
 by_cases c:t / 2<k
 ·rw[aK (by omega),ak c]
 ·rw[ak (by omega),aK c,PG _ _ (by omega),show (t-k*2) % 2=t % 2 from by omega]
theorem P8 (W:World)(blk o m c:Nat)(hc:∀ j,j<m*2→(W.cell? ⟨blk,o+j,none⟩).isSome=true)(hf:∀ j,j<m*2→W.frozen? ⟨blk,o+j,none⟩=false)(hm:0<m)(ty:TypeId) :
 Sem.run Tryz.prog (Builtin.clear_ #[49] ty #[.slice (some ⟨blk,o,none⟩) m c]) W = .ok (.tuple #[]) (W.setCells blk o (zs2 m)):=by
 have hst:=mV (P:=Tryz.prog) blk o (zs2 m) 0 W (by rw[Dk];simpa using hc) (by rw[Dk];simpa using hf) (VF m);simp only[iB] at hst;have hz:∀ w,(zeroValue 70).run Tryz.prog w = .ok (.agg #[.int .i64 0,.int .u64 0]) w:=fun w=>by kernel_rfl
 obtain⟨q,rfl⟩:∃ q,m=q+1:=⟨m-1,by omega⟩;have hzs:(Builtin.zeroCells (Value.agg #[.int .i64 0,.int .u64 0]).cells (q+1)).toList=zs2 (q+1):=rfl;simp[Builtin.clear_,eY Tryz.underlying49,hz,hzs,hst]
def cK (d:Array qC):Nat→List qC
 | 0=>[]
 | i+1=>if i=0∨d[i]!.f0≠d[i-1]!.f0 then cK d i++[d[i]!] else cK d i
theorem VQ (d:Array qC):∀ i,(cK d i).length≤i
 | 0=>aD _
 | i+1=>by
   have:=VQ d i;rw[cK];split
   ·rw[bg];simp;omega
   ·omega
theorem VP (d:Array qC)(i:Nat)(h:(d[i]!.f0==d[i-1]!.f0)=false):cK d (i+1)=cK d i++[d[i]!]:=by
 rw[cK,ak (.inr (by simpa using h))]
theorem OJ (d:Array qC)(i:Nat)(hi:0<i)(h:(d[i]!.f0==d[i-1]!.f0)=true):cK d (i+1)=cK d i:=by
 rw[cK,aK (by rintro (h1 | h1);omega;exact h1 (by simpa using h))]
theorem KC {α:Type}[Inhabited α](d:Array α)(k:Nat):tC d k (k+1)=[d[k]!]:=by simp[tC]
theorem RN (off a b:Nat):off+(a+b)*2=off+a*2+b*2:=by omega
theorem Sc.c (blk off cap:Nat)(d:Array qC)(w:World)(R:RowK qp 2 w blk off d)(hcap:d.size≤cap)(hsz:d.size<1152921504606846976) :
 Calls Tryz.prog 110 #[.slice (some ⟨blk,off,none⟩) d.size cap,.func (.func 111) #[] #[]] w fun e w'=>e = .returned (.slice (some ⟨blk,off,none⟩) (cK d d.size).length cap)∧∃ d',SWK qp 2 w blk off d' w'∧d'.size=d.size∧tC d' 0 (cK d d.size).length=cK d d.size:=by
 have mixed:Tryz.prog.follows .mixedOrders=true:=by kernel_rfl
 have eg:=X5.enters;have S0:Aside (SWK qp 2 w blk off d w):=SWK.start R.hH;have RR:=Yu R;obtain⟨n,hn⟩:∃ n,n=d.size:=⟨_,rfl⟩;have HN:=Yu hn;rw[← hn] at hsz hcap ⊢;clear R hn
 by_cases h2:n<2
 ·have h2z:(n:Int)<2:=by omega
  have HE:YW.o7.oZ (cK d n=tC d 0 n):=⟨by
   rcases (show n=0∨n=1 from by omega) with h | h
   ·rw[h];rfl
   ·rw[h];rfl⟩
  go_enter Tryz.func110,Tryz.ntmps110
  go_wp2;go_ret;exact⟨by rw[HE.o,zw,kT];rfl,d,S0,HN.o.symm,by rw[HE.o,zw,kT]⟩
 ·have h2z:¬ (n:Int)<2:=by omega
  go_enter Tryz.func110,Tryz.ntmps110
  go_wp2
  go_loopg [5] n (fun kx s5 wr=>∃ (k:Nat),s5 = .int .i64 (k+1:Nat)∧k+1≤n∧n-k≤kx∧Aside (SWK qp 2 w blk off d wr)∧YW.o7.oZ (cK d (k+1)=tC d 0 (k+1)))
  case atStart=>exact⟨0,rfl,by omega,by omega,S0,⟨rfl⟩⟩
  case round=>
   clear S0;obtain⟨k,rfl,hk,hkx,S1,HE⟩:=hrel
   by_cases hlt:k+1<n
   ·have hltz:(k:Int)+1<(n:Int):=by omega
    have e1:((k:Int)+1).toNat=k+1:=by omega
    have pa:(0:Int)≤(k:Int)+1:=by omega
    have e2:(k:Int)+1-1=(k:Int):=by omega
    have r2:IntKind.i64.wrap ((k:Int)+1-1)=(k:Int):=by rw[bI];omega
    have r3:IntKind.i64.wrap (k:Int)=(k:Int):=by rw[bI];omega
    have bk:(k:Int)<(n:Int):=by omega
    have c0:=fun n' os'=>(rC S1.o RR.o rfl (k+1) (by rw[← HN.o];exact hlt) n' os').1
    have c1:=fun n' os'=>(rC S1.o RR.o rfl (k+1) (by rw[← HN.o];exact hlt) n' os').2
    have g0:=fun n' os'=>(rC S1.o RR.o rfl k (by rw[← HN.o];omega) n' os').1
    have g1:=fun n' os'=>(rC S1.o RR.o rfl k (by rw[← HN.o];omega) n' os').2
    have hc:=fun n' os'=>X5.c d[k+1]! d[k]! (grow (wr.drewN n') os')
    cases hv:(d[k+1]!.f0==d[k]!.f0) with
    | false=>
      have HX:=Yu (VP d (k+1) hv);generalize d[k+1]! = x at c0 c1 hc hv;generalize d[k]! = y at g0 g1 hc hv
      go_wp2_with fail
      go_quiet_grown (first|(go_at_fn 111;refine fu (hc _ _)))
      have S2:Aside (SWK qp 2 w blk off d (grow (wr.drewN nq) osq)):=S1.o.grown nq osq;clear c0 c1 g0 g1 hc S1;generalize grow (wr.drewN nq) osq=w2 at S2 ⊢;clear nq osq;go_wp2
      go_roundg (n-(k+1))
      case measure=>omega
      case rel=>exact⟨k+1,by go_num,by omega,aD _,S2,⟨by rw[HX.o,HE.o,xP d (bV (k+1)) (mg (k+1)),KC]⟩⟩
    | true=>
      have HX:=Yu (OJ d (k+1) (by omega) hv);generalize d[k+1]! = x at c0 c1 hc hv;generalize d[k]! = y at g0 g1 hc hv
      go_wp2_with fail
      go_quiet_grown (first|(go_at_fn 111;refine fu (hc _ _)))
      have S2:Aside (SWK qp 2 w blk off d (grow (wr.drewN nq) osq)):=S1.o.grown nq osq;clear c0 c1 g0 g1 hc S1;generalize grow (wr.drewN nq) osq=w2 at S2 ⊢;clear nq osq;have hcz:¬ (cap:Int)=(k:Int)+1:=by omega
      have hcz2:¬ cap=k+1:=by omega
      have HCZ:=hcap;go_wp2;rw[hv];clear hv;obtain⟨M,hM⟩:∃ M,M=n-(k+1):=⟨_,rfl⟩;rw[← hM];have hM1:M+(k+1)=n:=by omega
      have HM:=Yu hM1;have hM2:M+k<n:=by omega
      have hM3:n≤M+k+1:=by omega
      clear hM hM1 hcz hcz2 HCZ
      go_loopg [5,7] M (fun kx s5 s7 wr=>∃ (q j:Nat) (dk:Array qC),s5 = .int .i64 q∧s7 = .int .i64 (j+1:Nat)∧j+1≤M∧k+1≤q∧q≤k+1+j∧M-j≤kx∧Aside (SWK qp 2 w blk off dk wr)∧YW.o7.oZ (dk.size=d.size)∧YW.o7.oZ (tC dk 0 q=cK d (k+1+(j+1))∧∀ t,q≤t→dk[t]! = d[t]!))
      case atStart=>exact⟨k+1,0,d,by go_num,rfl,by omega,aD _,aD _,by omega,S2,⟨rfl⟩,⟨by rw[show k+1+(0+1)=k+1+1 from rfl,HX.o,HE.o],fun _ _=>rfl⟩⟩
      case round=>
       clear S2 HX HE;obtain⟨q,j,dk,rfl,rfl,hj,hkq,hqj,adp,S3,HS,HQ⟩:=hrel
       by_cases hlt3:j+1<M
       ·have aae:(j:Int)+1<(M:Int):=by omega
        have e1:((j:Int)+1).toNat=j+1:=by omega
        have pa2:(0:Int)≤(j:Int)+1:=by omega
        have e2:(j:Int)+1-1=(j:Int):=by omega
        have r2:IntKind.i64.wrap ((j:Int)+1-1)=(j:Int):=by rw[bI];omega
        have r3:IntKind.i64.wrap (j:Int)=(j:Int):=by rw[bI];omega
        have bj:(j:Int)<(M:Int):=by omega
        have hi1:k+1+(j+1)<dk.size:=by rw[HS.o,← HN.o];omega
        have hi2:k+1+j<dk.size:=by rw[HS.o,← HN.o];omega
        have k0:=rC S3.o RR.o HS.o (k+1+(j+1)) hi1;have k1:=rC S3.o RR.o HS.o (k+1+j) hi2;rw[RN] at k0 k1;have c0:=fun n' os'=>(k0 n' os').1
        have c1:=fun n' os'=>(k0 n' os').2
        have g0:=fun n' os'=>(k1 n' os').1
        have g1:=fun n' os'=>(k1 n' os').2
        have hc:=fun n' os'=>X5.c dk[k+1+(j+1)]! dk[k+1+j]! (grow (wr.drewN n') os')
        have HI:=Yu (And.intro hi1 hi2);clear k0 k1 hi1 hi2;have HX1:=Yu (HQ.o.2 (k+1+(j+1)) (by omega));have HX2:=Yu (HQ.o.2 (k+1+j) (by omega));have K0:=fun (W:World) (S:SWK qp 2 w blk off dk W)=>sH S RR.o HS.o (k+1+(j+1)) HI.o.1
        rw[RN] at K0;have KK:=Yu K0;clear K0;cases hv:(dk[k+1+(j+1)]!.f0==dk[k+1+j]!.f0) with
        | true=>
          have HX:=Yu (OJ d (k+1+(j+1)) (by omega) (by rw[← HX1.o,show k+1+(j+1)-1=k+1+j from rfl,← HX2.o];exact hv));generalize dk[k+1+(j+1)]! = x2 at c0 c1 hc hv;generalize dk[k+1+j]! = y2 at g0 g1 hc hv
          go_wp2_with fail
          go_quiet_grown (first|(go_at_fn 111;refine fu (hc _ _)))
          have S4:Aside (SWK qp 2 w blk off dk (grow (wr.drewN nq) osq)):=S3.o.grown nq osq;clear c0 c1 g0 g1 hc S3;generalize grow (wr.drewN nq) osq=w3 at S4 ⊢;clear nq osq;go_wp2
          go_roundg (M-(j+1))
          case measure=>omega
          case rel=>exact⟨q,j+1,dk,rfl,by go_num,by omega,hkq,by omega,aD _,S4,HS,⟨by rw[show k+1+(j+1+1)=k+1+(j+1)+1 from rfl,HX.o];exact HQ.o.1,HQ.o.2⟩⟩
        | false=>
          have HX:=Yu (VP d (k+1+(j+1)) (by rw[← HX1.o,show k+1+(j+1)-1=k+1+j from rfl,← HX2.o];exact hv));have HX3:=Yu (show ∃ x,x=dk[k+1+(j+1)]! from ⟨_,rfl⟩);have KQ:=Yu (fun (W:World) (S:SWK qp 2 w blk off dk W)=>sH S RR.o HS.o q (by rw[HS.o,← HN.o];omega));generalize hx2:dk[k+1+(j+1)]! = x2 at c0 c1 hc hv KK;generalize dk[k+1+j]! = y2 at g0 g1 hc hv;have HX4:=Yu hx2;clear hx2
          go_wp2_with fail
          go_quiet_grown (first|(go_at_fn 111;refine fu (hc _ _)))
          have S4:Aside (SWK qp 2 w blk off dk (grow (wr.drewN nq) osq)):=S3.o.grown nq osq;clear c0 c1 g0 g1 hc S3;generalize grow (wr.drewN nq) osq=w3 at S4 ⊢;clear nq osq;obtain⟨p0,p1,_,_⟩:=KK.o w3 S4.o;obtain⟨q0,q1,f0,f1⟩:=KQ.o w3 S4.o;have hqn:(q:Int)<(n:Int):=by omega
          have S5:Aside (SWK qp 2 w blk off (dk.setIfInBounds q x2) ((w3.setCell ⟨blk,off+q*2,none⟩ (.int .i64 x2.f0)).setCell ⟨blk,off+q*2+1,none⟩ (.int .u64 x2.f1))):=Vv S4.o RR.o.hblk q (by rw[HS.o,← HN.o];omega) x2;generalize dk[q]! = y3 at q0 q1;go_wp2
          go_roundg (M-(j+1))
          case measure=>omega
          case rel=>
           have hqs:q<dk.size:=by rw[HS.o,← HN.o];omega
           refine⟨q+1,j+1,dk.setIfInBounds q x2,by go_num,by go_num,by omega,by omega,by omega,aD _,S5,⟨by rw[jq];exact HS.o⟩,⟨?_,fun t ht=>?_⟩⟩
           ·rw[show k+1+(j+1+1)=k+1+(j+1)+1 from rfl,HX.o,← HQ.o.1,← HX1.o,HX4.o,xP _ (bV q) (mg q),KC,Ba (d:=dk) (d':=dk.setIfInBounds q x2) (fun t h1 h2=>by simp[getElem!_def,jy,show ¬ q=t from by omega])];congr 2;simp[getElem!_def,hqs]
           ·rw[← HQ.o.2 t (by omega)];simp[getElem!_def,jy,show ¬ q=t from by omega]
       ·have hjM:j+1=M:=by omega
        have HJ:=Yu hjM;have aae:¬ (j:Int)+1<(M:Int):=by omega
        have hcl:=P8 wr blk (off+q*2) (n-q) (cap-q) (fun i hi=>by
         have hq2:q+i / 2<dk.size:=by rw[HS.o,← HN.o];omega
         have h3:=(sH S3.o RR.o HS.o (q+i / 2) hq2);rcases (show i % 2=0∨i % 2=1 from by omega) with h4 | h4
         ·rw[show off+q*2+i=off+(q+i / 2)*2 from by omega,h3.1];rfl
         ·rw[show off+q*2+i=off+(q+i / 2)*2+1 from by omega,h3.2.1];rfl) (fun i hi=>by
         have hq2:q+i / 2<dk.size:=by rw[HS.o,← HN.o];omega
         have h3:=(sH S3.o RR.o HS.o (q+i / 2) hq2);rcases (show i % 2=0∨i % 2=1 from by omega) with h4 | h4
         ·rw[show off+q*2+i=off+(q+i / 2)*2 from by omega,h3.2.2.1]
         ·rw[show off+q*2+i=off+(q+i / 2)*2+1 from by omega,h3.2.2.2]) (by omega)
        have S6:=QU S3.o RR.o.hblk q (by rw[HS.o,← HN.o];omega);rw[HS.o,← HN.o] at S6;have S7:Aside (SWK qp 2 w blk off (LA dk q) (wr.setCells blk (off+q*2) (zs2 (n-q)))):=S6;have HQL:YW.o7.oZ ((cK d n).length=q∧tC (LA dk q) 0 q=cK d n):=⟨by
         have e:=HQ.o.1;rw[HJ.o,mU (k+1) M,HM.o] at e;rw[← e];exact⟨by rw[zw,kT],Ba (fun t h1 h2=>by rw[LB _ _ _ (by rw[HS.o,← HN.o];omega),ak h2])⟩⟩
        have hcz2:¬ cap=q:=by omega
        have hqn:q≤n:=by omega
        clear S6 hjM;go_wp2;go_ret;exact⟨by rw[HQL.o.1];rfl,LA dk q,S7.o,by rw[Dz];exact HS.o.trans HN.o.symm,by rw[HQL.o.1];exact HQL.o.2⟩
   ·obtain rfl:k+1=n:=by omega
    have hltz:¬ ((k:Int)+1<(k:Int)+1):=by omega
    go_wp2;go_ret;exact⟨by rw[HE.o,zw,kT];rfl,d,S1.o,HN.o.symm,by rw[HE.o,zw,kT]⟩
end Go.Proofs.Y.PA
namespace Go.Proofs.Y.PA
open Go.Sort
def Rs (l:List qC):Prop:=l.Pairwise (fun x y=>x.f0<y.f0)
def at_ (v:Int)(l:List qC):List qC:=l.filter (fun x=>decide (x.f0=v))
theorem xS (v:Int)(a b:List qC):at_ v (a++b)=at_ v a++at_ v b:=j3 ..
theorem Cm {v:Int}{l:List qC}(h:∀ x∈l,x.f0≠v):at_ v l=[]:=by
 unfold at_;rw[kr];intro x hx
 simpa using h x hx
theorem uP (v:Int)(x:qC)(l:List qC):at_ v (x::l)=if x.f0=v then x::at_ v l else at_ v l:=by
 unfold at_;rw[ig];simp
theorem Nk:∀ (a b:List qC),Rs a→Rs b→(∀ v,at_ v a=at_ v b)→a=b
 | [],[],_,_,_=>rfl
 | [],y::b,_,_,h=>by
   have:=h y.f0;rw[uP,ak rfl] at this;simp[at_] at this
 | x::a,[],_,_,h=>by
   have:=h x.f0;rw[uP,ak rfl] at this;simp[at_] at this
 | x::a,y::b,ha,hb,h=>by
   have ha':=List.pairwise_cons.1 ha;have hb':=List.pairwise_cons.1 hb;have na:∀ v,v≤x.f0→at_ v a=[]:=fun v hv=>Cm (fun z hz=>by have:=ha'.1 z hz;omega)
   have nb:∀ v,v≤y.f0→at_ v b=[]:=fun v hv=>Cm (fun z hz=>by have:=hb'.1 z hz;omega)
   have hxy:x.f0=y.f0:=by
    rcases Int.lt_trichotomy x.f0 y.f0 with h1 | h1 | h1
    ·have:=h x.f0;rw[uP,ak rfl,uP,aK (by omega),nb _ (by omega)] at this;simp at this
    ·exact h1
    ·have:=h y.f0;rw[uP,aK (by omega),uP,ak rfl,na _ (by omega)] at this;simp at this
   have he:x=y:=by
    have:=h x.f0;rw[uP,ak rfl,uP,ak hxy.symm,na _ (iR _),nb _ (by omega)] at this
    simpa using this
   subst he;rw[Nk a b ha'.2 hb'.2 (fun v=>by
    have:=h v;rw[uP,uP] at this;split at this
    ·exact (List.cons.inj this).2
    ·exact this)]
def xO (l:List qC)(t:Int):Nat→Nat
 | 0=>0
 | j+1=>if t≤(l.getD j z70).f0 then xO l t j else j+1
def wN (l:List qC)(s:qC):List qC:=
 if xO l s.f0 l.length<l.length∧(l.getD (xO l s.f0 l.length) z70).f0=s.f0 then l.set (xO l s.f0 l.length) s else l.take (xO l s.f0 l.length)++s::l.drop (xO l s.f0 l.length)
theorem Fw (l:List qC)(t:Int):∀ j,xO l t j≤j
 | 0=>aD _
 | j+1=>by
   rw[xO];split
   ·exact Nat.le_succ_of_le (Fw l t j)
   ·exact aD _
theorem Js (l:List qC)(t:Int):∀ j,(0<xO l t j→(l.getD (xO l t j-1) z70).f0<t)∧∀ i,xO l t j≤i→i<j→t≤(l.getD i z70).f0
 | 0=>⟨fun h=>by rw[xO] at h;omega,fun i _ h=>by omega⟩
 | j+1=>by
   rw[xO]
   by_cases h:t≤(l.getD j z70).f0
   ·rw[ak h];obtain⟨h1,h2⟩:=Js l t j;refine⟨h1,fun i h3 h4=>?_⟩;rcases eH i j with h5 | h5
    ·exact h2 i h3 h5
    ·rw[show i=j from by omega];exact h
   ·rw[aK h];exact⟨fun _=>by rw[lI];omega,fun i h3 h4=>by omega⟩
theorem JQ {l:List qC}(h:Rs l){i j:Nat}(hij:i<j)(hj:j<l.length):(l.getD i z70).f0<(l.getD j z70).f0:=by
 have:=List.pairwise_iff_getElem.1 h i j (by omega) hj hij
 simpa [bn,aQ (show i<l.length by omega),aQ hj] using this
theorem Hw {l:List qC}(h:Rs l)(s:qC):∃ a b,(∀ x∈a,x.f0<s.f0)∧(∀ x∈b,s.f0<x.f0)∧wN l s=a++s::b∧Rs a∧Rs b∧(l=a++b∨∃ y,y.f0=s.f0∧l=a++y::b):=by
 obtain⟨p,hp⟩:∃ p,p=xO l s.f0 l.length:=⟨_,rfl⟩;have hle:p≤l.length:=by rw[hp];exact Fw _ _ _
 obtain⟨h1,h2⟩:=Js l s.f0 l.length;rw[← hp] at h1 h2;have ht:∀ x∈l.take p,x.f0<s.f0:=fun x hx=>by
  obtain⟨i,hi,rfl⟩:=List.mem_iff_getElem.1 hx;rw[bG] at hi;rw[kF];have h3:=h1 (by omega);have e:l[i]'(by omega)=l.getD i z70:=by simp[bn,aQ (show i<l.length by omega)]
  rw[e];rcases eH i (p-1) with h4 | h4
  ·have:=JQ h h4 (by omega);omega
  ·rw[show i=p-1 from by omega];exact h3
 have hRt:Rs (l.take p):=mM (List.take_sublist _ _) h
 by_cases hc:p<l.length∧(l.getD p z70).f0=s.f0
 ·have eL:l.getD p z70=l[p]'hc.1:=by simp[bn,aQ hc.1]
  refine⟨l.take p,l.drop (p+1),ht,fun x hx=>?_,?_,hRt,mM (List.drop_sublist _ _) h,.inr ⟨l[p]'hc.1,by rw[← eL];exact hc.2,by rw[← fH hc.1,fA]⟩⟩
  ·obtain⟨i,hi,rfl⟩:=List.mem_iff_getElem.1 hx;rw[bB] at hi;rw[jG];have:=JQ h (show p<p+1+i by omega) (by omega);rw[hc.2] at this
   simpa [bn,aQ (show p+1+i<l.length by omega)] using this
  ·unfold wN;rw[← hp,ak hc,jI,ak hc.1]
 ·refine⟨l.take p,l.drop p,ht,fun x hx=>?_,?_,hRt,mM (List.drop_sublist _ _) h,.inl (by rw[fA])⟩
  ·obtain⟨i,hi,rfl⟩:=List.mem_iff_getElem.1 hx;rw[bB] at hi;rw[jG];have e:l[p+i]'(by omega)=l.getD (p+i) z70:=by simp[bn,aQ (show p+i<l.length by omega)]
   rw[e];have h0:=h2 p (aD _) (by omega);have h0':s.f0<(l.getD p z70).f0:=by
    rcases Int.lt_or_eq_of_le h0 with h5 | h5
    ·exact h5
    ·exact absurd ⟨by omega,h5.symm⟩ hc
   rcases fP i with h6 | h6
   ·rw[h6];exact h0'
   ·have:=JQ h (show p<p+i by omega) (by omega);omega
  ·unfold wN;rw[← hp,aK hc]
theorem Ry {a b:List qC}{s:qC}(ha:∀ x∈a,x.f0<s.f0)(hb:∀ x∈b,s.f0<x.f0)(h1:Rs a)(h2:Rs b):Rs (a++s::b):=by
 refine List.pairwise_append.2 ⟨h1,List.pairwise_cons.2 ⟨hb,h2⟩,fun x hx y hy=>?_⟩;rcases List.mem_cons.1 hy with rfl | hy
 ·exact ha x hx
 ·have:=ha x hx;have:=hb y hy;omega
theorem Pm {l:List qC}(h:Rs l)(s:qC):Rs (wN l s):=by
 obtain⟨a,b,ha,hb,he,h1,h2,_⟩:=Hw h s;rw[he];exact Ry ha hb h1 h2
theorem Vo {l:List qC}(h:Rs l)(s:qC)(v:Int):at_ v (wN l s)=if s.f0=v then [s] else at_ v l:=by
 obtain⟨a,b,ha,hb,he,h1,h2,hl⟩:=Hw h s;rw[he,xS,uP]
 by_cases hv:s.f0=v
 ·rw[ak hv,ak hv,Cm (fun x hx=>by have:=ha x hx;omega),Cm (fun x hx=>by have:=hb x hx;omega)];rfl
 ·rw[aK hv,aK hv];rcases hl with hl | ⟨y,hy,hl⟩
  ·rw[hl,xS]
  ·rw[hl,xS,uP,aK (by omega)]
def tY (l:List qC)(xs:List qC):List qC:=xs.foldl wN l
def tN (xs:List qC):List qC:=tY [] xs
theorem JC:∀ (xs l:List qC),Rs l→Rs (tY l xs)
 | [],_,h=>h
 | x::xs,l,h=>JC xs (wN l x) (Pm h x)
theorem JD (v:Int):∀ (xs l:List qC),Rs l→at_ v (tY l xs)=((at_ v l++at_ v xs).getLast?).toList∨(at_ v xs=[]∧at_ v (tY l xs)=at_ v l)
 | [],l,h => .inr ⟨rfl,rfl⟩
 | x::xs,l,h=>by
   have ih:=JD v xs (wN l x) (Pm h x);rw[Vo h] at ih;rw[uP];show at_ v (tY (wN l x) xs)=_∨_∧at_ v (tY (wN l x) xs)=_
   by_cases hv:x.f0=v
   ·rw[ak hv] at ih ⊢;refine .inl ?_;rcases ih with ih | ⟨h1,ih⟩
    ·rw[ih];simp[List.getLast?_append,List.getLast?_cons]
    ·rw[ih,h1];simp
   ·rw[aK hv] at ih ⊢;exact ih
theorem JR:Rs []:=List.Pairwise.nil
theorem Ea (xs:List qC):Rs (tN xs):=JC xs [] JR
theorem JA (v:Int)(xs:List qC):at_ v (tN xs)=((at_ v xs).getLast?).toList:=by
 rcases JD v xs [] JR with h | ⟨h1,h⟩
 ·exact h
 ·rw[tN,h,h1];rfl
theorem at_one {l:List qC}(h:Rs l)(v:Int):(at_ v l).length≤1:=by
 have hp:(at_ v l).Pairwise (fun x y=>x.f0<y.f0):=List.Pairwise.filter _ h
 match hm:at_ v l with
 | []=>exact bV _
 | [x]=>exact aD _
 | x::y::r=>
   rw[hm] at hp;have h1:=(List.pairwise_cons.1 hp).1 y (bK ..);have hx:x∈at_ v l:=by rw[hm];exact bK ..
   have hy:y∈at_ v l:=by rw[hm];exact dh _ (bK ..)
   have ex:=(List.mem_filter.1 hx).2;have ey:=(List.mem_filter.1 hy).2;simp at ex ey;omega
theorem MP {l:List qC}(h:Rs l):tN l=l:=Nk _ _ (Ea l) h (fun v=>by
 rw[JA];have:=at_one h v
 match hm:at_ v l with
 | []=>rfl
 | [x]=>rfl
 | x::y::r=>rw[hm] at this;simp at this)
theorem Ub {l:List qC}{s x:qC}(h:x∈wN l s):x=s∨x∈l:=by
 unfold wN at h;split at h
 ·rcases lu h with h | h
  ·exact .inr h
  ·exact .inl h
 ·rcases List.mem_append.1 h with h | h
  ·exact .inr (dO h)
  ·rcases List.mem_cons.1 h with h | h
   ·exact .inl h
   ·exact .inr (dU h)
theorem Hu (l:List qC)(s:qC):0<(wN l s).length∧(wN l s).length≤l.length+1:=by
 have:=Fw l s.f0 l.length;unfold wN;split
 ·rename_i h;rw[eZ];omega
 ·simp;omega
theorem zx {x:qC}:∀ (xs l:List qC),x∈tY l xs→x∈l∨x∈xs
 | [],_,h => .inl h
 | y::xs,l,h=>by
   rcases zx xs (wN l y) h with h | h
   ·rcases Ub h with h | h
    ·exact .inr (by rw[h];exact bK ..)
    ·exact .inl h
   ·exact .inr (dh _ h)
theorem Ca:∀ (xs l:List qC),(tY l xs).length≤l.length+xs.length
 | [],l=>aD _
 | x::xs,l=>by
   have h1:=Ca xs (wN l x);have h2:=(Hu l x).2;show (tY (wN l x) xs).length≤_;rw[bC];omega
theorem Ht:∀ (xs l:List qC),(l≠[]∨xs≠[])→tY l xs≠[]
 | [],l,h=>by
   rcases h with h | h
   ·exact h
   ·exact absurd rfl h
 | x::xs,l,h=>Ht xs (wN l x) (.inl (fun e=>by have:=(Hu l x).1;rw[e] at this;simp at this))
theorem OI (d:Array qC)(hs:uf EO d 0 d.size):∀ i,i≤d.size→Rs (cK d i)∧(∀ x∈cK d i,∃ j,j<i∧d[j]! = x)∧∀ v,at_ v (cK d i)=((at_ v (tC d 0 i)).head?).toList
 | 0,_=>⟨JR,(fun x h=>by cases h),fun v=>rfl⟩
 | i+1,hi=>by
   obtain⟨h1,h2,h3⟩:=OI d hs i (by omega);have hseg:tC d 0 (i+1)=tC d 0 i++[d[i]!]:=by rw[xP d (bV i) (mg i),KC]
   rw[cK]
   by_cases hc:i=0∨d[i]!.f0≠d[i-1]!.f0
   ·rw[ak hc];have hlt:∀ j,j<i→d[j]!.f0<d[i]!.f0:=fun j hj=>by
     have k1:EO d[i-1]! ≤ EO d[i]! := hs (i-1) i (bV _) (by omega) (by omega);have k2:EO d[j]! ≤ EO d[i-1]! := by
      rcases eH j (i-1) with k | k
      ·exact hs j (i-1) (bV _) k (by omega)
      ·rw[show j=i-1 from by omega];exact iR _
     have k3:d[i]!.f0≠d[i-1]!.f0:=by
      rcases hc with hc | hc
      ·omega
      ·exact hc
     unfold EO at k1 k2;omega
    refine⟨Ry (b:=[]) (fun x hx=>?_) (fun x hx=>by cases hx) h1 JR,fun x hx=>?_,fun v=>?_⟩
    ·obtain⟨j,hj,rfl⟩:=h2 x hx;exact hlt j hj
    ·rcases List.mem_append.1 hx with hx | hx
     ·obtain⟨j,hj,he⟩:=h2 x hx;exact⟨j,by omega,he⟩
     ·rw[gu] at hx;exact⟨i,by omega,hx.symm⟩
    ·rw[hseg,xS,xS,h3,uP]
     by_cases hv:d[i]!.f0=v
     ·rw[ak hv];have hn:at_ v (tC d 0 i)=[]:=Cm (fun x hx=>by
       obtain⟨t,_,ht,rfl⟩:=Az.1 hx;have:=hlt t ht;omega)
      rw[hn];rfl
     ·rw[aK hv];simp[at_]
   ·rw[aK hc];have hc1:0<i:=by rcases fP i with h | h;exact absurd (.inl h) hc;exact h
    have hc2:d[i]!.f0=d[i-1]!.f0:=Classical.not_not.1 (fun h=>hc (.inr h));refine⟨h1,fun x hx=>?_,fun v=>?_⟩
    ·obtain⟨j,hj,he⟩:=h2 x hx;exact⟨j,by omega,he⟩
    ·rw[h3,hseg,xS,uP]
     by_cases hv:d[i]!.f0=v
     ·have hm:d[i-1]! ∈ at_ v (tC d 0 i):=List.mem_filter.2 ⟨Az.2 ⟨i-1,bV _,by omega,rfl⟩,by simp;omega⟩
      match hs2:at_ v (tC d 0 i) with
      | []=>rw[hs2] at hm;cases hm
      | y::r=>rfl
     ·rw[aK hv];simp[at_]
theorem Oe (d d':Array qC)(hm:MG EO d.reverse 0 d.reverse.size d')(hs:uf EO d' 0 d'.size):cK d' d'.size=tN d.toList:=by
 obtain⟨h1,_,h3⟩:=OI d' hs d'.size (aD _);refine Nk _ _ h1 (Ea _) (fun v=>?_);rw[h3,JA];have e:=hm.2.2 v;rw[← hm.1] at e;rw[hm.1] at e;have e2:at_ v (tC d' 0 d'.size)=at_ v d.toList.reverse:=by
  have h4:=hm.2.2 v;rw[AZ,← hm.1,AZ] at h4;rw[AZ];have h5:at_ v d'.toList=at_ v d.reverse.toList:=h4;rw[h5,Array.toList_reverse]
 rw[e2];unfold at_;rw[List.filter_reverse,List.head?_reverse]
end Go.Proofs.Y.PA
namespace Go.Proofs.Y.PA
open Go.RowKit Go.Proofs.Y.G Go.Proofs.YW.o7 Go.Proofs.YW.pJ Go.Proofs.YW.pO
def xg (l:List qC):List Value:=l.flatMap qp
theorem yh (x:qC)(l:List qC):xg (x::l) = .int .i64 x.f0 :: .int .u64 x.f1::xg l:=rfl
theorem Ap:∀ (l:List qC),(xg l).length=l.length*2
 | []=>rfl
 | x::l=>by rw[yh,bC,bC,Ap l,bC];omega
theorem DI:∀ (l:List qC) (j:Nat),j<l.length*2→(xg l)[j]? = (qp (l.getD (j / 2) z70))[j % 2]?
 | [],j,h=>by simp at h
 | x::l,0,_=>rfl
 | x::l,1,_=>rfl
 | x::l,j+2,h=>by
   rw[yh,gW,gW,DI l j (by rw[bC] at h;omega),show (j+2) / 2=j / 2+1 from by omega,show (j+2) % 2=j % 2 from by omega];rfl
theorem SF (d:Array qC)(i:Nat):d.toList.getD i z70=d[i]! := by
 rw[bn,getElem!_def];simp only[jF];cases d[i]? <;> rfl
theorem LG (x:qC)(j:Nat)(h:j<2):(qp x)[j]? = some (qp x)[j]! := by
 rcases (show j=0∨j=1 from by omega) with rfl | rfl<;>rfl
theorem Vh {w:World}{base g cap:Nat}{l:List qC}(h:w.ownsRow base 70 2 (.slice (some ⟨g,0,none⟩) l.length cap) l.length (xg l))(h0:0<l.length):Go.Proofs.RowK qp 2 w g 0 l.toArray∧l.length≤cap∧cap≤maxLen∧base≤g∧∃ cur,w.heap[g]? = some (.cells cur 70 (0,0))∧cur.size=cap*2:=by
 rcases h.2 with ⟨_,h1⟩ | ⟨g',cap',cur,he,hb,hh,h1,h2,h3,h4⟩
 ·omega
 ·have he':g=g'∧cap=cap':=by simpa using he
  obtain⟨rfl,rfl⟩:=he';refine⟨⟨Sm,Gl,fun j hj=>?_,rE hh⟩,h1,h2,hb,cur,hh,h3⟩;rw[mZ] at hj;have hj':j<l.length*2:=by simpa using hj
  refine⟨?_,pE hh _⟩;rw[dX,pq hh,jA _ _ _ _ hj];have e1:cur[j]? = (xg l)[j]? := by
   rw[← h4,dH,ak hj'];simp
  rw[e1,DI l j hj',LG _ _ (iI _ (by omega))];have e2:l.getD (j / 2) z70=l.toArray[j / 2]! := by rw[← SF]
  rw[e2];rfl
theorem JF {w W:World}{g:Nat}{d:Array qC}(h:SWK qp 2 w g 0 d W)(hg:g<w.heap.size){cur:Array Value}(hh:w.heap[g]? = some (.cells cur 70 (0,0))) :
 w.grownBy W (some g)∧∃ cur',W.heap[g]? = some (.cells cur' 70 (0,0))∧cur'.size=cur.size:=by
 obtain⟨n,os,rfl⟩:=h;refine⟨⟨rfl,rfl,rfl,by unfold Go.Proofs.sortWorldK Sort.putRowK Sort.grow;simp[Sort.ahead],fun k hk hne=>?_⟩,?_⟩
 ·unfold Go.Proofs.sortWorldK Sort.putRowK;rw[lU _ _ (by simp;exact hk)];show (Sort.mapBlock _ g _).heap[k]? = _;unfold Sort.mapBlock;simp[jD,Sort.ahead];intro e;exact absurd (by rw[e]) hne
 ·unfold Go.Proofs.sortWorldK Sort.putRowK;rw[lU _ _ (by simp;exact hg)];show ∃ cur',(Sort.mapBlock _ g _).heap[g]? = _∧_;unfold Sort.mapBlock;have hh':(Sort.ahead w n).heap[g]? = some (.cells cur 70 (0,0)):=hh;refine⟨_,by rw[jD,ak rfl,hh'];rfl,?_⟩;simp[Sort.putCells]
theorem Ug {w W:World}{base g cap m:Nat}{d:Array qC}(h:SWK qp 2 w g 0 d W)(hg:g<w.heap.size){cur:Array Value}(hh:w.heap[g]? = some (.cells cur 70 (0,0)))(hc:cur.size=cap*2){d0:Array qC}(R:Go.Proofs.RowK qp 2 w g 0 d0)(hs:d.size=d0.size)(hb:base≤g)(hm:m≤d.size)(hd:d.size≤cap)(hx:cap≤maxLen) :
 W.ownsRow base 70 2 (.slice (some ⟨g,0,none⟩) m cap) m (xg (tC d 0 m)):=by
 obtain⟨_,cur',h1,h2⟩:=JF h hg hh;have hl:(tC d 0 m).length=m:=by rw[zw,kT]
 refine⟨by rw[Ap,hl],.inr ⟨g,cap,cur',rfl,hb,h1,by omega,hx,by omega,?_⟩⟩;apply iY;intro j
 by_cases hj:j<m*2
 ·have hH:=h.holds R.hblk R.hH hs;have hc2:=(hH j (by rw[mZ];omega)).1;rw[dX,pq h1,jA _ _ _ _ (by omega)] at hc2;rw[dH,ak hj,DI _ _ (by rw[hl];exact hj),LG _ _ (iI _ (by omega))];have e2:(tC d 0 m).getD (j / 2) z70=d[j / 2]! := by
   rw[bn];unfold tC;simp[show j / 2<m from by omega]
  rw[e2]
  simpa using hc2
 ·rw[dK (by rw[bG];omega),dK (by rw[Ap,hl];omega)]
theorem Nu.c (base g cap:Nat)(l:List qC)(w:World)(h:w.ownsRow base 70 2 (.slice (some ⟨g,0,none⟩) l.length cap) l.length (xg l))(h0:0<l.length)(hl:l.length≤1000000) :
 Calls Tryz.prog 73 #[.slice (some ⟨g,0,none⟩) l.length cap] w fun e w'=>e = .returned (.slice (some ⟨g,0,none⟩) (tN l).length cap)∧w'.ownsRow base 70 2 (.slice (some ⟨g,0,none⟩) (tN l).length cap) (tN l).length (xg (tN l))∧w.grownBy w' (some g):=by
 obtain⟨R,h1,h2,hb,cur,hh,hc⟩:=Vh h h0;have HR:=Yu R;have HH:=Yu (And.intro hh hc);have hsz:l.toArray.size=l.length:=by simp
 have C1:=Xa.c g 0 cap l.toArray w R (by rw[hsz];omega);rw[hsz] at C1;have HC1:=Yu C1;have HSZ:=Yu hsz;have HSR:oZ (l.toArray.reverse.size=l.length):=⟨by simp⟩;have HX:=Yu (show g<w.heap.size from R.hblk);have HCP:=Yu (And.intro h1 (And.intro h2 hb));have hl2:l.length<1152921504606846976:=by omega
 clear h hh hc R C1 hsz h1 h2 hb h0;generalize hn:l.length=n at *;have HN:=Yu hn;clear hn
 go_enter Tryz.func73,Tryz.ntmps73
 go_upto_region 2 with (first|(go_at_call 107;refine HC1.o.mono ?_;rintro _ w1 ⟨rfl,hS⟩;have S1:oZ (SWK qp 2 w g 0 l.toArray.reverse w1):=⟨hS⟩;clear hS))
 have hc2:=Ot.c 108 Lr EO UO Sb.enters Sb.lays g 0 cap l.toArray.reverse w1 (SWK.row S1.o HR.o (by rw[HSR.o,HSZ.o])) (by rw[HSR.o];exact hl2);rw[HSR.o] at hc2;have HC2:=Yu hc2;clear hc2
 go_upto_region 4 with (first|(go_at_call 109;refine HC2.o.mono ?_;rintro _ w2 ⟨rfl,d2,hS,hm,hs⟩;have S2:oZ (SWK qp 2 w1 g 0 d2 w2):=⟨hS⟩;have M2:=Yu (And.intro hm hs);clear hS hm hs))
 have HS2:oZ (d2.size=n):=⟨M2.o.1.1.trans HSR.o⟩;have S3:oZ (SWK qp 2 w g 0 d2 w2):=Yu (SWK.trans S1.o HX.o S2.o M2.o.1.1);have hc3:=Sc.c g 0 cap d2 w2 (SWK.row S3.o HR.o (by rw[HS2.o,HSZ.o])) (by rw[HS2.o];exact HCP.o.1) (by rw[HS2.o];exact hl2);have he:cK d2 d2.size=tN l:=by
  have:=Oe l.toArray d2 (by rw[HSR.o];exact M2.o.1) (by rw[HS2.o];exact M2.o.2);rw[this]
 rw[he,HS2.o] at hc3;have HC3:=Yu hc3;have HE:=Yu (show (tN l).length≤n from by rw[← he];exact bM (VQ d2 _) (by rw[HS2.o];exact aD _));clear hc3 he
 go_wp2_with (first|(go_at_call 110;refine HC3.o.mono ?_;rintro _ w3 ⟨rfl,d3,hS,hs3,hseg⟩;have S4:oZ (SWK qp 2 w2 g 0 d3 w3):=⟨hS⟩;have M4:=Yu (And.intro hs3 hseg);clear hS hs3 hseg))
 go_ret;have S5:=SWK.trans S3.o HX.o S4.o (M4.o.1.trans HS2.o.symm);refine⟨rfl,?_,(JF S5 HX.o HH.o.1).1⟩;have:=Ug S5 (base:=base) (m:=(tN l).length) (cap:=cap) HX.o HH.o.1 HH.o.2 HR.o (by rw[M4.o.1,HSZ.o]) HCP.o.2.2 (by rw[M4.o.1];exact HE.o) (by rw[M4.o.1];exact HCP.o.1) HCP.o.2.1;rw[M4.o.2] at this;exact this
def BJ (G:List qJ)(i:Nat)(t:List rW):List qJ:=G.take i++[⟨t,[]⟩]++G.drop i
def Ck (G:List qJ)(i:Nat)(ss:List qC):List qJ:=G.set i ⟨(pK G (i:Int)).f0,(pK G (i:Int)).f1++ss⟩
def yC (G:List qJ)(t:List rW):Bool:=decide (posB G t<G.length)&&decide (cmpL (pK G (posB G t:Int)).f0 t=0)
def uT (G:List qJ)(t:List rW):List qJ:=if yC G t=true then G else BJ G (posB G t) t
def stepG (G:List qJ)(s:qJ):List qJ:=if s.f1.length=0 then G else Ck (uT G s.f0) (posB G s.f0) s.f1
def qZ (l:List qJ):List qJ:=l.foldl stepG []
def joinL (l:List qJ):List qJ:=(qZ l).map (fun x=>⟨x.f0,tN x.f1⟩)
theorem CG (l:List qJ)(x:qJ):qZ (l++[x])=stepG (qZ l) x:=by simp[qZ,kG]
theorem qR {l:List qJ}{i:Nat}(h:i<l.length):pK l (i:Int)=l[i]:=by simp[pK,bn,aQ h]
theorem U1 {G:List qJ}{t:List rW}(h:yC G t=true):posB G t<G.length∧(pK G (posB G t:Int)).f0=t:=by
 unfold yC at h;rw[dx,j4,j4] at h;exact⟨h.1,(yc _ _).1 h.2⟩
theorem AU (G:List qJ)(t:List rW):posB G t<(uT G t).length∧(pK (uT G t) (posB G t:Int)).f0=t:=by
 unfold uT
 by_cases h:yC G t=true
 ·rw[ak h];exact U1 h
 ·rw[aK h];have hp:=AQ G t;have hl:posB G t<(BJ G (posB G t) t).length:=by unfold BJ;simp;omega
  refine⟨hl,?_⟩;rw[qR hl];unfold BJ at hl ⊢;rw[iM (by simp;omega),jm (by simp;omega)];simp
theorem PL {G:List qJ}(h:vE G){t:List rW}(hn:yC G t=false):vE (BJ G (posB G t) t):=by
 have hp:=AQ G t;have hgt:∀ i,posB G t≤i→(hi:i<G.length)→cmpL t G[i].f0<0:=fun i h1 hi=>by
  have h0:=Fu G t (by omega);have h2:cmpL (pK G (posB G t:Int)).f0 t≠0:=fun e=>by
   unfold yC at hn;rw[e] at hn;simp at hn;omega
  have h3:cmpL t (pK G (posB G t:Int)).f0<0:=by rw[yV];omega
  rcases lM h1 with h4 | h4
  ·have h5:=FU h h4 hi;rw[qR hi] at h5;exact BF _ _ _ h3 h5
  ·rw[← qR hi,← h4];exact h3
 unfold BJ;unfold vE at h ⊢;have hh:=h;rw[← fA (posB G t) G] at hh;obtain⟨p1,p2,p3⟩:=List.pairwise_append.1 hh;refine List.pairwise_append.2 ⟨List.pairwise_append.2 ⟨p1,lZ _ _,fun a ha b hb=>?_⟩,p2,fun a ha b hb=>?_⟩
 ·rw[gu] at hb;subst hb;obtain⟨i,hi,rfl⟩:=List.mem_iff_getElem.1 ha;rw[bG] at hi;rw[kF];have:=Fv G t i (by omega);rw[qR (by omega)] at this;exact this
 ·rcases List.mem_append.1 ha with ha | ha
  ·exact p3 a ha b hb
  ·rw[gu] at ha;subst ha;obtain⟨i,hi,rfl⟩:=List.mem_iff_getElem.1 hb;rw[bB] at hi;rw[jG];exact hgt _ (by omega) (by omega)
theorem IY {G:List qJ}(h:vE G)(t:List rW):vE (uT G t):=by
 unfold uT
 by_cases hh:yC G t=true
 ·rw[ak hh];exact h
 ·rw[aK hh];exact PL h (by simpa using hh)
theorem FV {G H:List qJ}(h:vE G)(he:H.map (·.f0)=G.map (·.f0)):vE H:=by
 have h1:(G.map (·.f0)).Pairwise (fun a b=>cmpL a b<0):=List.pairwise_map.2 h;rw[← he] at h1;exact List.pairwise_map.1 h1
theorem UJ (G:List qJ)(i:Nat)(ss:List qC):(Ck G i ss).map (·.f0)=G.map (·.f0):=by
 unfold Ck;rw[kL];apply iE
 ·simp
 ·intro j h1 h2;rw[mF];split
  ·rename_i hij;subst hij;simp at h2 ⊢;rw[qR h2]
  ·rfl
theorem FW {G:List qJ}(h:vE G)(s:qJ):vE (stepG G s):=by
 unfold stepG;split
 ·exact h
 ·exact FV (IY h s.f0) (UJ _ _ _)
theorem K4:vE []:=List.Pairwise.nil
theorem IW:∀ (l G:List qJ),vE G→vE (l.foldl stepG G)
 | [],_,h=>h
 | x::l,G,h=>IW l _ (FW h x)
theorem zM (l:List qJ):vE (qZ l):=IW l [] K4
theorem Dt (l:List qJ):vE (joinL l):=FV (zM l) (by unfold joinL;rw[nX];rfl)
theorem TB (G:List qJ)(t:List rW):(uT G t).length≤G.length+1:=by
 unfold uT BJ;split
 ·omega
 ·simp;omega
theorem QS (G:List qJ)(s:qJ):(stepG G s).length≤G.length+1:=by
 unfold stepG;split
 ·omega
 ·unfold Ck;rw[eZ];exact TB G s.f0
theorem G9 {G:List qJ}{t:List rW}{x:qJ}(h:x∈uT G t):x∈G∨x=⟨t,[]⟩:=by
 unfold uT at h;split at h
 ·exact .inl h
 ·unfold BJ at h;rcases List.mem_append.1 h with h | h
  ·rcases List.mem_append.1 h with h | h
   ·exact .inl (dO h)
   ·exact .inr (by simpa using h)
  ·exact .inl (dU h)
theorem Oa (G:List qJ)(t:List rW)(j:Nat)(hj:j<(uT G t).length)(hne:posB G t≠j):(uT G t)[j]∈G:=by
 have hp:=AQ G t;unfold uT at hj ⊢
 by_cases hh:yC G t=true
 ·simp only[ak hh] at hj ⊢;exact eF hj
 ·simp only[aK hh] at hj ⊢;unfold BJ at hj ⊢;rcases eH j (posB G t) with h | h
  ·rw[iM (by simp;omega),iM (by simp;omega),kF];exact eF _
  ·rw[jm (by simp;omega),jG];exact eF _
theorem JE {P:qJ→Prop}{G:List qJ}{s:qJ}(h:∀ x∈G,P x)(h0:s.f1.length≠0→P ⟨s.f0,s.f1⟩)(h1:s.f1.length≠0→∀ x∈G,x.f0=s.f0→P ⟨s.f0,x.f1++s.f1⟩):∀ x∈stepG G s,P x:=by
 intro x hx;unfold stepG at hx;split at hx
 ·exact h x hx
 ·rename_i hs;obtain⟨hp,hf⟩:=AU G s.f0;obtain⟨j,hj,rfl⟩:=List.mem_iff_getElem.1 hx;have hj':j<(uT G s.f0).length:=by unfold Ck at hj;rw[eZ] at hj;exact hj
  clear hx;unfold Ck at hj ⊢;rw[mF];split
  ·rename_i hij;have hm:pK (uT G s.f0) (posB G s.f0:Int)∈uT G s.f0:=by rw[qR hp];exact eF hp
   rcases G9 hm with hm | hm
   ·rw[hf];exact h1 hs _ hm hf
   ·rw[hf,hm];exact h0 hs
  ·rename_i hij;exact h _ (Oa G s.f0 j hj' hij)
theorem Cx {P:qJ→Prop}:∀ (l G:List qJ),(∀ x∈G,P x)→(∀ s∈l,s.f1.length≠0→P ⟨s.f0,s.f1⟩)→(∀ s∈l,s.f1.length≠0→∀ a,P ⟨s.f0,a⟩→P ⟨s.f0,a++s.f1⟩)→∀ x∈l.foldl stepG G,P x
 | [],_,h,_,_=>h
 | s::l,G,h,h0,h1=>Cx l _ (JE h (fun hs=>h0 s (bK ..) hs) (fun hs x hx hf=>by
    have:=h1 s (bK ..) hs x.f1;rw[← hf] at this ⊢;exact this (h x hx))) (fun x hx=>h0 x (dh _ hx)) (fun x hx=>h1 x (dh _ hx))
theorem Gz (l:List qJ):∀ x∈qZ l,x.f1.length≠0:=Cx (P:=fun x=>x.f1.length≠0) l [] (fun x hx=>by cases hx) (fun s _ hs=>hs) (fun s _ hs a ha=>by show (a++s.f1).length≠0;rw[bg];omega)
theorem BH (l:List qJ):∀ x∈qZ l,∃ s∈l,x.f0=s.f0:=Cx (P:=fun x=>∃ s∈l,x.f0=s.f0) l [] (fun x hx=>by cases hx) (fun s hs _=>⟨s,hs,rfl⟩) (fun s hs _ a ha=>ha)
theorem BI (l:List qJ):∀ x∈qZ l,∀ q∈x.f1,∃ s∈l,q∈s.f1:=Cx (P:=fun x=>∀ q∈x.f1,∃ s∈l,q∈s.f1) l [] (fun x hx=>by cases hx) (fun s hs _ q hq=>⟨s,hs,hq⟩) (fun s hs _ a ha q hq=>by
 rcases List.mem_append.1 hq with hq | hq
 ·exact ha q hq
 ·exact⟨s,hs,hq⟩)
def tot:List qJ→Nat
 | []=>0
 | x::l=>x.f1.length+tot l
theorem Aa:∀ (l:List qJ) (x:qJ),tot (l++[x])=tot l+x.f1.length
 | [],x=>by simp[tot]
 | y::l,x=>by rw[gI,tot,tot,Aa l x];omega
theorem z8 (l:List qJ):∀ k,tot (l.take k)≤tot l:=by
 induction l with
 | nil=>intro k;simp
 | cons x l ih=>
   intro k;cases k with
   | zero=>simp[tot]
   | succ k=>rw[jU,tot,tot];have:=ih k;omega
theorem zk (l:List qJ):∀ k,k≤l.length→(qZ (l.take k)).length≤k∧∀ x∈qZ (l.take k),x.f1.length≤tot (l.take k)
 | 0,_=>by simp[qZ]
 | k+1,hk=>by
   obtain⟨h1,h2⟩:=zk l k (by omega);rw[cZ hk,CG,Aa];refine⟨bM (QS _ _) (by omega),JE (fun x hx=>by have:=h2 x hx;omega) (fun _=>by show l[k].f1.length≤_;omega) (fun _ x hx _=>by show (x.f1++l[k].f1).length≤_;rw[bg];have:=h2 x hx;omega)⟩
theorem zS (l:List qJ):(qZ l).length≤l.length∧∀ x∈qZ l,x.f1.length≤tot l:=by
 have:=zk l l.length (aD _);rwa [dW] at this
end Go.Proofs.Y.PA
