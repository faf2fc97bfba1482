/- Of the law rZIQDumpBack. -/
import Derived.Test.YtcgbgifbajdhpaaGreatDoorZI9
import Derived.Test.YtcgbgifbajdhpaaGreatDoorZI29
import Derived.Test.YtcgbgifbajdhpaaGreatDoorZI28
import Derived.Test.YtcgbgifbajdhpaaGreatDoorZI26
import Derived.Test.YtcgbgifbajdhpaaGreatDoorZI16
set_option linter.unusedVariables false
set_option linter.unusedSimpArgs false
set_option maxHeartbeats 2000000
set_option maxRecDepth 100000
namespace Go
abbrev iP:=@Nat.lt_of_le_of_lt
abbrev jX:=@Nat.add_sub_cancel_left
abbrev mP:=@List.replicate_append_replicate
abbrev mW:=@Nat.div_le_self
abbrev mX:=@Nat.and_two_pow_sub_one_eq_mod
abbrev nL:=@Nat.testBit_two_pow_sub_one
end Go
namespace Go.Proofs.Y.PA
open Go.RowKit Go.Proofs.Y.G Go.Proofs.YW.o7 Go.Proofs.YW.pJ Go.Proofs.YW.pO
attribute [local instance 10] Classical.propDecidable
theorem Yr (i:Nat):Int.tdiv (i:Int) 8=((i / 8:Nat):Int):=rfl
theorem Yt (i:Nat):Int.tmod (i:Int) 8=((i % 8:Nat):Int):=rfl
theorem Ra {n:Nat}(h:n≤9000000000000000000):wrap64 (n:Int)=(n:Int):=yM (by omega) (by omega)
theorem Ob (l:List Int)(i:Nat):rd l (i:Int)=l.getD i 0:=by unfold rd;rw[bf]
theorem X4 {l:List Int}(hl:JL l)(i:Nat):(Go.bits .and .u8 (rd l ((i / 8:Nat):Int)) (shr .u8 128 ((i % 8:Nat):Int)) != 0)=bit l i:=by
 rw[Ob];have hb:=hl.at (i / 8);have hs:shr .u8 128 ((i % 8:Nat):Int)=((2 ^ (7-i % 8):Nat):Int):=by
  have:i % 8<8:=iI _ (by decide);generalize i % 8=j at this;have hj:j=0∨j=1∨j=2∨j=3∨j=4∨j=5∨j=6∨j=7:=by omega
  rcases hj with h | h | h | h | h | h | h | h<;>subst h<;>decide
 have hp:2 ^ (7-i % 8)<256:=iP (eT (by decide) (show 7-i % 8≤7 by omega)) (by decide);rw[hs,u8_and _ _ hb.1 hb.2 (gT _) (show ((2 ^ (7-i % 8):Nat):Int)<((256:Nat):Int) from Int.ofNat_lt.2 hp),bf,nat_bit];unfold bit;generalize (l.getD (i / 8) 0).toNat=x;rw[Nat.testBit_eq_decide_div_mod_eq];have h2:x / 2 ^ (7-i % 8) % 2=0∨x / 2 ^ (7-i % 8) % 2=1:=by omega
 rcases h2 with h2 | h2
 ·rw[h2];simp
 ·rw[h2];have:(0:Nat)<2 ^ (7-i % 8):=iJ _;have h3:=oU this;simp
  exact_mod_cast h3
theorem Qs (x t:Nat):(x &&& (2 ^ t-1)=0)↔∀ j,j<t→x.testBit j=false:=by
 constructor
 ·intro h j hj;have:(x &&& (2 ^ t-1)).testBit j=false:=by rw[h];exact Nat.zero_testBit j
  rw[Nat.testBit_and,nL] at this
  simpa [hj] using this
 ·intro h;apply Nat.eq_of_testBit_eq;intro j;rw[Nat.testBit_and,nL,Nat.zero_testBit]
  by_cases hj:j<t
  ·rw[h j hj];rfl
  ·simp[hj]
theorem J4 {l:List Int}(hl:JL l)(hlen:l.length≤1000000000)(N:Int)(h1 : -9223372036854775808≤N)(h2:N≤9223372036854775807) :
 qX.f l N=some (decide (0≤N∧xY l N.toNat)):=by
 unfold qX.f;have e0:wrap64 (8*(l.length:Int))=((8*l.length:Nat):Int):=by rw[show (8*(l.length:Int))=((8*l.length:Nat):Int) by omega];exact Ra (by omega)
 rw[e0]
 by_cases c1:N<0
 ·rw[ak c1,aN (by intro h;omega)]
 rw[aK c1];obtain⟨n,rfl⟩:=dA (by omega:0≤N);rw[bf]
 by_cases c2:(n:Int)>((8*l.length:Nat):Int)
 ·rw[ak c2,aN (by intro h;have:=h.2.le;omega)]
 rw[aK c2];have e1:wrap64 (((8*l.length:Nat):Int)-(n:Int))=((8*l.length-n:Nat):Int):=by rw[show (((8*l.length:Nat):Int)-(n:Int))=((8*l.length-n:Nat):Int) by omega];exact Ra (by omega)
 rw[e1]
 by_cases c3:((8*l.length-n:Nat):Int)>7
 ·rw[ak c3,aN (by intro h;have:=h.2.near;omega)]
 rw[aK c3]
 by_cases c4:((8*l.length-n:Nat):Int)=0
 ·rw[ak c4,aM ⟨by omega,hl,by omega,by omega,by intro i h1 h2;omega⟩]
 rw[aK c4];have e2:wrap64 ((l.length:Int)-1)=((l.length-1:Nat):Int):=by rw[show ((l.length:Int)-1)=((l.length-1:Nat):Int) by omega];exact Ra (by omega)
 rw[e2,ak (by omega),ak (by omega),ak (by omega),Ob];have hb:=hl.at (l.length-1);have ht:8*l.length-n<8:=by omega
 have hs:(shl .u8 1 ((8*l.length-n:Nat):Int)-1) % 256=((2 ^ (8*l.length-n)-1:Nat):Int):=by
  generalize 8*l.length-n=j at ht;have hj:j=0∨j=1∨j=2∨j=3∨j=4∨j=5∨j=6∨j=7:=by omega
  rcases hj with h | h | h | h | h | h | h | h<;>subst h<;>decide +kernel
 have hp:2 ^ (8*l.length-n)≤128:=bM (eT (n:=2) (by decide) (show 8*l.length-n≤7 by omega)) (by decide);rw[hs,u8_and _ _ hb.1 hb.2 (by omega) (by omega),bf];congr 1;have key:((l.getD (l.length-1) 0).toNat &&& (2 ^ (8*l.length-n)-1)=0)↔(0≤(n:Int)∧xY l n):=by
  rw[Qs];constructor
  ·intro h;refine⟨by omega,hl,by omega,by omega,?_⟩;intro i hi1 hi2;unfold bit;rw[show i / 8=l.length-1 by omega];exact h _ (by omega)
  ·intro h j hj;have:=h.2.tail (8*l.length-1-j) (by omega) (by omega);unfold bit at this;rw[show (8*l.length-1-j) / 8=l.length-1 by omega,show 7-(8*l.length-1-j) % 8=j by omega] at this;exact this
 by_cases h:0≤(n:Int)∧xY l n
 ·rw[aM h,key.2 h];rfl
 ·rw[aN h];have:=mt key.1 h;simp only[beq_eq_false_iff_ne,ne_eq];omega
theorem XU (T:Nat)(h:T≤8):IntKind.u64.wrap (shl .u64 1 (T:Int)-1)=((2 ^ T-1:Nat):Int):=by
 have hj:T=0∨T=1∨T=2∨T=3∨T=4∨T=5∨T=6∨T=7∨T=8:=by omega
 rcases hj with h | h | h | h | h | h | h | h | h<;>subst h<;>decide +kernel
theorem Pn (k:IntKind)(x j:Nat)(hj:j≤k.bits):shr k (x:Int) (j:Int)=((x / 2 ^ j:Nat):Int):=by
 unfold shr;rw[bf,dY hj]
 push_cast
 rfl
theorem Xk {x:Nat}(h:x<256):IntKind.u8.wrap (x:Int)=(x:Int):=by rw[IntKind.wrap_u8'];omega
theorem KE {x:Nat}(h:x<18446744073709551616):IntKind.u64.wrap (x:Int)=(x:Int):=by simp[IntKind.wrap,IntKind.bits,IntKind.signed];omega
theorem NU (x T:Nat)(h:T≤8):x % 2 ^ T<256:=d9 (iI _ (iJ _)) (bM (eT (n:=2) (by decide) h) (by decide))
theorem FX (n c:Nat):JU (n:Int) (c:Int)=((min c (8-n % 8):Nat):Int):=by
 unfold JU;split<;>omega
theorem RG (n v c:Nat)(hv:v<18446744073709551616)(hc:c≤64):RF (n:Int) (v:Int) (c:Int)=((v / 2 ^ (c-min c (8-n % 8)) % 2 ^ (min c (8-n % 8)):Nat):Int):=by
 unfold RF;rw[FX];generalize hT:min c (8-n % 8)=T;have hT8:T≤8:=by omega
 have hd:v / 2 ^ (c-T)≤v:=mW _ _;rw[show ((c:Int)-(T:Int))=((c-T:Nat):Int) by omega,Pn _ _ _ (by simp[IntKind.bits];omega),XU T hT8,u64_and _ _ (gT _) (by omega) (gT _) ?_,bf,bf,mX]
 ·have:=NU (v / 2 ^ (c-T)) T hT8;omega
 ·have:2 ^ T≤256:=bM (eT (n:=2) (by decide) hT8) (by decide);omega
theorem RH {l:List Int}{n:Nat}(h:xY l n)(v c:Nat)(hv:v<18446744073709551616)(hc0:0<c)(hc:c≤64) :
 UK l (n:Int) (v:Int) (c:Int)=BP (yN l n) (n / 8) ((v / 2 ^ (c-min c (8-n % 8)) % 2 ^ (min c (8-n % 8)))*2 ^ (8-n % 8-min c (8-n % 8))):=by
 have e:yS l (n:Int)=yN l n:=by
  unfold yS yN
  by_cases h0:n % 8=0
  ·rw[ak h0,ak (by omega)]
  ·rw[aK h0,aK (by omega)]
 unfold UK BP;rw[e,FY h,lI];congr 1;have aeZ:JL (yN l n):=by
  unfold yN;split
  ·intro x hx;rcases List.mem_append.1 hx with hx | hx
   ·exact h.bytes x hx
   ·simp at hx;subst hx;decide
  ·exact h.bytes
 have hb:=aeZ.at (n / 8);generalize (yN l n).getD (n / 8) 0=b at hb;unfold RD;rw[RG n v c hv hc,FX];generalize hT:min c (8-n % 8)=T;have hT8:T≤8-n % 8:=by omega
 have hX:=iI (v / 2 ^ (c-T)) (iJ T);generalize v / 2 ^ (c-T) % 2 ^ T=X at hX;have hXs:X*2 ^ (8-n % 8-T)<256:=by
  calc X*2 ^ (8-n % 8-T)<2 ^ T*2 ^ (8-n % 8-T):=nK hX (iJ _)
   _=2 ^ (T+(8-n % 8-T)):=(oD _ _ _).symm
   _≤2 ^ 8:=eT (by decide) (by omega)
   _=256:=by decide
 have hs:shl .u8 (X:Int) (8-(n:Int) % 8-(T:Int))=((X*2 ^ (8-n % 8-T):Nat):Int):=by
  unfold shl;rw[show (8-(n:Int) % 8-(T:Int))=((8-n % 8-T:Nat):Int) by omega,bf,dY (by simp[IntKind.bits];omega)];rw[← Xk hXs];congr 1
 rw[hs,u8_or _ _ hb.1 hb.2 (gT _) (by omega),bf]
theorem FZ (v:Nat)(hv:v<18446744073709551616):∀ (c k n:Nat) (l:List Int),xY l n→c≤64→c<k→l.length+c<1000000000 →
 ∃ l',rP.l0 k l (n:Int) (v:Int) (c:Int)=some (l',((n+c:Nat):Int))∧xY l' (n+c)∧Bs l' (n+c)=Bs l n++low v c:=by
 intro c
 induction c using Nat.strongRecOn with
 | ind c ih=>
   intro k n l h hc hk hl;obtain⟨k,rfl⟩:∃ k',k=k'+1:=⟨k-1,by omega⟩;have hle:=h.le;have hnr:=h.near;rw[rP.l0]
   by_cases h0:c=0
   ·subst h0;rw[ak (by omega)];exact⟨l,rfl,h,by simp[low]⟩
   ·rw[aK (by omega),ak ⟨by omega,by omega,by omega,by omega,by omega⟩,RH h v c hv (by omega) hc,FX];generalize hT:min c (8-n % 8)=T;have hs:=MC (X:=v / 2 ^ (c-T) % 2 ^ T) h (show 0<T by omega) (by omega) (iI _ (iJ T));have hlen:(BP (yN l n) (n / 8) (v / 2 ^ (c-T) % 2 ^ T*2 ^ (8-n % 8-T))).length=n / 8+1:=by unfold BP;rw[eZ,FY h]
    generalize BP (yN l n) (n / 8) (v / 2 ^ (c-T) % 2 ^ T*2 ^ (8-n % 8-T))=l1 at hs hlen;obtain⟨l',h1,h2,h3⟩:=ih (c-T) (by omega) k (n+T) l1 hs.1 (by omega) (by omega) (by omega);rw[show n+T+(c-T)=n+c by omega] at h1 h2 h3;refine⟨l',?_,h2,?_⟩
    ·rw[show ((n:Int)+(T:Int))=((n+T:Nat):Int) by omega,show ((c:Int)-(T:Int))=((c-T:Nat):Int) by omega];exact h1
    ·rw[h3,hs.2,bH,← DX v c T (by omega)]
attribute [local instance 10] Classical.propDecidable
theorem CW (L:List Bool)(h:L.length≤64):num L<18446744073709551616:=
 d9 (Kq L) (bM (eT (n:=2) (by decide) h) (by decide))
theorem XP (T:Nat)(h:T≤8):((shl .u8 1 (T:Int)-1) % 256)=((2 ^ T-1:Nat):Int):=by
 have hj:T=0∨T=1∨T=2∨T=3∨T=4∨T=5∨T=6∨T=7∨T=8:=by omega
 rcases hj with h | h | h | h | h | h | h | h | h<;>subst h<;>decide +kernel
theorem OC {a b:Nat}(h:b≤a)(ha:a<9000000000000000000):wrap64 ((a:Int)-(b:Int))=((a-b:Nat):Int):=by
 rw[show ((a:Int)-(b:Int))=((a-b:Nat):Int) by omega];exact Ra (by omega)
theorem OB {a b:Nat}(ha:a+b<9000000000000000000):wrap64 ((a:Int)+(b:Int))=((a+b:Nat):Int):=by
 rw[show ((a:Int)+(b:Int))=((a+b:Nat):Int) by omega];exact Ra (by omega)
theorem XW {k p c T x:Nat}{l:List Int}{N:Int}(hT:min c (8-p % 8)=T)(hT9:T≤8-p % 8)(hTc:T≤c)(hpT:p+T<9000000000000000000)(hp8:p / 8<l.length)(ajn:c<9000000000000000000) :
 (if 0≤(mn (wrap64 (8-(Int.tmod (p:Int) 8))) (c:Int)) then (if 0≤(wrap64 (Int.tdiv (p:Int) 8)) then (if (wrap64 (Int.tdiv (p:Int) 8))<(l.length:Int) then (if 0≤(wrap64 ((wrap64 (8-(Int.tmod (p:Int) 8)))-(mn (wrap64 (8-(Int.tmod (p:Int) 8))) (c:Int)))) then (p8.l0 k (wrap64 ((p:Int)+(mn (wrap64 (8-(Int.tmod (p:Int) 8))) (c:Int)))) (wrap64 ((c:Int)-(mn (wrap64 (8-(Int.tmod (p:Int) 8))) (c:Int)))) (Go.bits .or .u64 (shl .u64 (x:Int) (mn (wrap64 (8-(Int.tmod (p:Int) 8))) (c:Int))) (IntKind.u64.wrap (Go.bits .and .u8 (shr .u8 (rd l (wrap64 (Int.tdiv (p:Int) 8))) (wrap64 ((wrap64 (8-(Int.tmod (p:Int) 8)))-(mn (wrap64 (8-(Int.tmod (p:Int) 8))) (c:Int))))) (((shl .u8 1 (mn (wrap64 (8-(Int.tmod (p:Int) 8))) (c:Int)))-1) % 256)))) l N) else (none)) else (none)) else (none)) else (none)) =
 p8.l0 k ((p+T:Nat):Int) ((c-T:Nat):Int) (Go.bits .or .u64 (shl .u64 (x:Int) (T:Int)) (IntKind.u64.wrap (Go.bits .and .u8 (shr .u8 (rd l ((p / 8:Nat):Int)) ((8-p % 8-T:Nat):Int)) ((shl .u8 1 (T:Int)-1) % 256)))) l N:=by
 have e1:wrap64 (8-Int.tmod (p:Int) 8)=((8-p % 8:Nat):Int):=by
  rw[Yt];exact OC (a:=8) (lH (iI p (by decide))) (by decide)
 have e2:mn ((8-p % 8:Nat):Int) (c:Int)=(T:Int):=by
  clear e1;unfold mn;split<;>omega
 have e3:wrap64 (Int.tdiv (p:Int) 8)=((p / 8:Nat):Int):=by
  clear e1 e2;rw[Yr];exact Ra (by omega)
 have e4:wrap64 (((8-p % 8:Nat):Int)-(T:Int))=((8-p % 8-T:Nat):Int):=OC hT9 (by clear e1 e2 e3;omega);have e5:wrap64 ((p:Int)+(T:Int))=((p+T:Nat):Int):=OB hpT;have e6:wrap64 ((c:Int)-(T:Int))=((c-T:Nat):Int):=by
  clear e1 e2 e3 e4 e5;exact OC hTc ajn
 rw[e1,e2,e3,e4,e5,e6];clear e1 e2 e3 e4 e5 e6;rw[ak (by omega),ak (by omega),ak (by omega),ak (by omega)]
theorem Np {l:List Int}(hl:JL l)(hlen:l.length<1000000000)(N:Int):∀ (c p k x:Nat),p+c≤8*l.length→c≤64→c<k→x*2 ^ c+num (win l p c)<18446744073709551616 →
 p8.l0 k (p:Int) (c:Int) (x:Int) l N=some (((x*2 ^ c+num (win l p c):Nat):Int),0):=by
 intro c
 induction c using Nat.strongRecOn with
 | ind c ih=>
   intro p k x hp hc hk hx;have HX:=Yu hx;clear hx;obtain⟨k,rfl⟩:∃ k',k=k'+1:=⟨k-1,by omega⟩;rw[p8.l0]
   by_cases h0:c=0
   ·subst h0;rw[aK (by omega)];simp[win,num]
   ·rw[ak (by omega)];obtain⟨T,hT⟩:∃ T,min c (8-p % 8)=T:=⟨_,rfl⟩;have hT8:T≤8:=by omega
    have hT9:T≤8-p % 8:=by omega
    have hTc:T≤c:=by omega
    have hT0:0<T:=by omega
    have hp8:p / 8<l.length:=by omega
    have hb:=hl.at (p / 8);have hb256:(l.getD (p / 8) 0).toNat<256:=by omega
    have hpT:p+T<9000000000000000000:=by omega
    have ajo:p+T+(c-T)≤8*l.length:=by omega
    have hc2:c-T≤64:=by omega
    have hk2:c-T<k:=by omega
    have hlt2:c-T<c:=by omega
    have hwl:(win l p T).length≤64:=by rw[win_length];omega
    have hbb:(l.getD (p / 8) 0)=(((l.getD (p / 8) 0).toNat:Nat):Int):=by omega
    have hTm:((shl .u8 1 (T:Int)-1) % 256)=((2 ^ T-1:Nat):Int):=by
     exact XP T hT8
    have h2T:2 ^ T≤256:=bM (eT (n:=2) (by decide) hT8) (by decide);have hdl:(l.getD (p / 8) 0).toNat / 2 ^ (8-p % 8-T)<256:=iP (mW _ _) hb256;have ahQ:8-p % 8-T≤IntKind.u8.bits:=by simp[IntKind.bits];omega
    have ahR:2 ^ T-1<256:=by omega
    have e7:IntKind.u64.wrap (Go.bits .and .u8 (shr .u8 (rd l ((p / 8:Nat):Int)) ((8-p % 8-T:Nat):Int)) ((shl .u8 1 (T:Int)-1) % 256))=((num (win l p T):Nat):Int):=by
     rw[Ob,hbb,hTm,Pn _ _ _ ahQ,u8_and _ _ (gT _) (Int.ofNat_lt.2 hdl) (gT _) (Int.ofNat_lt.2 ahR),bf,bf,mX,← QZ l p T hb256 hT9];apply KE;exact CW _ hwl
    clear hdl h2T ahR;have hsum:x*2 ^ c+num (win l p c)=(x*2 ^ T+num (win l p T))*2 ^ (c-T)+num (win l (p+T) (c-T)):=by
     rw[JI l p c T (by omega),BM,win_length,iD,oP,← oD,show T+(c-T)=c by omega];omega
    rw[hsum];have hx:=HX.o;rw[hsum] at hx;clear HX hsum;have hnT:num (win l p T)<2 ^ T:=by have:=Kq (win l p T);rwa [win_length] at this
    have hle:x*2 ^ T+num (win l p T)≤(x*2 ^ T+num (win l p T))*2 ^ (c-T):=fT _ (iJ _);have hxT:x*2 ^ T<18446744073709551616:=iP (bM (Nat.le_add_right _ _) (bM hle (Nat.le_add_right _ _))) hx;have HX:=Yu hx;clear hx hle;have hnm:num (win l p T)<18446744073709551616:=CW _ hwl;have e8:shl .u64 (x:Int) (T:Int)=((x*2 ^ T:Nat):Int):=by
     unfold shl;rw[bf,dY (by simp[IntKind.bits];omega),← KE hxT,lg,Int.natCast_pow];rfl
    have e9:Go.bits .or .u64 ((x*2 ^ T:Nat):Int) ((num (win l p T):Nat):Int)=((x*2 ^ T+num (win l p T):Nat):Int):=by
     rw[u64_or _ _ (gT _) (Int.ofNat_lt.2 hxT) (gT _) (Int.ofNat_lt.2 hnm),bf,bf,nat_join T _ _ (Nat.mul_mod_left _ _) hnT]
    rw[XW (p:=p) (c:=c) (T:=T) hT hT9 hTc hpT hp8 (iP hc (by decide)),e7,e8,e9];exact ih (c-T) hlt2 (p+T) k _ ajo hc2 hk2 HX.o
noncomputable def zZ (l:List Int)(N p c:Int):Int × Int:=
 if ¬ (0≤N∧xY l N.toNat)∨c<0∨64<c∨p<0∨N<p then (0,1) else if N-p<c then (0,3) else ((num (win l p.toNat c.toNat):Nat),0)
theorem Lc {l:List Int}(hl:JL l)(hlen:l.length<1000000000)(N p c:Int)(h1 : -9223372036854775808≤N)(h2:N≤9223372036854775807)(k:Nat)(hk:70<k):p8.f k l N p c=some (zZ l N p c):=by
 unfold p8.f zZ;obtain⟨k,rfl⟩:∃ k',k=k'+1:=⟨k-1,by omega⟩;rw[J4 hl (by omega) N h1 h2,dS]
 by_cases hV:0≤N∧xY l N.toNat
 ·rw[aM hV,ak rfl]
  by_cases c1:c<0
  ·rw[ak c1,ak (by omega),p8.j0,ak rfl]
  rw[aK c1]
  by_cases c2:c>64
  ·rw[ak c2,ak (by omega),p8.j0,ak rfl]
  rw[aK c2]
  by_cases c3:p<0
  ·rw[ak c3,ak (by omega),p8.j0,ak rfl]
  rw[aK c3]
  by_cases c4:p>N
  ·rw[aM c4,ak (by omega),p8.j0,ak rfl]
  rw[aN c4,p8.j0,aK (by decide)];have hle:=hV.2.le;have hnb:¬ (¬ (0≤N∧xY l N.toNat)∨c<0∨64<c∨p<0∨N<p):=by intro h;rcases h with h | h | h | h | h;exact h hV;all_goals omega
  rw[aK hnb,show wrap64 (N-p)=N-p from yM (by omega) (by omega)]
  by_cases c5:N-p<c
  ·rw[ak c5,ak c5]
  rw[aK c5,aK c5];obtain⟨q,rfl⟩:=dA (by omega:0≤p);obtain⟨d,rfl⟩:=dA (by omega:0≤c);rw[bf,bf];have:=Np hl hlen N d q k 0 (by omega) (by omega) (by omega) (by rw[iF,dX];exact CW _ (by simp;omega));rw[iF,dX] at this;exact this
 ·rw[aN hV,aK (by decide),ak (.inl hV),p8.j0,ak rfl]
end Go.Proofs.Y.PA
namespace Go.Proofs.Y.PA
attribute [local instance 10] Classical.propDecidable
open Go.RowKit Go.Proofs.Y.G Go.Proofs.YW.o7 Go.Proofs.YW.pJ Go.Proofs.YW.pO
theorem Lx (n:Int)(k:Nat)(hk:8≤k):p9.f k n=some (rV n):=by
 obtain⟨m,rfl⟩:∃ m,k=8+m:=⟨k-8,by omega⟩;clear hk
 induction m with
 | zero=>exact Lv n
 | succ m ih=>exact p9.mono n (8+m) _ ih
theorem Ib (v:Int):∃ u:Nat,IntKind.u64.wrap v=(u:Int)∧u<18446744073709551616:=by
 refine⟨(v % 18446744073709551616).toNat,?_,by omega⟩;simp only[IntKind.wrap,IntKind.bits,IntKind.signed];simp;omega
def intBits (v:Int):List Bool:=low (2 ^ (rV v).toNat-1) (rV v).toNat++(if rV v<4 then [false] else [])++low (IntKind.u64.wrap v).toNat (sK (rV v)).toNat
theorem width_le (k:Int):0≤sK k∧sK k≤64:=by
 unfold sK
 repeat' split
 all_goals omega
theorem WO (k:Nat)(hk:k≤4):IntKind.u64.wrap (shl .u64 1 (k:Int)-1)=((2 ^ k-1:Nat):Int):=XU k (by omega)
theorem QE {l:List Int}{n:Nat}(h:xY l n)(hlen:l.length≤900000000)(v:Int) :
 ∃ (l':List Int) (m:Nat),vX.f l (n:Int) v=some (l',(m:Int),0)∧m=n+(intBits v).length∧xY l' m∧Bs l' m=Bs l n++intBits v:=by
 have hle:=h.le;have hcr:=xK v;have hwr:=width_le (rV v);obtain⟨u,hu,hu64⟩:=Ib v;obtain⟨k,hk⟩:=dA hcr.1;obtain⟨wd,hwd⟩:=dA hwr.1;unfold vX.f intBits;rw[ak hlen,J4 h.bytes (by omega) n (by omega) (by omega),bf,aM ⟨by omega,h⟩,dS,ak rfl,hwd,hk,hu,WO k (by omega),bf,bf,bf];have hk4:k≤4:=by omega
 have h2k:2 ^ k-1<18446744073709551616:=iP (Nat.sub_le _ _) (iP (eT (n:=2) (by decide) hk4) (by decide));obtain⟨l1,a1,b1,c1⟩:=FZ (2 ^ k-1) h2k k 70 n l h (by omega) (by omega) (by omega);unfold rP.f;rw[a1,dS];have hl1:=b1.near
 by_cases h4:(k:Int)<4
 ·rw[ak h4,ak h4];obtain⟨l2,a2,b2,c2⟩:=FZ 0 (by decide) 1 70 (n+k) l1 b1 (by omega) (by omega) (by omega);rw[show ((0:Nat):Int)=0 from rfl,show ((1:Nat):Int)=1 from rfl] at a2;rw[a2,dS];have hl2:=b2.near;obtain⟨l3,a3,b3,c3⟩:=FZ u hu64 wd 70 (n+k+1) l2 b2 (by omega) (by omega) (by omega);rw[a3];refine⟨l3,n+k+1+wd,rfl,by simp;omega,b3,?_⟩;rw[c3,c2,c1];simp[low]
 ·rw[aK h4,aK h4,dS];obtain⟨l3,a3,b3,c3⟩:=FZ u hu64 wd 70 (n+k) l1 b1 (by omega) (by omega) (by omega);rw[a3];refine⟨l3,n+k+wd,rfl,by simp;omega,b3,?_⟩;rw[c3,c1];simp
theorem Vd (k:Nat)(h:k≤4):low (2 ^ k-1) k=List.replicate k true:=by
 have:k=0∨k=1∨k=2∨k=3∨k=4:=by omega
 rcases this with h | h | h | h | h<;>subst h<;>decide
def VZ (x w:Nat):Int:=if 0<w∧2 ^ (w-1)≤x then (x:Int)-2 ^ w else (x:Int)
def Bv (l:List Int)(n p:Nat)(k:Int):Int × Int × Int:=
 if (n:Int)-p<sK k then (0,0,3) else if rV (VZ (num (win l p (sK k).toNat)) (sK k).toNat)=k then (VZ (num (win l p (sK k).toNat)) (sK k).toNat,((p+(sK k).toNat:Nat):Int),0) else (0,0,5)
def wD (l:List Int)(n:Nat):Nat→Nat→Int × Int × Int
 | 0,p=>Bv l n p 4
 | m+1,p=>if n≤p then (0,0,3) else if bit l p=true then wD l n m (p+1) else Bv l n (p+1) (3-m)
theorem QM {x w:Nat}(hw:w=0∨w=7∨w=12∨w=32∨w=64)(hx:x<2 ^ w)(h0:0<w) :
 shr .i64 (wrap64 (shl .u64 (x:Int) (wrap64 (64-(w:Int))))) (wrap64 (64-(w:Int)))=VZ x w:=by
 rcases hw with h | h | h | h | h<;>subst h
 ·cases h0
 all_goals
  unfold VZ shr shl;simp only[IntKind.bits]
 ·rw[show wrap64 (64-((7:Nat):Int))=57 by decide +kernel,show (min (57:Int).toNat 64)=57 from rfl,show ((2:Int) ^ 57)=144115188075855872 by decide];simp only[IntKind.wrap,IntKind.bits,IntKind.signed,wrap64];simp at hx ⊢;split<;>omega
 ·rw[show wrap64 (64-((12:Nat):Int))=52 by decide +kernel,show (min (52:Int).toNat 64)=52 from rfl,show ((2:Int) ^ 52)=4503599627370496 by decide];simp only[IntKind.wrap,IntKind.bits,IntKind.signed,wrap64];simp at hx ⊢;split<;>omega
 ·rw[show wrap64 (64-((32:Nat):Int))=32 by decide +kernel,show (min (32:Int).toNat 64)=32 from rfl,show ((2:Int) ^ 32)=4294967296 by decide];simp only[IntKind.wrap,IntKind.bits,IntKind.signed,wrap64];simp at hx ⊢;split<;>omega
 ·rw[show wrap64 (64-((64:Nat):Int))=0 by decide +kernel,show (min (0:Int).toNat 64)=0 from rfl,show ((2:Int) ^ 0)=1 by decide];simp only[IntKind.wrap,IntKind.bits,IntKind.signed,wrap64];simp at hx ⊢;split<;>omega
theorem PE (l:List Int)(p:Nat):win l p 1=[bit l p]:=by simp[win]
theorem widths (c:Int):(sK c).toNat=0∨(sK c).toNat=7∨(sK c).toNat=12∨(sK c).toNat=32∨(sK c).toNat=64:=by
 unfold sK
 repeat' split
 all_goals simp
theorem RZ {l:List Int}{n:Nat}(h:xY l n)(hlen:l.length≤1000000)(p c:Nat)(hp:p≤n)(hc:c≤64)(k:Nat)(hk:70<k) :
 p8.f k l (n:Int) (p:Int) (c:Int)=some (if n-p<c then (0,3) else (((num (win l p c):Nat):Int),0)):=by
 have hle:=h.le;rw[Lc h.bytes (by omega) n p c (by omega) (by omega) k hk];unfold zZ;have hnb:¬ (¬ (0≤(n:Int)∧xY l (n:Int).toNat)∨(c:Int)<0∨64<(c:Int)∨(p:Int)<0∨(n:Int)<p):=by
  rw[bf];intro h';rcases h' with h' | h' | h' | h' | h'
  ·exact h' ⟨by omega,h⟩
  all_goals omega
 rw[aK hnb,bf,bf]
 by_cases c1:n-p<c
 ·rw[ak c1,ak (by omega)]
 ·rw[aK c1,aK (by omega)]
theorem Ti (l:List Int)(p w:Nat):num (win l p w)<2 ^ w:=by
 have:=Kq (win l p w);rwa [win_length] at this
theorem Pv {l:List Int}{n:Nat}(h:xY l n)(hlen:l.length≤1000000)(p:Nat)(hp:p≤n)(c:Int)(k:Nat)(hk:80<k):pY.j2 k (p:Int) c l (n:Int)=some (Bv l n p c):=by
 obtain⟨k,rfl⟩:∃ k',k=k'+1:=⟨k-1,by omega⟩;have hle:=h.le;have hwr:=width_le c;have hws:=widths c;rw[pY.j2,Ie,dS];unfold Bv;obtain⟨w,hw⟩:=dA hwr.1;rw[hw] at hws ⊢;rw[bf] at hws ⊢;rw[RZ h hlen p w hp (by omega) k (by omega),dS];have hx:=Ti l p w
 by_cases c1:n-p<w
 ·rw[ak c1,aK (by decide),ak (show (n:Int)-p<w by omega)]
 ·rw[aK c1];simp only[nE];rw[aK (show ¬ (n:Int)-p<w by omega)];have hpw:wrap64 ((p:Int)+(w:Int))=((p+w:Nat):Int):=OB (by omega);rw[hpw];clear hpw
  by_cases c2:(w:Int)>0
  ·rw[ak c2,QM hws hx (by omega),Lx _ k (by omega),dS];rw[ak (by rcases hws with h | h | h | h | h<;>rw[h]<;>decide +kernel)]
   by_cases c3:rV (VZ (num (win l p w)) w)=c
   ·rw[ak c3,ak c3]
   ·rw[aK c3,aK c3]
  ·rw[aK c2];have:w=0:=by omega
   subst this;rw[show num (win l p 0)=0 from rfl,show wrap64 ((0:Nat):Int)=0 by decide +kernel,Lx _ k (by omega),dS,show VZ 0 0=0 by decide]
   by_cases c3:rV 0=c
   ·rw[ak c3,ak c3]
   ·rw[aK c3,aK c3]
theorem head_eq {l:List Int}{n:Nat}(h:xY l n)(hlen:l.length≤1000000):∀ (m p k:Nat),p≤n→m≤4→90+m<k→pY.l0 k (p:Int) (4-(m:Int)) l (n:Int)=some (wD l n m p):=by
 intro m
 induction m with
 | zero=>
   intro p k hp hm hk;obtain⟨k,rfl⟩:∃ k',k=k'+1:=⟨k-1,by omega⟩;rw[pY.l0,aK (by omega),wD,show (4-((0:Nat):Int))=4 from rfl];exact Pv h hlen p hp 4 k (by omega)
 | succ m ih=>
   intro p k hp hm hk;obtain⟨k,rfl⟩:∃ k',k=k'+1:=⟨k-1,by omega⟩;have hle:=h.le;rw[pY.l0,ak (by omega),wD];have ht:=RZ h hlen p 1 hp (by decide) k (by omega);rw[show ((1:Nat):Int)=1 from rfl] at ht;rw[ht,dS]
   by_cases c1:n≤p
   ·rw[ak (show n-p<1 by omega),ak c1];rfl
   ·rw[aK (show ¬ n-p<1 by omega),aK c1];simp only[nE];have e1:wrap64 ((p:Int)+1)=((p+1:Nat):Int):=OB (b:=1) (by omega);have e2:wrap64 (4-((m+1:Nat):Int)+1)=4-(m:Int):=by rw[show (4-((m+1:Nat):Int)+1)=4-(m:Int) by omega];exact yM (by omega) (by omega)
    rw[e1,e2,PE];clear e1 e2;cases hb:bit l p
    ·rw[show num [false]=0 from rfl,ak (by rfl),aK (by decide),show (4-((m+1:Nat):Int))=3-(m:Int) by omega];exact Pv h hlen (p+1) (by omega) _ k (by omega)
    ·rw[show num [true]=1 from rfl,aK (by decide),ak rfl];exact ih (p+1) k (by omega) (by omega) (by omega)
noncomputable def Dg (l:List Int)(N p:Int):Int × Int × Int:=if ¬ (0≤N∧xY l N.toNat)∨p<0∨N<p then (0,0,1) else wD l N.toNat 4 p.toNat
theorem Ow {l:List Int}(hl:JL l)(hlen:l.length≤1000000)(N p:Int)(h1 : -9223372036854775808≤N)(h2:N≤9223372036854775807)(k:Nat)(hk:100<k):pY.f k l N p=some (Dg l N p):=by
 unfold pY.f Dg;obtain⟨k,rfl⟩:∃ k',k=k'+1:=⟨k-1,by omega⟩;rw[J4 hl (by omega) N h1 h2,dS]
 by_cases hV:0≤N∧xY l N.toNat
 ·rw[aM hV,ak rfl]
  by_cases c3:p<0
  ·rw[ak c3,ak (.inr (.inl c3)),pY.j0,ak rfl]
  rw[aK c3]
  by_cases c4:p>N
  ·rw[aM c4,ak (.inr (.inr c4)),pY.j0,ak rfl]
  have hnb:¬ (¬ (0≤N∧xY l N.toNat)∨p<0∨N<p):=by intro h;rcases h with h | h | h;exact h hV;all_goals omega
  rw[aK hnb,aN c4,pY.j0,aK (by decide)];obtain⟨q,rfl⟩:=dA (by omega:0≤p);obtain⟨n,rfl⟩:=dA hV.1;rw[bf] at hV ⊢;rw[bf];exact head_eq hV.2 hlen 4 q k (by omega) (by omega) (by omega)
 ·rw[aN hV,aK (by decide),ak (.inl hV),pY.j0,ak rfl]
theorem Ig {l:List Int}{m q c:Nat}{X Y Z:List Bool}(h:Bs l m=X++Y++Z)(hX:X.length=q)(hY:Y.length=c):win l q c=Y:=by
 have hm:m=X.length+Y.length+Z.length:=by have:=gG List.length h;simp at this;omega
 rw[Ut l m q c (by omega),h,bH];subst hX hY;rw[List.take_append,jB (by omega),kC (by omega),mE,dL,jX,iK (aD _),dW]
theorem La {l:List Int}{m q:Nat}{b:Bool}{X Z:List Bool}(h:Bs l m=X++[b]++Z)(hX:X.length=q):bit l q=b:=by
 have:=Ig h hX (show [b].length=1 from rfl);rw[PE] at this
 simpa using this
theorem Qm {l:List Int}{n:Nat}:∀ (j m p:Nat),j≤m→(∀ i,i<j→p+i<n∧bit l (p+i)=true)→wD l n m p=wD l n (m-j) (p+j):=by
 intro j
 induction j with
 | zero=>intro m p h1 h2;rfl
 | succ j ih=>
   intro m p h1 h2;obtain⟨m,rfl⟩:∃ m',m=m'+1:=⟨m-1,by omega⟩;have h0:=h2 0 (by omega);rw[iB] at h0;rw[wD,aK (by omega),ak h0.2,ih m (p+1) (by omega) (fun i hi=>by have:=h2 (i+1) (by omega);rwa [show p+(i+1)=p+1+i by omega] at this)];rw[show m+1-(j+1)=m-j by omega,show p+(j+1)=p+1+j by omega]
theorem Uc (v:Int)(hv:(Lit.int .i64 v).wf=true)(u:Nat)(hu:IntKind.u64.wrap v=(u:Int)):VZ (u % 2 ^ (sK (rV v)).toNat) (sK (rV v)).toNat=v:=by
 have b:=SK hv;have hu':(u:Int)=v % 18446744073709551616:=by rw[← hu];simp[IntKind.wrap,IntKind.bits,IntKind.signed]
 clear hu hv;unfold VZ
 by_cases a1:v=0
 ·rw[show rV v=0 by unfold rV;rw[ak a1]];simp[sK];omega
 by_cases a2 : -64≤v∧v<64
 ·rw[show rV v=1 by unfold rV;rw[aK a1,ak a2],show (sK 1).toNat=7 from rfl];simp;split<;>omega
 by_cases a3 : -2048≤v∧v<2048
 ·rw[show rV v=2 by unfold rV;rw[aK a1,aK a2,ak a3],show (sK 2).toNat=12 from rfl];simp;split<;>omega
 by_cases a4 : -2147483648≤v∧v<2147483648
 ·rw[show rV v=3 by unfold rV;rw[aK a1,aK a2,aK a3,ak a4],show (sK 3).toNat=32 from rfl];simp;split<;>omega
 ·rw[show rV v=4 by unfold rV;rw[aK a1,aK a2,aK a3,aK a4],show (sK 4).toNat=64 from rfl];simp;split<;>omega
theorem Ql {l:List Int}{m:Nat}{B:List Bool}(v:Int)(hv:(Lit.int .i64 v).wf=true)(h:Bs l m=B++intBits v):wD l m 4 B.length=(v,(m:Int),0):=by
 have hcr:=xK v;have hwr:=width_le (rV v);obtain⟨u,hu,hu64⟩:=Ib v;have hsg:=Uc v hv u hu;obtain⟨k,hk⟩:=dA hcr.1;obtain⟨wd,hwd⟩:=dA hwr.1;unfold intBits at h;rw[hwd,hu,bf] at h;rw[hwd,bf] at hsg;rw[hk] at h hwd;rw[bf] at h;rw[bf] at h;rw[Vd k (by omega)] at h;have hlen:m=B.length+k+(if (k:Int)<4 then 1 else 0)+wd:=by
  have:=gG List.length h;simp at this;rw[this];split<;>simp<;>omega
 have ahS:∀ i,i<k→B.length+i<m∧bit l (B.length+i)=true:=by
  intro i hi;refine⟨by omega,?_⟩;have e:List.replicate k true=List.replicate i true++[true]++List.replicate (k-i-1) true:=by
   rw[show [true]=List.replicate 1 true from rfl,mP,mP];congr 1;omega
  exact La (X:=B++List.replicate i true) (Z:=List.replicate (k-i-1) true++(if (k:Int)<4 then [false] else [])++low u wd) (by rw[h,e];simp) (by simp)
 rw[Qm k 4 B.length (by omega) ahS];have tl:∀ (X:List Bool),Bs l m=X++low u wd→Bv l m X.length (k:Int)=(v,(m:Int),0):=by
  intro X hX;have hm:m=X.length+wd:=by have:=gG List.length hX;simpa using this
  unfold Bv;have hw1:win l X.length wd=low u wd:=Ig (X:=X) (Y:=low u wd) (Z:=[]) (by rw[hX];simp) rfl (by simp);rw[hwd,bf,aK (by omega),hw1,AB,hsg,ak hk,← hm]
 by_cases h4:(k:Int)<4
 ·rw[ak h4] at h hlen;obtain⟨j,hj⟩:∃ j,4-k=j+1:=⟨3-k,by omega⟩;have hb:bit l (B.length+k)=false:=La (X:=B++List.replicate k true) (Z:=low u wd) (by rw[h];simp) (by simp);rw[hj,wD,aK (by omega),hb,aK (by decide)];have:=tl (B++List.replicate k true++[false]) (by rw[h];simp);rw[show (B++List.replicate k true++[false]).length=B.length+k+1 by simp;omega] at this;rw[show (3-(j:Int))=(k:Int) by omega];exact this
 ·rw[aK h4] at h hlen;have hk4:k=4:=by omega
  subst hk4;rw[show 4-4=0 from rfl,wD];have:=tl (B++List.replicate 4 true) (by rw[h];simp);rw[show (B++List.replicate 4 true).length=B.length+4 by simp] at this;exact this
theorem TF {l:List Int}{n:Nat}(h:xY l n)(hlen:l.length≤900000000)(v c:Nat)(hv:v<18446744073709551616)(hc:c≤64) :
 ∃ (l':List Int),yT.f l (n:Int) (v:Int) (c:Int)=some (l',((n+c:Nat):Int),0)∧xY l' (n+c)∧Bs l' (n+c)=Bs l n++low v c:=by
 have hle:=h.le;obtain⟨l',a,b,d⟩:=FZ v hv c 70 n l h hc (by omega) (by omega);refine⟨l',?_,b,d⟩;unfold yT.f rP.f;rw[ak hlen,J4 h.bytes (by omega) n (by omega) (by omega),bf,aM ⟨by omega,h⟩,dS,ak rfl,aK (by omega),aK (by omega),a];rfl
theorem wrap_u64 (n:Int):IntKind.u64.wrap n=n % 18446744073709551616:=by simp[IntKind.wrap,IntKind.bits,IntKind.signed]
end Go.Proofs.Y.PA
namespace Go.Proofs.Y.PA
open Go.RowKit Go.Proofs.Y.G Go.Proofs.YW.o7 Go.Proofs.YW.pJ Go.Proofs.YW.pO
def PK (W:World)(g:Nat)(L:List Bool):Prop:=
 ∃ (A:Option Addr) (c:Nat) (l:List Int),W.heap[g]? = some (.cells #[.slice A l.length c,.int .i64 (L.length:Int)] 151 (0,0))∧Kd.R (Kd.int .u8) 5 W 0 (fun k=>k≠g) (.slice A l.length c) l∧xY l L.length∧Bs l L.length=L
theorem PK.keep {W W':World}{g:Nat}{L:List Bool}(h:PK W g L)(hb:Below W.heap.size W W'):PK W' g L:=by
 obtain⟨A,c,l,h1,h2,h3,h4⟩:=h;exact⟨A,c,l,pG h1 hb,Kd.qO h2 hb,h3,h4⟩
theorem Mw {W0 W:World}{g n c:Nat}{A:Option Addr}{l':List Int}{u v:Value}{L M:List Bool}(hb:W.heap[g]? = some (.cells #[u,v] 151 (0,0)))(hr:Kd.R (Kd.int .u8) 5 W W0.heap.size (fun _=>True) (.slice A l'.length c) l')(hg:g<W0.heap.size)
 (ho:xY l' (L.length+n)) (hbs:Bs l' (L.length+n)=L++M):PK ((W.setCell ⟨g,0,none⟩ (.slice A l'.length c)).setCell ⟨g,1,none⟩ (.int .i64 ((L.length:Int)+(n:Int)))) g (L++M):=by
 have hlen:(L++M).length=L.length+n:=by rw[← hbs];simp
 refine⟨A,c,l',?_,?_,by rw[hlen];exact ho,by rw[hlen];exact hbs⟩
 ·rw[hlen];refine qH (cs := #[.slice A l'.length c,v]) ?_ 1 _ (by simp);exact qH hb 0 _ (by simp)
 ·have h2:=Kd.sj (Kd.sD (ok':=fun k=>k≠g) (Kd.vD hr) (fun k hk=>by omega)) (bV _);exact Kd.uG (p:=⟨g,1,none⟩) (Kd.uG (p:=⟨g,0,none⟩) h2 (fun k hk=>hk) _) (fun k hk=>hk) _
theorem xk.c (g:Nat)(L:List Bool)(v c:Nat)(w:World)(hP:PK w g L)(hv:v<18446744073709551616)(hc:c≤64)(hL:L.length≤7000000) :
 Calls Tryz.prog 91 #[.pointer (some ⟨g,0,none⟩),.int .u64 (v:Int),.int .i64 (c:Int)] w fun e w'=>e = .returned (.tuple #[])∧PK w' g (L++low v c)∧q8 w w' g none∧w'.os=w.os∧w'.tape=w.tape∧w'.output=w.output:=by
 obtain⟨A,cc,l,hblk,hR,hok,hbs⟩:=hP;have hlen:l.length≤900000000:=by have:=hok.near;omega
 obtain⟨l',hf,hok',aeK⟩:=TF hok hlen v c hv hc;have h0:w.cell? ⟨g,0,none⟩=some (.slice A l.length cc):=(pq hblk 0).trans rfl;have h1:w.cell? ⟨g,1,none⟩=some (.int .i64 (L.length:Int)):=(pq hblk 1).trans rfl;have HG:=Yu (rE hblk);have HBK:=Yu hblk;have HR:=Yu (Kd.pR hR);have HF:=Yu hf;have HO:=Yu hok';have HBS:=Yu (aeK.trans (by rw[hbs]));clear hblk hR hok hbs hf hok' aeK hlen hL hv hc
 go_enter Tryz.func91,Tryz.ntmps91
 go_wp2_with (go_at_call 123;(with_reducible refine (yT.c _ _ l _ _ _ l' _ 0 _ HR.o.2.2 HR.o.2.1 HF.o).mono ?_);rintro e w1 ⟨v1,rfl,hr1,hb⟩;obtain⟨A1,c1,rfl⟩:=Kd.qo hr1;have HR1:=Yu hr1;have HB1:=Yu hb;have Y0:=Yu (pG HBK.o hb);have g0:=(pq Y0.o 0).trans rfl;have g1:=(pq Y0.o 1).trans rfl;have f0:=pE Y0.o 0;have f1:=pE Y0.o 1;clear hr1 hb)
 refine jS (gN rfl _ _ _) rfl ?_;exact⟨rfl,Mw Y0.o HR1.o HG.o HO.o HBS.o,((q8.of_below HB1.o g none).Ec 0 _).Ec 1 _,HB1.o.os,HB1.o.tape,HB1.o.output⟩
theorem Mt.c (g:Nat)(L:List Bool)(v:Int)(w:World)(hP:PK w g L)(hL:L.length≤7000000) :
 Calls Tryz.prog 92 #[.pointer (some ⟨g,0,none⟩),.int .i64 v] w fun e w'=>e = .returned (.tuple #[])∧PK w' g (L++intBits v)∧q8 w w' g none∧w'.os=w.os∧w'.tape=w.tape∧w'.output=w.output:=by
 obtain⟨A,cc,l,hblk,hR,hok,hbs⟩:=hP;have hlen:l.length≤900000000:=by have:=hok.near;omega
 obtain⟨l',m,hf,hm,hok',aeK⟩:=QE hok hlen v;subst hm;have h0:w.cell? ⟨g,0,none⟩=some (.slice A l.length cc):=(pq hblk 0).trans rfl;have h1:w.cell? ⟨g,1,none⟩=some (.int .i64 (L.length:Int)):=(pq hblk 1).trans rfl;have HG:=Yu (rE hblk);have HBK:=Yu hblk;have HR:=Yu (Kd.pR hR);have HF:=Yu hf;have HO:=Yu hok';have HBS:=Yu (aeK.trans (by rw[hbs]));clear hblk hR hok hbs hf hok' aeK hlen hL
 go_enter Tryz.func92,Tryz.ntmps92
 go_wp2_with (go_at_call 124;(with_reducible refine (vX.c _ _ l _ _ l' _ 0 _ HR.o.2.2 HR.o.2.1 HF.o).mono ?_);rintro e w1 ⟨v1,rfl,hr1,hb⟩;obtain⟨A1,c1,rfl⟩:=Kd.qo hr1;have HR1:=Yu hr1;have HB1:=Yu hb;have Y0:=Yu (pG HBK.o hb);have g0:=(pq Y0.o 0).trans rfl;have g1:=(pq Y0.o 1).trans rfl;have f0:=pE Y0.o 0;have f1:=pE Y0.o 1;clear hr1 hb)
 refine jS (gN rfl _ _ _) rfl ?_;exact⟨rfl,Mw Y0.o HR1.o HG.o HO.o HBS.o,((q8.of_below HB1.o g none).Ec 0 _).Ec 1 _,HB1.o.os,HB1.o.tape,HB1.o.output⟩
theorem xk.qP (g:Nat)(L:List Bool)(V C:Int)(v c:Nat)(w:World)(hP:PK w g L)(hV:V=(v:Int))(hC:C=(c:Int))(hv:v<18446744073709551616)(hc:c≤64)(hL:L.length≤7000000) :
 Calls Tryz.prog 91 #[.pointer (some ⟨g,0,none⟩),.int .u64 V,.int .i64 C] w fun e w'=>e = .returned (.tuple #[])∧PK w' g (L++low v c)∧q8 w w' g none∧w'.os=w.os∧w'.tape=w.tape∧w'.output=w.output:=by
 subst hV hC;exact xk.c g L v c w hP hv hc hL
def Xq (x:Nat):Nat:=64-Lib.bitLen x
def Qq (x:Nat):Nat:=Lib.ctz 64 x
def Us (x:Nat):Nat:=Lib.bitLen x-Lib.ctz 64 x
def uw (x:Nat):List Bool:=if x=0 then low 0 1 else low 1 1++low (Xq x*64+(Us x-1)) 12++low (x / 2 ^ Qq x) (Us x)
theorem lz.calls' (x:Nat)(w:World)(h1:x<18446744073709551616) :
 Calls Tryz.prog 125 #[.int .u64 x] w fun e w'=>e = .returned (.int .i64 (Xq x:Nat))∧w'=w:=lz.c x w h1
theorem tz.calls' (x:Nat)(hx:x<18446744073709551616)(w:World)(hT:xZ w) :
 Calls Tryz.prog 126 #[.int .u64 x] w fun e w'=>e = .returned (.int .i64 (Qq x:Nat))∧w'=w:=tz.c x hx w hT
theorem zs {x:Nat}(hx:x<18446744073709551616)(h0:x≠0):Qq x<Lib.bitLen x∧Lib.bitLen x≤64:=by
 obtain⟨_,hk⟩:=Lib.lowest_bit 64 x h0 hx;refine⟨?_,iQ x 64 (by decide) hx⟩;unfold Qq;have hc:Lib.ctz 64 x=Lib.ctzFrom 64 x:=by unfold Lib.ctz;rw[aK h0]
 obtain⟨m,hm,_⟩:=Lib.ctzFrom_spec 64 x (by omega) hx;rw[← hc] at hm;have hp:2 ^ Lib.ctz 64 x≤x:=by
  conv=>rhs;rw[hm]
  exact fT _ (by omega)
 have h1:=Lib.bitLen_shift (Lib.ctz 64 x) x hp hx;have h2:x / 2 ^ Lib.ctz 64 x≠0:=by
  have:=Nat.div_pos hp (iJ _);omega
 have h3:=Lib.bitLen_half (x / 2 ^ Lib.ctz 64 x) h2 (iP (mW _ _) hx);omega
theorem WV {H S D:Nat}(hs:H+S+D=64)(hd:1≤D)(hh:H<64):Go.bits .or .u64 ((H:Int)*64) (64-(H:Int)-(S:Int)-1)=((H*64+(D-1):Nat):Int):=by
 have e1:(64-(H:Int)-(S:Int)-1)=((D-1:Nat):Int):=by omega
 have e2:(H:Int)*64=((H*64:Nat):Int):=by omega
 rw[e1,e2,u64_or_nat (H*64) (D-1) (by omega) (by omega)];have:=Nat.shiftLeft_add_eq_or_of_lt (a:=H) (b:=D-1) (i:=6) (by omega);rw[Nat.shiftLeft_eq] at this;rw[← this]
theorem N7.c (g:Nat)(L:List Bool)(x:Nat)(w:World)(hP:PK w g L)(hx:x<18446744073709551616)(hL:L.length≤6000000)(hT:xZ w) :
 Calls Tryz.prog 93 #[.pointer (some ⟨g,0,none⟩),.int .u64 (x:Int)] w fun e w'=>e = .returned (.tuple #[])∧PK w' g (L++uw x)∧q8 w w' g none∧w'.os=w.os∧w'.tape=w.tape∧w'.output=w.output:=by
 have HP:=Yu hP;have HT:=Yu hT;have HL:=Yu hL;clear hP hT hL
 by_cases h0:x=0
 ·have hb:((x:Int)==0)=true:=beq_iff_eq.2 (by omega);have HX:oZ (uw x=low 0 1):=⟨by rw[uw,ak h0]⟩;clear h0
  go_enter Tryz.func93,Tryz.ntmps93
  go_wp2_with (go_at_call 91;refine (xk.qP g L 0 1 0 1 _ HP.o rfl rfl (by decide) (by decide) (by have:=HL.o;omega)).mono ?_;rintro e w1 ⟨rfl,hp,hk,ho,ht,hu⟩;have HP1:=Yu hp;have HK1:=Yu hk;have HO1:=Yu (And.intro ho (And.intro ht hu));clear hp hk ho ht hu)
  refine bZ (gN rfl _ _ _) rfl ?_;exact⟨rfl,by rw[HX.o];exact HP1.o,HK1.o,HO1.o⟩
 ·have hb:((x:Int)==0)=false:=beq_eq_false_iff_ne.2 (by omega);obtain⟨z1,z2⟩:=zs hx h0;obtain⟨H,hH⟩:∃ H,Xq x=H:=⟨_,rfl⟩;obtain⟨S,hS⟩:∃ S,Qq x=S:=⟨_,rfl⟩;obtain⟨D,hD⟩:∃ D,Us x=D:=⟨_,rfl⟩;have hs:H+S+D=64:=by rw[← hH,← hS,← hD];unfold Xq Qq Us;unfold Qq at z1;omega
  have hd:1≤D:=by rw[← hD];unfold Us;unfold Qq at z1;omega
  have HX:oZ (uw x=low 1 1++low (H*64+(D-1)) 12++low (x / 2 ^ S) D):=⟨by rw[uw,aK h0,hH,hS,hD]⟩;have HLZ:=Yu (fun W=>hH ▸ lz.calls' x W hx);have HTZ:=Yu (fun W (h:xZ W)=>hS ▸ tz.calls' x hx W h);clear h0 z1 z2 hH hS hD;have CA:=Yu (fun W (h:PK W g L)=>xk.qP g L 1 1 1 1 W h rfl rfl (by decide) (by decide) (by have:=HL.o;omega));have hor:Go.bits .or .u64 ((H:Int)*64) (64-(H:Int)-(S:Int)-1)=((H*64+(D-1):Nat):Int):=WV (by omega) (by omega) (by omega);have CB:=Yu (fun W (h:PK W g (L++low 1 1))=>xk.qP g (L++low 1 1) (Go.bits .or .u64 ((H:Int)*64) (64-(H:Int)-(S:Int)-1)) 12 (H*64+(D-1)) 12 W h hor rfl (by omega) (by decide) (by have:=HL.o;simp;omega));clear hor;have hsh:(x:Int) / 2 ^ S=((x / 2 ^ S:Nat):Int):=by simp
  have CD:=Yu (fun W (h:PK W g (L++low 1 1++low (H*64+(D-1)) 12))=>xk.qP g (L++low 1 1++low (H*64+(D-1)) 12) ((x:Int) / 2 ^ S) (64-(H:Int)-(S:Int)) (x / 2 ^ S) D W h hsh (by omega) (iP (mW _ _) hx) (by omega) (by have:=HL.o;simp;omega));clear hsh
  go_enter Tryz.func93,Tryz.ntmps93
  go_wp2_with (first
   | (go_at_call 125;refine (HLZ.o _).mono ?_;rintro e wa ⟨rfl,hw⟩;rw[hw];clear hw wa)
   | (go_at_call 126;refine (HTZ.o _ HT.o).mono ?_;rintro e wa ⟨rfl,hw⟩;rw[hw];clear hw wa)
   | (go_at_call 91;(with_reducible refine (CA.o _ HP.o).mono ?_);rintro e w1 ⟨rfl,hp,hk,ho,ht,hu⟩;have HP1:=Yu hp;have HK1:=Yu hk;have HO1:=Yu (And.intro ho (And.intro ht hu));clear hp hk ho ht hu)
   | (go_at_call 91;(with_reducible refine (CB.o _ HP1.o).mono ?_);rintro e w2 ⟨rfl,hp,hk,ho,ht,hu⟩;have HP2:=Yu hp;have HK2:=Yu (HK1.o.trans hk (.inl rfl));have HO2:=Yu (And.intro (ho.trans HO1.o.1) (And.intro (ht.trans HO1.o.2.1) (hu.trans HO1.o.2.2)));clear hp hk ho ht hu)
   | (go_at_call 91;(with_reducible refine (CD.o _ HP2.o).mono ?_);rintro e w3 ⟨rfl,hp,hk,ho,ht,hu⟩;have HP3:=Yu hp;have HK3:=Yu (HK2.o.trans hk (.inl rfl));have HO3:=Yu (And.intro (ho.trans HO2.o.1) (And.intro (ht.trans HO2.o.2.1) (hu.trans HO2.o.2.2)));clear hp hk ho ht hu))
  refine jS (gN rfl _ _ _) rfl ?_;exact⟨rfl,by rw[HX.o,← bH,← bH];exact HP3.o,HK3.o,HO3.o⟩
end Go.Proofs.Y.PA
