/- Of the law ZHQDumpReads. -/
import Derived.Test.YtcgbgifbajdhpaaGreatDoorZH4
import Derived.Test.YtcgbgifbajdhpaaGreatDoorZH20
import Derived.Test.YtcgbgifbajdhpaaGreatDoorZH19
import Derived.Test.YtcgbgifbajdhpaaGreatDoorZH17
import Derived.Test.YtcgbgifbajdhpaaGreatDoorZH8
import Derived.Deep.RegionLaw
import Derived.Deep.Fields
import Derived.OpenShut
import Derived.Test.YtcgbgifbajdhpaaGreatDoorZH18
set_option linter.unusedVariables false
set_option linter.unusedSimpArgs false
set_option maxHeartbeats 8000000
set_option maxRecDepth 100000
namespace Go
abbrev fT:=@Nat.lt_of_le_of_lt
abbrev iI:=@Nat.div_le_self
abbrev jE:=@Nat.testBit_eq_decide_div_mod_eq
abbrev jK:=@Nat.add_sub_cancel_left
abbrev kE:=@Bool.false_and
abbrev l8:=@List.replicate_append_replicate
abbrev mD:=@Nat.and_two_pow_sub_one_eq_mod
abbrev mX:=@Nat.testBit_two_pow_sub_one
abbrev nK:=@Nat.le_add_right
abbrev nL:=@Go.Lib.ctzFrom_spec
end Go
namespace Go.Proofs.Y.PA
open Go.RowKit Go.Proofs.Y.G Go.Proofs.YW.oO Go.Proofs.YW.pq Go.Proofs.YW.pz
attribute [local instance 10] Classical.propDecidable
theorem Y2 (i:Nat):Int.tdiv (i:Int) 8=((i / 8:Nat):Int):=rfl
theorem Y3 (i:Nat):Int.tmod (i:Int) 8=((i % 8:Nat):Int):=rfl
theorem Jj {n:Nat}(h:n≤9000000000000000000):wrap64 (n:Int)=(n:Int):=wK (by omega) (by omega)
theorem Le (l:List Int)(i:Nat):rd l (i:Int)=l.getD i 0:=by unfold rd;rw[aG]
theorem YH {l:List Int}(hl:Bh l)(i:Nat):(Go.bits .and .u8 (rd l ((i / 8:Nat):Int)) (shr .u8 128 ((i % 8:Nat):Int)) != 0)=bit l i:=by
 rw[Le];have hb:=hl.at (i / 8);have hs:shr .u8 128 ((i % 8:Nat):Int)=((2 ^ (7-i % 8):Nat):Int):=by
  have:i % 8<8:=gG _ (by decide);generalize i % 8=j at this;have hj:j=0∨j=1∨j=2∨j=3∨j=4∨j=5∨j=6∨j=7:=by omega
  rcases hj with h | h | h | h | h | h | h | h<;>subst h<;>decide
 have hp:2 ^ (7-i % 8)<256:=fT (dH (by decide) (show 7-i % 8≤7 by omega)) (by decide);rw[hs,u8_and _ _ hb.1 hb.2 (eZ _) (show ((2 ^ (7-i % 8):Nat):Int)<((256:Nat):Int) from Int.ofNat_lt.2 hp),aG,nat_bit];unfold bit;generalize (l.getD (i / 8) 0).toNat=x;rw[jE];have h2:x / 2 ^ (7-i % 8) % 2=0∨x / 2 ^ (7-i % 8) % 2=1:=by omega
 rcases h2 with h2 | h2
 ·rw[h2];simp
 ·rw[h2];have:(0:Nat)<2 ^ (7-i % 8):=gU _;have h3:=oI this;simp
  exact_mod_cast h3
theorem Q7 (x t:Nat):(x &&& (2 ^ t-1)=0)↔∀ j,j<t→x.testBit j=false:=by
 constructor
 ·intro h j hj;have:(x &&& (2 ^ t-1)).testBit j=false:=by rw[h];exact Nat.zero_testBit j
  rw[Nat.testBit_and,mX] at this
  simpa [hj] using this
 ·intro h;apply Nat.eq_of_testBit_eq;intro j;rw[Nat.testBit_and,mX,Nat.zero_testBit]
  by_cases hj:j<t
  ·rw[h j hj];rfl
  ·simp[hj]
theorem Kv {l:List Int}(hl:Bh l)(hlen:l.length≤1000000000)(N:Int)(h1 : -9223372036854775808≤N)(h2:N≤9223372036854775807) :
 qZ.f l N=some (decide (0≤N∧yV l N.toNat)):=by
 unfold qZ.f;have e0:wrap64 (8*(l.length:Int))=((8*l.length:Nat):Int):=by rw[show (8*(l.length:Int))=((8*l.length:Nat):Int) by omega];exact Jj (by omega)
 rw[e0]
 by_cases c1:N<0
 ·rw[au c1,aD (by intro h;omega)]
 rw[av c1];obtain⟨n,rfl⟩:=bO (by omega:0≤N);rw[aG]
 by_cases c2:(n:Int)>((8*l.length:Nat):Int)
 ·rw[au c2,aD (by intro h;have:=h.2.le;omega)]
 rw[av c2];have e1:wrap64 (((8*l.length:Nat):Int)-(n:Int))=((8*l.length-n:Nat):Int):=by rw[show (((8*l.length:Nat):Int)-(n:Int))=((8*l.length-n:Nat):Int) by omega];exact Jj (by omega)
 rw[e1]
 by_cases c3:((8*l.length-n:Nat):Int)>7
 ·rw[au c3,aD (by intro h;have:=h.2.near;omega)]
 rw[av c3]
 by_cases c4:((8*l.length-n:Nat):Int)=0
 ·rw[au c4,aC ⟨by omega,hl,by omega,by omega,by intro i h1 h2;omega⟩]
 rw[av c4];have e2:wrap64 ((l.length:Int)-1)=((l.length-1:Nat):Int):=by rw[show ((l.length:Int)-1)=((l.length-1:Nat):Int) by omega];exact Jj (by omega)
 rw[e2,au (by omega),au (by omega),au (by omega),Le];have hb:=hl.at (l.length-1);have ht:8*l.length-n<8:=by omega
 have hs:(shl .u8 1 ((8*l.length-n:Nat):Int)-1) % 256=((2 ^ (8*l.length-n)-1:Nat):Int):=by
  generalize 8*l.length-n=j at ht;have hj:j=0∨j=1∨j=2∨j=3∨j=4∨j=5∨j=6∨j=7:=by omega
  rcases hj with h | h | h | h | h | h | h | h<;>subst h<;>decide +kernel
 have hp:2 ^ (8*l.length-n)≤128:=bY (dH (n:=2) (by decide) (show 8*l.length-n≤7 by omega)) (by decide);rw[hs,u8_and _ _ hb.1 hb.2 (by omega) (by omega),aG];congr 1;have key:((l.getD (l.length-1) 0).toNat &&& (2 ^ (8*l.length-n)-1)=0)↔(0≤(n:Int)∧yV l n):=by
  rw[Q7];constructor
  ·intro h;refine⟨by omega,hl,by omega,by omega,?_⟩;intro i hi1 hi2;unfold bit;rw[show i / 8=l.length-1 by omega];exact h _ (by omega)
  ·intro h j hj;have:=h.2.tail (8*l.length-1-j) (by omega) (by omega);unfold bit at this;rw[show (8*l.length-1-j) / 8=l.length-1 by omega,show 7-(8*l.length-1-j) % 8=j by omega] at this;exact this
 by_cases h:0≤(n:Int)∧yV l n
 ·rw[aC h,key.2 h];rfl
 ·rw[aD h];have:=mt key.1 h;simp only[beq_eq_false_iff_ne,ne_eq];omega
theorem Yy (T:Nat)(h:T≤8):IntKind.u64.wrap (shl .u64 1 (T:Int)-1)=((2 ^ T-1:Nat):Int):=by
 have hj:T=0∨T=1∨T=2∨T=3∨T=4∨T=5∨T=6∨T=7∨T=8:=by omega
 rcases hj with h | h | h | h | h | h | h | h | h<;>subst h<;>decide +kernel
theorem EB (k:IntKind)(x j:Nat)(hj:j≤k.bits):shr k (x:Int) (j:Int)=((x / 2 ^ j:Nat):Int):=by
 unfold shr;rw[aG,dJ hj]
 push_cast
 rfl
theorem XZ {x:Nat}(h:x<256):IntKind.u8.wrap (x:Int)=(x:Int):=by rw[IntKind.wrap_u8'];omega
theorem AL {x:Nat}(h:x<18446744073709551616):IntKind.u64.wrap (x:Int)=(x:Int):=by simp[IntKind.wrap,IntKind.bits,IntKind.signed];omega
theorem OA (x T:Nat)(h:T≤8):x % 2 ^ T<256:=dA (gG _ (gU _)) (bY (dH (n:=2) (by decide) h) (by decide))
theorem GY (n c:Nat):Kk (n:Int) (c:Int)=((min c (8-n % 8):Nat):Int):=by
 unfold Kk;split<;>omega
theorem SC (n v c:Nat)(hv:v<18446744073709551616)(hc:c≤64):Sz (n:Int) (v:Int) (c:Int)=((v / 2 ^ (c-min c (8-n % 8)) % 2 ^ (min c (8-n % 8)):Nat):Int):=by
 unfold Sz;rw[GY];generalize hT:min c (8-n % 8)=T;have hT8:T≤8:=by omega
 have hd:v / 2 ^ (c-T)≤v:=iI _ _;rw[show ((c:Int)-(T:Int))=((c-T:Nat):Int) by omega,EB _ _ _ (by simp[IntKind.bits];omega),Yy T hT8,u64_and _ _ (eZ _) (by omega) (eZ _) ?_,aG,aG,mD]
 ·have:=OA (v / 2 ^ (c-T)) T hT8;omega
 ·have:2 ^ T≤256:=bY (dH (n:=2) (by decide) hT8) (by decide);omega
theorem SF {l:List Int}{n:Nat}(h:yV l n)(v c:Nat)(hv:v<18446744073709551616)(hc0:0<c)(hc:c≤64) :
 Vn l (n:Int) (v:Int) (c:Int)=Aw (vS l n) (n / 8) ((v / 2 ^ (c-min c (8-n % 8)) % 2 ^ (min c (8-n % 8)))*2 ^ (8-n % 8-min c (8-n % 8))):=by
 have e:zK l (n:Int)=vS l n:=by
  unfold zK vS
  by_cases h0:n % 8=0
  ·rw[au h0,au (by omega)]
  ·rw[av h0,av (by omega)]
 unfold Vn Aw;rw[e,zL h,ji];congr 1;have agW:Bh (vS l n):=by
  unfold vS;split
  ·intro x hx;rcases List.mem_append.1 hx with hx | hx
   ·exact h.bytes x hx
   ·simp at hx;subst hx;decide
  ·exact h.bytes
 have hb:=agW.at (n / 8);generalize (vS l n).getD (n / 8) 0=b at hb;unfold Sy;rw[SC n v c hv hc,GY];generalize hT:min c (8-n % 8)=T;have hT8:T≤8-n % 8:=by omega
 have hX:=gG (v / 2 ^ (c-T)) (gU T);generalize v / 2 ^ (c-T) % 2 ^ T=X at hX;have hXs:X*2 ^ (8-n % 8-T)<256:=by
  calc X*2 ^ (8-n % 8-T)<2 ^ T*2 ^ (8-n % 8-T):=mV hX (gU _)
   _=2 ^ (T+(8-n % 8-T)):=(nY _ _ _).symm
   _≤2 ^ 8:=dH (by decide) (by omega)
   _=256:=by decide
 have hs:shl .u8 (X:Int) (8-(n:Int) % 8-(T:Int))=((X*2 ^ (8-n % 8-T):Nat):Int):=by
  unfold shl;rw[show (8-(n:Int) % 8-(T:Int))=((8-n % 8-T:Nat):Int) by omega,aG,dJ (by simp[IntKind.bits];omega)];rw[← XZ hXs];congr 1
 rw[hs,u8_or _ _ hb.1 hb.2 (eZ _) (by omega),aG]
theorem GZ (v:Nat)(hv:v<18446744073709551616):∀ (c k n:Nat) (l:List Int),yV l n→c≤64→c<k→l.length+c<1000000000 →
 ∃ l',sj.l0 k l (n:Int) (v:Int) (c:Int)=some (l',((n+c:Nat):Int))∧yV l' (n+c)∧Bs l' (n+c)=Bs l n++low v c:=by
 intro c
 induction c using Nat.strongRecOn with
 | ind c ih=>
   intro k n l h hc hk hl;obtain⟨k,rfl⟩:∃ k',k=k'+1:=⟨k-1,by omega⟩;have hle:=h.le;have hnr:=h.near;rw[sj.l0]
   by_cases h0:c=0
   ·subst h0;rw[au (by omega)];exact⟨l,rfl,h,by simp[low]⟩
   ·rw[av (by omega),au ⟨by omega,by omega,by omega,by omega,by omega⟩,SF h v c hv (by omega) hc,GY];generalize hT:min c (8-n % 8)=T;have hs:=Nn (X:=v / 2 ^ (c-T) % 2 ^ T) h (show 0<T by omega) (by omega) (gG _ (gU T));have hlen:(Aw (vS l n) (n / 8) (v / 2 ^ (c-T) % 2 ^ T*2 ^ (8-n % 8-T))).length=n / 8+1:=by unfold Aw;rw[dY,zL h]
    generalize Aw (vS l n) (n / 8) (v / 2 ^ (c-T) % 2 ^ T*2 ^ (8-n % 8-T))=l1 at hs hlen;obtain⟨l',h1,h2,h3⟩:=ih (c-T) (by omega) k (n+T) l1 hs.1 (by omega) (by omega) (by omega);rw[show n+T+(c-T)=n+c by omega] at h1 h2 h3;refine⟨l',?_,h2,?_⟩
    ·rw[show ((n:Int)+(T:Int))=((n+T:Nat):Int) by omega,show ((c:Int)-(T:Int))=((c-T:Nat):Int) by omega];exact h1
    ·rw[h3,hs.2,bC,← Cm v c T (by omega)]
theorem VN (v i:Nat)(hv:v<18446744073709551616)(hi:i≤64):(Go.bits .and .u64 (shr .u64 (v:Int) (i:Int)) 1==1)=v.testBit i:=by
 have hd:v / 2 ^ i≤v:=iI _ _;rw[EB _ _ _ (by simp[IntKind.bits];omega),u64_and _ _ (eZ _) (by omega) (by decide) (by decide),aG,show (1:Int).toNat=1 from rfl,nat_mask1,jE];have h2:v / 2 ^ i % 2=0∨v / 2 ^ i % 2=1:=by omega
 rcases h2 with h2 | h2<;>rw[h2]<;>rfl
attribute [local instance 10] Classical.propDecidable
theorem Es (L:List Bool)(h:L.length≤64):num L<18446744073709551616:=
 dA (Fe L) (bY (dH (n:=2) (by decide) h) (by decide))
theorem Yp (T:Nat)(h:T≤8):((shl .u8 1 (T:Int)-1) % 256)=((2 ^ T-1:Nat):Int):=by
 have hj:T=0∨T=1∨T=2∨T=3∨T=4∨T=5∨T=6∨T=7∨T=8:=by omega
 rcases hj with h | h | h | h | h | h | h | h | h<;>subst h<;>decide +kernel
theorem Pg {a b:Nat}(h:b≤a)(ha:a<9000000000000000000):wrap64 ((a:Int)-(b:Int))=((a-b:Nat):Int):=by
 rw[show ((a:Int)-(b:Int))=((a-b:Nat):Int) by omega];exact Jj (by omega)
theorem Pf {a b:Nat}(ha:a+b<9000000000000000000):wrap64 ((a:Int)+(b:Int))=((a+b:Nat):Int):=by
 rw[show ((a:Int)+(b:Int))=((a+b:Nat):Int) by omega];exact Jj (by omega)
theorem YA {k p c T x:Nat}{l:List Int}{N:Int}(hT:min c (8-p % 8)=T)(hT9:T≤8-p % 8)(hTc:T≤c)(hpT:p+T<9000000000000000000)(hp8:p / 8<l.length)(amA:c<9000000000000000000) :
 (if 0≤(mn (wrap64 (8-(Int.tmod (p:Int) 8))) (c:Int)) then (if 0≤(wrap64 (Int.tdiv (p:Int) 8)) then (if (wrap64 (Int.tdiv (p:Int) 8))<(l.length:Int) then (if 0≤(wrap64 ((wrap64 (8-(Int.tmod (p:Int) 8)))-(mn (wrap64 (8-(Int.tmod (p:Int) 8))) (c:Int)))) then (pV.l0 k (wrap64 ((p:Int)+(mn (wrap64 (8-(Int.tmod (p:Int) 8))) (c:Int)))) (wrap64 ((c:Int)-(mn (wrap64 (8-(Int.tmod (p:Int) 8))) (c:Int)))) (Go.bits .or .u64 (shl .u64 (x:Int) (mn (wrap64 (8-(Int.tmod (p:Int) 8))) (c:Int))) (IntKind.u64.wrap (Go.bits .and .u8 (shr .u8 (rd l (wrap64 (Int.tdiv (p:Int) 8))) (wrap64 ((wrap64 (8-(Int.tmod (p:Int) 8)))-(mn (wrap64 (8-(Int.tmod (p:Int) 8))) (c:Int))))) (((shl .u8 1 (mn (wrap64 (8-(Int.tmod (p:Int) 8))) (c:Int)))-1) % 256)))) l N) else (none)) else (none)) else (none)) else (none)) =
 pV.l0 k ((p+T:Nat):Int) ((c-T:Nat):Int) (Go.bits .or .u64 (shl .u64 (x:Int) (T:Int)) (IntKind.u64.wrap (Go.bits .and .u8 (shr .u8 (rd l ((p / 8:Nat):Int)) ((8-p % 8-T:Nat):Int)) ((shl .u8 1 (T:Int)-1) % 256)))) l N:=by
 have e1:wrap64 (8-Int.tmod (p:Int) 8)=((8-p % 8:Nat):Int):=by
  rw[Y3];exact Pg (a:=8) (kV (gG p (by decide))) (by decide)
 have e2:mn ((8-p % 8:Nat):Int) (c:Int)=(T:Int):=by
  clear e1;unfold mn;split<;>omega
 have e3:wrap64 (Int.tdiv (p:Int) 8)=((p / 8:Nat):Int):=by
  clear e1 e2;rw[Y2];exact Jj (by omega)
 have e4:wrap64 (((8-p % 8:Nat):Int)-(T:Int))=((8-p % 8-T:Nat):Int):=Pg hT9 (by clear e1 e2 e3;omega);have e5:wrap64 ((p:Int)+(T:Int))=((p+T:Nat):Int):=Pf hpT;have e6:wrap64 ((c:Int)-(T:Int))=((c-T:Nat):Int):=by
  clear e1 e2 e3 e4 e5;exact Pg hTc amA
 rw[e1,e2,e3,e4,e5,e6];clear e1 e2 e3 e4 e5 e6;rw[au (by omega),au (by omega),au (by omega),au (by omega)]
theorem Od {l:List Int}(hl:Bh l)(hlen:l.length<1000000000)(N:Int):∀ (c p k x:Nat),p+c≤8*l.length→c≤64→c<k→x*2 ^ c+num (win l p c)<18446744073709551616 →
 pV.l0 k (p:Int) (c:Int) (x:Int) l N=some (((x*2 ^ c+num (win l p c):Nat):Int),0):=by
 intro c
 induction c using Nat.strongRecOn with
 | ind c ih=>
   intro p k x hp hc hk hx;have HX:=Y7 hx;clear hx;obtain⟨k,rfl⟩:∃ k',k=k'+1:=⟨k-1,by omega⟩;rw[pV.l0]
   by_cases h0:c=0
   ·subst h0;rw[av (by omega)];simp[win,num]
   ·rw[au (by omega)];obtain⟨T,hT⟩:∃ T,min c (8-p % 8)=T:=⟨_,rfl⟩;have hT8:T≤8:=by omega
    have hT9:T≤8-p % 8:=by omega
    have hTc:T≤c:=by omega
    have hT0:0<T:=by omega
    have hp8:p / 8<l.length:=by omega
    have hb:=hl.at (p / 8);have hb256:(l.getD (p / 8) 0).toNat<256:=by omega
    have hpT:p+T<9000000000000000000:=by omega
    have amB:p+T+(c-T)≤8*l.length:=by omega
    have hc2:c-T≤64:=by omega
    have hk2:c-T<k:=by omega
    have hlt2:c-T<c:=by omega
    have hwl:(win l p T).length≤64:=by rw[win_length];omega
    have hbb:(l.getD (p / 8) 0)=(((l.getD (p / 8) 0).toNat:Nat):Int):=by omega
    have hTm:((shl .u8 1 (T:Int)-1) % 256)=((2 ^ T-1:Nat):Int):=by
     exact Yp T hT8
    have h2T:2 ^ T≤256:=bY (dH (n:=2) (by decide) hT8) (by decide);have hdl:(l.getD (p / 8) 0).toNat / 2 ^ (8-p % 8-T)<256:=fT (iI _ _) hb256;have aj5:8-p % 8-T≤IntKind.u8.bits:=by simp[IntKind.bits];omega
    have aj6:2 ^ T-1<256:=by omega
    have e7:IntKind.u64.wrap (Go.bits .and .u8 (shr .u8 (rd l ((p / 8:Nat):Int)) ((8-p % 8-T:Nat):Int)) ((shl .u8 1 (T:Int)-1) % 256))=((num (win l p T):Nat):Int):=by
     rw[Le,hbb,hTm,EB _ _ _ aj5,u8_and _ _ (eZ _) (Int.ofNat_lt.2 hdl) (eZ _) (Int.ofNat_lt.2 aj6),aG,aG,mD,← RQ l p T hb256 hT9];apply AL;exact Es _ hwl
    clear hdl h2T aj6;have hsum:x*2 ^ c+num (win l p c)=(x*2 ^ T+num (win l p T))*2 ^ (c-T)+num (win l (p+T) (c-T)):=by
     rw[J6 l p c T (by omega),Ar,win_length,gI,mZ,← nY,show T+(c-T)=c by omega];omega
    rw[hsum];have hx:=HX.o;rw[hsum] at hx;clear HX hsum;have hnT:num (win l p T)<2 ^ T:=by have:=Fe (win l p T);rwa [win_length] at this
    have hle:x*2 ^ T+num (win l p T)≤(x*2 ^ T+num (win l p T))*2 ^ (c-T):=fA _ (gU _);have hxT:x*2 ^ T<18446744073709551616:=fT (bY (nK _ _) (bY hle (nK _ _))) hx;have HX:=Y7 hx;clear hx hle;have hnm:num (win l p T)<18446744073709551616:=Es _ hwl;have e8:shl .u64 (x:Int) (T:Int)=((x*2 ^ T:Nat):Int):=by
     unfold shl;rw[aG,dJ (by simp[IntKind.bits];omega),← AL hxT,kQ,Int.natCast_pow];rfl
    have e9:Go.bits .or .u64 ((x*2 ^ T:Nat):Int) ((num (win l p T):Nat):Int)=((x*2 ^ T+num (win l p T):Nat):Int):=by
     rw[u64_or _ _ (eZ _) (Int.ofNat_lt.2 hxT) (eZ _) (Int.ofNat_lt.2 hnm),aG,aG,nat_join T _ _ (Nat.mul_mod_left _ _) hnT]
    rw[YA (p:=p) (c:=c) (T:=T) hT hT9 hTc hpT hp8 (fT hc (by decide)),e7,e8,e9];exact ih (c-T) hlt2 (p+T) k _ amB hc2 hk2 HX.o
noncomputable def AV (l:List Int)(N p c:Int):Int × Int:=
 if ¬ (0≤N∧yV l N.toNat)∨c<0∨64<c∨p<0∨N<p then (0,1) else if N-p<c then (0,3) else ((num (win l p.toNat c.toNat):Nat),0)
theorem L9 {l:List Int}(hl:Bh l)(hlen:l.length<1000000000)(N p c:Int)(h1 : -9223372036854775808≤N)(h2:N≤9223372036854775807)(k:Nat)(hk:70<k):pV.f k l N p c=some (AV l N p c):=by
 unfold pV.f AV;obtain⟨k,rfl⟩:∃ k',k=k'+1:=⟨k-1,by omega⟩;rw[Kv hl (by omega) N h1 h2,cZ]
 by_cases hV:0≤N∧yV l N.toNat
 ·rw[aC hV,au rfl]
  by_cases c1:c<0
  ·rw[au c1,au (by omega),pV.j0,au rfl]
  rw[av c1]
  by_cases c2:c>64
  ·rw[au c2,au (by omega),pV.j0,au rfl]
  rw[av c2]
  by_cases c3:p<0
  ·rw[au c3,au (by omega),pV.j0,au rfl]
  rw[av c3]
  by_cases c4:p>N
  ·rw[aC c4,au (by omega),pV.j0,au rfl]
  rw[aD c4,pV.j0,av (by decide)];have hle:=hV.2.le;have hnb:¬ (¬ (0≤N∧yV l N.toNat)∨c<0∨64<c∨p<0∨N<p):=by intro h;rcases h with h | h | h | h | h;exact h hV;all_goals omega
  rw[av hnb,show wrap64 (N-p)=N-p from wK (by omega) (by omega)]
  by_cases c5:N-p<c
  ·rw[au c5,au c5]
  rw[av c5,av c5];obtain⟨q,rfl⟩:=bO (by omega:0≤p);obtain⟨d,rfl⟩:=bO (by omega:0≤c);rw[aG,aG];have:=Od hl hlen N d q k 0 (by omega) (by omega) (by omega) (by rw[gH,dK];exact Es _ (by simp;omega));rw[gH,dK] at this;exact this
 ·rw[aD hV,av (by decide),au (.inl hV),pV.j0,au rfl]
end Go.Proofs.Y.PA
namespace Go.Proofs.Y.PA
attribute [local instance 10] Classical.propDecidable
open Go.RowKit Go.Proofs.Y.G Go.Proofs.YW.oO Go.Proofs.YW.pq Go.Proofs.YW.pz
theorem Mj (n:Int)(k:Nat)(hk:8≤k):qb.f k n=some (rG n):=by
 obtain⟨m,rfl⟩:∃ m,k=8+m:=⟨k-8,by omega⟩;clear hk
 induction m with
 | zero=>exact Mi n
 | succ m ih=>exact qb.mono n (8+m) _ ih
theorem DU (v:Int):∃ u:Nat,IntKind.u64.wrap v=(u:Int)∧u<18446744073709551616:=by
 refine⟨(v % 18446744073709551616).toNat,?_,by omega⟩;simp only[IntKind.wrap,IntKind.bits,IntKind.signed];simp;omega
def intBits (v:Int):List Bool:=low (2 ^ (rG v).toNat-1) (rG v).toNat++(if rG v<4 then [false] else [])++low (IntKind.u64.wrap v).toNat (rA (rG v)).toNat
theorem width_le (k:Int):0≤rA k∧rA k≤64:=by
 unfold rA
 repeat' split
 all_goals omega
theorem XA (k:Nat)(hk:k≤4):IntKind.u64.wrap (shl .u64 1 (k:Int)-1)=((2 ^ k-1:Nat):Int):=Yy k (by omega)
theorem Rn {l:List Int}{n:Nat}(h:yV l n)(hlen:l.length≤900000000)(v:Int) :
 ∃ (l':List Int) (m:Nat),xD.f l (n:Int) v=some (l',(m:Int),0)∧m=n+(intBits v).length∧yV l' m∧Bs l' m=Bs l n++intBits v:=by
 have hle:=h.le;have hcr:=yO v;have hwr:=width_le (rG v);obtain⟨u,hu,hu64⟩:=DU v;obtain⟨k,hk⟩:=bO hcr.1;obtain⟨wd,hwd⟩:=bO hwr.1;unfold xD.f intBits;rw[au hlen,Kv h.bytes (by omega) n (by omega) (by omega),aG,aC ⟨by omega,h⟩,cZ,au rfl,hwd,hk,hu,XA k (by omega),aG,aG,aG];have hk4:k≤4:=by omega
 have h2k:2 ^ k-1<18446744073709551616:=fT (Nat.sub_le _ _) (fT (dH (n:=2) (by decide) hk4) (by decide));obtain⟨l1,a1,b1,c1⟩:=GZ (2 ^ k-1) h2k k 70 n l h (by omega) (by omega) (by omega);unfold sj.f;rw[a1,cZ];have hl1:=b1.near
 by_cases h4:(k:Int)<4
 ·rw[au h4,au h4];obtain⟨l2,a2,b2,c2⟩:=GZ 0 (by decide) 1 70 (n+k) l1 b1 (by omega) (by omega) (by omega);rw[show ((0:Nat):Int)=0 from rfl,show ((1:Nat):Int)=1 from rfl] at a2;rw[a2,cZ];have hl2:=b2.near;obtain⟨l3,a3,b3,c3⟩:=GZ u hu64 wd 70 (n+k+1) l2 b2 (by omega) (by omega) (by omega);rw[a3];refine⟨l3,n+k+1+wd,rfl,by simp;omega,b3,?_⟩;rw[c3,c2,c1];simp[low]
 ·rw[av h4,av h4,cZ];obtain⟨l3,a3,b3,c3⟩:=GZ u hu64 wd 70 (n+k) l1 b1 (by omega) (by omega) (by omega);rw[a3];refine⟨l3,n+k+wd,rfl,by simp;omega,b3,?_⟩;rw[c3,c1];simp
theorem VO (k:Nat)(h:k≤4):low (2 ^ k-1) k=List.replicate k true:=by
 have:k=0∨k=1∨k=2∨k=3∨k=4:=by omega
 rcases this with h | h | h | h | h<;>subst h<;>decide
def NY (x w:Nat):Int:=if 0<w∧2 ^ (w-1)≤x then (x:Int)-2 ^ w else (x:Int)
def AU (l:List Int)(n p:Nat)(k:Int):Int × Int × Int:=
 if (n:Int)-p<rA k then (0,0,3) else if rG (NY (num (win l p (rA k).toNat)) (rA k).toNat)=k then (NY (num (win l p (rA k).toNat)) (rA k).toNat,((p+(rA k).toNat:Nat):Int),0) else (0,0,5)
def wJ (l:List Int)(n:Nat):Nat→Nat→Int × Int × Int
 | 0,p=>AU l n p 4
 | m+1,p=>if n≤p then (0,0,3) else if bit l p=true then wJ l n m (p+1) else AU l n (p+1) (3-m)
theorem Ry {x w:Nat}(hw:w=0∨w=7∨w=12∨w=32∨w=64)(hx:x<2 ^ w)(h0:0<w) :
 shr .i64 (wrap64 (shl .u64 (x:Int) (wrap64 (64-(w:Int))))) (wrap64 (64-(w:Int)))=NY x w:=by
 rcases hw with h | h | h | h | h<;>subst h
 ·cases h0
 all_goals
  unfold NY shr shl;simp only[IntKind.bits]
 ·rw[show wrap64 (64-((7:Nat):Int))=57 by decide +kernel,show (min (57:Int).toNat 64)=57 from rfl,show ((2:Int) ^ 57)=144115188075855872 by decide];simp only[IntKind.wrap,IntKind.bits,IntKind.signed,wrap64];simp at hx ⊢;split<;>omega
 ·rw[show wrap64 (64-((12:Nat):Int))=52 by decide +kernel,show (min (52:Int).toNat 64)=52 from rfl,show ((2:Int) ^ 52)=4503599627370496 by decide];simp only[IntKind.wrap,IntKind.bits,IntKind.signed,wrap64];simp at hx ⊢;split<;>omega
 ·rw[show wrap64 (64-((32:Nat):Int))=32 by decide +kernel,show (min (32:Int).toNat 64)=32 from rfl,show ((2:Int) ^ 32)=4294967296 by decide];simp only[IntKind.wrap,IntKind.bits,IntKind.signed,wrap64];simp at hx ⊢;split<;>omega
 ·rw[show wrap64 (64-((64:Nat):Int))=0 by decide +kernel,show (min (0:Int).toNat 64)=0 from rfl,show ((2:Int) ^ 0)=1 by decide];simp only[IntKind.wrap,IntKind.bits,IntKind.signed,wrap64];simp at hx ⊢;split<;>omega
theorem Ll (l:List Int)(p:Nat):win l p 1=[bit l p]:=by simp[win]
theorem widths (c:Int):(rA c).toNat=0∨(rA c).toNat=7∨(rA c).toNat=12∨(rA c).toNat=32∨(rA c).toNat=64:=by
 unfold rA
 repeat' split
 all_goals simp
theorem SV {l:List Int}{n:Nat}(h:yV l n)(hlen:l.length≤1000000)(p c:Nat)(hp:p≤n)(hc:c≤64)(k:Nat)(hk:70<k) :
 pV.f k l (n:Int) (p:Int) (c:Int)=some (if n-p<c then (0,3) else (((num (win l p c):Nat):Int),0)):=by
 have hle:=h.le;rw[L9 h.bytes (by omega) n p c (by omega) (by omega) k hk];unfold AV;have hnb:¬ (¬ (0≤(n:Int)∧yV l (n:Int).toNat)∨(c:Int)<0∨64<(c:Int)∨(p:Int)<0∨(n:Int)<p):=by
  rw[aG];intro h';rcases h' with h' | h' | h' | h' | h'
  ·exact h' ⟨by omega,h⟩
  all_goals omega
 rw[av hnb,aG,aG]
 by_cases c1:n-p<c
 ·rw[au c1,au (by omega)]
 ·rw[av c1,av (by omega)]
theorem Ua (l:List Int)(p w:Nat):num (win l p w)<2 ^ w:=by
 have:=Fe (win l p w);rwa [win_length] at this
theorem Qn {l:List Int}{n:Nat}(h:yV l n)(hlen:l.length≤1000000)(p:Nat)(hp:p≤n)(c:Int)(k:Nat)(hk:80<k):pU.j2 k (p:Int) c l (n:Int)=some (AU l n p c):=by
 obtain⟨k,rfl⟩:∃ k',k=k'+1:=⟨k-1,by omega⟩;have hle:=h.le;have hwr:=width_le c;have hws:=widths c;rw[pU.j2,IU,cZ];unfold AU;obtain⟨w,hw⟩:=bO hwr.1;rw[hw] at hws ⊢;rw[aG] at hws ⊢;rw[SV h hlen p w hp (by omega) k (by omega),cZ];have hx:=Ua l p w
 by_cases c1:n-p<w
 ·rw[au c1,av (by decide),au (show (n:Int)-p<w by omega)]
 ·rw[av c1];simp only[oL];rw[av (show ¬ (n:Int)-p<w by omega)];have hpw:wrap64 ((p:Int)+(w:Int))=((p+w:Nat):Int):=Pf (by omega);rw[hpw];clear hpw
  by_cases c2:(w:Int)>0
  ·rw[au c2,Ry hws hx (by omega),Mj _ k (by omega),cZ];rw[au (by rcases hws with h | h | h | h | h<;>rw[h]<;>decide +kernel)]
   by_cases c3:rG (NY (num (win l p w)) w)=c
   ·rw[au c3,au c3]
   ·rw[av c3,av c3]
  ·rw[av c2];have:w=0:=by omega
   subst this;rw[show num (win l p 0)=0 from rfl,show wrap64 ((0:Nat):Int)=0 by decide +kernel,Mj _ k (by omega),cZ,show NY 0 0=0 by decide]
   by_cases c3:rG 0=c
   ·rw[au c3,au c3]
   ·rw[av c3,av c3]
theorem head_eq {l:List Int}{n:Nat}(h:yV l n)(hlen:l.length≤1000000):∀ (m p k:Nat),p≤n→m≤4→90+m<k→pU.l0 k (p:Int) (4-(m:Int)) l (n:Int)=some (wJ l n m p):=by
 intro m
 induction m with
 | zero=>
   intro p k hp hm hk;obtain⟨k,rfl⟩:∃ k',k=k'+1:=⟨k-1,by omega⟩;rw[pU.l0,av (by omega),wJ,show (4-((0:Nat):Int))=4 from rfl];exact Qn h hlen p hp 4 k (by omega)
 | succ m ih=>
   intro p k hp hm hk;obtain⟨k,rfl⟩:∃ k',k=k'+1:=⟨k-1,by omega⟩;have hle:=h.le;rw[pU.l0,au (by omega),wJ];have ht:=SV h hlen p 1 hp (by decide) k (by omega);rw[show ((1:Nat):Int)=1 from rfl] at ht;rw[ht,cZ]
   by_cases c1:n≤p
   ·rw[au (show n-p<1 by omega),au c1];rfl
   ·rw[av (show ¬ n-p<1 by omega),av c1];simp only[oL];have e1:wrap64 ((p:Int)+1)=((p+1:Nat):Int):=Pf (b:=1) (by omega);have e2:wrap64 (4-((m+1:Nat):Int)+1)=4-(m:Int):=by rw[show (4-((m+1:Nat):Int)+1)=4-(m:Int) by omega];exact wK (by omega) (by omega)
    rw[e1,e2,Ll];clear e1 e2;cases hb:bit l p
    ·rw[show num [false]=0 from rfl,au (by rfl),av (by decide),show (4-((m+1:Nat):Int))=3-(m:Int) by omega];exact Qn h hlen (p+1) (by omega) _ k (by omega)
    ·rw[show num [true]=1 from rfl,av (by decide),au rfl];exact ih (p+1) k (by omega) (by omega) (by omega)
noncomputable def EH (l:List Int)(N p:Int):Int × Int × Int:=if ¬ (0≤N∧yV l N.toNat)∨p<0∨N<p then (0,0,1) else wJ l N.toNat 4 p.toNat
theorem O5 {l:List Int}(hl:Bh l)(hlen:l.length≤1000000)(N p:Int)(h1 : -9223372036854775808≤N)(h2:N≤9223372036854775807)(k:Nat)(hk:100<k):pU.f k l N p=some (EH l N p):=by
 unfold pU.f EH;obtain⟨k,rfl⟩:∃ k',k=k'+1:=⟨k-1,by omega⟩;rw[Kv hl (by omega) N h1 h2,cZ]
 by_cases hV:0≤N∧yV l N.toNat
 ·rw[aC hV,au rfl]
  by_cases c3:p<0
  ·rw[au c3,au (.inr (.inl c3)),pU.j0,au rfl]
  rw[av c3]
  by_cases c4:p>N
  ·rw[aC c4,au (.inr (.inr c4)),pU.j0,au rfl]
  have hnb:¬ (¬ (0≤N∧yV l N.toNat)∨p<0∨N<p):=by intro h;rcases h with h | h | h;exact h hV;all_goals omega
  rw[av hnb,aD c4,pU.j0,av (by decide)];obtain⟨q,rfl⟩:=bO (by omega:0≤p);obtain⟨n,rfl⟩:=bO hV.1;rw[aG] at hV ⊢;rw[aG];exact head_eq hV.2 hlen 4 q k (by omega) (by omega) (by omega)
 ·rw[aD hV,av (by decide),au (.inl hV),pU.j0,au rfl]
theorem U3 (c:Int)(h0:0≤c)(h4:c≤4):rd [0,7,12,32,64] c=rA c:=by
 have:c=0∨c=1∨c=2∨c=3∨c=4:=by omega
 rcases this with h | h | h | h | h<;>subst h<;>rfl
theorem XQ {x:Nat}(hb:x<18446744073709551616):wrap64 (x:Int)=NY x 64:=by
 unfold NY wrap64;simp;split<;>omega
theorem IV {l:List Int}{m q c:Nat}{X Y Z:List Bool}(h:Bs l m=X++Y++Z)(hX:X.length=q)(hY:Y.length=c):win l q c=Y:=by
 have hm:m=X.length+Y.length+Z.length:=by have:=eU List.length h;simp at this;omega
 rw[Vb l m q c (by omega),h,bC];subst hX hY;rw[List.take_append,iO (by omega),jY (by omega),lQ,cB,jK,iw (ay _),dz]
theorem LZ {l:List Int}{m q:Nat}{b:Bool}{X Z:List Bool}(h:Bs l m=X++[b]++Z)(hX:X.length=q):bit l q=b:=by
 have:=IV h hX (show [b].length=1 from rfl);rw[Ll] at this
 simpa using this
theorem QV {l:List Int}{n:Nat}:∀ (j m p:Nat),j≤m→(∀ i,i<j→p+i<n∧bit l (p+i)=true)→wJ l n m p=wJ l n (m-j) (p+j):=by
 intro j
 induction j with
 | zero=>intro m p h1 h2;rfl
 | succ j ih=>
   intro m p h1 h2;obtain⟨m,rfl⟩:∃ m',m=m'+1:=⟨m-1,by omega⟩;have h0:=h2 0 (by omega);rw[iA] at h0;rw[wJ,av (by omega),au h0.2,ih m (p+1) (by omega) (fun i hi=>by have:=h2 (i+1) (by omega);rwa [show p+(i+1)=p+1+i by omega] at this)];rw[show m+1-(j+1)=m-j by omega,show p+(j+1)=p+1+j by omega]
theorem UU (v:Int)(hv:(Lit.int .i64 v).wf=true)(u:Nat)(hu:IntKind.u64.wrap v=(u:Int)):NY (u % 2 ^ (rA (rG v)).toNat) (rA (rG v)).toNat=v:=by
 have b:=Xq hv;have hu':(u:Int)=v % 18446744073709551616:=by rw[← hu];simp[IntKind.wrap,IntKind.bits,IntKind.signed]
 clear hu hv;unfold NY
 by_cases a1:v=0
 ·rw[show rG v=0 by unfold rG;rw[au a1]];simp[rA];omega
 by_cases a2 : -64≤v∧v<64
 ·rw[show rG v=1 by unfold rG;rw[av a1,au a2],show (rA 1).toNat=7 from rfl];simp;split<;>omega
 by_cases a3 : -2048≤v∧v<2048
 ·rw[show rG v=2 by unfold rG;rw[av a1,av a2,au a3],show (rA 2).toNat=12 from rfl];simp;split<;>omega
 by_cases a4 : -2147483648≤v∧v<2147483648
 ·rw[show rG v=3 by unfold rG;rw[av a1,av a2,av a3,au a4],show (rA 3).toNat=32 from rfl];simp;split<;>omega
 ·rw[show rG v=4 by unfold rG;rw[av a1,av a2,av a3,av a4],show (rA 4).toNat=64 from rfl];simp;split<;>omega
theorem JD {l:List Int}{m:Nat}{B:List Bool}(v:Int)(hv:(Lit.int .i64 v).wf=true)(h:Bs l m=B++intBits v):wJ l m 4 B.length=(v,(m:Int),0):=by
 have hcr:=yO v;have hwr:=width_le (rG v);obtain⟨u,hu,hu64⟩:=DU v;have hsg:=UU v hv u hu;obtain⟨k,hk⟩:=bO hcr.1;obtain⟨wd,hwd⟩:=bO hwr.1;unfold intBits at h;rw[hwd,hu,aG] at h;rw[hwd,aG] at hsg;rw[hk] at h hwd;rw[aG] at h;rw[aG] at h;rw[VO k (by omega)] at h;have hlen:m=B.length+k+(if (k:Int)<4 then 1 else 0)+wd:=by
  have:=eU List.length h;simp at this;rw[this];split<;>simp<;>omega
 have aj7:∀ i,i<k→B.length+i<m∧bit l (B.length+i)=true:=by
  intro i hi;refine⟨by omega,?_⟩;have e:List.replicate k true=List.replicate i true++[true]++List.replicate (k-i-1) true:=by
   rw[show [true]=List.replicate 1 true from rfl,l8,l8];congr 1;omega
  exact LZ (X:=B++List.replicate i true) (Z:=List.replicate (k-i-1) true++(if (k:Int)<4 then [false] else [])++low u wd) (by rw[h,e];simp) (by simp)
 rw[QV k 4 B.length (by omega) aj7];have tl:∀ (X:List Bool),Bs l m=X++low u wd→AU l m X.length (k:Int)=(v,(m:Int),0):=by
  intro X hX;have hm:m=X.length+wd:=by have:=eU List.length hX;simpa using this
  unfold AU;have hw1:win l X.length wd=low u wd:=IV (X:=X) (Y:=low u wd) (Z:=[]) (by rw[hX];simp) rfl (by simp);rw[hwd,aG,av (by omega),hw1,zq,hsg,au hk,← hm]
 by_cases h4:(k:Int)<4
 ·rw[au h4] at h hlen;obtain⟨j,hj⟩:∃ j,4-k=j+1:=⟨3-k,by omega⟩;have hb:bit l (B.length+k)=false:=LZ (X:=B++List.replicate k true) (Z:=low u wd) (by rw[h];simp) (by simp);rw[hj,wJ,av (by omega),hb,av (by decide)];have:=tl (B++List.replicate k true++[false]) (by rw[h];simp);rw[show (B++List.replicate k true++[false]).length=B.length+k+1 by simp;omega] at this;rw[show (3-(j:Int))=(k:Int) by omega];exact this
 ·rw[av h4] at h hlen;have hk4:k=4:=by omega
  subst hk4;rw[show 4-4=0 from rfl,wJ];have:=tl (B++List.replicate 4 true) (by rw[h];simp);rw[show (B++List.replicate 4 true).length=B.length+4 by simp] at this;exact this
theorem Ur {l:List Int}{n:Nat}(h:yV l n)(hlen:l.length≤900000000)(v c:Nat)(hv:v<18446744073709551616)(hc:c≤64) :
 ∃ (l':List Int),zM.f l (n:Int) (v:Int) (c:Int)=some (l',((n+c:Nat):Int),0)∧yV l' (n+c)∧Bs l' (n+c)=Bs l n++low v c:=by
 have hle:=h.le;obtain⟨l',a,b,d⟩:=GZ v hv c 70 n l h hc (by omega) (by omega);refine⟨l',?_,b,d⟩;unfold zM.f sj.f;rw[au hlen,Kv h.bytes (by omega) n (by omega) (by omega),aG,aC ⟨by omega,h⟩,cZ,au rfl,av (by omega),av (by omega),a];rfl
theorem wrap_u64 (n:Int):IntKind.u64.wrap n=n % 18446744073709551616:=by simp[IntKind.wrap,IntKind.bits,IntKind.signed]
end Go.Proofs.Y.PA
namespace Go.Proofs.Y.PA
open Go.RowKit Go.Proofs.Y.G Go.Proofs.YW.oO Go.Proofs.YW.pq Go.Proofs.YW.pz
def PK (W:World)(g:Nat)(L:List Bool):Prop:=
 ∃ (A:Option Addr) (c:Nat) (l:List Int),W.heap[g]? = some (.cells #[.slice A l.length c,.int .i64 (L.length:Int)] 151 (0,0))∧Kd.R (Kd.int .u8) 5 W 0 (fun k=>k≠g) (.slice A l.length c) l∧yV l L.length∧Bs l L.length=L
theorem PK.keep {W W':World}{g:Nat}{L:List Bool}(h:PK W g L)(hb:Below W.heap.size W W'):PK W' g L:=by
 obtain⟨A,c,l,h1,h2,h3,h4⟩:=h;exact⟨A,c,l,o7 h1 hb,Kd.qo h2 hb,h3,h4⟩
theorem Nh {W0 W:World}{g n c:Nat}{A:Option Addr}{l':List Int}{u v:Value}{L M:List Bool}(hb:W.heap[g]? = some (.cells #[u,v] 151 (0,0)))(hr:Kd.R (Kd.int .u8) 5 W W0.heap.size (fun _=>True) (.slice A l'.length c) l')(hg:g<W0.heap.size)
 (ho:yV l' (L.length+n)) (hbs:Bs l' (L.length+n)=L++M):PK ((W.setCell ⟨g,0,none⟩ (.slice A l'.length c)).setCell ⟨g,1,none⟩ (.int .i64 ((L.length:Int)+(n:Int)))) g (L++M):=by
 have hlen:(L++M).length=L.length+n:=by rw[← hbs];simp
 refine⟨A,c,l',?_,?_,by rw[hlen];exact ho,by rw[hlen];exact hbs⟩
 ·rw[hlen];refine qF (cs := #[.slice A l'.length c,v]) ?_ 1 _ (by simp);exact qF hb 0 _ (by simp)
 ·have h2:=Kd.qW (Kd.qR (ok':=fun k=>k≠g) (Kd.uK hr) (fun k hk=>by omega)) (bP _);exact Kd.sS (p:=⟨g,1,none⟩) (Kd.sS (p:=⟨g,0,none⟩) h2 (fun k hk=>hk) _) (fun k hk=>hk) _
theorem yD.c (g:Nat)(L:List Bool)(v c:Nat)(w:World)(hP:PK w g L)(hv:v<18446744073709551616)(hc:c≤64)(hL:L.length≤7000000) :
 Calls Tryz.prog 91 #[.pointer (some ⟨g,0,none⟩),.int .u64 (v:Int),.int .i64 (c:Int)] w fun e w'=>e = .returned (.tuple #[])∧PK w' g (L++low v c)∧pG w w' g none∧w'.os=w.os∧w'.tape=w.tape∧w'.output=w.output:=by
 obtain⟨A,cc,l,hblk,hR,hok,hbs⟩:=hP;have hlen:l.length≤900000000:=by have:=hok.near;omega
 obtain⟨l',hf,hok',agx⟩:=Ur hok hlen v c hv hc;have h0:w.cell? ⟨g,0,none⟩=some (.slice A l.length cc):=(oQ hblk 0).trans rfl;have h1:w.cell? ⟨g,1,none⟩=some (.int .i64 (L.length:Int)):=(oQ hblk 1).trans rfl;have HG:=Y7 (qQ hblk);have HBK:=Y7 hblk;have HR:=Y7 (Kd.pE hR);have HF:=Y7 hf;have HO:=Y7 hok';have HBS:=Y7 (agx.trans (by rw[hbs]));clear hblk hR hok hbs hf hok' agx hlen hL hv hc
 go_enter Tryz.func91,Tryz.ntmps91
 go_wp2_with (go_at_call 123;(with_reducible refine (zM.c _ _ l _ _ _ l' _ 0 _ HR.o.2.2 HR.o.2.1 HF.o).mono ?_);rintro e w1 ⟨v1,rfl,hr1,hb⟩;obtain⟨A1,c1,rfl⟩:=Kd.pO hr1;have HR1:=Y7 hr1;have HB1:=Y7 hb;have Zy:=Y7 (o7 HBK.o hb);have g0:=(oQ Zy.o 0).trans rfl;have g1:=(oQ Zy.o 1).trans rfl;have f0:=oW Zy.o 0;have f1:=oW Zy.o 1;clear hr1 hb)
 refine fF (dQ rfl _ _ _) rfl ?_;exact⟨rfl,Nh Zy.o HR1.o HG.o HO.o HBS.o,((pG.of_below HB1.o g none).sG 0 _).sG 1 _,HB1.o.os,HB1.o.tape,HB1.o.output⟩
theorem Nf.c (g:Nat)(L:List Bool)(v:Int)(w:World)(hP:PK w g L)(hL:L.length≤7000000) :
 Calls Tryz.prog 92 #[.pointer (some ⟨g,0,none⟩),.int .i64 v] w fun e w'=>e = .returned (.tuple #[])∧PK w' g (L++intBits v)∧pG w w' g none∧w'.os=w.os∧w'.tape=w.tape∧w'.output=w.output:=by
 obtain⟨A,cc,l,hblk,hR,hok,hbs⟩:=hP;have hlen:l.length≤900000000:=by have:=hok.near;omega
 obtain⟨l',m,hf,hm,hok',agx⟩:=Rn hok hlen v;subst hm;have h0:w.cell? ⟨g,0,none⟩=some (.slice A l.length cc):=(oQ hblk 0).trans rfl;have h1:w.cell? ⟨g,1,none⟩=some (.int .i64 (L.length:Int)):=(oQ hblk 1).trans rfl;have HG:=Y7 (qQ hblk);have HBK:=Y7 hblk;have HR:=Y7 (Kd.pE hR);have HF:=Y7 hf;have HO:=Y7 hok';have HBS:=Y7 (agx.trans (by rw[hbs]));clear hblk hR hok hbs hf hok' agx hlen hL
 go_enter Tryz.func92,Tryz.ntmps92
 go_wp2_with (go_at_call 124;(with_reducible refine (xD.c _ _ l _ _ l' _ 0 _ HR.o.2.2 HR.o.2.1 HF.o).mono ?_);rintro e w1 ⟨v1,rfl,hr1,hb⟩;obtain⟨A1,c1,rfl⟩:=Kd.pO hr1;have HR1:=Y7 hr1;have HB1:=Y7 hb;have Zy:=Y7 (o7 HBK.o hb);have g0:=(oQ Zy.o 0).trans rfl;have g1:=(oQ Zy.o 1).trans rfl;have f0:=oW Zy.o 0;have f1:=oW Zy.o 1;clear hr1 hb)
 refine fF (dQ rfl _ _ _) rfl ?_;exact⟨rfl,Nh Zy.o HR1.o HG.o HO.o HBS.o,((pG.of_below HB1.o g none).sG 0 _).sG 1 _,HB1.o.os,HB1.o.tape,HB1.o.output⟩
theorem yD.qM (g:Nat)(L:List Bool)(V C:Int)(v c:Nat)(w:World)(hP:PK w g L)(hV:V=(v:Int))(hC:C=(c:Int))(hv:v<18446744073709551616)(hc:c≤64)(hL:L.length≤7000000) :
 Calls Tryz.prog 91 #[.pointer (some ⟨g,0,none⟩),.int .u64 V,.int .i64 C] w fun e w'=>e = .returned (.tuple #[])∧PK w' g (L++low v c)∧pG w w' g none∧w'.os=w.os∧w'.tape=w.tape∧w'.output=w.output:=by
 subst hV hC;exact yD.c g L v c w hP hv hc hL
def VE (x:Nat):Nat:=64-Lib.bitLen x
def F6 (x:Nat):Nat:=Lib.ctz 64 x
def Qq (x:Nat):Nat:=Lib.bitLen x-Lib.ctz 64 x
def sK (x:Nat):List Bool:=if x=0 then low 0 1 else low 1 1++low (VE x*64+(Qq x-1)) 12++low (x / 2 ^ F6 x) (Qq x)
theorem lz.calls' (x:Nat)(w:World)(h1:x<18446744073709551616) :
 Calls Tryz.prog 125 #[.int .u64 x] w fun e w'=>e = .returned (.int .i64 (VE x:Nat))∧w'=w:=lz.c x w h1
theorem tz.calls' (x:Nat)(hx:x<18446744073709551616)(w:World)(hT:yN w) :
 Calls Tryz.prog 126 #[.int .u64 x] w fun e w'=>e = .returned (.int .i64 (F6 x:Nat))∧w'=w:=tz.c x hx w hT
theorem zs {x:Nat}(hx:x<18446744073709551616)(h0:x≠0):F6 x<Lib.bitLen x∧Lib.bitLen x≤64:=by
 obtain⟨_,hk⟩:=Lib.lowest_bit 64 x h0 hx;refine⟨?_,gQ x 64 (by decide) hx⟩;unfold F6;have hc:Lib.ctz 64 x=Lib.ctzFrom 64 x:=by unfold Lib.ctz;rw[av h0]
 obtain⟨m,hm,_⟩:=nL 64 x (by omega) hx;rw[← hc] at hm;have hp:2 ^ Lib.ctz 64 x≤x:=by
  conv=>rhs;rw[hm]
  exact fA _ (by omega)
 have h1:=Lib.bitLen_shift (Lib.ctz 64 x) x hp hx;have h2:x / 2 ^ Lib.ctz 64 x≠0:=by
  have:=Nat.div_pos hp (gU _);omega
 have h3:=Lib.bitLen_half (x / 2 ^ Lib.ctz 64 x) h2 (fT (iI _ _) hx);omega
theorem XC {H S D:Nat}(hs:H+S+D=64)(hd:1≤D)(hh:H<64):Go.bits .or .u64 ((H:Int)*64) (64-(H:Int)-(S:Int)-1)=((H*64+(D-1):Nat):Int):=by
 have e1:(64-(H:Int)-(S:Int)-1)=((D-1:Nat):Int):=by omega
 have e2:(H:Int)*64=((H*64:Nat):Int):=by omega
 rw[e1,e2,u64_or_nat (H*64) (D-1) (by omega) (by omega)];have:=Nat.shiftLeft_add_eq_or_of_lt (a:=H) (b:=D-1) (i:=6) (by omega);rw[Nat.shiftLeft_eq] at this;rw[← this]
theorem OH.c (g:Nat)(L:List Bool)(x:Nat)(w:World)(hP:PK w g L)(hx:x<18446744073709551616)(hL:L.length≤6000000)(hT:yN w) :
 Calls Tryz.prog 93 #[.pointer (some ⟨g,0,none⟩),.int .u64 (x:Int)] w fun e w'=>e = .returned (.tuple #[])∧PK w' g (L++sK x)∧pG w w' g none∧w'.os=w.os∧w'.tape=w.tape∧w'.output=w.output:=by
 have HP:=Y7 hP;have HT:=Y7 hT;have HL:=Y7 hL;clear hP hT hL
 by_cases h0:x=0
 ·have hb:((x:Int)==0)=true:=beq_iff_eq.2 (by omega);have HX:oM (sK x=low 0 1):=⟨by rw[sK,au h0]⟩;clear h0
  go_enter Tryz.func93,Tryz.ntmps93
  go_wp2_with (go_at_call 91;refine (yD.qM g L 0 1 0 1 _ HP.o rfl rfl (by decide) (by decide) (by have:=HL.o;omega)).mono ?_;rintro e w1 ⟨rfl,hp,hk,ho,ht,hu⟩;have HP1:=Y7 hp;have HK1:=Y7 hk;have HO1:=Y7 (And.intro ho (And.intro ht hu));clear hp hk ho ht hu)
  refine bg (dQ rfl _ _ _) rfl ?_;exact⟨rfl,by rw[HX.o];exact HP1.o,HK1.o,HO1.o⟩
 ·have hb:((x:Int)==0)=false:=beq_eq_false_iff_ne.2 (by omega);obtain⟨z1,z2⟩:=zs hx h0;obtain⟨H,hH⟩:∃ H,VE x=H:=⟨_,rfl⟩;obtain⟨S,hS⟩:∃ S,F6 x=S:=⟨_,rfl⟩;obtain⟨D,hD⟩:∃ D,Qq x=D:=⟨_,rfl⟩;have hs:H+S+D=64:=by rw[← hH,← hS,← hD];unfold VE F6 Qq;unfold F6 at z1;omega
  have hd:1≤D:=by rw[← hD];unfold Qq;unfold F6 at z1;omega
  have HX:oM (sK x=low 1 1++low (H*64+(D-1)) 12++low (x / 2 ^ S) D):=⟨by rw[sK,av h0,hH,hS,hD]⟩;have HLZ:=Y7 (fun W=>hH ▸ lz.calls' x W hx);have HTZ:=Y7 (fun W (h:yN W)=>hS ▸ tz.calls' x hx W h);clear h0 z1 z2 hH hS hD;have CA:=Y7 (fun W (h:PK W g L)=>yD.qM g L 1 1 1 1 W h rfl rfl (by decide) (by decide) (by have:=HL.o;omega));have hor:Go.bits .or .u64 ((H:Int)*64) (64-(H:Int)-(S:Int)-1)=((H*64+(D-1):Nat):Int):=XC (by omega) (by omega) (by omega);have CB:=Y7 (fun W (h:PK W g (L++low 1 1))=>yD.qM g (L++low 1 1) (Go.bits .or .u64 ((H:Int)*64) (64-(H:Int)-(S:Int)-1)) 12 (H*64+(D-1)) 12 W h hor rfl (by omega) (by decide) (by have:=HL.o;simp;omega));clear hor;have hsh:(x:Int) / 2 ^ S=((x / 2 ^ S:Nat):Int):=by simp
  have CD:=Y7 (fun W (h:PK W g (L++low 1 1++low (H*64+(D-1)) 12))=>yD.qM g (L++low 1 1++low (H*64+(D-1)) 12) ((x:Int) / 2 ^ S) (64-(H:Int)-(S:Int)) (x / 2 ^ S) D W h hsh (by omega) (fT (iI _ _) hx) (by omega) (by have:=HL.o;simp;omega));clear hsh
  go_enter Tryz.func93,Tryz.ntmps93
  go_wp2_with (first
   | (go_at_call 125;refine (HLZ.o _).mono ?_;rintro e wa ⟨rfl,hw⟩;rw[hw];clear hw wa)
   | (go_at_call 126;refine (HTZ.o _ HT.o).mono ?_;rintro e wa ⟨rfl,hw⟩;rw[hw];clear hw wa)
   | (go_at_call 91;(with_reducible refine (CA.o _ HP.o).mono ?_);rintro e w1 ⟨rfl,hp,hk,ho,ht,hu⟩;have HP1:=Y7 hp;have HK1:=Y7 hk;have HO1:=Y7 (And.intro ho (And.intro ht hu));clear hp hk ho ht hu)
   | (go_at_call 91;(with_reducible refine (CB.o _ HP1.o).mono ?_);rintro e w2 ⟨rfl,hp,hk,ho,ht,hu⟩;have HP2:=Y7 hp;have HK2:=Y7 (HK1.o.trans hk (.inl rfl));have HO2:=Y7 (And.intro (ho.trans HO1.o.1) (And.intro (ht.trans HO1.o.2.1) (hu.trans HO1.o.2.2)));clear hp hk ho ht hu)
   | (go_at_call 91;(with_reducible refine (CD.o _ HP2.o).mono ?_);rintro e w3 ⟨rfl,hp,hk,ho,ht,hu⟩;have HP3:=Y7 hp;have HK3:=Y7 (HK2.o.trans hk (.inl rfl));have HO3:=Y7 (And.intro (ho.trans HO2.o.1) (And.intro (ht.trans HO2.o.2.1) (hu.trans HO2.o.2.2)));clear hp hk ho ht hu))
  refine fF (dQ rfl _ _ _) rfl ?_;exact⟨rfl,by rw[HX.o,← bC,← bC];exact HP3.o,HK3.o,HO3.o⟩
def Bd (x:qG):Prop:=(-9223372036854775808≤x.f0∧x.f0≤9223372036854775807)∧0≤x.f1∧x.f1<18446744073709551616
def Vy (y x:qG)(step:Int):List Bool:=intBits (wrap64 (wrap64 (x.f0-y.f0)-step))++sK (x.f1.toNat ^^^ y.f1.toNat)
def uP (l:List qG):Nat→Int
 | 0=>0
 | 1=>0
 | k+2=>wrap64 ((pI l ((k+1:Nat):Int)).f0-(pI l ((k:Nat):Int)).f0)
def tH (l:List qG):Nat→List Bool
 | 0=>[]
 | 1=>low (IntKind.u64.wrap (pI l 0).f0).toNat 64++low (pI l 0).f1.toNat 64
 | k+2=>tH l (k+1)++Vy (pI l ((k:Nat):Int)) (pI l ((k+1:Nat):Int)) (uP l (k+1))
theorem yC (v:Int):(intBits v).length≤80:=by
 have h1:=width_le (rG v);have h2:=yO v;unfold intBits;split<;>simp<;>omega
theorem NU (x:Nat)(hx:x<18446744073709551616):(sK x).length≤80:=by
 unfold sK;split
 ·simp
 ·have:Qq x≤64:=by
   have:=gQ x 64 (by decide) hx;unfold Qq;omega
  simp;omega
theorem I6 {a b:Int}(ha:0≤a∧a<18446744073709551616)(hb:0≤b∧b<18446744073709551616):a.toNat ^^^ b.toNat<18446744073709551616:=
 iW (n:=64) (by omega) (by omega)
theorem wD (l:List qG)(hl:∀ x∈l,Bd x):∀ k,k≤l.length→(tH l k).length≤160*k
 | 0,_=>by simp[tH]
 | 1,_=>by simp[tH]
 | k+2,h=>by
   have ih:=wD l hl (k+1) (by omega);have h1:=yC (wrap64 (wrap64 ((pI l ((k+1:Nat):Int)).f0-(pI l ((k:Nat):Int)).f0)-uP l (k+1)));have hm:∀ j,j<l.length→Bd (pI l ((j:Nat):Int)):=fun j hj=>by
    have e:pI l ((j:Nat):Int)=l[j]:=by simp[pI,aV,aR hj]
    rw[e];exact hl _ (dL hj)
   have h2:=NU _ (I6 (hm (k+1) (by omega)).2 (hm k (by omega)).2);simp only[tH,Vy,aT];omega
def vC (l:List qG):Bool:=((List.range (l.length-1)).all fun i=>decide ((pI l ((i:Nat):Int)).f0<(pI l ((i+1:Nat):Int)).f0))&&decide (l.length≤65535)
theorem Mg (l:List qG)(hl:l.length≤1000000):∀ d i,i+1+d=l.length→∀ k,d<k→rY.l0 k l ((i+1:Nat):Int)=some (((List.range d).all fun q=>decide ((pI l ((i+q:Nat):Int)).f0<(pI l ((i+q+1:Nat):Int)).f0))&&decide (l.length≤65535))
 | 0,i,h,k+1,hk=>by
   unfold rY.l0;rw[av (by omega)];simp;omega
 | d+1,i,h,k+1,hk=>by
   unfold rY.l0;have e1:wrap64 (((i+1:Nat):Int)-1)=((i:Nat):Int):=by rw[wK (by omega) (by omega)];omega
   have e2:wrap64 (((i+1:Nat):Int)+1)=((i+1+1:Nat):Int):=by rw[wK (by omega) (by omega)];omega
   rw[au (by omega),au (by omega),e1,au (by omega),au (by omega),e2,lI,oG,oJ]
   by_cases hh:(pI l ((i+1:Nat):Int)).f0≤(pI l ((i:Nat):Int)).f0
   ·rw[au hh];have h2:¬ (pI l ((i:Nat):Int)).f0<(pI l ((i+1:Nat):Int)).f0:=by omega
    have e3:decide ((pI l ((i+0:Nat):Int)).f0<(pI l ((i+0+1:Nat):Int)).f0)=false:=aD h2;rw[e3,kE,kE]
   ·rw[av hh,Mg l hl d (i+1) (by omega) k (by omega)];have h2:(pI l ((i:Nat):Int)).f0<(pI l ((i+1:Nat):Int)).f0:=by omega
    have e3:decide ((pI l ((i+0:Nat):Int)).f0<(pI l ((i+0+1:Nat):Int)).f0)=true:=aC h2;rw[e3,jc];congr 3
    funext q
    simp only[Function.comp,show i+1+q=i+(q+1) by omega,mJ]
theorem Ta (l:List qG)(hl:l.length≤1000000)(k:Nat)(hk:l.length<k):rY.f k l=some (vC l):=by
 unfold rY.f vC
 by_cases h:0<l.length
 ·have:=Mg l hl (l.length-1) 0 (by omega) k (by omega);simp only[dK] at this;exact this
 ·obtain⟨k,rfl⟩:∃ k',k=k'+1:=⟨k-1,by omega⟩;unfold rY.l0;rw[av (by omega),show l.length-1=0 by omega];simp;omega
theorem Ab {w W W':World}{g:Nat}(h:Below w.heap.size w W)(hk:pG W W' g none)(hg:w.heap.size≤g)(ho:W'.os=W.os)(ht:W'.tape=W.tape)(hu:W'.output=W.output):Below w.heap.size w W' :=
 ⟨ho.trans h.os,ht.trans h.tape,hu.trans h.output,bY h.size hk.1,fun q hq=>(hk.2 q (dA hq h.size) (by omega) (by simp)).trans (h.block q hq)⟩
theorem sN.QB (A:Option Addr)(c:Nat)(l:List qG)(w:World)(hr:Kd.C vX w A l.length l)(hc:l.length≤c)(hlen:l.length≤20000)(h:vC l=false) :
 Calls Tryz.prog 61 #[.slice A l.length c] w fun e w'=>e = .returned (.tuple #[.slice none 0 0,.int .i64 1])∧Below w.heap.size w w':=by
 have HR:=Y7 hr;have HC:=Y7 hc;have HF:oM (rY.f 100000 l=some false):=⟨by rw[Ta l (by omega) _ (by omega),h]⟩;clear hr hc hlen h
 go_enter Tryz.func61,Tryz.ntmps61
 go_wp2_with (go_at_call 88;(with_reducible refine (rY.c 100000 _ _ l false _ HR.o HC.o HF.o).mono ?_);rintro e w1 ⟨rfl,hd⟩;have HB:=Y7 hd.below;clear hd)
 refine bg (dD rfl _ _ _) rfl ?_;exact⟨rfl,HB.o⟩
theorem KY:yV [] 0 where
 bytes:=fun x hx=>absurd hx (by simp)
 le:=by simp
 near:=by simp
 tail:=fun i _ h=>by simp at h
theorem XE {W:World}{g:Nat}(h:W.heap[g]? = some (.cells #[.slice none 0 0,.int .i64 0] 151 (0,0))):PK W g []:=
 ⟨none,0,[],h,Kd.tJ _ _ _ _ _,KY,rfl⟩
theorem qH {w:World}{a:Addr}{v:Value}(o:Obj)(h:w.cell? a=some v):(w.alloc o).cell? a=some v:=pW (oN (aU _ _) o) h
theorem PK.lt {W:World}{g:Nat}{L:List Bool}(h:PK W g L):g<W.heap.size:=by
 obtain⟨A,c,l,h1,_⟩:=h;exact qQ h1
theorem xR (l:List qG)(k:Nat)(h:k<l.length):pI l (k:Int)∈l:=by
 have e:pI l (k:Int)=l[k]:=by simp[pI,aV,aR h]
 rw[e];exact dL h
theorem Qd {q:Int}(h0:0≤q)(h1:q<18446744073709551616)(n:Nat)(hn:n≤8:=by decide):uZ.f (IntKind.u64.wrap q) n=some (rD q.toNat n):=by
 have e:IntKind.u64.wrap q=q:=by rw[wrap_u64];omega
 rw[e,uZ.f,au ⟨h0,h1⟩];congr 2;unfold wid;omega
theorem uy (x:Int):0≤IntKind.u64.wrap x∧IntKind.u64.wrap x<18446744073709551616:=by
 rw[wrap_u64];omega
theorem sN.S9 (A:Option Addr)(c:Nat)(l:List qG)(w:World)(hr:Kd.C vX w A l.length l)(hc:l.length≤c)(hw:∀ x∈l,Bd x)(hlen:l.length≤20000)(hT:yN w)(h:vC l=true) :
 Calls Tryz.prog 61 #[.slice A l.length c] w fun e w'=>∃ (v:Value) (b:List Int),e = .returned (.tuple #[v,.int .i64 0])∧yV b (tH l l.length).length∧Bs b (tH l l.length).length=tH l l.length∧Kd.R (Kd.int .u8) 5 w' w.heap.size (fun _=>True) v (rD l.length 2++b)∧Below w.heap.size w w':=by
 have HR:=Y7 hr;have HC:=Y7 hc;have HT:=Y7 hT;have HW:=Y7 hw;have HLN:=Y7 hlen;have HF:oM (rY.f 100000 l=some true):=⟨by rw[Ta l (by omega) _ (by omega),h]⟩;clear hr hc hT hw h hlen
 go_enter Tryz.func61,Tryz.ntmps61
 go_wp2_with (first
  | (go_at_call 88;(with_reducible refine (rY.c 100000 _ _ l true _ HR.o HC.o HF.o).mono ?_);rintro e w1 ⟨rfl,hd⟩;have HB1:=Y7 hd.below;clear hd)
  | ((with_reducible refine qm (N:=4) rfl ?_);refine rF ?hg (N:=4) ?hd (cs := #[.slice none 0 0,.int .i64 0]) (t:=151) ?hr ?_;(case hd=>rfl);(case hg=>rfl);(case hr=>first|(go_simp;done)|(go_simp;rfl));intro g hg w2 Zo hb;have HB2:=Y7 (oP HB1.o hb);have HBK:=Y7 Zo;have HG:oM (w.heap.size≤g):=⟨by have:=HB1.o.size;omega⟩;clear hb Zo hg))
 have HPK:oM (PK w2 g (tH l 0)):=⟨XE HBK.o⟩
 go_loopw [5,14] (fun v i wr=>∃ k:Nat,k≤l.length∧i = .int .i64 k∧v = .int .i64 (uP l k)∧oM (PK wr g (tH l k))∧oM (Below w.heap.size w wr)) (fun _ i _=>l.length-(intOf i).toNat)
 case atStart=>exact⟨0,bP _,rfl,rfl,HPK,HB2⟩
 case round=>
  clear HPK HBK HB2;obtain⟨k,hk,rfl,rfl,HP,HB⟩:=hrel;have hl2:l.length≤20000:=HLN.o
  by_cases hlt:k<l.length
  ·have hC:=Kd.o9 HR.o HB.o;obtain⟨ad,rfl,h0,h1⟩:=tY hC (k:Int) (by omega) (by omega);rw[aG] at h0 h1;have hx:=HW.o _ (xR l k hlt);have HRD:=Y7 hC;have hgw:=(HP.o).lt;clear hC;cases k with
   | zero=>
     obtain⟨v0,hv0⟩:=bO (uy (pI l 0).f0).1;obtain⟨v1,hv1⟩:=bO hx.2.1;have CA:=Y7 (fun W (h:PK W g (tH l 0))=>yD.qM g [] (IntKind.u64.wrap (pI l 0).f0) 64 v0 64 W h hv0 rfl (by have:=(uy (pI l 0).f0).2;omega) (by decide) (by simp));have CB:=Y7 (fun W (h:PK W g ([]++low v0 64))=>yD.qM g ([]++low v0 64) (pI l 0).f1 64 v1 64 W h hv1 rfl (by have:=hx.2.2;omega) (by decide) (by simp));have EV:oM ((IntKind.u64.wrap (pI l 0).f0).toNat=v0∧(pI l 0).f1.toNat=v1):=⟨by rw[hv0];rfl,by have h_:(pI l 0).f1=(v1:Int):=hv1;rw[h_];rfl⟩;clear hv0 hv1 hx;have h0':wr.cell? ad=some (.int .i64 (pI l 0).f0):=by simpa [Addr.add] using h0
     have h1':wr.cell? ⟨ad.block,ad.off+1,none⟩=some (.int .u64 (pI l 0).f1):=by simpa [Addr.add] using h1
     clear h0 h1
     go_wp2_with (first
      | (go_at_call 91;(with_reducible refine (CA.o _ ?s1).mono ?_);(case s1=>exact HP.o.keep (by repeat (first | exact aU _ _ | apply oN | apply oV)));rintro e w3 ⟨rfl,hp,hk,ho,ht,hu⟩;have HP3:=Y7 hp;have BX:=(hk.2 wr.heap.size (by simp) (by omega) (by simp)).trans (qx wr _);have f1:=(oQ BX 1).trans rfl;have HB3:=Y7 (Ab (oN HB.o _) hk (by have:=HG.o;exact this) ho ht hu);clear hp hk ho ht hu BX)
      | (go_at_call 91;(with_reducible refine (CB.o _ HP3.o).mono ?_);rintro e w4 ⟨rfl,hp,hk,ho,ht,hu⟩;have HP4:=Y7 hp;have HB4:=Y7 (Ab HB3.o hk (by have:=HG.o;exact this) ho ht hu);clear hp hk ho ht hu)
      )
     go_roundw
     case rel=>
      refine⟨1,by omega,by go_num,rfl,⟨?_⟩,HB4⟩;have:=HP4.o;rw[cB,← EV.o.1,← EV.o.2] at this;exact this
     case measure=>simp[intOf];omega
   | succ k=>
     obtain⟨ad',hh,y0,y1⟩:=tY HRD.o (k:Int) (by omega) (by omega);obtain rfl:=bB hh;rw[aG] at y0 y1;have hy:=HW.o _ (xR l k (by omega));have HST:oM (tH l (k+2)=tH l (k+1)++Vy (pI l (k:Int)) (pI l ((k+1:Nat):Int)) (uP l (k+1))∧uP l (k+2)=wrap64 ((pI l ((k+1:Nat):Int)).f0-(pI l (k:Int)).f0)∧(tH l (k+1)).length≤160*(k+1)):=⟨⟨rfl,rfl,wD l HW.o _ (by omega)⟩⟩;clear hh;generalize hye:pI l (k:Int)=y at *;have HYE:=Y7 hye;clear hye;generalize pI l ((k+1:Nat):Int)=x at *;generalize uP l (k+1)=st at *;have hwk:wrap64 (k:Int)=(k:Int):=wK (by omega) (by omega);rw[show ((k+1:Nat):Int)=(k:Int)+1 from by omega] at *;go_wp2;have y0':=qH (.cells #[.int .i64 x.f0,.int .u64 x.f1] 70) y0;have y1':=qH (.cells #[.int .i64 x.f0,.int .u64 x.f1] 70) y1;have HPA:=Y7 (HP.o.keep (oN (aU _ _) (.cells #[.int .i64 x.f0,.int .u64 x.f1] 70)));have HBA:=Y7 (oN HB.o (.cells #[.int .i64 x.f0,.int .u64 x.f1] 70));have HXB:=Y7 (qx wr (.cells #[.int .i64 x.f0,.int .u64 x.f1] 70))
     go_cut [5] (fun v wx=>v = .int .i64 (wrap64 (x.f0-y.f0))∧oM (Below (wr.heap.size+1) (wr.alloc (.cells #[.int .i64 x.f0,.int .u64 x.f1] 70)) wx))
     case first=>
      go_region
      all_goals (go_wp2_with fail;go_meet;exact⟨rfl,⟨by repeat (first | exact aU _ _ | apply oN | apply oV)⟩⟩)
     case rest=>
      obtain⟨rfl,HBc⟩:=hcut;have hbc:Below (wr.alloc (.cells #[.int .i64 x.f0,.int .u64 x.f1] 70)).heap.size (wr.alloc (.cells #[.int .i64 x.f0,.int .u64 x.f1] 70)) wc:=by simpa using HBc.o
      have HPc:=Y7 (HPA.o.keep hbc);have BXc:=Y7 (o7 HXB.o hbc);have HBw:=Y7 (oP HBA.o hbc);clear hbc;have HGX:oM (wr.heap.size<wc.heap.size∧wr.heap.size≠g):=⟨by have:=qQ BXc.o;exact this,by omega⟩;have hln:=HST.o.2.2;have amC:=HLN.o;have CN:=Y7 (fun W (h:PK W g (tH l (k+1)))=>Nf.c g (tH l (k+1)) (wrap64 (wrap64 (x.f0-y.f0)-st)) W h (by omega));obtain⟨xv,hxv⟩:∃ n:Nat,x.f1.toNat ^^^ y.f1.toNat=n:=⟨_,rfl⟩;have hxl:xv<18446744073709551616:=hxv ▸ I6 hx.2 hy.2;have hxe:Go.bits .xor .u64 x.f1 y.f1=(xv:Int):=by
       rw[← hxv];obtain⟨a,ha⟩:=bO hx.2.1;obtain⟨b,hb⟩:=bO hy.2.1;rw[ha,hb,u64_xor_nat a b (by have:=hx.2.2;omega) (by have:=hy.2.2;omega)];simp
      have hib:=yC (wrap64 (wrap64 (x.f0-y.f0)-st));have CV:=Y7 (fun W (h:PK W g (tH l (k+1)++intBits (wrap64 (wrap64 (x.f0-y.f0)-st)))) (ht:yN W)=>OH.c g _ xv W h hxl (by rw[aT];omega) ht);have HXV:=Y7 hxv;clear y0 y1 y0' y1' h0 h1 HPA HBA HXB hib hxv HP hln amC
      go_wp2_with (go_at_call 92;(with_reducible refine (CN.o _ HPc.o).mono ?_);rintro e w5 ⟨rfl,hp,hk,ho,ht,hu⟩;have HP5:=Y7 hp;have BX5:=Y7 ((hk.2 wr.heap.size HGX.o.1 HGX.o.2 (by simp)).trans BXc.o);have HB5:=Y7 (Ab HBw.o hk (by have:=HG.o;exact this) ho ht hu);clear hp hk ho ht hu)
      have xb1:w5.cell? ⟨wr.heap.size,1,none⟩=some (.int .u64 x.f1):=(oQ BX5.o 1).trans rfl;have hkl:(k:Int)<(l.length:Int):=by omega
      have amD:IntKind.i64.wrap (k:Int)=(k:Int):=(q8 _).trans hwk;obtain⟨ad',hh,y0,y1⟩:=tY (Kd.o9 HR.o HB5.o) (k:Int) (by omega) (by omega);obtain rfl:=bB hh;rw[aG] at y0 y1;rw[HYE.o] at y1;clear hh y0 hx hy;have y1':w5.drew.cell? ⟨(ad.add (k*2)).block,(ad.add (k*2)).off+1,none⟩=some (Value.int IntKind.u64 y.f1):=y1
      go_region_with (go_at_call 93;(refine (CV.o _ ?s1 ?s2).mono ?_);(case s1=>exact HP5.o.keep (by repeat (first | exact aU _ _ | apply oN | apply oV)));(case s2=>exact HT.o.below (by repeat (first | exact HB5.o | apply oN | apply oV)));rintro e w6 ⟨rfl,hp,hk,ho,ht,hu⟩;have HP6:=Y7 hp;have HB6:=Y7 (Ab (oV HB5.o) hk (by have:=HG.o;exact this) ho ht hu);clear hp hk ho ht hu)
      all_goals
       go_wp2_with fail
       go_wp2_with fail
       go_wp2_with fail
       go_wp2_with fail
       go_wp2_with fail
       go_roundw
       case rel=>
        refine⟨k+2,by omega,by go_num,by rw[HST.o.2.1],⟨?_⟩,HB6⟩;have:=HP6.o;rw[HST.o.1,Vy,HXV.o,← bC];exact this
       case measure=>simp[intOf];omega
  ·obtain rfl:k=l.length:=by omega
   go_wp2;obtain⟨Ax,cx,lx,hblk,hRx,adU,aj8⟩:=HP.o;have h0:wr.cell? ⟨g,0,none⟩=some (.slice Ax lx.length cx):=(oQ hblk 0).trans rfl;have BG:=Y7 hblk;have HNX:oM (lx.length≤400001):=⟨by have:=wD l HW.o l.length (ay _);have:=adU.near;omega⟩;have HOX:=Y7 adU;have HBX:=Y7 aj8;have HRX:=Y7 (Kd.pE hRx).2.2;have HPT:oM (uZ.f (IntKind.u64.wrap (l.length:Int)) 2=some (rD l.length 2)):=⟨Qd (by omega) (by omega) 2⟩;have aj9:(rD l.length 2).length=2:=pY _ _;have HL2:=Y7 aj9;have HBD:=Y7 (oV HB.o);clear hblk hRx adU aj8 aj9 hlt hk;refine DR (n:=10) (ds:=[]) (S:=fun W=>W.cell? ⟨g,0,none⟩=some (.slice Ax lx.length cx)) #[false,false,false,false,false,false,false,false,false,false] rfl rfl rfl h0 (fun hS=>?_);refine rC (i:=0) (N:=some 53) (v:=?_) (a':=?_) #[true,false,false,false,false,false,false,false,false,false] rfl rfl (by kernel_rfl) (fun _ _ _ h=>h) (Or.inl ⟨by rfl,?_⟩) ?_ ?_
   rotate_left
   ·intro w';go_simp
    with_reducible rfl
   rotate_left
   ·simp only[Act.put,ah,ak,aj,q8,xE];rfl
   refine rC (i:=1) (N:=some 54) (v:=?_) (a':=?_) #[true,true,false,false,false,false,false,false,false,false] rfl rfl (by kernel_rfl) (fun _ _ _ h=>h) (Or.inl ⟨by rfl,?_⟩) ?_ ?_
   rotate_left
   ·intro w';go_simp
    with_reducible rfl
   rotate_left
   ·simp only[Act.put,ah,ak,aj,q8,xE];rfl
   refine rC (i:=2) (N:=some 55) (v:=?_) (a':=?_) #[true,true,true,false,false,false,false,false,false,false] rfl rfl (by kernel_rfl) (fun _ _ _ h=>h) (Or.inl ⟨by rfl,?_⟩) ?_ ?_
   rotate_left
   ·intro w';go_simp
    with_reducible rfl
   rotate_left
   ·simp only[Act.put,ah,ak,aj,q8,xE];rfl
   refine rC (i:=4) (N:=some 57) (v:=?_) (a':=?_) #[true,true,true,false,true,false,false,false,false,false] rfl rfl (by kernel_rfl) (fun _ _ _ h=>h) (Or.inl ⟨by rfl,?_⟩) ?_ ?_
   rotate_left
   ·intro w';go_simp
    with_reducible rfl
   rotate_left
   ·simp only[Act.put,ah,ak,aj,q8,xE];rfl
   refine rC (i:=5) (N:=some 58) (v:=?_) (a':=?_) #[true,true,true,false,true,true,false,false,false,false] rfl rfl (by kernel_rfl) (fun _ _ _ h=>h) (Or.inl ⟨by rfl,?_⟩) ?_ ?_
   rotate_left
   ·intro w';go_simp
    with_reducible rfl
   rotate_left
   ·simp only[Act.put,ah,ak,aj,q8,xE];rfl
   refine EI (i:=6) (N:=some 59) (v:=?_) (a':=?_) #[true,true,true,false,true,true,true,false,false,false] rfl rfl (by kernel_rfl) (fun _ _ _ h=>h) (Or.inl ⟨by rfl,?_⟩) hS ?_ ?_
   rotate_left
   ·rintro w' s0;go_simp
    with_reducible rfl
   rotate_left
   ·simp only[Act.put,ah,ak,aj,q8,xE];rfl
   refine zG (i:=3) (N:=some 56) #[true,true,true,true,true,true,true,false,false,false] rfl rfl (by kernel_rfl) (by decide) (fun K hK=>?_);refine TB Tryz.func31 (by kernel_rfl) rfl #[.int .u64 (IntKind.u64.wrap (l.length:Int)),.int .i64 2] (by rfl) rfl rfl ?h1 ?_
   case h1=>first | rfl | (simp only[bR,bS,bZ];rfl)
   refine (uZ.c _ 2 (rD l.length 2) _ HPT.o).mono ?_;rintro e w3 ⟨v3,rfl,hr3,hb3⟩;have HB3:=Y7 (oP HBD.o hb3);have HR3:=Y7 (Kd.qW hr3 (qh HBD.o));have hS3:w3.cell? ⟨g,0,none⟩=some (.slice Ax lx.length cx):=pW hb3 hS;have BG3:=Y7 (o7 (pX BG.o) hb3);have HX3:=Y7 (Kd.o9 (Kd.sH HRX.o) hb3);obtain⟨A3,c3,rfl⟩:=Kd.pO hr3;clear hb3 hr3 HRX;refine⟨_,rfl,?_⟩;refine hK.o _ _ hS3 (fun hS=>?_);clear hK K;refine tu (a':=?_) ?_ ?_
   rotate_left
   ·show Act.put _ (some 56) _=_;simp only[Act.put,ah,ak,aj,q8,xE];rfl
   refine zG (i:=7) (N:=some 60) #[true,true,true,true,true,true,true,true,false,false] rfl rfl (by kernel_rfl) (by decide) (fun K hK=>?_);refine Kd.qI (Kd.int .u8) (Rr:=(Kd.int .u8).K w3) (w0:=w) w.heap.size (by rfl) (.tmp 56) (.tmp 59) 24 5 (.int .u8 0) 1 rfl Tryz.underlying24 rW rfl (by decide) (by omega) (.slice A3 (rD l.length 2).length c3) (rD l.length 2) lx Ax lx.length cx (fun _=>True) (fun _=>False) rfl rfl HR3.o HX3.o (fun _ _ h=>h) (fun _ hk=>hk.elim) (fun _ _=>bE) HB3.o (qh HB3.o) (by have:=HNX.o;have:=HL2.o;omega) ?_;intro v4 w4 ho hb hg hat;have HO4:=Y7 ho;have HB4:=Y7 hb;clear ho hb hat;have hS4:w4.cell? ⟨g,0,none⟩=some (.slice Ax lx.length cx):=(oQ (qK BG3.o hg (Kd.DZ HR3.o BG3.o (by decide))) 0).trans rfl;clear hg;refine hK.o _ _ hS4 (fun hS=>?_);clear hK K;refine tu (a':=?_) ?_ ?_
   rotate_left
   ·show Act.put _ (some 60) _=_;simp only[Act.put,ah,ak,aj,q8,xE];rfl
   refine rC (i:=8) (N:=some 2) (v:=?_) (a':=?_) #[true,true,true,true,true,true,true,true,true,false] rfl rfl (by kernel_rfl) (fun _ _ _ h=>h) (Or.inl ⟨by rfl,?_⟩) ?_ ?_
   rotate_left
   ·intro w';go_simp
    with_reducible rfl
   rotate_left
   ·simp only[Act.put,ah,ak,aj,q8,xE];rfl
   refine rC (i:=9) (N:=some 3) (v:=?_) (a':=?_) #[true,true,true,true,true,true,true,true,true,true] rfl rfl (by kernel_rfl) (fun _ _ _ h=>h) (Or.inl ⟨by rfl,?_⟩) ?_ ?_
   rotate_left
   ·intro w';go_simp
    with_reducible rfl
   rotate_left
   ·simp only[Act.put,ah,ak,aj,q8,xE];rfl
   refine Hr (by kernel_rfl) ?_;go_wp2;refine bg (dD rfl _ _ _) rfl ?_;exact⟨v4,lx,rfl,HOX.o,HBX.o,HO4.o,HB4.o⟩
def OU (B:Nat)(W:World)(g:Nat)(L:List Bool):Prop:=∃ u:Value,W.heap[g]? = some (.cells #[u] 137 (0,0))∧Kd.R Kd.bool 4 W B (fun _=>True) u L
def zJ (g:Nat)(w w':World):Prop:=∀ (q:Nat) (cs:Array Value) (t:Nat),q≠g→4≠t→w.heap[q]? = some (.cells cs t (0,0))→w'.heap[q]? = some (.cells cs t (0,0))
theorem zJ.refl (g:Nat)(w:World):zJ g w w:=fun _ _ _ _ _ h=>h
theorem zJ.trans {g:Nat}{a b c:World}(h:zJ g a b)(k:zJ g b c):zJ g a c:=fun q cs t h1 h2 h3=>k q cs t h1 h2 (h q cs t h1 h2 h3)
theorem TI:(Tryz.prog.info? 4).map (fun i=>(i.zero,i.size,i.bytes))=some (some (.bool false),1,1):=by kernel_rfl
theorem and_one (v i:Nat)(hv:v<18446744073709551616)(hi:i≤64):(Go.bits .and .u64 ((v:Int) / 2 ^ i) 1==1)=v.testBit i:=by
 have:=VN v i hv hi;rw[EB .u64 v i (by simpa [IntKind.bits] using hi)] at this;rw[← this];simp
theorem tF.c (B g:Nat)(L:List Bool)(v c:Nat)(w0 w:World)(hO:OU B w g L)(hB:Below B w0 w)(hgB:B≤g)(hv:v<18446744073709551616)(hc:c≤64)(hL:L.length≤7000000) :
 Calls Tryz.prog 81 #[.pointer (some ⟨g,0,none⟩),.int .u64 (v:Int),.int .i64 (c:Int)] w fun e w'=>e = .returned (.tuple #[])∧OU B w' g (L++low v c)∧Below B w0 w'∧zJ g w w':=by
 obtain⟨u,hblk,hR⟩:=hO;have HB0:=Y7 hB;have akb:=Y7 hblk;have HR0:=Y7 hR;have HGB:=Y7 hgB;have HV:=Y7 hv;have HL:=Y7 hL;have hcn:(0:Int)≤(c:Int):=eZ _;clear hB hblk hR hgB hv hL
 go_enter Tryz.func81,Tryz.ntmps81
 go_wp2_with fail
 go_loopw [6] (fun v6 wr=>∃ (I:Int) (j:Nat) (u:Value),v6 = .int .i64 I∧oM (I=(c:Int)-1-(j:Int)∧j≤c)∧oM (Kd.R Kd.bool 4 wr B (fun _=>True) u (L++(low v c).take j))∧oM (wr.heap[g]? = some (.cells #[u] 137 (0,0)))∧oM (Below B w0 wr)∧oM (zJ g w wr)) (fun i _=>(intOf i+1).toNat)
 case atStart=>exact⟨_,0,u,rfl,⟨by omega,by omega⟩,⟨by simpa using HR0.o⟩,akb,HB0,⟨zJ.refl _ _⟩⟩
 case round=>
  clear akb HB0 HR0;obtain⟨I,j,u,rfl,HI,HO,BK,HB,HK⟩:=hrel
  by_cases hlt:0≤I
  ·obtain⟨i,rfl⟩:=bO hlt;have hi:=HI.o;have aoM:i<64:=by omega
   have hz0:wr.cell? ⟨g,0,none⟩=some u:=oQ BK.o 0;have hf0:=oW BK.o 0;have HB1:=Y7 (and_one v i HV.o (by omega));have HST:oM (L++(low v c).take (j+1)=L++(low v c).take j++[v.testBit i]∧(L++(low v c).take j).length≤8000000):=⟨by
    have hj:j<(low v c).length:=by rw[rH];omega
    rw[bQ hj,Ck v c j (by omega),show c-1-j=i by omega,bC];refine⟨rfl,?_⟩;rw[aT,aW,rH];have:=HL.o;omega⟩
   generalize L++(low v c).take j=X at HO HST;obtain⟨A,cc,rfl⟩:=Kd.pO HO.o;have hbit:=HB1.o;clear hlt hi
   go_wp2_with fail
   have HO2:=Y7 (Kd.vK HO.o);have BK2:=Y7 (pX BK.o);have HB2:=Y7 (oV HB.o);have hz3:(wr.alloc (.cells #[.bool (v.testBit i)] 4)).cell? ⟨g,0,none⟩=some (.slice A X.length cc):=pW (oN (aU _ _) _) hz0
   go_region_law
    ((refine Kd.CW Kd.bool (w0:=w0) (W:=wr.drew) B ?_ (.tmp 17) (.tmp 23) 135 4 (.bool false) 1 ?_ Tryz.underlying135 TI rfl (by decide) (by omega) (.slice A X.length cc) X (v.testBit i) [.bool (v.testBit i)] (fun _=>True) (fun _=>False) ?_ ?_ ?_ (fun _ hk=>hk.elim) (fun _ _=>bE) HO2.o HB2.o ?_ ?_ ?_
      ·rfl
      ·rfl
      ·rfl
      ·rfl
      ·exact rfl
      ·have h_:=HGB.o;have h2_:=qQ BK2.o;omega
      ·have:=HST.o.2;omega
      intro v4 w4 ho hb hg hat;obtain⟨A4,c4,rfl⟩:=Kd.pO ho;have BK4:=Y7 (qK (g:=g) BK2.o hg (Kd.DZ HO2.o BK2.o (by decide)));have HO4:=Y7 ho;have HB4:=Y7 hb;have HG4:=Y7 hg;have hz4:=(oQ BK4.o 0).trans rfl;have hf4:=oW BK4.o 0;clear ho hb hg hat))
   all_goals
    go_wp2_with fail
    go_roundw
    case rel=>
     have hl:(X++[v.testBit i]).length=X.length+1:=by simp
     have HO5:=HO4.o;rw[hl] at HO5;refine⟨_,j+1,.slice A4 (X.length+1) c4,rfl,⟨by have:=HI.o;omega⟩,⟨?_⟩,⟨qF BK4.o 0 _ rfl⟩,⟨HB4.o.setCell (p:=⟨g,0,none⟩) HGB.o _⟩,⟨fun q cs t hq ht hh=>?_⟩⟩
     ·rw[HST.o.1];exact Kd.qR (Kd.sS (p:=⟨g,0,none⟩) (Kd.yL HO5 BK4.o (by decide)) (fun _ hk=>hk.2) _) (fun _ _=>bE)
     ·have h1:=HK.o q cs t hq ht hh;exact vH (p:=⟨g,0,none⟩) (qK (pX h1) HG4.o (Kd.DZ HO2.o (pX h1) ht)) hq _
    case measure=>simp[intOf]<;>omega
  ·have hd:decide (0≤I)=false:=aD hlt;have HJ:oM (j=c):=⟨by have:=HI.o;omega⟩;clear hlt
   go_wp2_with fail
   refine fF (dQ rfl _ _ _) rfl ?_;refine⟨rfl,⟨u,BK.o,?_⟩,HB.o,HK.o⟩;have:=HO.o;rwa [HJ.o,iO (by rw[rH];omega)] at this
theorem Xm.c (A0:Option Addr)(c0:Nat)(A1:Option Addr)(c1 n:Nat)(l:List tQ)(w:World)(hn:l.length=n)(hr0:Kd.C xU w A0 n l)(hr1:Kd.C xU w A1 n l)(hl:n≤1000000) :
 Calls Tryz.prog 41 #[.slice A0 n c0,.slice A1 n c1] w fun e w'=>e = .returned (.bool true)∧Below w.heap.size w w':=by
 subst hn;have HR0:=Y7 hr0;have HR1:=Y7 hr1;clear hr0 hr1;have hnn:((l.length:Int) != (l.length:Int))=false:=by simp
 go_enter Tryz.func41,Tryz.ntmps41
 go_wp2
 go_loopw [13] (fun i wr=>∃ k:Nat,k≤l.length∧i = .int .i64 k∧oM (Below w.heap.size w wr)) (fun i _=>l.length-(intOf i).toNat)
 case atStart=>exact⟨0,bP _,rfl,⟨aU _ _⟩⟩
 case round=>
  obtain⟨k,hk,rfl,HB⟩:=hrel
  by_cases hlt:k<l.length
  ·obtain⟨ad,rfl,e0,e1⟩:=xu (Kd.o9 HR0.o HB.o) (k:Int) (by omega) (by omega);obtain⟨ae,rfl,g0,g1⟩:=xu (Kd.o9 HR1.o HB.o) (k:Int) (by omega) (by omega);rw[aG] at e0 e1 g0 g1;generalize qN l (k:Int)=x at e0 e1 g0 g1;go_wp2
   go_region
   go_wp2
   go_roundw
   case rel=>exact⟨k+1,by omega,by go_num,⟨q9 HB.o⟩⟩
   case measure=>simp[intOf];omega
  ·obtain rfl:k=l.length:=by omega
   go_wp2;go_ret;exact⟨rfl,HB.o⟩
theorem piece.bad (A:Option Addr)(c n:Nat)(b:List Int)(w:World)(hn:b.length=n)(hr:Kd.C (Kd.int .u8) w A n b)(hc:n≤c)(hok:∀ x∈b,0≤x∧x<256)(hlen:n≤1000000)(h:tX b=none) :
 Calls Tryz.prog 117 #[.slice A n c] w fun e w'=>e = .returned (.tuple #[.string ⟨#[]⟩,.slice none 0 0,.bool false])∧Below w.heap.size w w':=by
 subst hn
 by_cases h0:b.length=0
 ·have e1:((b.length:Int)==0)=true:=beq_iff_eq.2 (by omega);clear h0 hr hc hok hlen h
  go_enter Tryz.func117,Tryz.ntmps117
  go_wp2;refine bg (fB rfl _ _ _) rfl ?_;exact⟨rfl,aU _ _⟩
 ·have e1:((b.length:Int)==0)=false:=beq_eq_false_iff_ne.2 (by omega);have hp:0<b.length:=by omega
  obtain⟨m,hm,akc⟩:=zN hok hp;obtain⟨ad,rfl,hcl⟩:=cell0 hr hp;rw[hm] at hcl;have hl:(0:Int)<(b.length:Int):=by omega
  have hs:(b.length:Int)-1<(m:Int):=by
   rcases dN m b.length with h1 | h1
   ·rw[Cq hp hm h1] at h;cases h
   ·omega
  clear h0 hr hc hok h hp hm
  go_enter Tryz.func117,Tryz.ntmps117
  go_wp2;refine bg (fB rfl _ _ _) rfl ?_;exact⟨rfl,aU _ _⟩
theorem piece.ok (A:Option Addr)(c n:Nat)(b:List Int)(s:ByteArray)(r:List Int)(w0 w:World)(hn:b.length=n)(hr:Kd.C (Kd.int .u8) w0 A n b)(hB:Below w0.heap.size w0 w)(hc:n≤c)(hok:∀ x∈b,0≤x∧x<256)(hlen:n≤1000000)(h:tX b=some (s,r)) :
 Calls Tryz.prog 117 #[.slice A n c] w fun e w'=>∃ (A':Option Addr) (c':Nat),e = .returned (.tuple #[.string s,.slice A' r.length c',.bool true])∧r.length≤c'∧Kd.C (Kd.int .u8) w0 A' r.length r∧(∀ x∈r,0≤x∧x<256)∧r.length≤1000000∧Below w.heap.size w w':=by
 subst hn;have hp:0<b.length:=by
  cases b with
  | nil=>cases h
  | cons a b=>simp
 have e1:((b.length:Int)==0)=false:=beq_eq_false_iff_ne.2 (by omega);obtain⟨m,hm,akc⟩:=zN hok hp;have hmb:m<b.length:=by
  rcases dN m b.length with h1 | h1
  ·exact h1
  ·rw[Ay hp (by rw[hm];omega) (by rw[hm];omega)] at h;cases h
 rw[Cq hp hm hmb] at h;obtain⟨rfl,rfl⟩:=jT (bB h);obtain⟨AM,cM,rM,HRM,HCM,hcM,hmid⟩:=TT A c b 1 (1+m) (by omega) (by omega) hc;obtain⟨AX,cX,rX,HRX,HCX,hcX,hcut⟩:=Tf A c b (1+m) (by omega) hc;rw[← HRM.o,← HRX.o];have aod:=fun W=>hmid 1 (1+(m:Int)) rfl (by omega) W
 have aoe:=fun W=>hcut (1+(m:Int)) (by omega) W
 have hcv:=fun q=>Kd.vJ (P:=Tryz.prog) (A:=AM) (c:=cM) Tryz.underlying24 Tryz.underlying5 Tryz.underlying9 (HCM.o (w.drewN q) (Kd.o9 hr (oU hB q)))
 have HXC:=Y7 (HCX.o w0 hr);have HXL:=Y7 hcX;have HXB:oM (∀ x∈rX,0≤x∧x<256):=⟨fun x hx=>hok x (by rw[HRX.o] at hx;exact bU hx)⟩;have HXN:oM (rX.length≤1000000):=⟨by rw[HRX.o,aX];omega⟩;have hw1:IntKind.i64.wrap (1+(m:Int))=1+(m:Int):=by rw[bD];omega
 have hs_:decide ((b.length:Int)-1<(m:Int))=false:=aD (by omega);have hl:(0:Int)<(b.length:Int):=by omega
 have hm1:(1:Int)≤1+(m:Int):=by omega
 have hm2:1+(m:Int)≤(b.length:Int):=by omega
 obtain⟨ad,rfl,hcl⟩:=cell0 (Kd.o9 hr hB) hp;rw[hm] at hcl;clear h hp hm hmb HRM HRX HCM HCX hcX hcM hmid hcut hr hok hc
 go_enter Tryz.func117,Tryz.ntmps117
 go_wp2_with fail
 go_quiet (fail)
 go_wp2;refine bg (fB rfl _ _ _) rfl ?_;exact⟨_,_,rfl,HXL.o,HXC.o,HXB.o,HXN.o,oU (aU _ _) _⟩
theorem Ri {b r:List Int}{s:ByteArray}(h:tX b=some (s,r)):r.length≤b.length:=by
 cases b with
 | nil=>cases h
 | cons a x=>
   simp only[tX] at h;split at h
   ·cases h
   ·simp only[bF,bG] at h;rw[← h.2,aX,bq];omega
theorem strOfNums_size (l:List Int):(strOfNums l).size=l.length:=by
 rw[← yA,strOfNums_data,bN]
theorem F9 {b r:List Int}{s:ByteArray}(h:tX b=some (s,r))(hb:b.length≤1000000):s.size≤140737488355328:=by
 cases b with
 | nil=>cases h
 | cons a x=>
   simp only[tX] at h;split at h
   ·cases h
   ·simp only[bF,bG] at h;rw[bq] at hb;rw[← h.1,strOfNums_size,aW];omega
theorem XI.c (A:Option Addr)(c n:Nat)(b:List Int)(w:World)(hn:b.length=n)(hr:Kd.C (Kd.int .u8) w A n b)(hc:n≤c)(hok:okB b=true)(hlen:n≤1000000) :
 Calls Tryz.prog 84 #[.slice A n c] w (uJ w b):=by
 subst hn
 by_cases h0:b.length=0
 ·have HE:=Y7 (fun W=>uJ.nil (w:=w) (w':=W) (b:=b) h0);have h1:((b.length:Int)==0)=true:=beq_iff_eq.2 (by omega);clear h0 hr hc hok hlen
  go_enter Tryz.func84,Tryz.ntmps84
  go_wp2;refine bg (fB rfl _ _ _) rfl ?_;exact HE.o _ (aU _ _)
 ·have hp:0<b.length:=by omega
  have h1:((b.length:Int)==0)=false:=beq_eq_false_iff_ne.2 (by omega);obtain⟨n,hn,ajM⟩:=zN (qV.1 hok) hp;obtain⟨A1,c1,r0,HR0,HC0,hc1,hcut⟩:=Tf A c b 1 hp hc;have aaO:=hcut 1 rfl;have HRB:=Y7 (HC0.o w hr);have HBY:oM (∀ x∈r0,0≤x∧x<256):=⟨fun x hx=>qV.1 hok x (by rw[HR0.o] at hx;exact bU hx)⟩;have HRL:oM (r0.length≤1000000):=⟨by rw[HR0.o,aX];omega⟩;have HSH:oM (sO r0 n=none→rR b=([],[],3)):=⟨fun h=>FP hp hn (by rw[← HR0.o];exact h)⟩;have HFO:oM (∀ l r',sO r0 n=some (l,r')→sI l=false→rR b=([],[],5)):=⟨fun l r' h hc=>Hl hp hn (by rw[← HR0.o];exact h) hc⟩;have HGO:oM (∀ l r',sO r0 n=some (l,r')→sI l=true→rR b=(l,r',0)):=⟨fun l r' h hc=>Mv hp hn (by rw[← HR0.o];exact h) hc⟩;have hl1:(0:Int)<(b.length:Int):=by omega
  obtain⟨ad,rfl,hcell⟩:=cell0 hr hp;rw[hn] at hcell;have HCL:=Y7 hc1;clear hcut h0 hok hn hlen HC0 HR0 hr hc hc1 hp
  go_enter Tryz.func84,Tryz.ntmps84
  go_wp2
  go_loopw [0,6,23] (fun s v i wr=>∃ (k:Nat) (A':Option Addr) (c':Nat) (r:List Int) (l:List tQ),k≤n∧i = .int .i64 k∧s = .slice A' r.length c'∧oM (sO r0 k=some (l,r))∧oM (r.length≤c')∧oM (Kd.C (Kd.int .u8) w A' r.length r)∧oM (Kd.R xU 68 wr w.heap.size (fun _=>True) v l)∧oM (Below w.heap.size w wr)∧oM (∀ x∈r,0≤x∧x<256)∧oM (r.length≤1000000)∧oM (OB l)) (fun _ _ i _=>n-(intOf i).toNat)
  case atStart=>exact⟨0,A1,c1,r0,[],bP _,rfl,rfl,⟨rfl⟩,HCL,HRB,⟨Kd.tJ _ _ _ _ _⟩,⟨aU _ _⟩,HBY,HRL,⟨fun x hx=>by cases hx⟩⟩
  case round=>
   obtain⟨k,A',c',r,l,hk,rfl,rfl,HD,HCC,HCR,HV,HB,HBX,aef,HLO⟩:=hrel;have hlk:=(yZ HD.o).1
   by_cases hlt:k<n
   ·have hki:(k:Int)<(n:Int):=by omega
    have HST:=Y7 (fun (h:sO r0 (k+1)=none)=>HSH.o (He hlt h));have HKN:=Y7 hlk;cases hps:tX r with
    | none=>
      have HE:oM (rR b=([],[],3)):=⟨HST.o (Dq HD.o hps)⟩;have C1:=Y7 (fun W (hb:Below w.heap.size w W)=>piece.bad A' c' r.length r W rfl (Kd.o9 HCR.o hb) HCC.o HBX.o aef.o hps);have C2:=Y7 (fun W=>piece.bad none 0 0 [] W rfl ⟨rfl,by simp,fun h=>absurd h (kL _)⟩ (ay _) (fun x hx=>by cases hx) (by omega) rfl);clear hps hlk hlt
      go_wp2_with (first|(go_at_call 117;(with_reducible refine (C1.o _ HB.o).mono ?_);rintro e w1 ⟨rfl,hb⟩;have HB1:=Y7 (oP HB.o hb);clear hb C1)|(go_at_call 117;(with_reducible refine (C2.o _).mono ?_);rintro e w2 ⟨rfl,hb⟩;have HB2:=Y7 (oP HB1.o hb);clear hb))
      refine bg (fB rfl _ _ _) rfl ?_;exact uJ.bad HE.o HB2.o
    | some p1=>
      obtain⟨s1,r1⟩:=p1;have C1:=Y7 (fun W (hb:Below w.heap.size w W)=>piece.ok A' c' r.length r s1 r1 w W rfl HCR.o hb HCC.o HBX.o aef.o hps);have ahs:=Y7 hps;cases aeQ:tX r1 with
      | none=>
        have HE:oM (rR b=([],[],3)):=⟨HST.o (Dr HD.o hps aeQ)⟩;have HP2:=Y7 aeQ;clear hps aeQ hlk hlt
        go_wp2_with (first|(go_at_call 117;(with_reducible refine (C1.o _ HB.o).mono ?_);rintro e w1 ⟨A9,c9,rfl,agy,agz,agA,agB,hb⟩;have HB1:=Y7 (oP HB.o hb);have C2:=Y7 (piece.bad A9 c9 r1.length r1 w1 rfl (Kd.o9 agz HB1.o) agy agA agB HP2.o);clear hb C1 agy agz agA agB)|(go_at_call 117;(with_reducible refine C2.o.mono ?_);rintro e w2 ⟨rfl,hb⟩;have HB2:=Y7 (oP HB1.o hb);clear hb))
        refine bg (fB rfl _ _ _) rfl ?_;exact uJ.bad HE.o HB2.o
      | some p2=>
        obtain⟨s2,r2⟩:=p2;have HP2:=Y7 aeQ;have HDN:=Y7 (Hf HD.o hps aeQ);have amE:oM (OB (l++[(⟨s1,s2⟩:tQ)])):=⟨fun x hx=>by
         rcases List.mem_append.1 hx with hx | hx
         ·exact HLO.o x hx
         ·rw[List.mem_singleton.1 hx];exact⟨F9 hps aef.o,F9 aeQ (bY (Ri hps) aef.o)⟩⟩
        have HLN:oM (l.length≤255):=⟨by rw[hlk];omega⟩;clear hps aeQ hlk
        go_wp2_with (first|(go_at_call 117;(with_reducible refine (C1.o _ HB.o).mono ?_);rintro e w1 ⟨A9,c9,rfl,agy,agz,agA,agB,hb⟩;have HB1:=Y7 (oP HB.o hb);have HV1:=Y7 (Kd.qo HV.o hb);have C2:=Y7 (piece.ok A9 c9 r1.length r1 s2 r2 w w1 rfl agz HB1.o agy agA agB HP2.o);clear hb C1 agy agz agA agB)|(go_at_call 117;(with_reducible refine C2.o.mono ?_);rintro e w2 ⟨A8,c8,rfl,akd,ake,akf,akg,hb⟩;have HB2:=Y7 (oP HB1.o hb);have HV2:=Y7 (Kd.qo HV1.o hb);have H8:=Y7 akd;have H81:=Y7 ake;have H82:=Y7 akf;have H83:=Y7 akg;clear hb akd ake akf akg)|((with_reducible refine uh (b := .append) (xs := #[.tmp 43,.tmp 47]) rfl ?_);at_builtin;go_must (refine Kd.yw xU (w0:=w) w.heap.size rfl (.tmp 43) (.tmp 47) 46 68 (.agg #[.string ⟨#[]⟩,.string ⟨#[]⟩]) 32 rfl Tryz.underlying46 KN rfl (by decide) (by omega) _ l (⟨s1,s2⟩:tQ) [.string s1,.string s2] (fun _=>True) (fun _=>False) rfl ?hx ?aP (fun _ hk=>hk.elim) (fun _ _=>bE) HV2.o HB2.o HB2.o.size ?aL ?_;(case hx=>first | rfl | (go_simp;done));(case aP=>exact Em _ _ _ (⟨s1,s2⟩:tQ));(case aL=>have:=HLN.o;omega);intro v9 w9 ho hb hg9 hat;have HV9:=Y7 ho;have HB9:=Y7 hb;clear ho hb hg9 hat)))
        go_roundw
        case rel=>exact⟨k+1,A8,c8,r2,l++[(⟨s1,s2⟩:tQ)],by omega,by go_num,rfl,HDN,H8,H81,HV9,HB9,H82,H83,amE⟩
        case measure=>simp[intOf];omega
   ·obtain rfl:k=n:=by omega
    obtain⟨A7,c7,rfl⟩:=Kd.pO HV.o;have HVR:=Y7 (Kd.pE HV.o);cases hcan:sI l with
    | false=>
      have HE:=Y7 (HFO.o l r HD.o hcan);have HC:oM (Calls Tryz.prog 67 #[.slice A7 l.length c7] wr fun e w'=>e = .returned (.bool false)∧Below wr.heap.size wr w'):=⟨hcan ▸ Ew.c _ c7 l.length l wr rfl HVR.o.2.2 HVR.o.2.1 HLO.o⟩;clear hcan hlk
      go_wp2_with (first|(go_at_call 67;(with_reducible refine HC.o.mono ?_);rintro e w1 ⟨rfl,hb⟩;have HB1:=Y7 (oP HB.o hb);clear hb))
      refine bg (fB rfl _ _ _) rfl ?_;exact uJ.bad HE.o HB1.o
    | true=>
      have HE:=Y7 (HGO.o l r HD.o hcan);have HC:oM (Calls Tryz.prog 67 #[.slice A7 l.length c7] wr fun e w'=>e = .returned (.bool true)∧Below wr.heap.size wr w'):=⟨hcan ▸ Ew.c _ c7 l.length l wr rfl HVR.o.2.2 HVR.o.2.1 HLO.o⟩;clear hcan hlk
      go_wp2_with (first|(go_at_call 67;(with_reducible refine HC.o.mono ?_);rintro e w1 ⟨rfl,hb⟩;have HB1:=Y7 (oP HB.o hb);have HV1:=Y7 (Kd.qo HV.o hb);have HE1:=Y7 (wu (Kd.int .u8) 5 w.heap.size w1 (fun _=>True) (oP HB.o hb).size bE);clear hb)|((with_reducible refine qm (N:=57) rfl ?_);go_must (refine Kd.uX (Value.int .u8) 0 (h1:=fun _=>rfl) (w0:=w) w.heap.size rfl (.tmp 55) (.tmp 56) 24 5 (.int .u8 0) 1 rfl Tryz.underlying24 rW rfl (by decide) _ [] r A' r.length c' (fun _=>True) rfl rfl (fun _ _=>bE) HE1.o (Kd.o9 HCR.o (oN HB1.o _)) (oN HB1.o _) ?hb ?hl ?_;(case hb=>exact (oN HB1.o _).size);(case hl=>(have:=aef.o;simp;omega));intro v1 w2 hR1 hB1 hg_ ho_;rw[cB] at hR1;have HR2:=Y7 hR1;have HB2:=Y7 hB1;have HV2:=Y7 (Sl HV1.o hg_);clear hR1 hB1 hg_ ho_)))
      refine bg (fB rfl _ _ _) rfl ?_;refine⟨_,_,by rw[HE.o];rfl,?_,?_,HB2.o⟩
      ·rw[HE.o];exact HV2.o
      ·rw[HE.o];exact HR2.o
end Go.Proofs.Y.PA
