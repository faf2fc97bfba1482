/- Of the law rZIQDumpBack. -/
import Derived.Test.YtcgbgifbajdhpaaGreatDoorZI7
set_option linter.unusedVariables false
set_option linter.unusedSimpArgs false
set_option maxHeartbeats 200000
set_option maxRecDepth 512
namespace Go
abbrev eU:=@Nat.pow_le_pow_right
abbrev iJ:=@Nat.two_pow_pos
abbrev iM:=@List.getElem_append_left
abbrev jc:=@List.foldl_cons
abbrev jk:=@Bool.true_and
abbrev jm:=@List.getElem_append_right
abbrev jG:=@List.getElem_drop
abbrev kH:=@List.foldl_append
abbrev lu:=@List.mem_or_eq_of_mem_set
abbrev l8:=@Nat.testBit_lt_two_pow
abbrev nK:=@Nat.mul_lt_mul_of_pos_right
abbrev om:=@Nat.testBit_two_pow_mul
abbrev oo:=@Nat.testBit_mod_two_pow
abbrev oq:=@Nat.testBit_div_two_pow
abbrev oD:=@Nat.pow_add
end Go
namespace Go.Proofs.Y.G
def bit (l:List Int)(i:Nat):Bool:=(l.getD (i / 8) 0).toNat.testBit (7-i % 8)
def win (l:List Int)(p c:Nat):List Bool:=(List.range c).map fun i=>bit l (p+i)
def Bs (l:List Int)(n:Nat):List Bool:=win l 0 n
def low (v c:Nat):List Bool:=(List.range c).map fun i=>v.testBit (c-1-i)
def num (bs:List Bool):Nat:=bs.foldl (fun a b=>2*a+b.toNat) 0
def JL (l:List Int):Prop:=∀ x∈l,0≤x∧x<256
structure xY (l:List Int) (n:Nat):Prop where
 bytes:JL l
 le:n≤8*l.length
 near:8*l.length<n+8
 tail:∀ i,n≤i→i<8*l.length→bit l i=false
@[simp] theorem win_length (l:List Int) (p c:Nat):(win l p c).length=c:=by simp[win]
@[simp] theorem PI (l:List Int) (n:Nat):(Bs l n).length=n:=by simp[Bs]
@[simp] theorem tK (v c:Nat):(low v c).length=c:=by simp[low]
theorem Di (l:List Int)(p c i:Nat)(h:i<c):(win l p c)[i]'(by simpa using h)=bit l (p+i):=by simp[win]
theorem FD (l:List Int)(n i:Nat)(h:i<n):(Bs l n)[i]'(by simpa using h)=bit l i:=by simp[Bs,win]
theorem CS (v c i:Nat)(h:i<c):(low v c)[i]'(by simpa using h)=v.testBit (c-1-i):=by simp[low]
theorem JL.at {l:List Int}(h:JL l)(i:Nat):0≤l.getD i 0∧l.getD i 0<256:=by
 rw[bn]
 by_cases hi:i<l.length
 ·rw[aQ hi];exact h _ (eF hi)
 ·rw[dK (by omega)];decide
theorem GV {a b:Nat}(ha:a<256)(hb:b<256)(h:∀ j,j<8→a.testBit j=b.testBit j):a=b:=by
 apply Nat.eq_of_testBit_eq;intro j
 by_cases hj:j<8
 ·exact h j hj
 ·rw[l8 (d9 ha (eU (n:=2) (by decide) (show 8≤j by omega))),l8 (d9 hb (eU (n:=2) (by decide) (show 8≤j by omega)))]
theorem RY {l m:List Int}(hl:JL l)(hm:JL m)(hn:l.length=m.length)(h:∀ i,i<8*l.length→bit l i=bit m i):l=m:=by
 apply iE hn;intro k h1 h2;have a:=hl.at k;have b:=hm.at k;rw[bn,aQ h1,jQ] at a;rw[bn,aQ h2,jQ] at b;have e:l[k].toNat=m[k].toNat:=by
  apply GV (by omega) (by omega);intro j hj;have:=h (8*k+(7-j)) (by omega);unfold bit at this;rw[show (8*k+(7-j)) / 8=k by omega,show 7-(8*k+(7-j)) % 8=j by omega] at this
  simpa [bn,h1,h2] using this
 omega
theorem xY.ext {l m:List Int}{n:Nat}(hl:xY l n)(hm:xY m n)(h:Bs l n=Bs m n):l=m:=by
 have hn:l.length=m.length:=by have:=hl.le;have:=hl.near;have:=hm.le;have:=hm.near;omega
 apply RY hl.bytes hm.bytes hn;intro i hi
 by_cases h1:i<n
 ·have e:(Bs l n)[i]'(by simpa using h1)=(Bs m n)[i]'(by simpa using h1):=by simp only[h]
  rw[FD _ _ _ h1,FD _ _ _ h1] at e;exact e
 ·rw[hl.tail i (by omega) hi,hm.tail i (by omega) (by omega)]
def yN (l:List Int)(n:Nat):List Int:=if n % 8=0 then l++[0] else l
def BP (l:List Int)(k:Nat)(x:Nat):List Int:=l.set k (((l.getD k 0).toNat ||| x:Nat):Int)
theorem FY {l:List Int}{n:Nat}(h:xY l n):(yN l n).length=n / 8+1:=by
 have:=h.le;have:=h.near;unfold yN;split
 ·simp;omega
 ·omega
theorem RV {l:List Int}{n:Nat}(h:xY l n)(i:Nat)(hi:i<8*(n / 8+1)):bit (yN l n) i=if i<n then bit l i else false:=by
 have h1:=h.le;have h2:=h.near;unfold yN
 by_cases h0:n % 8=0
 ·rw[ak h0]
  by_cases hin:i<n
  ·rw[ak hin];unfold bit;rw[bn,bn,fU (by omega)]
  ·rw[aK hin];unfold bit;rw[bn,fQ (by omega),show i / 8-l.length=0 by omega];simp
 ·rw[aK h0]
  by_cases hin:i<n
  ·rw[ak hin]
  ·rw[aK hin];exact h.tail i (by omega) (by omega)
theorem RX (l:List Int)(k x i:Nat)(hk:k<l.length):bit (BP l k x) i=(bit l i||(decide (i / 8=k)&&x.testBit (7-i % 8))):=by
 unfold bit BP
 by_cases h:i / 8=k
 ·subst h;rw[bn,l6 hk];simp[nD]
 ·rw[bn,List.getElem?_set_ne (by omega)];simp[h]
theorem MC {l:List Int}{n T X:Nat}(h:xY l n)(hT:0<T)(hT8:T≤8-n % 8)(hX:X<2 ^ T) :
 xY (BP (yN l n) (n / 8) (X*2 ^ (8-n % 8-T))) (n+T)∧Bs (BP (yN l n) (n / 8) (X*2 ^ (8-n % 8-T))) (n+T)=Bs l n++low X T:=by
 have hlen:=FY h;have hle:=h.le;have hnr:=h.near;have hol:(BP (yN l n) (n / 8) (X*2 ^ (8-n % 8-T))).length=n / 8+1:=by unfold BP;simpa using hlen
 have hXs:X*2 ^ (8-n % 8-T)<256:=by
  calc X*2 ^ (8-n % 8-T)<2 ^ T*2 ^ (8-n % 8-T):=nK hX (iJ _)
   _=2 ^ (T+(8-n % 8-T)):=(oD _ _ _).symm
   _≤2 ^ 8:=eU (by decide) (by omega)
   _=256:=by decide
 have aeZ:JL (yN l n):=by
  unfold yN;split
  ·intro x hx;rcases List.mem_append.1 hx with hx | hx
   ·exact h.bytes x hx
   ·simp at hx;subst hx;decide
  ·exact h.bytes
 have hbit:∀ i,i<8*(n / 8+1)→bit (BP (yN l n) (n / 8) (X*2 ^ (8-n % 8-T))) i=if i<n then bit l i else if i<n+T then X.testBit (T-1-(i-n)) else false:=by
  intro i hi;rw[RX _ _ _ _ (by omega),RV h i hi]
  by_cases hin:i<n
  ·rw[ak hin,ak hin]
   by_cases h8:i / 8=n / 8
   ·rw[fJ,om];have:decide (8-n % 8-T≤7-i % 8)=true:=aM (by omega);rw[l8 (i:=7-i % 8-(8-n % 8-T)) (d9 hX (eU (by decide) (by omega)))];simp
   ·simp[h8]
  ·rw[aK hin,aK hin];have h8:i / 8=n / 8:=by omega
   rw[fJ,om]
   by_cases hit:i<n+T
   ·rw[ak hit,show 7-i % 8-(8-n % 8-T)=T-1-(i-n) by omega];rw[show decide (7-i % 8≥8-n % 8-T)=true from aM (by omega)];simp[h8]
   ·rw[aK hit];rw[show decide (7-i % 8≥8-n % 8-T)=false from aN (by omega)];simp
 refine⟨⟨?_,by omega,by omega,?_⟩,?_⟩
 ·intro x hx;unfold BP at hx;rcases lu hx with hx | hx
  ·exact aeZ x hx
  ·subst hx;have:=aeZ.at (n / 8);have:((yN l n).getD (n / 8) 0).toNat ||| X*2 ^ (8-n % 8-T)<2 ^ 8:=Nat.or_lt_two_pow (by omega) (by omega)
   omega
 ·intro i h1 h2;rw[hol] at h2;rw[hbit i h2,aK (by omega),aK (by omega)]
 ·apply iE (by simp);intro i h1 h2;have hi:i<n+T:=by simpa using h1
  rw[FD _ _ _ hi,hbit i (by omega)]
  by_cases hin:i<n
  ·rw[ak hin,iM (by simpa using hin),FD _ _ _ hin]
  ·rw[aK hin,ak hi,jm (by simpa using hin)];simp only[PI];rw[CS _ _ _ (by omega)]
theorem DX (v c T:Nat)(h:T≤c):low v c=low (v / 2 ^ (c-T) % 2 ^ T) T++low v (c-T):=by
 apply iE (by simp;omega);intro i h1 h2;have hi:i<c:=by simpa using h1
 rw[CS _ _ _ hi]
 by_cases hiT:i<T
 ·rw[iM (by simpa using hiT),CS _ _ _ hiT,oo,oq];rw[show decide (T-1-i<T)=true from aM (by omega),jk];congr 1;omega
 ·rw[jm (by simpa using hiT)];simp only[tK];rw[CS _ _ _ (by omega)];congr 1;omega
theorem BM (a b:List Bool):num (a++b)=num a*2 ^ b.length+num b:=by
 have key:∀ (b:List Bool) (x:Nat),b.foldl (fun a b=>2*a+b.toNat) x=x*2 ^ b.length+b.foldl (fun a b=>2*a+b.toNat) 0:=by
  intro b
  induction b with
  | nil=>intro x;simp
  | cons y b ih=>
    intro x;simp only[jc,bC];rw[ih (2*x+y.toNat),ih (2*0+y.toNat)];rw[lJ,iD,iD];have:2*x*2 ^ b.length=x*(2 ^ b.length*2):=by rw[fJ 2 x,oP,fJ 2]
    omega
 unfold num;rw[kH,key]
theorem Tg (b:Bool)(a:List Bool):num (b::a)=b.toNat*2 ^ a.length+num a:=by
 have:=BM [b] a;rw[show num [b]=b.toNat by cases b<;>rfl] at this;exact this
theorem Kq (a:List Bool):num a<2 ^ a.length:=by
 induction a with
 | nil=>decide
 | cons b a ih=>
   rw[Tg,bC,lJ];cases b<;>simp<;>omega
theorem O7 (v c:Nat):low (v % 2 ^ c) c=low v c:=by
 unfold low;apply nu;intro i hi;have:=List.mem_range.1 hi;rw[oo,show decide (c-1-i<c)=true from aM (by omega),jk]
theorem AB (v c:Nat):num (low v c)=v % 2 ^ c:=by
 induction c with
 | zero=>simp[low,num,Nat.mod_one]
 | succ c ih=>
   rw[DX v (c+1) 1 (by omega),BM];simp only[tK,lI];rw[ih];have:num (low (v / 2 ^ c % 2 ^ 1) 1)=v / 2 ^ c % 2:=by
    have h2:v / 2 ^ c % 2=0∨v / 2 ^ c % 2=1:=by omega
    rw[Nat.pow_one];rcases h2 with h2 | h2<;>rw[h2]<;>decide
   rw[this,lJ,Nat.mod_mul];rw[fJ,mU]
theorem JI (l:List Int)(p c T:Nat)(h:T≤c):win l p c=win l p T++win l (p+T) (c-T):=by
 apply iE (by simp;omega);intro i h1 h2;have hi:i<c:=by simpa using h1
 rw[Di _ _ _ _ hi]
 by_cases hiT:i<T
 ·rw[iM (by simpa using hiT),Di _ _ _ _ hiT]
 ·rw[jm (by simpa using hiT)];simp only[win_length];rw[Di _ _ _ _ (by omega)];congr 1;omega
theorem Ut (l:List Int)(n p c:Nat)(h:p+c≤n):win l p c=((Bs l n).take (p+c)).drop p:=by
 apply iE (by simp;omega);intro i h1 h2;have hi:i<c:=by simpa using h1
 rw[Di _ _ _ _ hi,jG,kF,FD _ _ _ (by omega)]
theorem QZ (l:List Int)(p T:Nat)(hb:(l.getD (p / 8) 0).toNat<256)(hT:T≤8-p % 8):num (win l p T)=(l.getD (p / 8) 0).toNat / 2 ^ (8-p % 8-T) % 2 ^ T:=by
 rw[show win l p T=low ((l.getD (p / 8) 0).toNat / 2 ^ (8-p % 8-T)) T from ?_,AB];apply iE (by simp);intro i h1 h2;have hi:i<T:=by simpa using h1
 rw[Di _ _ _ _ hi,CS _ _ _ hi,oq];unfold bit;rw[show (p+i) / 8=p / 8 by omega];congr 1;omega
end Go.Proofs.Y.G
namespace Go.Proofs.Y.PA
open Go.RowKit Go.Proofs.YW.o7 Go.Proofs.YW.pJ Go.Proofs.YW.pO
attribute [local go_sem] rZ r9 sU sV rX rY sN sO
end Go.Proofs.Y.PA
