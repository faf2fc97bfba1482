/- Of the law ZHQDumpReads. -/
import Derived.Test.YtcgbgifbajdhpaaGreatDoorZH3
set_option linter.unusedVariables false
set_option linter.unusedSimpArgs false
set_option maxHeartbeats 8000000
set_option maxRecDepth 100000
namespace Go
abbrev aH:=@of_decide_eq_true
abbrev bH:=@eq_true
abbrev d9:=@List.length_nil
abbrev fG:=@List.take_append_drop
abbrev gU:=@Nat.two_pow_pos
abbrev iB:=@List.getElem_append_left
abbrev iX:=@List.getElem_append_right
abbrev jc:=@Bool.true_and
abbrev je:=@List.flatten_append
abbrev jq:=@List.foldl_cons
abbrev jI:=@Nat.testBit_two_pow_mul
abbrev jV:=@Nat.testBit_lt_two_pow
abbrev j4:=@List.getElem_drop
abbrev kR:=@List.mem_or_eq_of_mem_set
abbrev mV:=@Nat.mul_lt_mul_of_pos_right
abbrev nE:=@Go.info_parts
abbrev nP:=@Nat.testBit_mod_two_pow
abbrev nQ:=@Nat.testBit_div_two_pow
abbrev nY:=@Nat.pow_add
end Go
namespace Go.Proofs.Y.G
def bit (l:List Int)(i:Nat):Bool:=(l.getD (i / 8) 0).toNat.testBit (7-i % 8)
def win (l:List Int)(p c:Nat):List Bool:=(List.range c).map fun i=>bit l (p+i)
def Bs (l:List Int)(n:Nat):List Bool:=win l 0 n
def low (v c:Nat):List Bool:=(List.range c).map fun i=>v.testBit (c-1-i)
def num (bs:List Bool):Nat:=bs.foldl (fun a b=>2*a+b.toNat) 0
def Bh (l:List Int):Prop:=∀ x∈l,0≤x∧x<256
structure yV (l:List Int) (n:Nat):Prop where
 bytes:Bh l
 le:n≤8*l.length
 near:8*l.length<n+8
 tail:∀ i,n≤i→i<8*l.length→bit l i=false
@[simp] theorem win_length (l:List Int) (p c:Nat):(win l p c).length=c:=by simp[win]
@[simp] theorem Qu (l:List Int) (n:Nat):(Bs l n).length=n:=by simp[Bs]
@[simp] theorem rH (v c:Nat):(low v c).length=c:=by simp[low]
theorem EJ (l:List Int)(p c i:Nat)(h:i<c):(win l p c)[i]'(by simpa using h)=bit l (p+i):=by simp[win]
theorem GL (l:List Int)(n i:Nat)(h:i<n):(Bs l n)[i]'(by simpa using h)=bit l i:=by simp[Bs,win]
theorem Ck (v c i:Nat)(h:i<c):(low v c)[i]'(by simpa using h)=v.testBit (c-1-i):=by simp[low]
theorem Bh.at {l:List Int}(h:Bh l)(i:Nat):0≤l.getD i 0∧l.getD i 0<256:=by
 rw[aV]
 by_cases hi:i<l.length
 ·rw[aR hi];exact h _ (dL hi)
 ·rw[dS (by omega)];decide
theorem Ii {a b:Nat}(ha:a<256)(hb:b<256)(h:∀ j,j<8→a.testBit j=b.testBit j):a=b:=by
 apply Nat.eq_of_testBit_eq;intro j
 by_cases hj:j<8
 ·exact h j hj
 ·rw[jV (dA ha (dH (n:=2) (by decide) (show 8≤j by omega))),jV (dA hb (dH (n:=2) (by decide) (show 8≤j by omega)))]
theorem SS {l m:List Int}(hl:Bh l)(hm:Bh m)(hn:l.length=m.length)(h:∀ i,i<8*l.length→bit l i=bit m i):l=m:=by
 apply gX hn;intro k h1 h2;have a:=hl.at k;have b:=hm.at k;rw[aV,aR h1,jC] at a;rw[aV,aR h2,jC] at b;have e:l[k].toNat=m[k].toNat:=by
  apply Ii (by omega) (by omega);intro j hj;have:=h (8*k+(7-j)) (by omega);unfold bit at this;rw[show (8*k+(7-j)) / 8=k by omega,show 7-(8*k+(7-j)) % 8=j by omega] at this
  simpa [aV,h1,h2] using this
 omega
theorem yV.ext {l m:List Int}{n:Nat}(hl:yV l n)(hm:yV m n)(h:Bs l n=Bs m n):l=m:=by
 have hn:l.length=m.length:=by have:=hl.le;have:=hl.near;have:=hm.le;have:=hm.near;omega
 apply SS hl.bytes hm.bytes hn;intro i hi
 by_cases h1:i<n
 ·have e:(Bs l n)[i]'(by simpa using h1)=(Bs m n)[i]'(by simpa using h1):=by simp only[h]
  rw[GL _ _ _ h1,GL _ _ _ h1] at e;exact e
 ·rw[hl.tail i (by omega) hi,hm.tail i (by omega) (by omega)]
def vS (l:List Int)(n:Nat):List Int:=if n % 8=0 then l++[0] else l
def Aw (l:List Int)(k:Nat)(x:Nat):List Int:=l.set k (((l.getD k 0).toNat ||| x:Nat):Int)
theorem zL {l:List Int}{n:Nat}(h:yV l n):(vS l n).length=n / 8+1:=by
 have:=h.le;have:=h.near;unfold vS;split
 ·simp;omega
 ·omega
theorem SN {l:List Int}{n:Nat}(h:yV l n)(i:Nat)(hi:i<8*(n / 8+1)):bit (vS l n) i=if i<n then bit l i else false:=by
 have h1:=h.le;have h2:=h.near;unfold vS
 by_cases h0:n % 8=0
 ·rw[au h0]
  by_cases hin:i<n
  ·rw[au hin];unfold bit;rw[aV,aV,fO (by omega)]
  ·rw[av hin];unfold bit;rw[aV,fq (by omega),show i / 8-l.length=0 by omega];simp
 ·rw[av h0]
  by_cases hin:i<n
  ·rw[au hin]
  ·rw[av hin];exact h.tail i (by omega) (by omega)
theorem SQ (l:List Int)(k x i:Nat)(hk:k<l.length):bit (Aw l k x) i=(bit l i||(decide (i / 8=k)&&x.testBit (7-i % 8))):=by
 unfold bit Aw
 by_cases h:i / 8=k
 ·subst h;rw[aV,lG hk];simp[Nat.testBit_or]
 ·rw[aV,List.getElem?_set_ne (by omega)];simp[h]
theorem Nn {l:List Int}{n T X:Nat}(h:yV l n)(hT:0<T)(hT8:T≤8-n % 8)(hX:X<2 ^ T) :
 yV (Aw (vS l n) (n / 8) (X*2 ^ (8-n % 8-T))) (n+T)∧Bs (Aw (vS l n) (n / 8) (X*2 ^ (8-n % 8-T))) (n+T)=Bs l n++low X T:=by
 have hlen:=zL h;have hle:=h.le;have hnr:=h.near;have hol:(Aw (vS l n) (n / 8) (X*2 ^ (8-n % 8-T))).length=n / 8+1:=by unfold Aw;simpa using hlen
 have hXs:X*2 ^ (8-n % 8-T)<256:=by
  calc X*2 ^ (8-n % 8-T)<2 ^ T*2 ^ (8-n % 8-T):=mV hX (gU _)
   _=2 ^ (T+(8-n % 8-T)):=(nY _ _ _).symm
   _≤2 ^ 8:=dH (by decide) (by omega)
   _=256:=by decide
 have agW:Bh (vS l n):=by
  unfold vS;split
  ·intro x hx;rcases List.mem_append.1 hx with hx | hx
   ·exact h.bytes x hx
   ·simp at hx;subst hx;decide
  ·exact h.bytes
 have hbit:∀ i,i<8*(n / 8+1)→bit (Aw (vS l n) (n / 8) (X*2 ^ (8-n % 8-T))) i=if i<n then bit l i else if i<n+T then X.testBit (T-1-(i-n)) else false:=by
  intro i hi;rw[SQ _ _ _ _ (by omega),SN h i hi]
  by_cases hin:i<n
  ·rw[au hin,au hin]
   by_cases h8:i / 8=n / 8
   ·rw[dX,jI];have:decide (8-n % 8-T≤7-i % 8)=true:=aC (by omega);rw[jV (i:=7-i % 8-(8-n % 8-T)) (dA hX (dH (by decide) (by omega)))];simp
   ·simp[h8]
  ·rw[av hin,av hin];have h8:i / 8=n / 8:=by omega
   rw[dX,jI]
   by_cases hit:i<n+T
   ·rw[au hit,show 7-i % 8-(8-n % 8-T)=T-1-(i-n) by omega];rw[show decide (7-i % 8≥8-n % 8-T)=true from aC (by omega)];simp[h8]
   ·rw[av hit];rw[show decide (7-i % 8≥8-n % 8-T)=false from aD (by omega)];simp
 refine⟨⟨?_,by omega,by omega,?_⟩,?_⟩
 ·intro x hx;unfold Aw at hx;rcases kR hx with hx | hx
  ·exact agW x hx
  ·subst hx;have:=agW.at (n / 8);have:((vS l n).getD (n / 8) 0).toNat ||| X*2 ^ (8-n % 8-T)<2 ^ 8:=Nat.or_lt_two_pow (by omega) (by omega)
   omega
 ·intro i h1 h2;rw[hol] at h2;rw[hbit i h2,av (by omega),av (by omega)]
 ·apply gX (by simp);intro i h1 h2;have hi:i<n+T:=by simpa using h1
  rw[GL _ _ _ hi,hbit i (by omega)]
  by_cases hin:i<n
  ·rw[au hin,iB (by simpa using hin),GL _ _ _ hin]
  ·rw[av hin,au hi,iX (by simpa using hin)];simp only[Qu];rw[Ck _ _ _ (by omega)]
theorem Cm (v c T:Nat)(h:T≤c):low v c=low (v / 2 ^ (c-T) % 2 ^ T) T++low v (c-T):=by
 apply gX (by simp;omega);intro i h1 h2;have hi:i<c:=by simpa using h1
 rw[Ck _ _ _ hi]
 by_cases hiT:i<T
 ·rw[iB (by simpa using hiT),Ck _ _ _ hiT,nP,nQ];rw[show decide (T-1-i<T)=true from aC (by omega),jc];congr 1;omega
 ·rw[iX (by simpa using hiT)];simp only[rH];rw[Ck _ _ _ (by omega)];congr 1;omega
theorem Ar (a b:List Bool):num (a++b)=num a*2 ^ b.length+num b:=by
 have key:∀ (b:List Bool) (x:Nat),b.foldl (fun a b=>2*a+b.toNat) x=x*2 ^ b.length+b.foldl (fun a b=>2*a+b.toNat) 0:=by
  intro b
  induction b with
  | nil=>intro x;simp
  | cons y b ih=>
    intro x;simp only[jq,bq];rw[ih (2*x+y.toNat),ih (2*0+y.toNat)];rw[jk,gI,gI];have:2*x*2 ^ b.length=x*(2 ^ b.length*2):=by rw[dX 2 x,mZ,dX 2]
    omega
 unfold num;rw[jv,key]
theorem T9 (b:Bool)(a:List Bool):num (b::a)=b.toNat*2 ^ a.length+num a:=by
 have:=Ar [b] a;rw[show num [b]=b.toNat by cases b<;>rfl] at this;exact this
theorem Fe (a:List Bool):num a<2 ^ a.length:=by
 induction a with
 | nil=>decide
 | cons b a ih=>
   rw[T9,bq,jk];cases b<;>simp<;>omega
theorem Gw (v c:Nat):low (v % 2 ^ c) c=low v c:=by
 unfold low;apply mI;intro i hi;have:=List.mem_range.1 hi;rw[nP,show decide (c-1-i<c)=true from aC (by omega),jc]
theorem zq (v c:Nat):num (low v c)=v % 2 ^ c:=by
 induction c with
 | zero=>simp[low,num,Nat.mod_one]
 | succ c ih=>
   rw[Cm v (c+1) 1 (by omega),Ar];simp only[rH,ji];rw[ih];have:num (low (v / 2 ^ c % 2 ^ 1) 1)=v / 2 ^ c % 2:=by
    have h2:v / 2 ^ c % 2=0∨v / 2 ^ c % 2=1:=by omega
    rw[Nat.pow_one];rcases h2 with h2 | h2<;>rw[h2]<;>decide
   rw[this,jk,Nat.mod_mul];rw[dX,mo]
theorem J6 (l:List Int)(p c T:Nat)(h:T≤c):win l p c=win l p T++win l (p+T) (c-T):=by
 apply gX (by simp;omega);intro i h1 h2;have hi:i<c:=by simpa using h1
 rw[EJ _ _ _ _ hi]
 by_cases hiT:i<T
 ·rw[iB (by simpa using hiT),EJ _ _ _ _ hiT]
 ·rw[iX (by simpa using hiT)];simp only[win_length];rw[EJ _ _ _ _ (by omega)];congr 1;omega
theorem Vb (l:List Int)(n p c:Nat)(h:p+c≤n):win l p c=((Bs l n).take (p+c)).drop p:=by
 apply gX (by simp;omega);intro i h1 h2;have hi:i<c:=by simpa using h1
 rw[EJ _ _ _ _ hi,j4,j3,GL _ _ _ (by omega)]
theorem RQ (l:List Int)(p T:Nat)(hb:(l.getD (p / 8) 0).toNat<256)(hT:T≤8-p % 8):num (win l p T)=(l.getD (p / 8) 0).toNat / 2 ^ (8-p % 8-T) % 2 ^ T:=by
 rw[show win l p T=low ((l.getD (p / 8) 0).toNat / 2 ^ (8-p % 8-T)) T from ?_,zq];apply gX (by simp);intro i h1 h2;have hi:i<T:=by simpa using h1
 rw[EJ _ _ _ _ hi,Ck _ _ _ hi,nQ];unfold bit;rw[show (p+i) / 8=p / 8 by omega];congr 1;omega
end Go.Proofs.Y.G
namespace Go.Proofs.Y.PA
open Go.RowKit Go.Proofs.YW.oO Go.Proofs.YW.pq Go.Proofs.YW.pz
attribute [local go_sem] sV sZ uE uF sW tq uj um
def rY.l0:Nat→List (qG)→Int→Option (Bool)
 | 0,_,_=>none
 | k+1,x0,x3=>if x3<(x0.length:Int) then (if 0≤x3 then (if 0≤(wrap64 (x3-1)) then (if (wrap64 (x3-1))<(x0.length:Int) then (if ((pI x0 x3).f0)≤((pI x0 (wrap64 (x3-1))).f0) then (some false) else (rY.l0 k x0 (wrap64 (x3+1)))) else (none)) else (none)) else (none)) else (some (decide ((x0.length:Int)≤65535)))
def rY.f (k:Nat)(l0:List (qG)):Option (Bool):=rY.l0 k l0 1
theorem rY.c (k:Nat)(A0:Option Addr)(c0:Nat)(l0:List (qG))(r:Bool)(w:World)(hr0:Kd.C vX w A0 l0.length l0)(hc0:l0.length≤c0)(h:rY.f k l0=some r) :
 Calls Tryz.prog 88 #[.slice A0 l0.length c0] w fun e w'=>e = .returned (.bool r)∧pJ w w':=by
 have HR0:=Y7 hr0;have HC0:=Y7 hc0;clear hr0 hc0;have H:(rY.l0 k l0 1)=some r:=h;clear h;have H':=Y7 H;clear H
 go_enter Tryz.func88,Tryz.ntmps88
 go_wp2
 repeat (go_quiet (fail);try go_wp2)
 go_loopg [3] k (fun kq v3 w'=>∃ (Y8:Int),v3 = .int .i64 Y8∧oM (rY.l0 kq l0 Y8=some r)∧oM (kq≤k)∧pJ w w')
 case atStart=>exact⟨(1),(by first | rfl | (simp;done)|(simp[*];done)),H',⟨ay _⟩,by repeat (first | exact pJ.refl _ | apply pJ.step)⟩
 case round=>
  clear H';obtain⟨Y8,rfl,HA,HK1,⟨m1,rfl⟩⟩:=hrel;cases gk with
  | zero=>exact absurd HA.o (by simp[rY.l0])
  | succ k1=>
    have H:=HA.o;clear HA;simp only[rY.l0] at H
    by_cases c2:Y8<(l0.length:Int)
    ·rw[au c2] at H;have aav:decide (Y8<(l0.length:Int))=true:=aC c2;clear c2
     by_cases c3:0≤Y8
     ·rw[au c3] at H;have aax:decide (0≤Y8)=true:=aC c3;clear c3;obtain⟨ji4,adK⟩:∃ j_:Int,(wrap64 (Y8-1))=j_:=⟨_,rfl⟩;replace H:(if 0≤(ji4) then (if (ji4)<(l0.length:Int) then (if ((pI l0 Y8).f0)≤((pI l0 (ji4)).f0) then (some false) else (rY.l0 k1 l0 (wrap64 (Y8+1)))) else (none)) else (none))=some r:=by first|(rw[adK] at H;exact H)|(simp only[adK] at H ⊢;exact H)
      have ajc:(IntKind.i64.wrap (Y8-1))=ji4:=(q8 _).trans adK
      by_cases c5:0≤(ji4)
      ·rw[au c5] at H;have adJ:decide (0≤(ji4))=true:=aC c5;clear c5
       by_cases c6:(ji4)<(l0.length:Int)
       ·rw[au c6] at H;have afl:decide ((ji4)<(l0.length:Int))=true:=aC c6;clear c6
        by_cases c7:((pI l0 Y8).f0)≤((pI l0 (ji4)).f0)
        ·rw[au c7] at H;have ZV:decide (((pI l0 Y8).f0)≤((pI l0 (ji4)).f0))=true:=aC c7;clear c7;obtain rfl:=bB H;have aei:0≤(Y8:Int):=aH (by assumption);have aej:Y8<(l0.length:Int):=aH (by assumption);obtain⟨afD,e119,agX,agY⟩:=tY HR0.o Y8 aei aej;cases e119;replace aei:=bH aei;replace aej:=bH aej;have aek:0≤((ji4):Int):=aH (by assumption);have ael:(ji4)<(l0.length:Int):=aH (by assumption);obtain⟨afE,e120,agZ,ag0⟩:=tY HR0.o (ji4) aek ael;obtain rfl:afD=afE:=(by injection e120);replace aek:=bH aek;replace ael:=bH ael;go_wp2
         repeat (go_quiet (fail);try go_wp2)
         go_ret;exact⟨by first | rfl | (simp;done)|(simp only[← adK]<;>(first | rfl | simp))|(simp[*];done),by repeat (first | exact pJ.refl _ | apply pJ.step)⟩
        ·rw[av c7] at H;have ZV:decide (((pI l0 Y8).f0)≤((pI l0 (ji4)).f0))=false:=aD c7;clear c7;have H':=Y7 H;clear H;have aei:0≤(Y8:Int):=aH (by assumption);have aej:Y8<(l0.length:Int):=aH (by assumption);obtain⟨afD,e119,agX,agY⟩:=tY HR0.o Y8 aei aej;cases e119;replace aei:=bH aei;replace aej:=bH aej;have aek:0≤((ji4):Int):=aH (by assumption);have ael:(ji4)<(l0.length:Int):=aH (by assumption);obtain⟨afE,e120,agZ,ag0⟩:=tY HR0.o (ji4) aek ael;obtain rfl:afD=afE:=(by injection e120);replace aek:=bH aek;replace ael:=bH ael;go_wp2
         repeat (go_quiet (fail);try go_wp2)
         go_roundg k1
         case measure=>have:=HK1.o;omega
         case rel=>exact⟨(wrap64 (Y8+1)),(by first | rfl | (simp;done)|(simp[*];done)),H',⟨by have:=HK1.o;omega⟩,by repeat (first | exact pJ.refl _ | apply pJ.step)⟩
       ·rw[av c6] at H;exact absurd H (by simp)
      ·rw[av c5] at H;exact absurd H (by simp)
     ·rw[av c3] at H;exact absurd H (by simp)
    ·rw[av c2] at H;have aav:decide (Y8<(l0.length:Int))=false:=aD c2;clear c2;obtain rfl:=bB H;go_wp2
     repeat (go_quiet (fail);try go_wp2)
     go_ret;exact⟨by first | rfl | (simp;done)|(simp[*];done)|(simp;decide +kernel),by repeat (first | exact pJ.refl _ | apply pJ.step)⟩
end Go.Proofs.Y.PA
namespace Go.Proofs.Y.PA
open Go.RowKit Go.Proofs.Y.G Go.Proofs.YW.oO Go.Proofs.YW.pq Go.Proofs.YW.pz
def yE (xs:List (List Int))(i:Int):List Int:=xs.getD i.toNat []
theorem Pv {w:World}{A:Option Addr}{n:Nat}{xs:List (List Int)}(h:Kd.C (Kd.slice 5 (Kd.int .u8)) w A n xs)(i:Int)(h0:0≤i)(h1:i<n):∃ ad A0 c0,A=some ad∧w.cell? (ad.add i.toNat)=some (.slice A0 (yE xs i).length c0)∧(yE xs i).length≤c0∧(Kd.int .u8).C w A0 (yE xs i).length (yE xs i):=by
 obtain⟨ad,c,e,_,hK,hc0⟩:=Kd.CQ h ([]:List Int) i h0 h1;have hc:∀ j u,c[j]? = some u→w.cell? (ad.add (i.toNat*1+j))=some u:=hc0;obtain⟨A0,c0,rfl,l0,g0⟩:=hK;exact⟨ad,A0,c0,e,by have hq:=hc 0 _ rfl;rwa [kM,iA] at hq,l0,g0⟩
theorem Yi.c (n:Int)(w:World)(h0:0≤n)(h1:n≤1000000000) :
 Calls Tryz.prog 94 #[.slice none 0 0,.int .i64 n] w fun e w'=>∃ v:Value,e = .returned v∧Kd.R (Kd.int .u8) 5 w' w.heap.size (fun _=>True) v []∧Below w.heap.size w w':=by
 have hneg:decide (n<0)=false:=aD (by omega);have hw:IntKind.i64.wrap n=n:=by rw[bD];omega
 have HB0:oM (Below w.heap.size w w):=⟨aU _ _⟩;obtain⟨i05,abh,_,hsz5,_⟩:=nE rW;have anT:=Dp (P:=Tryz.prog) 24 5 .i64 Tryz.underlying24 abh none 0 0 0 (by omega) (by omega) (by omega);have HN0:oM (0≤n∧n≤1000000000):=⟨h0,h1⟩;clear h0 h1
 go_enter Tryz.func94,Tryz.ntmps94
 by_cases hp:0<n
 ·have hd:decide (0<n)=true:=aC hp;have HP:=Y7 hp;clear hp
  go_wp2_with (first|((with_reducible refine qm (N:=22) rfl ?_);go_must (refine Kd.GV (Kd.int .u8) (w0:=w) w.heap.size rfl (.tmp 20) (.tmp 21) 24 3 5 (.int .u8 0) 1 rfl Tryz.underlying24 Tryz.underlying3 rW rfl (by decide) (by omega) (.slice none 0 0) [] 0 n (fun _=>True) rfl rfl rfl (fun _ _=>bE) (Kd.tJ _ _ _ _ _) HN0.o.1 (aU _ _) (ay _) ?h6 ?_);(case h6=>(have:=HN0.o;simp only[d9];omega));intro v4 w4 hR4 hB4 hg4 ho4;obtain⟨g4,c4,rfl,hb4,hl4,_⟩:=Kd.EO hR4 (by have:=HP.o;simp only[cB,jo];omega);have hcc:=(Kd.pE hR4).2.1;have afF:=Dp (P:=Tryz.prog) 24 5 .i64 Tryz.underlying24 abh (some ⟨g4,0,none⟩) _ c4 0 (by omega) (by omega) hcc;have HR4:=Y7 (Kd.Xc hR4 (bP _));have HB4:=Y7 hB4;clear hR4 hB4 hg4 ho4))
  go_ret;exact⟨_,rfl,HR4.o,HB4.o⟩
 ·obtain rfl:n=0:=by have:=HN0.o;omega
  go_wp2;go_ret;exact⟨_,rfl,Kd.tJ _ _ _ _ _,aU _ _⟩
theorem Hz (Ls:List (List Int))(k:Nat)(hk:k<Ls.length):(Ls.take (k+1)).flatten=(Ls.take k).flatten++yE Ls (k:Int):=by
 have e:yE Ls (k:Int)=Ls[k]:=by simp[yE,aV,aR hk]
 rw[bQ hk,je,e];simp
theorem MH (Ls:List (List Int))(k:Nat):(Ls.take k).flatten.length≤Ls.flatten.length:=by
 have:Ls.flatten.length=(Ls.take k).flatten.length+(Ls.drop k).flatten.length:=by rw[← aT,← je,fG]
 omega
theorem PL.c (A0:Option Addr)(c0 n:Nat)(Ls:List (List Int))(w:World)(hn:Ls.length=n)(hr0:Kd.C (Kd.slice 5 (Kd.int .u8)) w A0 n Ls)(hlen:n≤1000000)(ahI:Ls.flatten.length≤1000000000) :
 Calls Tryz.prog 62 #[.slice A0 n c0] w fun e w'=>∃ v:Value,e = .returned v∧Kd.R (Kd.int .u8) 5 w' w.heap.size (fun _=>True) v Ls.flatten∧Below w.heap.size w w':=by
 subst hn;have HR:=Y7 hr0;have HL:=Y7 ahI;clear hr0 ahI
 go_enter Tryz.func62,Tryz.ntmps62
 go_wp2
 go_loopw [3,11] (fun s i wr=>∃ k:Nat,k≤Ls.length∧i = .int .i64 k∧s = .int .i64 (((Ls.take k).flatten.length:Nat):Int)∧oM (Below w.heap.size w wr)) (fun _ i _=>Ls.length-(intOf i).toNat)
 case atStart=>exact⟨0,bP _,rfl,rfl,⟨aU _ _⟩⟩
 case round=>
  obtain⟨k,hk,rfl,rfl,HB⟩:=hrel
  by_cases hlt:k<Ls.length
  ·obtain⟨ad,A1,c1,rfl,h0,_,_⟩:=Pv (Kd.o9 HR.o HB.o) (k:Int) (by omega) (by omega);rw[aG] at h0;have hst:=Hz Ls k hlt;have hle1:=MH Ls (k+1);have hlL:=HL.o;have HST:oM ((((Ls.take (k+1)).flatten.length:Nat):Int)=((Ls.take k).flatten.length:Int)+((yE Ls (k:Int)).length:Int)):=⟨by rw[hst,aT];omega⟩;have hneg:decide (((Ls.take k).flatten.length:Int)+((yE Ls (k:Int)).length:Int)<0)=false:=aD (by omega);have hw:IntKind.i64.wrap (((Ls.take k).flatten.length:Int)+((yE Ls (k:Int)).length:Int))=((Ls.take k).flatten.length:Int)+((yE Ls (k:Int)).length:Int):=by rw[bD];have:=HST.o;omega
   clear hst hle1 hlL;generalize yE Ls (k:Int)=y at h0 HST hneg hw;generalize (Ls.take k).flatten.length=m at HST hneg hw;go_wp2
   go_roundw
   case rel=>exact⟨k+1,by omega,by go_num,by rw[HST.o],HB⟩
   case measure=>simp[intOf];omega
  ·obtain rfl:k=Ls.length:=by omega
   rw[dz];have HL0:oM ((0:Int)≤(Ls.flatten.length:Int)∧(Ls.flatten.length:Int)≤1000000000):=⟨by have:=HL.o;omega⟩;generalize Ls.flatten.length=N at HL0 ⊢
   go_wp2_with (first|(go_at_call 94;(with_reducible refine (Yi.c (N:Int) _ HL0.o.1 HL0.o.2).mono ?_);rintro e w2 ⟨v2,rfl,hr2,hb2⟩;have HR2:=Y7 (Kd.qW hr2 HB.o.size);have HB2:=Y7 (oP HB.o hb2);clear hr2 hb2))
   go_loopw [6,27] (fun v i wq=>∃ k:Nat,k≤Ls.length∧i = .int .i64 k∧oM (Kd.R (Kd.int .u8) 5 wq w.heap.size (fun _=>True) v (Ls.take k).flatten)∧oM (Below w.heap.size w wq)) (fun _ i _=>Ls.length-(intOf i).toNat)
   case atStart=>exact⟨0,bP _,rfl,HR2,HB2⟩
   case round=>
    clear HR2 HB2 HB;obtain⟨k,hk,rfl,HO,HB⟩:=hrel
    by_cases hlt:k<Ls.length
    ·obtain⟨ad,A1,c1,rfl,h0,_,hC⟩:=Pv HR.o (k:Int) (by omega) (by omega);rw[aG] at h0;have h0':=pW HB.o h0;have HF:=Y7 (Kd.o9 hC HB.o);have HST:=Y7 (Hz Ls k hlt);have HLE:=Y7 (MH Ls (k+1));clear h0 hC;generalize yE Ls (k:Int)=y at h0' HST HF
     go_wp2_with (first|((with_reducible refine qm (N:=33) rfl ?_);go_must (refine Kd.uX (Value.int .u8) 0 (h1:=fun _=>rfl) (w0:=w) w.heap.size rfl (.tmp 31) (.tmp 32) 24 5 (.int .u8 0) 1 rfl Tryz.underlying24 rW rfl (by decide) _ (Ls.take k).flatten y A1 y.length c1 (fun _=>True) rfl rfl (fun _ _=>bE) HO.o HF.o HB.o HB.o.size ?h6 ?_);(case h6=>(have h1:=HST.o;have h2:=HLE.o;have h3:=HL.o;rw[h1,aT] at h2;omega));intro v4 w4 hR4 hB4 hg4 ho4;have HR4:=Y7 hR4;have HB4:=Y7 hB4;clear hR4 hB4 hg4 ho4))
     go_roundw
     case rel=>exact⟨k+1,by omega,by go_num,⟨by rw[HST.o];exact HR4.o⟩,HB4⟩
     case measure=>simp[intOf];omega
    ·obtain rfl:k=Ls.length:=by omega
     go_wp2;go_ret;exact⟨_,rfl,by have:=HO.o;rwa [dz] at this,HB.o⟩
theorem Xo (W:World)(g:Nat)(A1 A2 A3 A4:Option Addr)(c1 c2 c3 c4:Nat)(l1 l2 l3 l4:List Int)(t:Nat)(fr:Nat × Nat)(hb:W.heap[g]? = some (.cells #[.slice A1 l1.length c1,.slice A2 l2.length c2,.slice A3 l3.length c3,.slice A4 l4.length c4] t fr))
 (h1:Kd.C (Kd.int .u8) W A1 l1.length l1) (k1:l1.length≤c1) (h2:Kd.C (Kd.int .u8) W A2 l2.length l2) (k2:l2.length≤c2) (h3:Kd.C (Kd.int .u8) W A3 l3.length l3) (k3:l3.length≤c3) (h4:Kd.C (Kd.int .u8) W A4 l4.length l4) (k4:l4.length≤c4) :
 Kd.C (Kd.slice 5 (Kd.int .u8)) W (some ⟨g,0,none⟩) 4 [l1,l2,l3,l4]:=by
 have key:∀ (j:Nat) (u:Value),#[Value.slice A1 l1.length c1,.slice A2 l2.length c2,.slice A3 l3.length c3,.slice A4 l4.length c4][j]? = some u→W.cell? (Addr.add ⟨g,0,none⟩ j)=some u:=fun j u hu=>by
  rw[add_plain];exact (iN W g j _ t fr hb).trans hu
 have one:∀ (j:Nat) (u:Value),#[Value.slice A1 l1.length c1,.slice A2 l2.length c2,.slice A3 l3.length c3,.slice A4 l4.length c4][j]? = some u→∀ i v,[u][i]? = some v→W.cell? (Addr.add ⟨g,0,none⟩ (j*1+i))=some v:=fun j u hu i v hv=>by
  match i,hv with
  | 0,hv=>
    injection hv with hv
    subst hv;rw[kM,iA];exact key j u hu
  | n+1,hv=>simp at hv
 refine⟨rfl,by decide,fun _=>⟨_,rfl,fun j p hj=>?_⟩⟩
 match j,hj with
 | 0,hj=>injection hj with hj;subst hj;exact⟨_,rfl,⟨A1,c1,rfl,k1,h1⟩,one 0 _ rfl⟩
 | 1,hj=>injection hj with hj;subst hj;exact⟨_,rfl,⟨A2,c2,rfl,k2,h2⟩,one 1 _ rfl⟩
 | 2,hj=>injection hj with hj;subst hj;exact⟨_,rfl,⟨A3,c3,rfl,k3,h3⟩,one 2 _ rfl⟩
 | 3,hj=>injection hj with hj;subst hj;exact⟨_,rfl,⟨A4,c4,rfl,k4,h4⟩,one 3 _ rfl⟩
 | n+4,hj=>simp at hj
end Go.Proofs.Y.PA
namespace Go.Proofs.Y.PA
open Go.RowKit Go.Proofs.YW.oO Go.Proofs.YW.pq Go.Proofs.YW.pz
attribute [local go_sem] sV sZ uE uF sW tq uj um
def qC.l0:Nat→List Int→List Int→Int→Int→Option (Bool)
 | 0,_,_,_,_=>none
 | k+1,x0,x1,x12,x13=>if x13<x12 then (if 0≤x13 then (if x13<(x0.length:Int) then (if x13<(x1.length:Int) then (if (rd x0 x13)=(rd x1 x13) then (qC.l0 k x0 x1 x12 (wrap64 (x13+1))) else (some false)) else (none)) else (none)) else (none)) else (some true)
def qC.f (k:Nat)(l0:List Int)(l1:List Int):Option (Bool):=if (l0.length:Int)=(l1.length:Int) then (qC.l0 k l0 l1 (l0.length:Int) 0) else (some false)
theorem qC.c (k:Nat)(A0:Option Addr)(c0:Nat)(l0:List Int)(A1:Option Addr)(c1:Nat)(l1:List Int)(r:Bool)(w:World)(hr0:Kd.C (Kd.int .u8) w A0 l0.length l0)(hc0:l0.length≤c0)(hr1:Kd.C (Kd.int .u8) w A1 l1.length l1)(hc1:l1.length≤c1)(h:qC.f k l0 l1=some r) :
 Calls Tryz.prog 11 #[.slice A0 l0.length c0,.slice A1 l1.length c1] w fun e w'=>e = .returned (.bool r)∧pJ w w':=by
 have HR0:=Y7 hr0;have HC0:=Y7 hc0;clear hr0 hc0;have HR1:=Y7 hr1;have HC1:=Y7 hc1;clear hr1 hc1;have H:(if (l0.length:Int)=(l1.length:Int) then (qC.l0 k l0 l1 (l0.length:Int) 0) else (some false))=some r:=h;clear h
 by_cases c3:(l0.length:Int)=(l1.length:Int)
 ·rw[au c3] at H;have aax:((l0.length:Int)==(l1.length:Int))=true:=beq_iff_eq.mpr c3;have abx:((l0.length:Int) != (l1.length:Int))=false:=bne_eq_false_iff_eq.mpr c3;have afG:(l0.length==l1.length)=true:=by first | simpa using c3 | (simp at c3 ⊢;omega)
  clear c3;have H':=Y7 H;clear H
  go_enter Tryz.func11,Tryz.ntmps11
  go_wp2
  repeat (go_quiet (fail);try go_wp2)
  go_loopg [13] k (fun kq v13 w'=>∃ (Zj:Int),v13 = .int .i64 Zj∧oM (qC.l0 kq l0 l1 (l0.length:Int) Zj=some r)∧oM (kq≤k)∧pJ w w')
  case atStart=>exact⟨(0),(by first | rfl | (simp;done)|(simp[*];done)),H',⟨ay _⟩,by repeat (first | exact pJ.refl _ | apply pJ.step)⟩
  case round=>
   clear H'
   try clear c1
   try clear p2
   try clear c3
   try clear aax
   try clear abx
   try clear afG
   obtain⟨Zj,rfl,HA,HK1,⟨m1,rfl⟩⟩:=hrel;cases gk with
   | zero=>exact absurd HA.o (by simp[qC.l0])
   | succ k1=>
     have H:=HA.o;clear HA;simp only[qC.l0] at H
     by_cases c4:Zj<(l0.length:Int)
     ·rw[au c4] at H;have aaw:decide (Zj<(l0.length:Int))=true:=aC c4;clear c4
      by_cases c5:0≤Zj
      ·rw[au c5] at H;have adJ:decide (0≤Zj)=true:=aC c5;clear c5
       by_cases c6:Zj<(l0.length:Int)
       ·rw[au c6] at H;have afl:decide (Zj<(l0.length:Int))=true:=aC c6;clear c6
        by_cases c7:Zj<(l1.length:Int)
        ·rw[au c7] at H;have ZV:decide (Zj<(l1.length:Int))=true:=aC c7;clear c7
         by_cases c8:(rd l0 Zj)=(rd l1 Zj)
         ·rw[au c8] at H;have aac:((rd l0 Zj)==(rd l1 Zj))=true:=beq_iff_eq.mpr c8;have ald:((rd l0 Zj) != (rd l1 Zj))=false:=bne_eq_false_iff_eq.mpr c8;clear c8;have H':=Y7 H;clear H;have aem:0≤(Zj:Int):=aH (by assumption);have aen:Zj<(l0.length:Int):=aH (by assumption);obtain⟨ajd,e267,ag1⟩:=Kd.vw HR0.o Zj aem aen;cases e267;replace aem:=bH aem;replace aen:=bH aen;have aeo:0≤(Zj:Int):=aH (by assumption);have aep:Zj<(l1.length:Int):=aH (by assumption);obtain⟨aje,e268,ag2⟩:=Kd.vw HR1.o Zj aeo aep;cases e268;replace aeo:=bH aeo;replace aep:=bH aep;go_wp2
          repeat (go_quiet (fail);try go_wp2)
          go_roundg k1
          case measure=>have:=HK1.o;omega
          case rel=>exact⟨(wrap64 (Zj+1)),(by first | rfl | (simp;done)|(simp[*];done)),H',⟨by have:=HK1.o;omega⟩,by repeat (first | exact pJ.refl _ | apply pJ.step)⟩
         ·rw[av c8] at H;have aac:((rd l0 Zj)==(rd l1 Zj))=false:=beq_eq_false_iff_ne.mpr c8;have ald:((rd l0 Zj) != (rd l1 Zj))=true:=bne_iff_ne.mpr c8;obtain rfl:=bB H;have aem:0≤(Zj:Int):=aH (by assumption);have aen:Zj<(l0.length:Int):=aH (by assumption);obtain⟨ajd,e267,ag1⟩:=Kd.vw HR0.o Zj aem aen;cases e267;replace aem:=bH aem;replace aen:=bH aen;have aeo:0≤(Zj:Int):=aH (by assumption);have aep:Zj<(l1.length:Int):=aH (by assumption);obtain⟨aje,e268,ag2⟩:=Kd.vw HR1.o Zj aeo aep;cases e268;replace aeo:=bH aeo;replace aep:=bH aep;go_wp2
          repeat (go_quiet (fail);try go_wp2)
          go_ret;exact⟨by first | rfl | (simp;done)|(simp[*];done)|(simp;decide +kernel),by repeat (first | exact pJ.refl _ | apply pJ.step)⟩
        ·rw[av c7] at H;exact absurd H (by simp)
       ·rw[av c6] at H;exact absurd H (by simp)
      ·rw[av c5] at H;exact absurd H (by simp)
     ·rw[av c4] at H;have aaw:decide (Zj<(l0.length:Int))=false:=aD c4;clear c4;obtain rfl:=bB H;go_wp2
      repeat (go_quiet (fail);try go_wp2)
      go_ret;exact⟨by first | rfl | (simp;done)|(simp[*];done)|(simp;decide +kernel),by repeat (first | exact pJ.refl _ | apply pJ.step)⟩
 ·rw[av c3] at H;have aax:((l0.length:Int)==(l1.length:Int))=false:=beq_eq_false_iff_ne.mpr c3;have abx:((l0.length:Int) != (l1.length:Int))=true:=bne_iff_ne.mpr c3;have afG:(l0.length==l1.length)=false:=by first | simpa using c3 | (simp at c3 ⊢;omega)
  obtain rfl:=bB H
  go_enter Tryz.func11,Tryz.ntmps11
  go_wp2
  repeat (go_quiet (fail);try go_wp2)
  go_ret;exact⟨by first | rfl | (simp;done)|(simp[*];done)|(simp;decide +kernel),by repeat (first | exact pJ.refl _ | apply pJ.step)⟩
end Go.Proofs.Y.PA
