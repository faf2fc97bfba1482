/- Of the law rZIQDumpBack. -/
import Derived.Test.YtcgbgifbajdhpaaGreatDoorZI42
import Derived.Test.YtcgbgifbajdhpaaGreatDoorZI41
set_option linter.unusedVariables false
set_option linter.unusedSimpArgs false
set_option maxHeartbeats 8000000
set_option maxRecDepth 100000
namespace Go.Proofs.Y.PA
open Go.RowKit Go.Proofs.Y.G Go.Proofs.YW.o7 Go.Proofs.YW.pJ Go.Proofs.YW.pO
theorem EG:∀ l:List qJ,20*(qz l).length≤tot l+19*l.length
 | []=>by simp[qz,tot]
 | x::l=>by
   have ih:=EG l;have h3:(vI x).length=(x.f1.length+19) / 20:=by simp[vI]
   rw[show qz (x::l)=vI x++qz l from rfl,bg,bC,tot];omega
theorem Ep:∀ {td:List qJ},(∀ p∈td,Im p)→(td.flatMap vY).length≤1014*td.length
 | [],_=>by simp
 | p::td,h=>by
   have ih:=Ep (td:=td) (fun q hq=>h q (dh _ hq));have:=(Qi (h p bK)).2;rw[List.flatMap_cons,bg,bC];omega
theorem F8 {l:List qJ}(h:uH l=true):∀ x∈l,rF x.f0=true∧uZ x.f1=true:=fun x hx=>by
 obtain⟨k,hk,rfl⟩:=List.mem_iff_getElem.1 hx;have h1:=F9 h k hk;rw[IC,Bd,qR hk] at h1;simp only[dx] at h1;exact⟨h1.1.1,h1.1.2.2⟩
theorem Bo:∀ (l:List qJ) (j:Nat) (p:qJ),qY j (l++[p])=qY j l++yx 2 (j+l.length+1) (vJ p)
 | [],j,p=>by simp[qY]
 | q::l,j,p=>by
   rw[gH,qY,qY,Bo l (j+1) p,bH,bC];congr 4;omega
theorem Ej.c (A:Option Addr)(c n:Nat)(l:List qJ)(eb:List Int)(ee:Int)(w:World)(hn:l.length=n)(hr:Kd.C yD w A n l)(hc:n≤c)(hok:KL l)(hl:n≤100000)(ht:tot l≤1000000)(hT:xZ w)(hQ:zD w)(he:vB l=(eb,ee)) :
 Calls Tryz.prog 9 #[.slice A n c] w fun e w'=>∃ v:Value,e = .returned (.tuple #[v,.int .i64 ee])∧Kd.R (Kd.int .u8) 5 w' w.heap.size (fun _=>True) v eb∧Below w.heap.size w w':=by
 subst hn;have HR:=Yu hr;have HT:=Yu ht;have HQ:=Yu hQ;have hpc:=EG l;cases hcan:uH l with
 | false=>
   rw[vB,aK (by rw[hcan];decide)] at he;cases he;have ENC:=Yu (Gi.c A c l.length l [] 1 w rfl hr hc hok (by omega) (fun h=>by rw[hcan] at h;cases h) hT (by rw[Gi,aK (by rw[hcan];decide)]));clear hr hok hT hQ ht
   go_enter Tryz.func9,Tryz.ntmps9
   go_wp2_with (first|(go_at_call 28;(with_reducible refine ENC.o.mono ?_);rintro e w1 ⟨v1,rfl,hr1,hb⟩;obtain⟨A1,c1,rfl⟩:=Kd.qo hr1;have HB1:=Yu hb;clear hr1 hb))
   refine bW (gB rfl _ _ _) rfl ?_;exact⟨_,rfl,Kd.ug _ _ _ _ _,HB1.o⟩
 | true=>
   rw[vB,ak hcan] at he;cases he;have hP:=AO hok (F8 hcan);have hPn:(qz l).length≤150000:=by omega
   have hsh:=Ep hP;have ENC:=Yu (Gi.c A c l.length l ((qz l).flatMap vY) 0 w rfl hr hc hok (by omega) (fun _=>by rw[Gj];omega) hT (by rw[Gi,ak hcan,Gj]));have HW:=Yu (show q9 l=yx 1 0 (sS (qz l).length 4)++(qY 0 (qz l)++yx 3 ((qz l).length+1) (sS (tot l) 8)) from rfl);have HP:=Yu hP;generalize qz l=P at *;generalize hLL:P.flatMap vY=L at *;have HLL:=Yu hLL;have HWL:oZ (∃ W,q9 l=W):=⟨_,rfl⟩;generalize q9 l=WL at *;have hLn:L.length≤600000000:=by omega
   clear hr hok hT hQ hpc hP hsh hLL HWL ht
   go_enter Tryz.func9,Tryz.ntmps9
   go_wp2_with (first|(go_at_call 28;(with_reducible refine ENC.o.mono ?_);rintro e w1 ⟨v1,rfl,hr1,hb⟩;obtain⟨A1,c1,rfl⟩:=Kd.qo hr1;have HR1:=Yu (Kd.pR hr1);have HB1:=Yu hb;clear hr1 hb)|(go_at_call 29;(with_reducible refine (show Calls _ _ _ _ _ from by have h1:=split.c A1 c1 L.length P w1 HP.o (by rw[HLL.o]) (by rw[HLL.o];exact HR1.o.2.2) HR1.o.2.1 hLn (by omega);exact h1).mono ?_);rintro e w2 ⟨v2,rfl,hn2,hb⟩;obtain⟨A2,c2,rfl,hc2,hC2⟩:=Kd.Ah hn2;have HC2:=Yu hC2;have HB2:=Yu (o9 HB1.o hb);clear hn2 hC2 hb))
   have HRS:=Yu (Kd.pI HR.o HB2.o);have HLN:oZ ((P.map vJ).length=P.length):=⟨bJ ..⟩;clear ENC HR1 HLL hLn
   go_loopg [7,25] l.length (fun kx s7 s25 wr=>∃ k:Nat,s25 = .int .i64 k∧k≤l.length∧l.length-k≤kx∧s7 = .int .i64 ((tot (l.take k):Nat):Int)∧oZ (Below w2.heap.size w2 wr))
   case atStart=>exact⟨0,rfl,bV _,by omega,rfl,⟨bq _ _⟩⟩
   case round=>
    obtain⟨k,rfl,hk,hkx,rfl,HB⟩:=hrel
    by_cases hlt:k<l.length
    ·obtain⟨ad,A0,c0,A3,c3,rfl,x0,x1,l0,g0,l3,g3⟩:=uY (Kd.pI HRS.o HB.o) (k:Int) (by omega) (by omega);rw[bf] at x0 x1;have hts:tot (l.take (k+1))=tot (l.take k)+(pK l (k:Int)).f1.length:=by
      rw[cZ hlt,Aa,qR hlt]
     have htl:=z8 l (k+1);have hT:=HT.o;have hkz:(k:Int)<(l.length:Int):=by omega
     clear l0 g0 l3 g3;generalize (pK l (k:Int)).f1.length=m1 at *;generalize (pK l (k:Int)).f0.length=m0 at *;generalize tot (l.take k)=tk at *;have hw1:IntKind.i64.wrap ((tk:Int)+(m1:Int))=((tk+m1:Nat):Int):=by rw[bI];omega
     go_wp2_with fail
     go_roundg (l.length-(k+1))
     case measure=>omega
     case rel=>exact⟨k+1,by go_num,hlt,aD _,by rw[hts];go_num,⟨o8 HB.o _⟩⟩
    ·obtain rfl:k=l.length:=by omega
     rw[dW];have HB3:=Yu (o9 HB2.o HB.o);have HC3:=Yu (Kd.pI HC2.o HB.o);have hT:=HT.o;clear hlt hk hkx HB HB2 HC2 HRS HR HT;have hpu:IntKind.u64.wrap (P.length:Int)=(P.length:Int):=by simp[IntKind.wrap,IntKind.bits,IntKind.signed];omega
     have htu:IntKind.u64.wrap (tot l:Int)=(tot l:Int):=by simp[IntKind.wrap,IntKind.bits,IntKind.signed];omega
     have HX0:=Yu (qG wr (.cells #[.slice none 0 0,.int .i64 0] 62 (0,0)));have HXB:=Yu (o8 (bq wr.heap.size wr) (.cells #[.slice none 0 0,.int .i64 0] 62 (0,0)))
     go_wp2_with (first|(go_at_call 31;(refine (He P.length 4 (by omega) (by decide) _).mono ?_);rintro e w4 ⟨v4,rfl,hr4,hb⟩;obtain⟨a4,c4,rfl⟩:=Kd.uI hr4 (by rw[qE];decide);have HR4:=Yu (Kd.pR hr4);have HB4:=Yu (o9 HXB.o hb);have HX4:=Yu (show WU w4 wr.heap.size (.slice none 0 0) ((0:Nat):Int) from pG HX0.o hb);clear hr4 hb)|(go_at_call 30;(refine (KI.c wr.heap.size 1 0 (sS P.length 4).length [] (sS P.length 4) (.slice none 0 0) (some a4) c4 wr.heap.size wr w4 (by decide) (by decide) rfl HR4.o.2.2 HR4.o.2.1 (by rw[qE];decide) (vP _ _) (HQ.o.below (o9 HB3.o HB4.o)) HX4.o (Kd.ug _ _ _ _ _) (by decide) HB4.o (aD _)).mono ?_);rintro e w5 ⟨rfl,v5,hw5,hr5,hb5,_,_⟩;have HW5:=Yu hw5;have HR5:=Yu hr5;have HB5:=Yu hb5;clear hw5 hr5 hb5))
     obtain⟨w3,hw3⟩:∃ w3,w3=wr:=⟨_,rfl⟩;subst hw3;have hg0:w.heap.size≤w3.heap.size:=HB3.o.size;generalize hgg:w3.heap.size=g at *;have HCL:oZ (∀ k,k≤P.length→(yx 1 0 (sS P.length 4)++qY 0 (P.take k)).length≤1000000000):=⟨fun k hk=>by
      have h1:=(zQ (P.take k) 0 (fun p hp=>HP.o p (dO hp))).2;rw[bG] at h1;rw[bg,wC,qE];omega⟩
     clear HX0 HXB HB4 HX4 HR4
     go_loopg [45] P.length (fun kx s45 wx=>∃ (k:Nat) (v:Value),s45 = .int .i64 k∧k≤P.length∧P.length-k≤kx∧oZ (WU wx g v ((k+1:Nat):Int))∧oZ (Kd.R (Kd.int .u8) 5 wx g (fun _=>True) v (yx 1 0 (sS P.length 4)++qY 0 (P.take k)))∧oZ (Below g w3 wx))
     case atStart=>exact⟨0,v5,rfl,bV _,by omega,HW5,⟨by have:=HR5.o;rw[dL] at this;rw[lW,qY,fq];exact this⟩,HB5⟩
     case round=>
      clear HW5 HR5 HB5;obtain⟨k,v,rfl,hk,hkx,HWU,HRV,HB⟩:=hrel;have HBw:oZ (Below w3.heap.size w3 wr):=⟨by rw[hgg];exact HB.o⟩
      by_cases hlt:k<P.length
      ·obtain⟨ad,A0,c0,rfl,x0,l0,g0⟩:=RJ (Kd.pI HC3.o HBw.o) (k:Int) (by omega) (by rw[HLN.o];omega);rw[bf] at x0;have hrd:yu (P.map vJ) (k:Int)=vJ P[k]:=by simp[yu,bn,aQ hlt]
       rw[hrd] at x0 l0 g0;have hpk:=HP.o P[k] (eF hlt);have hpo:=AP hpk;have HST:oZ (yx 1 0 (sS P.length 4)++qY 0 (P.take k)++yx 2 (k+1) (vJ P[k])=yx 1 0 (sS P.length 4)++qY 0 (P.take (k+1))):=⟨by
        rw[cZ hlt,Bo,bH,bG,dY (by omega),dX]⟩
       have WF:=Yu (fun (m:Nat) (hm:(vJ P[k]).length=m)=>KI.c g 2 (k+1) m (yx 1 0 (sS P.length 4)++qY 0 (P.take k)) (vJ P[k]) v A0 c0 g w3 wr (by decide) (by omega) hm (hm ▸ g0) (hm ▸ l0) (by omega) hpo.1 (HQ.o.below (o9 HB3.o HBw.o)) HWU.o HRV.o (HCL.o k hk) HB.o (aD _));have hkz:(k:Int)<(P.length:Int):=by omega
       clear hrd hpk hpo l0 g0;generalize hm:(vJ P[k]).length=m at *;have WF2:=Yu (WF.o m rfl);clear WF
       go_wp2_with (first|(go_at_call 30;(refine WF2.o.mono ?_);rintro e w6 ⟨rfl,v6,hw6,hr6,hb6,_,_⟩;have HW6:=Yu hw6;have HR6:=Yu hr6;have HB6:=Yu hb6;clear hw6 hr6 hb6))
       go_roundg (P.length-(k+1))
       case measure=>omega
       case rel=>exact⟨k+1,v6,by go_num,hlt,aD _,HW6,⟨by rw[← HST.o];exact HR6.o⟩,HB6⟩
      ·obtain rfl:k=P.length:=by omega
       rw[dW] at HRV;have hcl:=HCL.o P.length (aD _);rw[dW] at hcl;have HCE:=Yu hcl;have HWx:oZ (WU wr g v ((P.length+1:Nat):Int)):=HWU;clear hlt hk hkx HWU HCL hcl HC3 HLN
       go_wp2_with (first|(go_at_call 31;(refine (He (tot l) 8 (by omega) (by decide) _).mono ?_);rintro e w7 ⟨v7,rfl,hr7,hb⟩;obtain⟨a7,c7,rfl⟩:=Kd.uI hr7 (by rw[qE];decide);have HR7:=Yu (Kd.pR hr7);have HW7:=Yu (show WU w7 g v ((P.length+1:Nat):Int) from pG HWx.o hb);have HV7:=Yu (Kd.qO HRV.o hb);have HB7:=Yu (o9 HBw.o hb);have HBg:oZ (Below g w3 w7):=⟨by rw[← hgg];exact HB7.o⟩;clear hr7 hb)|(go_at_call 30;(refine (KI.c g 3 (P.length+1) (sS (tot l) 8).length (yx 1 0 (sS P.length 4)++qY 0 P) (sS (tot l) 8) v (some a7) c7 g w3 w7 (by decide) (by omega) rfl HR7.o.2.2 HR7.o.2.1 (by rw[qE];decide) (vP _ _) (HQ.o.below (o9 HB3.o HB7.o)) HW7.o HV7.o HCE.o HBg.o (aD _)).mono ?_);rintro e w8 ⟨rfl,v8,hw8,hr8,hb8,_,_⟩;have b0:=(pq hw8 0).trans rfl;generalize hWW:yx 1 0 (sS P.length 4)++qY 0 P++yx 3 (P.length+1) (sS (tot l) 8)=WW at hr8;have HWW:=Yu hWW;clear hWW;obtain⟨A8,c8,rfl⟩:=Kd.qo hr8;have HR8:=Yu hr8;have HB8:=Yu hb8;clear hw8 hr8 hb8))
       refine bW (gB rfl _ _ _) rfl ?_;exact⟨_,rfl,by rw[HW.o,← bH,HWW.o];exact Kd.sj HR8.o hg0,HB3.o.trans (HB8.o.mono hg0)⟩
def CP:List Fr→Nat
 | []=>0
 | f::l=>uW f+CP l
theorem Mi:∀ a b:List Fr,CP (a++b)=CP a+CP b
 | [],b=>by simp[CP]
 | f::a,b=>by rw[gH,CP,CP,Mi a b];omega
noncomputable def Kg:Nat→List qJ→List Fr
 | _,[]=>[]
 | i,p::l=>⟨2,i+1,vJ p⟩::Kg (i+1) l
theorem Gx:∀ (l:List qJ) (i:Nat),(Kg i l).length=l.length
 | [],_=>rfl
 | p::l,i=>by rw[Kg,bC,Gx l (i+1),bC]
theorem O6:∀ (l:List qJ) (i:Nat),CP (Kg i l)=(qY i l).length
 | [],_=>rfl
 | p::l,i=>by rw[Kg,CP,O6 l (i+1),qY,bg,wC,uW]
theorem OV:∀ (l:List qJ) (i:Nat) (r:List Int),(∀ p∈l,Im p)→i+l.length<4294967296→um (qY i l++r)=Kg i l++um r
 | [],i,r,_,_=>by simp[qY,Kg]
 | p::l,i,r,h,hi=>by
   have ho:=AP (h p bK);rw[bC] at hi;rw[qY,bH,yZ _ (by decide) (by decide) (by omega) ho.1 ho.2,OV l (i+1) r (fun q hq=>h q (dh _ hq)) (by omega),Kg,gH]
theorem zR {l:List qJ}(r:List Int)(h:∀ p∈qz l,Im p)(hn:(qz l).length+1<4294967296) :
 um (q9 l++r)=⟨1,0,sS (qz l).length 4⟩::(Kg 0 (qz l)++(⟨3,(qz l).length+1,sS (tot l) 8⟩::um r)):=by
 have h4:(sS (qz l).length 4).length=4:=qE _ _;have h8:(sS (tot l) 8).length=8:=qE _ _;rw[q9,bH,bH,yZ _ (by decide) (by decide) (by decide) (vP _ _) (by omega),OV _ _ _ h (by omega),yZ _ (by decide) (by decide) (by omega) (vP _ _) (by omega)]
theorem EC {l:List qJ}(r:List Int)(h:∀ p∈qz l,Im p)(hn:(qz l).length+1<4294967296):CP (um (q9 l++r))=(q9 l).length+CP (um r):=by
 rw[zR r h hn,CP,Mi,CP,O6,q9,bg,bg,wC,wC,uW,uW];dsimp only;omega
theorem OD {l l':List qJ}{more:List Int}(h:∀ p∈qz l,Im p)(hn:(qz l).length+1<4294967296)(h':∀ p∈qz l',Im p)(hn':(qz l').length+1<4294967296)(e:q9 l'=q9 l++more):more.length=0:=by
 have e1:=zR [] h' hn';have e2:=zR more h hn;have e3:=EC [] h' hn';have e4:=EC more h hn;have el:=gG List.length e;rw[fq,e] at e1 e3;rw[Cz] at e1 e3;rw[e2] at e1;injection e1 with ea eb
 injection ea with _ _ ea
 have hnn:(qz l).length=(qz l').length:=by
  have:=gG (yA 0) ea;rwa [xV (by omega),xV (by omega)] at this
 have hl:=gG List.length eb;rw[bg,bg,Gx,Gx,bC,bC,fK] at hl;have hm:um more=[]:=dG (by omega);rw[hm] at e4;rw[bg] at el e3;simp only[CP] at e3 e4;omega
theorem QH {l:List qJ}{more:List Int}(h:∀ p∈qz l,Im p)(hn:(qz l).length+1<4294967296)(hm:more.length≠0)(hz:KL (joinL (sF (q9 l++more))))(hJ:(qz (joinL (sF (q9 l++more)))).length+1<4294967296):xq (q9 l++more)=([],5):=by
 rw[xq,aK];intro he;unfold vB at he;split at he
 ·rename_i hc;injection he with he _
  exact hm (OD h hn (AO hz (F8 hc)) hJ he)
 ·injection he with _ he
  exact absurd he (by decide)
end Go.Proofs.Y.PA
