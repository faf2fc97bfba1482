/- Of the law rZIQDumpBack. -/
import Derived.Test.YtcgbgifbajdhpaaGreatDoorZI47
set_option linter.unusedVariables false
set_option linter.unusedSimpArgs false
set_option maxHeartbeats 16000000
set_option maxRecDepth 1000000
namespace Go.Proofs.Y.PA
open Go.Shelf Go.RowKit Go.Lib Go.Sort
def zN (g:Nat)(cf:EP→EP→Int)(key:EP→Int)(blk off cap:Nat)(d0:Array EP)(w0:World)(n:Nat):Prop:=
 ∀ (a m b:Nat) (d:Array EP) (w:World),b-a≤n→d.size=d0.size→SWK qB 3 w0 blk off d w→a<m→m<b→b≤d0.size→uf key d a m→uf key d m b →
 Calls Tryz.prog 135 #[.slice (some ⟨blk,off,none⟩) d0.size cap,.int .i64 a,.int .i64 m,.int .i64 b,.func (.func g) #[] #[]] w fun e w'=>e = .returned (.tuple #[])∧∃ d',SWK qB 3 w0 blk off d' w'∧MG key d a b d'∧uf key d' a b
theorem rU.left (g:Nat)(cf:EP→EP→Int)(key:EP→Int)(hcf:∀ x y,cf x y<0↔key x<key y)(eg:∀ args w,(callFunc g args).run Tryz.prog w = .ok (.enter g args) w)
 (blk off cap:Nat) (d0:Array EP) (w0:World) (R:Go.Proofs.RowK qB 3 w0 blk off d0) (hC:CmpLays Tryz.prog g #[] qB 3 cf blk off d0.size w0) (hsz:d0.size<4611686018427387904)
 (a m b:Nat) (d:Array EP) (w:World) (hma:m=a+1) (hs:d.size=d0.size) (S:SWK qB 3 w0 blk off d w) (hm:a+1<b) (hb:b≤d0.size) (hB:uf key d (a+1) b) :
 Calls Tryz.prog 135 #[.slice (some ⟨blk,off,none⟩) d0.size cap,.int .i64 (a),.int .i64 (m),.int .i64 (b),.func (.func g) #[] #[]] w fun e w'=>e = .returned (.tuple #[])∧∃ d',SWK qB 3 w0 blk off d' w'∧MG key d a (b) d'∧uf key d' a (b):=by
 have mixed:Tryz.prog.follows .mixedOrders=true:=by kernel_rfl
 have S0:Aside (SWK qB 3 w0 blk off d w):=S;have HC:=Yu hC;have HCF:=Yu hcf;have SB:=Yu hB;clear S hC hcf hB;have h1z:(m:Int)-(a:Int)=1:=by omega
 have m1:m≤a+1:=by omega
 have m2:a+1≤m:=by omega
 clear hma
 go_enter Tryz.func135,Tryz.ntmps135
 go_wp2
 go_loopg [10,11] (b-m) (fun kx s10 s11 wr=>∃ (i j:Nat),s10 = .int .i64 i∧s11 = .int .i64 j∧a+1≤i∧i≤j∧j≤b∧j-i≤kx∧Aside (SWK qB 3 w0 blk off d wr)∧Aside (a+1<i→key d[i-1]! < key d[a]!)∧Aside (j<b→key d[a]! ≤ key d[j]!))
 case atStart=>exact⟨m,b,rfl,rfl,by omega,by omega,aD _,aD _,S0,(fun h=>by omega),(fun h=>by omega)⟩
 case round=>
  clear S0;obtain⟨i,j,rfl,rfl,hai,hij,hjb,hkx,S1,HL,HR⟩:=hrel
  by_cases hlt:i<j
  ·have hltz:(i:Int)<(j:Int):=by omega
   have c0:=fun n' os'=>(qU S1.o R hs ((i+j) / 2) (by omega) n' os').1
   have c1:=fun n' os'=>(qU S1.o R hs ((i+j) / 2) (by omega) n' os').2.1
   have c2:=fun n' os'=>(qU S1.o R hs ((i+j) / 2) (by omega) n' os').2.2
   have e0:=fun n' os'=>(qU S1.o R hs a (by omega) n' os').1
   have e1:=fun n' os'=>(qU S1.o R hs a (by omega) n' os').2.1
   have e2:=fun n' os'=>(qU S1.o R hs a (by omega) n' os').2.2
   have hc:=fun n' os'=>Dc S1.o HC.o hs d[(i+j) / 2]! d[a]! n' os'
   have pa:(0:Int)≤((i:Int)+(j:Int)) / 2:=by omega
   have ba:((i:Int)+(j:Int)) / 2<(d0.size:Int):=by omega
   have ea:(((i:Int)+(j:Int)) / 2).toNat=(i+j) / 2:=by omega
   have b1:(a:Int)<(d0.size:Int):=by omega
   cases hv:decide (cf d[(i+j) / 2]! d[a]! < 0) with
   | true=>
     have HX:=Yu ((HCF.o _ _).1 (aR hv));generalize d[(i+j) / 2]! = x at c0 c1 c2 hc hv;generalize d[a]! = y at e0 e1 e2 hc hv
     go_wp2_with fail
     go_quiet_grown (first|(go_at_fn g;refine fu (hc _ _)))
     have S2:Aside (SWK qB 3 w0 blk off d (grow (wr.drewN nq) osq)):=S1.o.grown nq osq;clear c0 c1 c2 e0 e1 e2 hc S1;generalize grow (wr.drewN nq) osq=w2 at S2 ⊢;clear nq osq;go_wp2
     go_roundg (j-((i+j) / 2+1))
     case measure=>omega
     case rel=>exact⟨(i+j) / 2+1,j,by go_num,rfl,by omega,by omega,hjb,aD _,S2,(fun _=>HX.o),HR⟩
   | false=>
     have HX:=Yu (fun h=>dQ hv ((HCF.o _ _).2 h));generalize d[(i+j) / 2]! = x at c0 c1 c2 hc hv;generalize d[a]! = y at e0 e1 e2 hc hv
     go_wp2_with fail
     go_quiet_grown (first|(go_at_fn g;refine fu (hc _ _)))
     have S2:Aside (SWK qB 3 w0 blk off d (grow (wr.drewN nq) osq)):=S1.o.grown nq osq;clear c0 c1 c2 e0 e1 e2 hc S1;generalize grow (wr.drewN nq) osq=w2 at S2 ⊢;clear nq osq;go_wp2
     go_roundg ((i+j) / 2-i)
     case measure=>omega
     case rel=>exact⟨i,(i+j) / 2,rfl,by go_num,hai,by omega,by omega,aD _,S2,HL,(fun _=>Int.not_lt.1 HX.o)⟩
  ·obtain rfl:i=j:=by omega
   have hltz:¬ (i:Int)<(i:Int):=by omega
   go_wp2
   go_loopg [13] (i-1-a) (fun kx s13 wr=>∃ (k:Nat) (dk:Array EP),s13 = .int .i64 k∧a≤k∧k≤i-1∧i-1-k≤kx∧dk.size=d0.size∧Aside (SWK qB 3 w0 blk off dk wr)∧Aside (∀ t,dk[t]! = d[sw a (a+1) (k+1) t]!))
   case atStart=>exact⟨a,d,rfl,aD _,by omega,aD _,hs,S1,(fun t=>by rw[y8 a (a+1) (a+1) t (by omega) (by omega) (by omega)])⟩
   case round=>
    clear S1;obtain⟨k,dk,rfl,hak,hki,adp,hds,S2,HK⟩:=hrel
    by_cases hlt2:k<i-1
    ·have aad:(k:Int)<(i:Int)-1:=by omega
     have ew:((k:Int)+1).toNat=k+1:=by omega
     have pw:(0:Int)≤(k:Int)+1:=by omega
     have bw:(k:Int)+1<(d0.size:Int):=by omega
     have bw2:(k:Int)<(d0.size:Int):=by omega
     obtain⟨p0,p1,p2,_,_,_⟩:=tH S2.o.drew R (by omega) k (by omega);obtain⟨q0,q1,q2,_,_,_⟩:=tH S2.o.drew R (by omega) (k+1) (by omega);obtain⟨_,_,_,f2,f3,f4⟩:=tH S2.o R (by omega) k (by omega);obtain⟨_,_,_,g2,g3,g4⟩:=tH S2.o R (by omega) (k+1) (by omega);have q3:=fun u v x=>(uq S2.o R (by omega) k (k+1) (by omega) (by omega) u v x).1
     have q4:=fun u v x=>(uq S2.o R (by omega) k (k+1) (by omega) (by omega) u v x).2.1
     have q5:=fun u v x=>(uq S2.o R (by omega) k (k+1) (by omega) (by omega) u v x).2.2
     have S3:Aside (SWK qB 3 w0 blk off (swp dk k (k+1)) (Cw wr blk off k (k+1) dk[k+1]! dk[k]!)):=Ef S2.o R k (k+1) (by omega) (by omega);clear S2;generalize dk[k]! = X at *;generalize dk[k+1]! = Y at *
     go_wp2_with fail
     go_big_region_o
     clear p0 p1 p2 q0 q1 q2 f2 f3 f4 g2 g3 g4 q3 q4 q5;rw[Gs];generalize Cw wr blk off k (k+1) Y X=w2 at S3 ⊢;go_wp2
     go_roundg (i-1-(k+1))
     case measure=>omega
     case rel=>exact⟨k+1,swp dk k (k+1),by go_num,by omega,by omega,aD _,by rw[lK];exact hds,S3,TQ (by omega) (by omega) hak HK.o⟩
    ·have aad:¬ (k:Int)<(i:Int)-1:=by omega
     go_wp2;have he:=Mq (key:=key) (d:=d) (d1:=dk) (a:=a) (i:=i) (b:=b) (by omega) hai hjb SB.o (by omega) (fun t=>by rw[HK.o,show k+1=i from by omega]) HL.o HR.o
     (try simp only[Exit.inBlock,Exit.then]);refine bW (gL rfl _ _ _) rfl ?_
     exact⟨rfl,dk,S2.o,he.1,he.2⟩
theorem rU.right (g:Nat)(cf:EP→EP→Int)(key:EP→Int)(hcf:∀ x y,cf x y<0↔key x<key y)(eg:∀ args w,(callFunc g args).run Tryz.prog w = .ok (.enter g args) w)
 (blk off cap:Nat) (d0:Array EP) (w0:World) (R:Go.Proofs.RowK qB 3 w0 blk off d0) (hC:CmpLays Tryz.prog g #[] qB 3 cf blk off d0.size w0) (hsz:d0.size<4611686018427387904)
 (a m b:Nat) (d:Array EP) (w:World) (hmb:b=m+1) (hs:d.size=d0.size) (S:SWK qB 3 w0 blk off d w) (h1:m≠a+1) (ha:a<m) (hb:b≤d0.size) (hA:uf key d a m) :
 Calls Tryz.prog 135 #[.slice (some ⟨blk,off,none⟩) d0.size cap,.int .i64 (a),.int .i64 (m),.int .i64 (b),.func (.func g) #[] #[]] w fun e w'=>e = .returned (.tuple #[])∧∃ d',SWK qB 3 w0 blk off d' w'∧MG key d a b d'∧uf key d' a b:=by
 have mixed:Tryz.prog.follows .mixedOrders=true:=by kernel_rfl
 have S0:Aside (SWK qB 3 w0 blk off d w):=S;have HC:=Yu hC;have HCF:=Yu hcf;have SA:=Yu hA;clear S hC hcf hA;have h1z:¬ (m:Int)-(a:Int)=1:=by omega
 have h1b:((m:Int)-(a:Int)==1)=false:=beq_eq_false_iff_ne.2 h1z;have h2z:(b:Int)-(m:Int)=1:=by omega
 have m1:b≤m+1:=by omega
 have m2:m+1≤b:=by omega
 have HMB:=Yu hmb;clear hmb h1
 go_enter Tryz.func135,Tryz.ntmps135
 go_wp2
 go_loopg [14,15] (m-a) (fun kx s10 s11 wr=>∃ (i j:Nat),s10 = .int .i64 i∧s11 = .int .i64 j∧a≤i∧i≤j∧j≤m∧j-i≤kx∧Aside (SWK qB 3 w0 blk off d wr)∧Aside (a<i→key d[i-1]! ≤ key d[m]!)∧Aside (j<m→key d[m]! < key d[j]!))
 case atStart=>exact⟨a,m,rfl,rfl,aD _,by omega,aD _,aD _,S0,(fun h=>by omega),(fun h=>by omega)⟩
 case round=>
  clear S0;obtain⟨i,j,rfl,rfl,hai,hij,hjb,hkx,S1,HL,HR⟩:=hrel
  by_cases hlt:i<j
  ·have hltz:(i:Int)<(j:Int):=by omega
   have c0:=fun n' os'=>(qU S1.o R hs ((i+j) / 2) (by omega) n' os').1
   have c1:=fun n' os'=>(qU S1.o R hs ((i+j) / 2) (by omega) n' os').2.1
   have c2:=fun n' os'=>(qU S1.o R hs ((i+j) / 2) (by omega) n' os').2.2
   have e0:=fun n' os'=>(qU S1.o R hs m (by omega) n' os').1
   have e1:=fun n' os'=>(qU S1.o R hs m (by omega) n' os').2.1
   have e2:=fun n' os'=>(qU S1.o R hs m (by omega) n' os').2.2
   have hc:=fun n' os'=>Dc S1.o HC.o hs d[m]! d[(i+j) / 2]! n' os'
   have pa:(0:Int)≤((i:Int)+(j:Int)) / 2:=by omega
   have ba:((i:Int)+(j:Int)) / 2<(d0.size:Int):=by omega
   have ea:(((i:Int)+(j:Int)) / 2).toNat=(i+j) / 2:=by omega
   have b1:(m:Int)<(d0.size:Int):=by omega
   cases hv:decide (cf d[m]! d[(i+j) / 2]! < 0) with
   | false=>
     have HX:=Yu (fun h=>dQ hv ((HCF.o _ _).2 h));generalize d[(i+j) / 2]! = y at c0 c1 c2 hc hv;generalize d[m]! = x at e0 e1 e2 hc hv
     go_wp2_with fail
     go_quiet_grown (first|(go_at_fn g;refine fu (hc _ _)))
     have S2:Aside (SWK qB 3 w0 blk off d (grow (wr.drewN nq) osq)):=S1.o.grown nq osq;clear c0 c1 c2 e0 e1 e2 hc S1;generalize grow (wr.drewN nq) osq=w2 at S2 ⊢;clear nq osq;go_wp2
     go_roundg (j-((i+j) / 2+1))
     case measure=>omega
     case rel=>exact⟨(i+j) / 2+1,j,by go_num,rfl,by omega,by omega,hjb,aD _,S2,(fun _=>Int.not_lt.1 HX.o),HR⟩
   | true=>
     have HX:=Yu ((HCF.o _ _).1 (aR hv));generalize d[(i+j) / 2]! = y at c0 c1 c2 hc hv;generalize d[m]! = x at e0 e1 e2 hc hv
     go_wp2_with fail
     go_quiet_grown (first|(go_at_fn g;refine fu (hc _ _)))
     have S2:Aside (SWK qB 3 w0 blk off d (grow (wr.drewN nq) osq)):=S1.o.grown nq osq;clear c0 c1 c2 e0 e1 e2 hc S1;generalize grow (wr.drewN nq) osq=w2 at S2 ⊢;clear nq osq;go_wp2
     go_roundg ((i+j) / 2-i)
     case measure=>omega
     case rel=>exact⟨i,(i+j) / 2,rfl,by go_num,hai,by omega,by omega,aD _,S2,HL,(fun _=>HX.o)⟩
  ·obtain rfl:i=j:=by omega
   have hltz:¬ (i:Int)<(i:Int):=by omega
   go_wp2
   go_loopg [17] (m-i) (fun kx s13 wr=>∃ (k:Nat) (dk:Array EP),s13 = .int .i64 k∧i≤k∧k≤m∧k-i≤kx∧dk.size=d0.size∧Aside (SWK qB 3 w0 blk off dk wr)∧Aside (∀ t,dk[t]! = d[sw k m (m+1) t]!))
   case atStart=>exact⟨m,d,rfl,by omega,by omega,aD _,hs,S1,(fun t=>by rw[y8 m m (m+1) t (by omega) (by omega) (by omega)])⟩
   case round=>
    clear S1;obtain⟨k,dk,rfl,hak,hki,adp,hds,S2,HK⟩:=hrel
    by_cases hlt2:i<k
    ·obtain⟨kp,rfl⟩:∃ kp,k=kp+1:=⟨k-1,by omega⟩;have aad:((kp+1:Nat):Int)>(i:Int):=by omega
     have aae:(i:Int)<(kp:Int)+1:=by omega
     have ew:((kp:Int)+1).toNat=kp+1:=by omega
     have ew2:((kp:Int)+1-1).toNat=kp:=by omega
     have pw:(0:Int)≤(kp:Int)+1:=by omega
     have bw:(kp:Int)+1<(d0.size:Int):=by omega
     have bw2:(kp:Int)<(d0.size:Int):=by omega
     obtain⟨p0,p1,p2,_,_,_⟩:=tH S2.o.drew R (by omega) (kp+1) (by omega);obtain⟨q0,q1,q2,_,_,_⟩:=tH S2.o.drew R (by omega) kp (by omega);obtain⟨_,_,_,f2,f3,f4⟩:=tH S2.o R (by omega) (kp+1) (by omega);obtain⟨_,_,_,g2,g3,g4⟩:=tH S2.o R (by omega) kp (by omega);have q3:=fun u v x=>(uq S2.o R (by omega) (kp+1) kp (by omega) (by omega) u v x).1
     have q4:=fun u v x=>(uq S2.o R (by omega) (kp+1) kp (by omega) (by omega) u v x).2.1
     have q5:=fun u v x=>(uq S2.o R (by omega) (kp+1) kp (by omega) (by omega) u v x).2.2
     have S3:Aside (SWK qB 3 w0 blk off (swp dk (kp+1) kp) (Cw wr blk off (kp+1) kp dk[kp]! dk[kp+1]!)):=Ef S2.o R (kp+1) kp (by omega) (by omega);clear S2;generalize dk[kp+1]! = X at *;generalize dk[kp]! = Y at *
     go_wp2_with fail
     go_big_region_o
     clear p0 p1 p2 q0 q1 q2 f2 f3 f4 g2 g3 g4 q3 q4 q5;rw[Gs];generalize Cw wr blk off (kp+1) kp Y X=w2 at S3 ⊢;go_wp2
     go_roundg (kp-i)
     case measure=>omega
     case rel=>exact⟨kp,swp dk (kp+1) kp,by go_num,by omega,by omega,aD _,by rw[lK];exact hds,S3,ML (by omega) (by omega) (by omega) HK.o⟩
    ·have aad:¬ ((k:Nat):Int)>(i:Int):=by omega
     have aae:¬ (i:Int)<(k:Int):=by omega
     go_wp2;have hmb:=HMB.o;subst hmb;have he:=Jp (key:=key) (d:=d) (d1:=dk) (a:=a) (i:=i) (m:=m) (by omega) hai hjb SA.o (by omega) (fun t=>by rw[HK.o,show k=i from by omega]) HL.o HR.o
     (try simp only[Exit.inBlock,Exit.then]);refine bW (gL rfl _ _ _) rfl ?_
     exact⟨rfl,dk,S2.o,he.1,he.2⟩
theorem rU.t43 (g:Nat)(cf:EP→EP→Int)(key:EP→Int)(blk off cap:Nat)(d0:Array EP)(w0:World)(R:Go.Proofs.RowK qB 3 w0 blk off d0)(hsz:d0.size<4611686018427387904)(n:Nat)(hIH:zN g cf key blk off cap d0 w0 n)
 (a m b q i e:Nat) (d:Array EP) (w:World) (hn:b-a≤n+1) (hs:d.size=d0.size) (hm:m<b) (hb:b≤d0.size) (q1:2*q≤a+b) (q2:a+b≤2*q+1) (Zl:a≤i) (him:i≤m) (E1:e+i=q+m) (e3:m≤e) (e4:e≤b) (e5:i≤q) (e6:q≤e) (hA:uf key d a m) (hB:uf key d m b) (hL:a<i→e<b→key d[i-1]! ≤ key d[e]!) (hR:i<m→m<e→key d[e-1]! < key d[i]!) (d1 d2:Array EP) (hz1:d1.size=d0.size) (hp1:∀ t,d1[t]! = d[sw i m e t]!) (k2:MG key d1 a q d2) (s2:uf key d2 a q) (t1:∀ x y,q≤x→x<y→y<e→key d2[x]! ≤ key d2[y]!) (t2:∀ x y,e≤x→x<y→y<b→key d2[x]! ≤ key d2[y]!) (S:SWK qB 3 w0 blk off d2 w)
 {u5 u6 u7 u8 u9 u10 u11 u12 u13 u14 u15 u16 u17 u19 u21 u22 u23 u25 u26 u27 u28 u29 u30 u31 u32 u33 u34 u35 u36 u37 u38 u39 u40 u41 u42 u43 u44 u45 u46 u47 u48 u49 u50 u51 u52 u53 u54 u55 u56 u57 u58 u59 u60 u61 u62 u63 u64 u65 u66 u67 u68 u69 u70 u71 u72 u73 u74 u75 u76 u77 u78 u79 u80 u81 u82 u83 u84 u85 u86 u87 u88 u89 u90 u91 u92 u93 u94 u95 u96 u97 u98 u99 aaK aaL aaM aaN aaO u105 aaP aaQ aaR aaS aaT aaU aaV aaW aaX aaY aaZ aa0 aa1 u119 aa2 aa3 aa4 aa5 u124 aa6 aa7 u127 aa8 aa9 abb u131 abd abe abf abg abh abj u138 u139 abk abl abm abn abo abp abq abr abt abu abv abw u152 abx u154 aby abz abA abB abC abD abE u162 abF u164 abG abH abI abJ abK abL abM abN abO abP abQ abR abS abT abU abV abW abX abY abZ ab0 ab1 ab2 ab3 ab4 ab5 ab6 ab7 u193 u194 ab8 u196 ab9 u198 acd ace u201 acf acg ach aci u206 acj u208 acn u210 aco acp acr acs acu acv acw acy acz:Value} :
 Code.wp Tryz.prog (Xf 11 (Tryz.f135.body.getD .skip)) (bodyPost Tryz.prog Tryz.f135 fun e w'=>e = .returned (.tuple #[])∧∃ d',SWK qB 3 w0 blk off d' w'∧MG key d a b d'∧uf key d' a b) ⟨List.toArray ((.slice (some ⟨blk,off,none⟩) d0.size cap:Value)::(.int .i64 a:Value)::(.int .i64 m:Value)::(.int .i64 b:Value)::(.func (.func g) #[] #[]:Value)::u5::u6::u7::u8::u9::u10::u11::u12::u13::u14::u15::u16::u17::(.int .i64 q:Value)::u19::(.int .i64 i:Value)::u21::u22::u23::(.int .i64 e:Value)::u25::u26::u27::u28::u29::u30::u31::u32::u33::u34::u35::u36::u37::u38::u39::u40::u41::u42::u43::u44::u45::u46::u47::u48::u49::u50::u51::u52::u53::u54::u55::u56::u57::u58::u59::u60::u61::u62::u63::u64::u65::u66::u67::u68::u69::u70::u71::u72::u73::u74::u75::u76::u77::u78::u79::u80::u81::u82::u83::u84::u85::u86::u87::u88::u89::u90::u91::u92::u93::u94::u95::u96::u97::u98::u99::aaK::aaL::aaM::aaN::aaO::u105::aaP::aaQ::aaR::aaS::aaT::aaU::aaV::aaW::aaX::aaY::aaZ::aa0::aa1::u119::aa2::aa3::aa4::aa5::u124::aa6::aa7::u127::aa8::aa9::abb::u131::abd::abe::abf::abg::abh::abj::u138::u139::abk::abl::abm::abn::abo::abp::abq::abr::abt::abu::abv::abw::u152::abx::u154::aby::abz::abA::abB::abC::abD::abE::u162::abF::u164::abG::abH::abI::abJ::abK::abL::abM::abN::abO::abP::abQ::abR::abS::abT::abU::abV::abW::abX::abY::abZ::ab0::ab1::ab2::ab3::ab4::ab5::ab6::ab7::u193::u194::ab8::u196::ab9::u198::acd::ace::u201::acf::acg::ach::aci::u206::acj::u208::acn::u210::aco::acp::acr::acs::acu::acv::acw::acy::acz::[]),[]⟩ w:=by
 have mixed:Tryz.prog.follows .mixedOrders=true:=by kernel_rfl
 have IH:=Yu hIH;have SA:=Yu hA;have SB:=Yu hB;have HLL:=Yu hL;have HRR:=Yu hR;clear hIH hA hB hL hR;have T3:Aside (SWK qB 3 w0 blk off d2 w):=S;have HP1:=Yu hp1;have K2:=Yu k2;have S2:=Yu s2;have HD2:=Yu (And.intro t1 t2);clear hp1 k2 s2 t1 t2 S
 conv=>arg 2;whnf
 go_upto_region 43 with (fail)
 rename_i hK
 go_cut [213] (fun v wx=>∃ bv:Bool,v = .bool bv∧YW.o7.oZ (bv=decide ((q<e)∧(e<b)))∧YW.o7.oZ (wx=w))
 case first=>
  by_cases g1:q<e
  ·have g1z:(q:Int)<(e:Int):=by omega
   by_cases g2:e<b
   ·have g2z:(e:Int)<(b:Int):=by omega
    go_wp2_with fail
    go_meet
    exact⟨true,rfl,⟨(aM ⟨g1,g2⟩).symm⟩,⟨rfl⟩⟩
   ·have g2z:¬ (e:Int)<(b:Int):=by omega
    go_wp2_with fail
    go_meet
    exact⟨false,rfl,⟨(aN (fun h=>g2 h.2)).symm⟩,⟨rfl⟩⟩
  ·have g1z:¬ (q:Int)<(e:Int):=by omega
   go_wp2_with fail
   go_meet
   exact⟨false,rfl,⟨(aN (fun h=>g1 h.1)).symm⟩,⟨rfl⟩⟩
 case rest=>
  obtain⟨bv,rfl,hbv,hw1⟩:=hcut;have T4:Aside (SWK qB 3 w0 blk off d2 wc):=by rw[hw1.o];exact T3
  clear T3 hw1;cases bv
  rotate_left
  ·have hr:q<e∧e<b:=aR hbv.o.symm;have HR0:=Yu (IH.o q e b d2 wc (by omega) (K2.o.1.trans hz1) T4.o hr.1 hr.2 (by omega) HD2.o.1 HD2.o.2);clear hr
   go_wp2_with (first|(go_at_call 135;refine HR0.o.mono ?_;rintro _ w1 ⟨rfl,d3,hS,hp1⟩;have T5:Aside (SWK qB 3 w0 blk off d3 w1):=hS;have HP3:=Yu hp1;clear hS hp1))
   go_end0;have hf:=wM (key:=key) (d:=d) (d1:=d1) (d2:=d2) (d3:=d3) (a:=a) (s:=i) (m:=m) (e:=e) (b:=b) (q:=q) (by omega) Zl him e3 e4 (by omega) SA.o SB.o (by omega) HP1.o HLL.o HRR.o K2.o S2.o HP3.o.1 HP3.o.2;exact⟨rfl,d3,T5.o,hf.1,hf.2⟩
  ·have hr:¬ (q<e∧e<b):=dQ hbv.o.symm;have HQ3:=Yu (show uf key d2 q b from by
    by_cases hqe:q<e
    ·have:b=e:=by omega
     subst this;exact HD2.o.1
    ·have:q=e:=by omega
     subst this;exact HD2.o.2)
   clear hr;go_wp2;go_end0;have hf:=wM (key:=key) (d:=d) (d1:=d1) (d2:=d2) (d3:=d2) (a:=a) (s:=i) (m:=m) (e:=e) (b:=b) (q:=q) (by omega) Zl him e3 e4 (by omega) SA.o SB.o (by omega) HP1.o HLL.o HRR.o K2.o S2.o (MG.refl _ _ _) HQ3.o;exact⟨rfl,d2,T4.o,hf.1,hf.2⟩
theorem rU.t41 (g:Nat)(cf:EP→EP→Int)(key:EP→Int)(blk off cap:Nat)(d0:Array EP)(w0:World)(R:Go.Proofs.RowK qB 3 w0 blk off d0)(hsz:d0.size<4611686018427387904)(n:Nat)(hIH:zN g cf key blk off cap d0 w0 n)
 (a m b q i e:Nat) (d:Array EP) (w:World) (hn:b-a≤n+1) (hs:d.size=d0.size) (hm:m<b) (hb:b≤d0.size) (q1:2*q≤a+b) (q2:a+b≤2*q+1) (Zl:a≤i) (him:i≤m) (E1:e+i=q+m) (e3:m≤e) (e4:e≤b) (e5:i≤q) (e6:q≤e) (hA:uf key d a m) (hB:uf key d m b) (hL:a<i→e<b→key d[i-1]! ≤ key d[e]!) (hR:i<m→m<e→key d[e-1]! < key d[i]!) (d1:Array EP) (hz1:d1.size=d0.size) (hp1:∀ t,d1[t]! = d[sw i m e t]!) (S:SWK qB 3 w0 blk off d1 w)
 {u5 u6 u7 u8 u9 u10 u11 u12 u13 u14 u15 u16 u17 u19 u21 u22 u23 u25 u26 u27 u28 u29 u30 u31 u32 u33 u34 u35 u36 u37 u38 u39 u40 u41 u42 u43 u44 u45 u46 u47 u48 u49 u50 u51 u52 u53 u54 u55 u56 u57 u58 u59 u60 u61 u62 u63 u64 u65 u66 u67 u68 u69 u70 u71 u72 u73 u74 u75 u76 u77 u78 u79 u80 u81 u82 u83 u84 u85 u86 u87 u88 u89 u90 u91 u92 u93 u94 u95 u96 u97 u98 u99 aaK aaL aaM aaN aaO u105 aaP aaQ aaR aaS aaT aaU aaV aaW aaX aaY aaZ aa0 aa1 u119 aa2 aa3 aa4 aa5 u124 aa6 aa7 u127 aa8 aa9 abb u131 abd abe abf abg abh abj u138 u139 abk abl abm abn abo abp abq abr abt abu abv abw u152 abx u154 aby abz abA abB abC abD abE u162 abF u164 abG abH abI abJ abK abL abM abN abO abP abQ abR abS abT abU abV abW abX abY abZ ab0 ab1 ab2 ab3 ab4 ab5 ab6 ab7 u193 u194 ab8 u196 ab9 u198 acd ace u201 acf acg ach aci u206 acj u208 acn u210 aco acp acr acs acu acv acw acy acz:Value} :
 Code.wp Tryz.prog (Xf 10 (Tryz.f135.body.getD .skip)) (bodyPost Tryz.prog Tryz.f135 fun e w'=>e = .returned (.tuple #[])∧∃ d',SWK qB 3 w0 blk off d' w'∧MG key d a b d'∧uf key d' a b) ⟨List.toArray ((.slice (some ⟨blk,off,none⟩) d0.size cap:Value)::(.int .i64 a:Value)::(.int .i64 m:Value)::(.int .i64 b:Value)::(.func (.func g) #[] #[]:Value)::u5::u6::u7::u8::u9::u10::u11::u12::u13::u14::u15::u16::u17::(.int .i64 q:Value)::u19::(.int .i64 i:Value)::u21::u22::u23::(.int .i64 e:Value)::u25::u26::u27::u28::u29::u30::u31::u32::u33::u34::u35::u36::u37::u38::u39::u40::u41::u42::u43::u44::u45::u46::u47::u48::u49::u50::u51::u52::u53::u54::u55::u56::u57::u58::u59::u60::u61::u62::u63::u64::u65::u66::u67::u68::u69::u70::u71::u72::u73::u74::u75::u76::u77::u78::u79::u80::u81::u82::u83::u84::u85::u86::u87::u88::u89::u90::u91::u92::u93::u94::u95::u96::u97::u98::u99::aaK::aaL::aaM::aaN::aaO::u105::aaP::aaQ::aaR::aaS::aaT::aaU::aaV::aaW::aaX::aaY::aaZ::aa0::aa1::u119::aa2::aa3::aa4::aa5::u124::aa6::aa7::u127::aa8::aa9::abb::u131::abd::abe::abf::abg::abh::abj::u138::u139::abk::abl::abm::abn::abo::abp::abq::abr::abt::abu::abv::abw::u152::abx::u154::aby::abz::abA::abB::abC::abD::abE::u162::abF::u164::abG::abH::abI::abJ::abK::abL::abM::abN::abO::abP::abQ::abR::abS::abT::abU::abV::abW::abX::abY::abZ::ab0::ab1::ab2::ab3::ab4::ab5::ab6::ab7::u193::u194::ab8::u196::ab9::u198::acd::ace::u201::acf::acg::ach::aci::u206::acj::u208::acn::u210::aco::acp::acr::acs::acu::acv::acw::acy::acz::[]),[]⟩ w:=by
 have mixed:Tryz.prog.follows .mixedOrders=true:=by kernel_rfl
 have IH:=Yu hIH;have SA:=Yu hA;have SB:=Yu hB;have HLL:=Yu hL;have HRR:=Yu hR;clear hIH hA hB hL hR;have T1:Aside (SWK qB 3 w0 blk off d1 w):=S;have HP1:=Yu hp1;clear hp1 S;have HRS:=Yu (show (∀ x y,a≤x→x<y→y<i→key d1[x]! ≤ key d1[y]!)∧(∀ x y,i≤x→x<y→y<q→key d1[x]! ≤ key d1[y]!)∧(∀ x y,q≤x→x<y→y<e→key d1[x]! ≤ key d1[y]!)∧(∀ x y,e≤x→x<y→y<b→key d1[x]! ≤ key d1[y]!) from by
  refine⟨fun x y x1 x2 x3=>?_,fun x y x1 x2 x3=>?_,fun x y x1 x2 x3=>?_,fun x y x1 x2 x3=>?_⟩
  ·rw[HP1.o,HP1.o,show sw i m e x=x from by unfold sw;(repeat' split)<;>omega,show sw i m e y=y from by unfold sw;(repeat' split)<;>omega];exact SA.o _ _ x1 x2 (by omega)
  ·rw[HP1.o,HP1.o,show sw i m e x=m+(x-i) from by unfold sw;(repeat' split)<;>omega,show sw i m e y=m+(y-i) from by unfold sw;(repeat' split)<;>omega];exact SB.o _ _ (by omega) (by omega) (by omega)
  ·rw[HP1.o,HP1.o,show sw i m e x=x-(e-m) from by unfold sw;(repeat' split)<;>omega,show sw i m e y=y-(e-m) from by unfold sw;(repeat' split)<;>omega];exact SA.o _ _ (by omega) (by omega) (by omega)
  ·rw[HP1.o,HP1.o,show sw i m e x=x from by unfold sw;(repeat' split)<;>omega,show sw i m e y=y from by unfold sw;(repeat' split)<;>omega];exact SB.o _ _ (by omega) (by omega) (by omega))
 conv=>arg 2;whnf
 go_upto_region 41 with (fail)
 rename_i hK
 go_cut [199] (fun v wx=>∃ bv:Bool,v = .bool bv∧YW.o7.oZ (bv=decide ((a<i)∧(i<q)))∧YW.o7.oZ (wx=w))
 case first=>
  by_cases g1:a<i
  ·have g1z:(a:Int)<(i:Int):=by omega
   by_cases g2:i<q
   ·have g2z:(i:Int)<(q:Int):=by omega
    go_wp2_with fail
    go_meet
    exact⟨true,rfl,⟨(aM ⟨g1,g2⟩).symm⟩,⟨rfl⟩⟩
   ·have g2z:¬ (i:Int)<(q:Int):=by omega
    go_wp2_with fail
    go_meet
    exact⟨false,rfl,⟨(aN (fun h=>g2 h.2)).symm⟩,⟨rfl⟩⟩
  ·have g1z:¬ (a:Int)<(i:Int):=by omega
   go_wp2_with fail
   go_meet
   exact⟨false,rfl,⟨(aN (fun h=>g1 h.1)).symm⟩,⟨rfl⟩⟩
 case rest=>
  obtain⟨bv,rfl,hbv,hw1⟩:=hcut;have T2:Aside (SWK qB 3 w0 blk off d1 wc):=by rw[hw1.o];exact T1
  clear T1 hw1;generalize wc=wa2 at *
  go_upto_if 199 with (fail)
  rename_i hK2
  go_cut [] (fun wx=>∃ d2,Aside (SWK qB 3 w0 blk off d2 wx)∧YW.o7.oZ (MG key d1 a q d2∧uf key d2 a q))
  case first=>
   cases bv
   rotate_left
   ·have hr:a<i∧i<q:=aR hbv.o.symm;have HR0:=Yu (IH.o a i q d1 wa2 (by omega) hz1 T2.o hr.1 hr.2 (by omega) HRS.o.1 HRS.o.2.1);clear hr
    go_wp2_with (first|(go_at_call 135;refine HR0.o.mono ?_;rintro _ w1 ⟨rfl,d2,hS,hp1⟩;have T3:Aside (SWK qB 3 w0 blk off d2 w1):=hS;have HP2:=Yu hp1;clear hS hp1))
    go_meet
    exact⟨d2,T3,HP2⟩
   ·have hr:¬ (a<i∧i<q):=dQ hbv.o.symm;have HN:=Yu hr;clear hr;go_wp2
    go_meet
    refine⟨d1,T2,⟨MG.refl _ _ _,?_⟩⟩;have hr:=HN.o
    by_cases hai2:a<i
    ·have:q=i:=by omega
     subst this;exact HRS.o.1
    ·have:a=i:=by omega
     subst this;exact HRS.o.2.1
  case rest=>
   obtain⟨d2,T3,HP2⟩:=hcut;refine hK2 _ _ ?_;exact rU.t43 g cf key blk off cap d0 w0 R hsz n IH.o a m b q i e d _ hn hs hm hb q1 q2 Zl him E1 e3 e4 e5 e6 SA.o SB.o HLL.o HRR.o d1 d2 hz1 HP1.o HP2.o.1 HP2.o.2
    (fun x y x1 x2 x3=>by rw[HP2.o.1.2.1 x (.inr x1),HP2.o.1.2.1 y (.inr (by omega))];exact HRS.o.2.2.1 x y x1 x2 x3) (fun x y x1 x2 x3=>by rw[HP2.o.1.2.1 x (.inr (by omega)),HP2.o.1.2.1 y (.inr (by omega))];exact HRS.o.2.2.2 x y x1 x2 x3) T3.o
theorem rU.t39 (g:Nat)(cf:EP→EP→Int)(key:EP→Int)(blk off cap:Nat)(d0:Array EP)(w0:World)(R:Go.Proofs.RowK qB 3 w0 blk off d0)(hsz:d0.size<4611686018427387904)(n:Nat)(hIH:zN g cf key blk off cap d0 w0 n)
 (a m b q i e:Nat) (d:Array EP) (w:World) (hn:b-a≤n+1) (hs:d.size=d0.size) (S:SWK qB 3 w0 blk off d w) (hm:m<b) (hb:b≤d0.size) (q1:2*q≤a+b) (q2:a+b≤2*q+1) (Zl:a≤i) (him:i≤m) (E1:e+i=q+m) (e3:m≤e) (e4:e≤b) (e5:i≤q) (e6:q≤e) (hA:uf key d a m) (hB:uf key d m b) (hL:a<i→e<b→key d[i-1]! ≤ key d[e]!) (hR:i<m→m<e→key d[e-1]! < key d[i]!)
 {u5 u6 u7 u8 u9 u10 u11 u12 u13 u14 u15 u16 u17 u19 u21 u22 u23 u25 u26 u27 u28 u29 u30 u31 u32 u33 u34 u35 u36 u37 u38 u39 u40 u41 u42 u43 u44 u45 u46 u47 u48 u49 u50 u51 u52 u53 u54 u55 u56 u57 u58 u59 u60 u61 u62 u63 u64 u65 u66 u67 u68 u69 u70 u71 u72 u73 u74 u75 u76 u77 u78 u79 u80 u81 u82 u83 u84 u85 u86 u87 u88 u89 u90 u91 u92 u93 u94 u95 u96 u97 u98 u99 aaK aaL aaM aaN aaO u105 aaP aaQ aaR aaS aaT aaU aaV aaW aaX aaY aaZ aa0 aa1 u119 aa2 aa3 aa4 aa5 u124 aa6 aa7 u127 aa8 aa9 abb u131 abd abe abf abg abh abj u138 u139 abk abl abm abn abo abp abq abr abt abu abv abw u152 abx u154 aby abz abA abB abC abD abE u162 abF u164 abG abH abI abJ abK abL abM abN abO abP abQ abR abS abT abU abV abW abX abY abZ ab0 ab1 ab2 ab3 ab4 ab5 ab6 ab7 u193 u194 ab8 u196 ab9 u198 acd ace u201 acf acg ach aci u206 acj u208 acn u210 aco acp acr acs acu acv acw acy acz:Value} :
 Code.wp Tryz.prog (Xf 9 (Tryz.f135.body.getD .skip)) (bodyPost Tryz.prog Tryz.f135 fun e w'=>e = .returned (.tuple #[])∧∃ d',SWK qB 3 w0 blk off d' w'∧MG key d a b d'∧uf key d' a b) ⟨List.toArray ((.slice (some ⟨blk,off,none⟩) d0.size cap:Value)::(.int .i64 a:Value)::(.int .i64 m:Value)::(.int .i64 b:Value)::(.func (.func g) #[] #[]:Value)::u5::u6::u7::u8::u9::u10::u11::u12::u13::u14::u15::u16::u17::(.int .i64 q:Value)::u19::(.int .i64 i:Value)::u21::u22::u23::(.int .i64 e:Value)::u25::u26::u27::u28::u29::u30::u31::u32::u33::u34::u35::u36::u37::u38::u39::u40::u41::u42::u43::u44::u45::u46::u47::u48::u49::u50::u51::u52::u53::u54::u55::u56::u57::u58::u59::u60::u61::u62::u63::u64::u65::u66::u67::u68::u69::u70::u71::u72::u73::u74::u75::u76::u77::u78::u79::u80::u81::u82::u83::u84::u85::u86::u87::u88::u89::u90::u91::u92::u93::u94::u95::u96::u97::u98::u99::aaK::aaL::aaM::aaN::aaO::u105::aaP::aaQ::aaR::aaS::aaT::aaU::aaV::aaW::aaX::aaY::aaZ::aa0::aa1::u119::aa2::aa3::aa4::aa5::u124::aa6::aa7::u127::aa8::aa9::abb::u131::abd::abe::abf::abg::abh::abj::u138::u139::abk::abl::abm::abn::abo::abp::abq::abr::abt::abu::abv::abw::u152::abx::u154::aby::abz::abA::abB::abC::abD::abE::u162::abF::u164::abG::abH::abI::abJ::abK::abL::abM::abN::abO::abP::abQ::abR::abS::abT::abU::abV::abW::abX::abY::abZ::ab0::ab1::ab2::ab3::ab4::ab5::ab6::ab7::u193::u194::ab8::u196::ab9::u198::acd::ace::u201::acf::acg::ach::aci::u206::acj::u208::acn::u210::aco::acp::acr::acs::acu::acv::acw::acy::acz::[]),[]⟩ w:=by
 have mixed:Tryz.prog.follows .mixedOrders=true:=by kernel_rfl
 have IH:=Yu hIH;have SA:=Yu hA;have SB:=Yu hB;have HLL:=Yu hL;have HRR:=Yu hR;clear hIH hA hB hL hR;have T0:Aside (SWK qB 3 w0 blk off d w):=S;clear S
 conv=>arg 2;whnf
 go_upto_region 39 with (fail)
 rename_i hK
 go_cut [185] (fun v wx=>∃ bv:Bool,v = .bool bv∧YW.o7.oZ (bv=decide ((i<m)∧(m<e)))∧YW.o7.oZ (wx=w))
 case first=>
  by_cases g1:i<m
  ·have g1z:(i:Int)<(m:Int):=by omega
   by_cases g2:m<e
   ·have g2z:(m:Int)<(e:Int):=by omega
    go_wp2_with fail
    go_meet
    exact⟨true,rfl,⟨(aM ⟨g1,g2⟩).symm⟩,⟨rfl⟩⟩
   ·have g2z:¬ (m:Int)<(e:Int):=by omega
    go_wp2_with fail
    go_meet
    exact⟨false,rfl,⟨(aN (fun h=>g2 h.2)).symm⟩,⟨rfl⟩⟩
  ·have g1z:¬ (i:Int)<(m:Int):=by omega
   go_wp2_with fail
   go_meet
   exact⟨false,rfl,⟨(aN (fun h=>g1 h.1)).symm⟩,⟨rfl⟩⟩
 case rest=>
  obtain⟨bv,rfl,hbv,hw1⟩:=hcut;have T1:Aside (SWK qB 3 w0 blk off d wc):=by rw[hw1.o];exact T0
  clear T0 hw1;generalize wc=wa at *
  go_upto_if 185 with (fail)
  rename_i hK2
  go_cut [] (fun wx=>∃ d1,Aside (SWK qB 3 w0 blk off d1 wx)∧d1.size=d0.size∧YW.o7.oZ (∀ t,d1[t]! = d[sw i m e t]!))
  case first=>
   cases bv
   rotate_left
   ·have hr:i<m∧m<e:=aR hbv.o.symm;have hr0:=Vm.c g blk off cap i m e d0 d w0 wa R hs.symm T1.o hr.1 hr.2 (by omega) (by omega);rw[hs] at hr0;have HR0:=Yu hr0;clear hr0 hr
    go_wp2_with (first|(go_at_call 153;refine HR0.o.mono ?_;rintro _ w1 ⟨rfl,d1,hS,hz1,hp1⟩;have T2:Aside (SWK qB 3 w0 blk off d1 w1):=hS;have HP1:=Yu hp1;clear hS hp1))
    go_meet
    exact⟨d1,T2,hz1,HP1⟩
   ·have hr:¬ (i<m∧m<e):=dQ hbv.o.symm;have HN:=Yu hr;clear hr;go_wp2
    go_meet
    exact⟨d,T1,hs,⟨fun t=>by rw[y8 i m e t him e3 (by have:=HN.o;omega)]⟩⟩
  case rest=>
   obtain⟨d1,T2,hz1,HP1⟩:=hcut;refine hK2 _ _ ?_;exact rU.t41 g cf key blk off cap d0 w0 R hsz n IH.o a m b q i e d _ hn hs hm hb q1 q2 Zl him E1 e3 e4 e5 e6 SA.o SB.o HLL.o HRR.o d1 hz1 HP1.o T2.o
theorem rU.hi (g:Nat)(cf:EP→EP→Int)(key:EP→Int)(hcf:∀ x y,cf x y<0↔key x<key y)(eg:∀ args w,(callFunc g args).run Tryz.prog w = .ok (.enter g args) w)
 (blk off cap:Nat) (d0:Array EP) (w0:World) (R:Go.Proofs.RowK qB 3 w0 blk off d0) (hC:CmpLays Tryz.prog g #[] qB 3 cf blk off d0.size w0) (hsz:d0.size<4611686018427387904) (n:Nat) (hIH:zN g cf key blk off cap d0 w0 n)
 (a m b:Nat) (d:Array EP) (w:World) (hn:b-a≤n+1) (hs:d.size=d0.size) (S:SWK qB 3 w0 blk off d w) (h1:m≠a+1) (h2:b≠m+1) (ha:a<m) (hm:m<b) (hb:b≤d0.size) (hq:(a+b) / 2<m) (hA:uf key d a m) (hB:uf key d m b) :
 Calls Tryz.prog 135 #[.slice (some ⟨blk,off,none⟩) d0.size cap,.int .i64 a,.int .i64 m,.int .i64 b,.func (.func g) #[] #[]] w fun e w'=>e = .returned (.tuple #[])∧∃ d',SWK qB 3 w0 blk off d' w'∧MG key d a b d'∧uf key d' a b:=by
 have mixed:Tryz.prog.follows .mixedOrders=true:=by kernel_rfl
 have S0:Aside (SWK qB 3 w0 blk off d w):=S;have HC:=Yu hC;have HCF:=Yu hcf;have SA:=Yu hA;have SB:=Yu hB;have IH:=Yu hIH;clear S hC hcf hA hB hIH;have h1z:¬ (m:Int)-(a:Int)=1:=by omega
 have h1b:((m:Int)-(a:Int)==1)=false:=beq_eq_false_iff_ne.2 h1z;have h2z:¬ (b:Int)-(m:Int)=1:=by omega
 have h2b:((b:Int)-(m:Int)==1)=false:=beq_eq_false_iff_ne.2 h2z;obtain⟨q,hqd⟩:∃ q,q=(a+b) / 2:=⟨_,rfl⟩;have Q:((a:Int)+(b:Int)) / 2=(q:Int):=by omega
 have q1:2*q≤a+b:=by omega
 have q2:a+b≤2*q+1:=by omega
 rw[← hqd] at hq;clear hqd h1 h2;obtain⟨s0,hs0⟩:∃ s0,s0=q+m-b:=⟨_,rfl⟩;have Z0:(q:Int)+(m:Int)-(b:Int)=(s0:Int):=by omega
 have Z1:s0+b=q+m:=by omega
 have Z2:(m:Int)>(q:Int):=by omega
 clear hs0
 go_enter Tryz.func135,Tryz.ntmps135
 go_wp2
 go_loopg [20,21] (q-s0) (fun kx s20 s21 wr=>∃ (i j:Nat),s20 = .int .i64 i∧s21 = .int .i64 j∧s0≤i∧i≤j∧j≤q∧j-i≤kx∧Aside (SWK qB 3 w0 blk off d wr)∧Aside (s0<i→key d[i-1]! ≤ key d[q+m-i]!)∧Aside (j<q→key d[q+m-1-j]! < key d[j]!))
 case atStart=>exact⟨s0,q,rfl,rfl,aD _,by omega,aD _,aD _,S0,(fun h=>by omega),(fun h=>by omega)⟩
 case round=>
  clear S0;obtain⟨i,j,rfl,rfl,hai,hij,hjb,hkx,S1,HL,HR⟩:=hrel
  by_cases hlt:i<j
  ·have hltz:(i:Int)<(j:Int):=by omega
   obtain⟨c,hcd⟩:∃ c,c=(i+j) / 2:=⟨_,rfl⟩;have C:((i:Int)+(j:Int)) / 2=(c:Int):=by omega
   have c1':i≤c:=by omega
   have c2':c<j:=by omega
   clear hcd;obtain⟨pc,hpd⟩:∃ pc,pc=q+m-1-c:=⟨_,rfl⟩;have PC:(q:Int)+(m:Int)-1-(c:Int)=(pc:Int):=by omega
   have pc1:pc<d0.size:=by omega
   have R1:IntKind.i64.wrap ((q:Int)+(m:Int)-1-(c:Int))=(pc:Int):=by rw[PC,bI];omega
   have R2:IntKind.i64.wrap (pc:Int)=(pc:Int):=by rw[bI];omega
   have pc2:(pc:Int)<(d0.size:Int):=by omega
   have cc2:(c:Int)<(d0.size:Int):=by omega
   have c0:=fun n' os'=>(qU S1.o R hs pc (by omega) n' os').1
   have c1:=fun n' os'=>(qU S1.o R hs pc (by omega) n' os').2.1
   have c2:=fun n' os'=>(qU S1.o R hs pc (by omega) n' os').2.2
   have e0:=fun n' os'=>(qU S1.o R hs c (by omega) n' os').1
   have e1:=fun n' os'=>(qU S1.o R hs c (by omega) n' os').2.1
   have e2:=fun n' os'=>(qU S1.o R hs c (by omega) n' os').2.2
   have hc:=fun n' os'=>Dc S1.o HC.o hs d[pc]! d[c]! n' os'
   have HPD:=Yu hpd;clear hpd;cases hv:decide (cf d[pc]! d[c]! < 0) with
   | false=>
     have HX:=Yu (fun h=>dQ hv ((HCF.o _ _).2 h));generalize d[pc]! = x at c0 c1 c2 hc hv;generalize d[c]! = y at e0 e1 e2 hc hv
     go_wp2_with fail
     go_quiet_grown (first|(go_at_fn g;refine fu (hc _ _)))
     have S2:Aside (SWK qB 3 w0 blk off d (grow (wr.drewN nq) osq)):=S1.o.grown nq osq;clear c0 c1 c2 e0 e1 e2 hc S1;generalize grow (wr.drewN nq) osq=w2 at S2 ⊢;clear nq osq;go_wp2
     go_roundg (j-(c+1))
     case measure=>omega
     case rel=>exact⟨c+1,j,by go_num,rfl,by omega,by omega,hjb,aD _,S2,(fun _=>by rw[show c+1-1=c from rfl,show q+m-(c+1)=pc from by rw[HPD.o];omega];exact Int.not_lt.1 HX.o),HR⟩
   | true=>
     have HX:=Yu ((HCF.o _ _).1 (aR hv));generalize d[pc]! = x at c0 c1 c2 hc hv;generalize d[c]! = y at e0 e1 e2 hc hv
     go_wp2_with fail
     go_quiet_grown (first|(go_at_fn g;refine fu (hc _ _)))
     have S2:Aside (SWK qB 3 w0 blk off d (grow (wr.drewN nq) osq)):=S1.o.grown nq osq;clear c0 c1 c2 e0 e1 e2 hc S1;generalize grow (wr.drewN nq) osq=w2 at S2 ⊢;clear nq osq;go_wp2
     go_roundg (c-i)
     case measure=>omega
     case rel=>exact⟨i,c,rfl,rfl,hai,by omega,by omega,aD _,S2,HL,(fun _=>by rw[← HPD.o];exact HX.o)⟩
  ·obtain rfl:i=j:=by omega
   have hltz:¬ (i:Int)<(i:Int):=by omega
   have Zl:a≤i:=by omega
   have him:i≤m:=by omega
   obtain⟨e,hed⟩:∃ e,e=q+m-i:=⟨_,rfl⟩;have E:(q:Int)+(m:Int)-(i:Int)=(e:Int):=by omega
   have E1:e+i=q+m:=by omega
   have HL':a<i→e<b→key d[i-1]! ≤ key d[e]! := fun h1 h2=>by rw[hed];exact HL.o (by omega)
   have HR':i<m→m<e→key d[e-1]! < key d[i]! := fun h1 h2=>by rw[hed,show q+m-i-1=q+m-1-i from by omega];exact HR.o (by omega)
   have HLL:=Yu HL';have HRR:=Yu HR';have e3:m≤e:=by omega
   have e4:e≤b:=by omega
   have e5:i≤q:=by omega
   have e6:q≤e:=by omega
   clear HL HR hed HL' HR'
   go_upto_region 38 with (fail)
   rename_i hK;have HE:=Yu E
   go_cut [24] (fun v wx=>v = .int .i64 (e:Int)∧YW.o7.oZ (wx=wr))
   case first=>
    go_wp2_with fail
    go_meet
    exact⟨rfl,⟨rfl⟩⟩
   case rest=>
    obtain⟨rfl,hw1⟩:=hcut;have T0:SWK qB 3 w0 blk off d wc:=by rw[hw1.o];exact S1
    refine hK _ _ ?_;exact rU.t39 g cf key blk off cap d0 w0 R hsz n IH.o a m b q i e d wc hn hs T0 hm hb q1 q2 Zl him E1 e3 e4 e5 e6 SA.o SB.o HLL.o HRR.o
theorem rU.lo (g:Nat)(cf:EP→EP→Int)(key:EP→Int)(hcf:∀ x y,cf x y<0↔key x<key y)(eg:∀ args w,(callFunc g args).run Tryz.prog w = .ok (.enter g args) w)
 (blk off cap:Nat) (d0:Array EP) (w0:World) (R:Go.Proofs.RowK qB 3 w0 blk off d0) (hC:CmpLays Tryz.prog g #[] qB 3 cf blk off d0.size w0) (hsz:d0.size<4611686018427387904) (n:Nat) (hIH:zN g cf key blk off cap d0 w0 n)
 (a m b:Nat) (d:Array EP) (w:World) (hn:b-a≤n+1) (hs:d.size=d0.size) (S:SWK qB 3 w0 blk off d w) (h1:m≠a+1) (h2:b≠m+1) (ha:a<m) (hm:m<b) (hb:b≤d0.size) (hq:m≤(a+b) / 2) (hA:uf key d a m) (hB:uf key d m b) :
 Calls Tryz.prog 135 #[.slice (some ⟨blk,off,none⟩) d0.size cap,.int .i64 a,.int .i64 m,.int .i64 b,.func (.func g) #[] #[]] w fun e w'=>e = .returned (.tuple #[])∧∃ d',SWK qB 3 w0 blk off d' w'∧MG key d a b d'∧uf key d' a b:=by
 have mixed:Tryz.prog.follows .mixedOrders=true:=by kernel_rfl
 have S0:Aside (SWK qB 3 w0 blk off d w):=S;have HC:=Yu hC;have HCF:=Yu hcf;have SA:=Yu hA;have SB:=Yu hB;have IH:=Yu hIH;clear S hC hcf hA hB hIH;have h1z:¬ (m:Int)-(a:Int)=1:=by omega
 have h1b:((m:Int)-(a:Int)==1)=false:=beq_eq_false_iff_ne.2 h1z;have h2z:¬ (b:Int)-(m:Int)=1:=by omega
 have h2b:((b:Int)-(m:Int)==1)=false:=beq_eq_false_iff_ne.2 h2z;obtain⟨q,hqd⟩:∃ q,q=(a+b) / 2:=⟨_,rfl⟩;have Q:((a:Int)+(b:Int)) / 2=(q:Int):=by omega
 have q1:2*q≤a+b:=by omega
 have q2:a+b≤2*q+1:=by omega
 rw[← hqd] at hq;clear hqd h1 h2;have Z2:¬ (m:Int)>(q:Int):=by omega
 go_enter Tryz.func135,Tryz.ntmps135
 go_wp2
 go_loopg [20,21] (m-a) (fun kx s20 s21 wr=>∃ (i j:Nat),s20 = .int .i64 i∧s21 = .int .i64 j∧a≤i∧i≤j∧j≤m∧j-i≤kx∧Aside (SWK qB 3 w0 blk off d wr)∧Aside (a<i→key d[i-1]! ≤ key d[q+m-i]!)∧Aside (j<m→key d[q+m-1-j]! < key d[j]!))
 case atStart=>exact⟨a,m,rfl,rfl,aD _,by omega,aD _,aD _,S0,(fun h=>by omega),(fun h=>by omega)⟩
 case round=>
  clear S0;obtain⟨i,j,rfl,rfl,hai,hij,hjb,hkx,S1,HL,HR⟩:=hrel
  by_cases hlt:i<j
  ·have hltz:(i:Int)<(j:Int):=by omega
   obtain⟨c,hcd⟩:∃ c,c=(i+j) / 2:=⟨_,rfl⟩;have C:((i:Int)+(j:Int)) / 2=(c:Int):=by omega
   have c1':i≤c:=by omega
   have c2':c<j:=by omega
   clear hcd;obtain⟨pc,hpd⟩:∃ pc,pc=q+m-1-c:=⟨_,rfl⟩;have PC:(q:Int)+(m:Int)-1-(c:Int)=(pc:Int):=by omega
   have pc1:pc<d0.size:=by omega
   have R1:IntKind.i64.wrap ((q:Int)+(m:Int)-1-(c:Int))=(pc:Int):=by rw[PC,bI];omega
   have R2:IntKind.i64.wrap (pc:Int)=(pc:Int):=by rw[bI];omega
   have pc2:(pc:Int)<(d0.size:Int):=by omega
   have cc2:(c:Int)<(d0.size:Int):=by omega
   have c0:=fun n' os'=>(qU S1.o R hs pc (by omega) n' os').1
   have c1:=fun n' os'=>(qU S1.o R hs pc (by omega) n' os').2.1
   have c2:=fun n' os'=>(qU S1.o R hs pc (by omega) n' os').2.2
   have e0:=fun n' os'=>(qU S1.o R hs c (by omega) n' os').1
   have e1:=fun n' os'=>(qU S1.o R hs c (by omega) n' os').2.1
   have e2:=fun n' os'=>(qU S1.o R hs c (by omega) n' os').2.2
   have hc:=fun n' os'=>Dc S1.o HC.o hs d[pc]! d[c]! n' os'
   have HPD:=Yu hpd;clear hpd;cases hv:decide (cf d[pc]! d[c]! < 0) with
   | false=>
     have HX:=Yu (fun h=>dQ hv ((HCF.o _ _).2 h));generalize d[pc]! = x at c0 c1 c2 hc hv;generalize d[c]! = y at e0 e1 e2 hc hv
     go_wp2_with fail
     go_quiet_grown (first|(go_at_fn g;refine fu (hc _ _)))
     have S2:Aside (SWK qB 3 w0 blk off d (grow (wr.drewN nq) osq)):=S1.o.grown nq osq;clear c0 c1 c2 e0 e1 e2 hc S1;generalize grow (wr.drewN nq) osq=w2 at S2 ⊢;clear nq osq;go_wp2
     go_roundg (j-(c+1))
     case measure=>omega
     case rel=>exact⟨c+1,j,by go_num,rfl,by omega,by omega,hjb,aD _,S2,(fun _=>by rw[show c+1-1=c from rfl,show q+m-(c+1)=pc from by rw[HPD.o];omega];exact Int.not_lt.1 HX.o),HR⟩
   | true=>
     have HX:=Yu ((HCF.o _ _).1 (aR hv));generalize d[pc]! = x at c0 c1 c2 hc hv;generalize d[c]! = y at e0 e1 e2 hc hv
     go_wp2_with fail
     go_quiet_grown (first|(go_at_fn g;refine fu (hc _ _)))
     have S2:Aside (SWK qB 3 w0 blk off d (grow (wr.drewN nq) osq)):=S1.o.grown nq osq;clear c0 c1 c2 e0 e1 e2 hc S1;generalize grow (wr.drewN nq) osq=w2 at S2 ⊢;clear nq osq;go_wp2
     go_roundg (c-i)
     case measure=>omega
     case rel=>exact⟨i,c,rfl,rfl,hai,by omega,by omega,aD _,S2,HL,(fun _=>by rw[← HPD.o];exact HX.o)⟩
  ·obtain rfl:i=j:=by omega
   have hltz:¬ (i:Int)<(i:Int):=by omega
   have Zl:a≤i:=by omega
   have him:i≤m:=by omega
   obtain⟨e,hed⟩:∃ e,e=q+m-i:=⟨_,rfl⟩;have E:(q:Int)+(m:Int)-(i:Int)=(e:Int):=by omega
   have E1:e+i=q+m:=by omega
   have HL':a<i→e<b→key d[i-1]! ≤ key d[e]! := fun h1 h2=>by rw[hed];exact HL.o (by omega)
   have HR':i<m→m<e→key d[e-1]! < key d[i]! := fun h1 h2=>by rw[hed,show q+m-i-1=q+m-1-i from by omega];exact HR.o (by omega)
   have HLL:=Yu HL';have HRR:=Yu HR';have e3:m≤e:=by omega
   have e4:e≤b:=by omega
   have e5:i≤q:=by omega
   have e6:q≤e:=by omega
   clear HL HR hed HL' HR'
   go_upto_region 38 with (fail)
   rename_i hK;have HE:=Yu E
   go_cut [24] (fun v wx=>v = .int .i64 (e:Int)∧YW.o7.oZ (wx=wr))
   case first=>
    go_wp2_with fail
    go_meet
    exact⟨rfl,⟨rfl⟩⟩
   case rest=>
    obtain⟨rfl,hw1⟩:=hcut;have T0:SWK qB 3 w0 blk off d wc:=by rw[hw1.o];exact S1
    refine hK _ _ ?_;exact rU.t39 g cf key blk off cap d0 w0 R hsz n IH.o a m b q i e d wc hn hs T0 hm hb q1 q2 Zl him E1 e3 e4 e5 e6 SA.o SB.o HLL.o HRR.o
theorem rU.step (g:Nat)(cf:EP→EP→Int)(key:EP→Int)(hcf:∀ x y,cf x y<0↔key x<key y)(eg:∀ args w,(callFunc g args).run Tryz.prog w = .ok (.enter g args) w)
 (blk off cap:Nat) (d0:Array EP) (w0:World) (R:Go.Proofs.RowK qB 3 w0 blk off d0) (hC:CmpLays Tryz.prog g #[] qB 3 cf blk off d0.size w0) (hsz:d0.size<4611686018427387904) (n:Nat) (hIH:zN g cf key blk off cap d0 w0 n):zN g cf key blk off cap d0 w0 (n+1):=by
 intro a m b d w hn hs S ha hm hb hA hB
 by_cases h1:m=a+1
 ·exact rU.left g cf key hcf eg blk off cap d0 w0 R hC hsz a m b d w h1 hs S (by omega) hb (by rw[← h1];exact hB)
 ·by_cases h2:b=m+1
  ·exact rU.right g cf key hcf eg blk off cap d0 w0 R hC hsz a m b d w h2 hs S h1 ha hb hA
  ·by_cases hq:(a+b) / 2<m
   ·exact rU.hi g cf key hcf eg blk off cap d0 w0 R hC hsz n hIH a m b d w hn hs S h1 h2 ha hm hb hq hA hB
   ·exact rU.lo g cf key hcf eg blk off cap d0 w0 R hC hsz n hIH a m b d w hn hs S h1 h2 ha hm hb (by omega) hA hB
theorem rU.c (g:Nat)(cf:EP→EP→Int)(key:EP→Int)(hcf:∀ x y,cf x y<0↔key x<key y)(eg:∀ args w,(callFunc g args).run Tryz.prog w = .ok (.enter g args) w)
 (blk off cap:Nat) (d0:Array EP) (w0:World) (R:Go.Proofs.RowK qB 3 w0 blk off d0) (hC:CmpLays Tryz.prog g #[] qB 3 cf blk off d0.size w0) (hsz:d0.size<4611686018427387904):∀ n,zN g cf key blk off cap d0 w0 n
 | 0=>fun a m b d w hn hs S ha hm hb hA hB=>by omega
 | n+1=>rU.step g cf key hcf eg blk off cap d0 w0 R hC hsz n (rU.c g cf key hcf eg blk off cap d0 w0 R hC hsz n)
end Go.Proofs.Y.PA
