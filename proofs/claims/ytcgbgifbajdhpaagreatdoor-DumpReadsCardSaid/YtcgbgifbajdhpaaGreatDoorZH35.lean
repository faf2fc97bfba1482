/- Of the law ZHQDumpReads. -/
import Derived.Test.YtcgbgifbajdhpaaGreatDoorZH30
import Derived.Test.YtcgbgifbajdhpaaGreatDoorZH32
set_option linter.unusedVariables false
set_option linter.unusedSimpArgs false
set_option maxHeartbeats 16000000
set_option maxRecDepth 1000000
namespace Go.Proofs.Y.PA
open Go.Shelf Go.RowKit Go.Lib Go.Sort
section
variable {w0 W:World} {blk off:Nat} {d0 dk:Array EP}
theorem uG (h:SWK qE 3 w0 blk off dk W)(R:Go.Proofs.RowK qE 3 w0 blk off d0)(hs:dk.size=d0.size)(i:Nat)(hi:i<dk.size) :
 W.cell? ⟨blk,off+i*3,none⟩=some (.int .i64 dk[i]!.num)∧W.cell? ⟨blk,off+i*3+1,none⟩=some (.slice dk[i]!.A0 dk[i]!.n0 dk[i]!.c0)∧W.cell? ⟨blk,off+i*3+2,none⟩=some (.slice dk[i]!.A1 dk[i]!.n1 dk[i]!.c1)∧W.frozen? ⟨blk,off+i*3,none⟩=false∧W.frozen? ⟨blk,off+i*3+1,none⟩=false∧W.frozen? ⟨blk,off+i*3+2,none⟩=false:=by
 have H:=h.holds R.hblk R.hH hs;have h0:=mR H (c:=0) hi (by omega);have h1:=mR H (c:=1) hi (by omega);have h2:=mR H (c:=2) hi (by omega);exact⟨h0.1,h1.1,h2.1,h0.2,h1.2,h2.2⟩
theorem Tg (W:World)(p:Addr)(v:Value):(W.setCell p v).drew=W.drew.setCell p v:=rfl
def Ee (W:World)(blk off i j:Nat)(x y:EP):World:=(W.drew.setCells blk (off+i*3) (qE x)).setCells blk (off+j*3) (qE y)
theorem Hw (W:World)(blk off i j:Nat)(x y:EP):((((((W.setCell ⟨blk,off+i*3,none⟩ (.int .i64 x.num)).setCell ⟨blk,off+i*3+1,none⟩ (.slice x.A0 x.n0 x.c0)).setCell ⟨blk,off+i*3+2,none⟩ (.slice x.A1 x.n1 x.c1)).setCell ⟨blk,off+j*3,none⟩ (.int .i64 y.num)).setCell ⟨blk,off+j*3+1,none⟩ (.slice y.A0 y.n0 y.c0)).setCell ⟨blk,off+j*3+2,none⟩ (.slice y.A1 y.n1 y.c1)).drew=Ee W blk off i j x y:=by
 simp only[Ee,qE,World.setCells,jM,Nat.reduceAdd,Tg]
theorem Fx (h:SWK qE 3 w0 blk off dk W)(R:Go.Proofs.RowK qE 3 w0 blk off d0)(i j:Nat)(hi:i<dk.size)(hj:j<dk.size):SWK qE 3 w0 blk off (swp dk i j) (Ee W blk off i j dk[j]! dk[i]!):=h.swapped R i j hi hj
theorem vv (h:SWK qE 3 w0 blk off dk W)(R:Go.Proofs.RowK qE 3 w0 blk off d0)(hs:dk.size=d0.size)(i j:Nat)(hij:i≠j)(hj:j<dk.size)(u v x:Value) :
 (((W.setCell ⟨blk,off+i*3,none⟩ u).setCell ⟨blk,off+i*3+1,none⟩ v).setCell ⟨blk,off+i*3+2,none⟩ x).drew.cell? ⟨blk,off+j*3,none⟩=some (.int .i64 dk[j]!.num)∧(((W.setCell ⟨blk,off+i*3,none⟩ u).setCell ⟨blk,off+i*3+1,none⟩ v).setCell ⟨blk,off+i*3+2,none⟩ x).drew.cell? ⟨blk,off+j*3+1,none⟩=some (.slice dk[j]!.A0 dk[j]!.n0 dk[j]!.c0)∧(((W.setCell ⟨blk,off+i*3,none⟩ u).setCell ⟨blk,off+i*3+1,none⟩ v).setCell ⟨blk,off+i*3+2,none⟩ x).drew.cell? ⟨blk,off+j*3+2,none⟩=some (.slice dk[j]!.A1 dk[j]!.n1 dk[j]!.c1):=by
 obtain⟨q0,q1,q2,_,_,_⟩:=uG h R hs j hj;refine⟨?_,?_,?_⟩
 ·show (((W.setCell _ u).setCell _ v).setCell _ x).cell? _=_;rw[dR _ _ _ _ (by intro e;injection e with _ e _;omega),dR _ _ _ _ (by intro e;injection e with _ e _;omega),dR _ _ _ _ (by intro e;injection e with _ e _;omega)];exact q0
 ·show (((W.setCell _ u).setCell _ v).setCell _ x).cell? _=_;rw[dR _ _ _ _ (by intro e;injection e with _ e _;omega),dR _ _ _ _ (by intro e;injection e with _ e _;omega),dR _ _ _ _ (by intro e;injection e with _ e _;omega)];exact q1
 ·show (((W.setCell _ u).setCell _ v).setCell _ x).cell? _=_;rw[dR _ _ _ _ (by intro e;injection e with _ e _;omega),dR _ _ _ _ (by intro e;injection e with _ e _;omega),dR _ _ _ _ (by intro e;injection e with _ e _;omega)];exact q2
theorem EF {cf:EP→EP→Int}{g:Nat}(h:SWK qE 3 w0 blk off dk W)(hC:CmpLays Tryz.prog g #[] qE 3 cf blk off d0.size w0)(hs:dk.size=d0.size)(x y:EP)(n:Nat)(os:Array Obj) :
 Calls Tryz.prog g #[.agg #[.int .i64 x.num,.slice x.A0 x.n0 x.c0,.slice x.A1 x.n1 x.c1],.agg #[.int .i64 y.num,.slice y.A0 y.n0 y.c0,.slice y.A1 y.n1 y.c1]] (grow (W.drewN n) os) fun e w'=>e = .returned (.int .i64 (cf x y))∧∃ q os',w'=grow ((grow (W.drewN n) os).drewN q) os' :=
 h.cmp hC hs x y n os
theorem qX (h:SWK qE 3 w0 blk off dk W)(R:Go.Proofs.RowK qE 3 w0 blk off d0)(hs:dk.size=d0.size)(i:Nat)(hi:i<dk.size)(n:Nat)(os:Array Obj) :
 (grow (W.drewN n) os).cell? ⟨blk,off+i*3,none⟩=some (.int .i64 dk[i]!.num)∧(grow (W.drewN n) os).cell? ⟨blk,off+i*3+1,none⟩=some (.slice dk[i]!.A0 dk[i]!.n0 dk[i]!.c0)∧(grow (W.drewN n) os).cell? ⟨blk,off+i*3+2,none⟩=some (.slice dk[i]!.A1 dk[i]!.n1 dk[i]!.c1):=
 have h1:=uG (h.grown n os) R hs i hi
 ⟨h1.1,h1.2.1,h1.2.2.1⟩
end
theorem DT.c (g:Nat)(blk off cap a b n:Nat)(d0 d:Array EP)(w0 w:World)(R:Go.Proofs.RowK qE 3 w0 blk off d0)(hs:d0.size=d.size)(S:SWK qE 3 w0 blk off d w)(ha:a+n≤b)(hb:b+n≤d.size)(hsz:d.size<4611686018427387904) :
 Calls Tryz.prog 158 #[.slice (some ⟨blk,off,none⟩) d.size cap,.int .i64 a,.int .i64 b,.int .i64 n,.func (.func g) #[] #[]] w fun e w'=>e = .returned (.tuple #[])∧SWK qE 3 w0 blk off (Gb d a b n) w':=by
 have mixed:Tryz.prog.follows .mixedOrders=true:=by kernel_rfl
 have S0:Aside (SWK qE 3 w0 blk off d w):=S;clear S
 go_enter Tryz.func158,Tryz.ntmps158
 go_wp2
 go_loopg [10] n (fun kx s wr=>∃ (m:Nat),s = .int .i64 m∧m≤n∧n-m≤kx∧Aside (SWK qE 3 w0 blk off (Gb d a b m) wr))
 case atStart=>exact⟨0,rfl,by omega,by omega,S0⟩
 case round=>
  clear S0;obtain⟨m,rfl,hm,hkx,S1⟩:=hrel
  by_cases hlt:(m:Int)<(n:Int)
  ·have hds:=wE d a b m;generalize hdk:Gb d a b m=dk at S1 hds;have ea44:((a:Int)+(m:Int)).toNat=a+m:=by omega
   have pa44:(0:Int)≤(a:Int)+(m:Int):=by omega
   have ba44:(a:Int)+(m:Int)<(d.size:Int):=by omega
   have ra44:IntKind.i64.wrap ((a:Int)+(m:Int))=(a:Int)+(m:Int):=by rw[bD];omega
   have ec44:((b:Int)+(m:Int)).toNat=b+m:=by omega
   have pc44:(0:Int)≤(b:Int)+(m:Int):=by omega
   have bc44:(b:Int)+(m:Int)<(d.size:Int):=by omega
   have rc44:IntKind.i64.wrap ((b:Int)+(m:Int))=(b:Int)+(m:Int):=by rw[bD];omega
   have S2:Aside (SWK qE 3 w0 blk off (swp dk (a+m) (b+m)) (Ee wr blk off (a+m) (b+m) dk[b+m]! dk[a+m]!)):=Fx S1.o R (a+m) (b+m) (by omega) (by omega);obtain⟨p0,p1,p2,_,_,_⟩:=uG S1.o.drew R (by omega) (a+m) (by omega);obtain⟨q0,q1,q2,_,_,_⟩:=uG S1.o.drew R (by omega) (b+m) (by omega);obtain⟨_,_,_,f2,f3,f4⟩:=uG S1.o R (by omega) (a+m) (by omega);obtain⟨_,_,_,g2,g3,g4⟩:=uG S1.o R (by omega) (b+m) (by omega);have q3:=fun u v x=>(vv S1.o R (by omega) (a+m) (b+m) (by omega) (by omega) u v x).1
   have q4:=fun u v x=>(vv S1.o R (by omega) (a+m) (b+m) (by omega) (by omega) u v x).2.1
   have q5:=fun u v x=>(vv S1.o R (by omega) (a+m) (b+m) (by omega) (by omega) u v x).2.2
   generalize dk[a+m]! = X at *;generalize dk[b+m]! = Y at *;clear S1
   go_wp2_with fail
   go_big_region_o
   clear p0 p1 p2 q0 q1 q2 f2 f3 f4 g2 g3 g4 q3 q4 q5;rw[Hw];generalize Ee wr blk off (a+m) (b+m) Y X=w2 at S2 ⊢;have S3:Aside (SWK qE 3 w0 blk off (Gb d a b (m+1)) w2):=by rw[Gb,hdk];exact S2
   clear S2;go_wp2
   go_roundg (n-(m+1))
   case measure=>omega
   case rel=>exact⟨m+1,by go_num,by omega,ay _,S3⟩
  ·obtain rfl:m=n:=by omega
   go_wp2;go_end0;exact⟨rfl,S1.o⟩
theorem V4.c (g:Nat)(blk off cap a m b:Nat)(d0 d:Array EP)(w0 w:World)(R:Go.Proofs.RowK qE 3 w0 blk off d0)(hs:d0.size=d.size)(S:SWK qE 3 w0 blk off d w)(ha:a<m)(hm:m<b)(hb:b≤d.size)(hsz:d.size<4611686018427387904) :
 Calls Tryz.prog 153 #[.slice (some ⟨blk,off,none⟩) d.size cap,.int .i64 a,.int .i64 m,.int .i64 b,.func (.func g) #[] #[]] w fun e w'=>e = .returned (.tuple #[])∧∃ d',SWK qE 3 w0 blk off d' w'∧d'.size=d.size∧∀ t,d'[t]! = d[sP a m b t]! := by
 have mixed:Tryz.prog.follows .mixedOrders=true:=by kernel_rfl
 have S0:Aside (SWK qE 3 w0 blk off d w):=S;clear S
 go_enter Tryz.func153,Tryz.ntmps153
 go_wp2
 go_loopg [10,11] b (fun kx s10 s11 wr=>∃ (i j:Nat) (dk:Array EP),s10 = .int .i64 i∧s11 = .int .i64 j∧0<i∧0<j∧i≤m∧m+j≤d.size∧i+j≤kx∧dk.size=d.size∧Aside (SWK qE 3 w0 blk off dk wr)∧Aside (∀ t,dk[sP (m-i) m (m+j) t]! = d[sP a m b t]!))
 case atStart=>exact⟨m-a,b-m,d,by go_num,by go_num,by omega,by omega,by omega,by omega,by omega,rfl,S0,by show ∀ t,_;intro t;rw[show m-(m-a)=a from by omega,show m+(b-m)=b from by omega]⟩
 case round=>
  clear S0;obtain⟨i,j,dk,rfl,rfl,hi,hj,him,hmj,hkx,hds,S1,HR⟩:=hrel;have rw1:IntKind.i64.wrap ((m:Int)-(i:Int))=((m-i:Nat):Int):=by rw[bD];omega
  have rw2:(m:Int)-(i:Int)=((m-i:Nat):Int):=by omega
  by_cases hij:i=j
  ·subst hij;have hc:=DT.c g blk off cap (m-i) m i d0 dk w0 wr R (by omega) S1.o (by omega) (by omega) (by omega);rw[hds] at hc;have HC:=Y7 hc;clear hc
   go_wp2_with (first|(go_at_call 158;refine HC.o.mono ?_;rintro e w1 ⟨rfl,hS⟩;have S2:Aside (SWK qE 3 w0 blk off (Gb dk (m-i) m i) w1):=hS;clear hS))
   go_end0;refine⟨rfl,_,S2.o,by rw[wE];exact hds,fun t=>?_⟩;rw[yT dk _ _ i (by omega) (by omega),Ny i m t him];exact HR.o t
  ·by_cases hlt:j<i
   ·have hgz:(i:Int)>(j:Int):=by omega
    have hne:¬ (i:Int)=(j:Int):=by omega
    have hc:=DT.c g blk off cap (m-i) m j d0 dk w0 wr R (by omega) S1.o (by omega) (by omega) (by omega);rw[hds] at hc;have HC:=Y7 hc;clear hc
    go_wp2_with (first|(go_at_call 158;refine HC.o.mono ?_;rintro e w1 ⟨rfl,hS⟩;have S2:Aside (SWK qE 3 w0 blk off (Gb dk (m-i) m j) w1):=hS;clear hS))
    go_roundg (i+j-1)
    case measure=>omega
    case rel=>
     refine⟨i-j,j,Gb dk (m-i) m j,by go_num,rfl,by omega,hj,by omega,hmj,by omega,by rw[wE];exact hds,S2,?_⟩;show ∀ t,_;intro t;rw[yT dk _ _ j (by omega) (by omega),Nw i j m t hlt him];exact HR.o t
   ·have hgz:¬ (i:Int)>(j:Int):=by omega
    have hne:¬ (i:Int)=(j:Int):=by omega
    have rw3:(m:Int)+(j:Int)-(i:Int)=((m+j-i:Nat):Int):=by omega
    have hc:=DT.c g blk off cap (m-i) (m+j-i) i d0 dk w0 wr R (by omega) S1.o (by omega) (by omega) (by omega);rw[hds] at hc;have HC:=Y7 hc;clear hc
    go_wp2_with (first|(go_at_call 158;refine HC.o.mono ?_;rintro e w1 ⟨rfl,hS⟩;have S2:Aside (SWK qE 3 w0 blk off (Gb dk (m-i) (m+j-i) i) w1):=hS;clear hS))
    go_roundg (i+j-1)
    case measure=>omega
    case rel=>
     refine⟨i,j-i,Gb dk (m-i) (m+j-i) i,rfl,by go_num,hi,by omega,him,by omega,by omega,by rw[wE];exact hds,S2,?_⟩;show ∀ t,_;intro t;rw[yT dk _ _ i (by omega) (by omega),JQ i j m t (by omega) him];exact HR.o t
def Bl (g:Nat)(cf:EP→EP→Int)(key:EP→Int)(blk off cap:Nat)(d0:Array EP)(w0:World)(n:Nat):Prop:=
 ∀ (a m b:Nat) (d:Array EP) (w:World),b-a≤n→d.size=d0.size→SWK qE 3 w0 blk off d w→a<m→m<b→b≤d0.size→uV key d a m→uV key d m b →
 Calls Tryz.prog 135 #[.slice (some ⟨blk,off,none⟩) d0.size cap,.int .i64 a,.int .i64 m,.int .i64 b,.func (.func g) #[] #[]] w fun e w'=>e = .returned (.tuple #[])∧∃ d',SWK qE 3 w0 blk off d' w'∧MG key d a b d'∧uV key d' a b
theorem sF.left (g:Nat)(cf:EP→EP→Int)(key:EP→Int)(hcf:∀ x y,cf x y<0↔key x<key y)(eg:∀ args w,(callFunc g args).run Tryz.prog w = .ok (.enter g args) w)
 (blk off cap:Nat) (d0:Array EP) (w0:World) (R:Go.Proofs.RowK qE 3 w0 blk off d0) (hC:CmpLays Tryz.prog g #[] qE 3 cf blk off d0.size w0) (hsz:d0.size<4611686018427387904)
 (a m b:Nat) (d:Array EP) (w:World) (hma:m=a+1) (hs:d.size=d0.size) (S:SWK qE 3 w0 blk off d w) (hm:a+1<b) (hb:b≤d0.size) (hB:uV key d (a+1) b) :
 Calls Tryz.prog 135 #[.slice (some ⟨blk,off,none⟩) d0.size cap,.int .i64 (a),.int .i64 (m),.int .i64 (b),.func (.func g) #[] #[]] w fun e w'=>e = .returned (.tuple #[])∧∃ d',SWK qE 3 w0 blk off d' w'∧MG key d a (b) d'∧uV key d' a (b):=by
 have mixed:Tryz.prog.follows .mixedOrders=true:=by kernel_rfl
 have S0:Aside (SWK qE 3 w0 blk off d w):=S;have HC:=Y7 hC;have HCF:=Y7 hcf;have SB:=Y7 hB;clear S hC hcf hB;have h1z:(m:Int)-(a:Int)=1:=by omega
 have m1:m≤a+1:=by omega
 have m2:a+1≤m:=by omega
 clear hma
 go_enter Tryz.func135,Tryz.ntmps135
 go_wp2
 go_loopg [10,11] (b-m) (fun kx s10 s11 wr=>∃ (i j:Nat),s10 = .int .i64 i∧s11 = .int .i64 j∧a+1≤i∧i≤j∧j≤b∧j-i≤kx∧Aside (SWK qE 3 w0 blk off d wr)∧Aside (a+1<i→key d[i-1]! < key d[a]!)∧Aside (j<b→key d[a]! ≤ key d[j]!))
 case atStart=>exact⟨m,b,rfl,rfl,by omega,by omega,ay _,ay _,S0,(fun h=>by omega),(fun h=>by omega)⟩
 case round=>
  clear S0;obtain⟨i,j,rfl,rfl,hai,hij,hjb,hkx,S1,HL,HR⟩:=hrel
  by_cases hlt:i<j
  ·have hltz:(i:Int)<(j:Int):=by omega
   have c0:=fun n' os'=>(qX S1.o R hs ((i+j) / 2) (by omega) n' os').1
   have c1:=fun n' os'=>(qX S1.o R hs ((i+j) / 2) (by omega) n' os').2.1
   have c2:=fun n' os'=>(qX S1.o R hs ((i+j) / 2) (by omega) n' os').2.2
   have e0:=fun n' os'=>(qX S1.o R hs a (by omega) n' os').1
   have e1:=fun n' os'=>(qX S1.o R hs a (by omega) n' os').2.1
   have e2:=fun n' os'=>(qX S1.o R hs a (by omega) n' os').2.2
   have hc:=fun n' os'=>EF S1.o HC.o hs d[(i+j) / 2]! d[a]! n' os'
   have pa:(0:Int)≤((i:Int)+(j:Int)) / 2:=by omega
   have ba:((i:Int)+(j:Int)) / 2<(d0.size:Int):=by omega
   have ea:(((i:Int)+(j:Int)) / 2).toNat=(i+j) / 2:=by omega
   have b1:(a:Int)<(d0.size:Int):=by omega
   cases hv:decide (cf d[(i+j) / 2]! d[a]! < 0) with
   | true=>
     have HX:=Y7 ((HCF.o _ _).1 (aJ hv));generalize d[(i+j) / 2]! = x at c0 c1 c2 hc hv;generalize d[a]! = y at e0 e1 e2 hc hv
     go_wp2_with fail
     go_quiet_grown (first|(go_at_fn g;refine eG (hc _ _)))
     have S2:Aside (SWK qE 3 w0 blk off d (grow (wr.drewN nq) osq)):=S1.o.grown nq osq;clear c0 c1 c2 e0 e1 e2 hc S1;generalize grow (wr.drewN nq) osq=w2 at S2 ⊢;clear nq osq;go_wp2
     go_roundg (j-((i+j) / 2+1))
     case measure=>omega
     case rel=>exact⟨(i+j) / 2+1,j,by go_num,rfl,by omega,by omega,hjb,ay _,S2,(fun _=>HX.o),HR⟩
   | false=>
     have HX:=Y7 (fun h=>dF hv ((HCF.o _ _).2 h));generalize d[(i+j) / 2]! = x at c0 c1 c2 hc hv;generalize d[a]! = y at e0 e1 e2 hc hv
     go_wp2_with fail
     go_quiet_grown (first|(go_at_fn g;refine eG (hc _ _)))
     have S2:Aside (SWK qE 3 w0 blk off d (grow (wr.drewN nq) osq)):=S1.o.grown nq osq;clear c0 c1 c2 e0 e1 e2 hc S1;generalize grow (wr.drewN nq) osq=w2 at S2 ⊢;clear nq osq;go_wp2
     go_roundg ((i+j) / 2-i)
     case measure=>omega
     case rel=>exact⟨i,(i+j) / 2,rfl,by go_num,hai,by omega,by omega,ay _,S2,HL,(fun _=>Int.not_lt.1 HX.o)⟩
  ·obtain rfl:i=j:=by omega
   have hltz:¬ (i:Int)<(i:Int):=by omega
   go_wp2
   go_loopg [13] (i-1-a) (fun kx s13 wr=>∃ (k:Nat) (dk:Array EP),s13 = .int .i64 k∧a≤k∧k≤i-1∧i-1-k≤kx∧dk.size=d0.size∧Aside (SWK qE 3 w0 blk off dk wr)∧Aside (∀ t,dk[t]! = d[sP a (a+1) (k+1) t]!))
   case atStart=>exact⟨a,d,rfl,ay _,by omega,ay _,hs,S1,(fun t=>by rw[zT a (a+1) (a+1) t (by omega) (by omega) (by omega)])⟩
   case round=>
    clear S1;obtain⟨k,dk,rfl,hak,hki,aeG,hds,S2,HK⟩:=hrel
    by_cases hlt2:k<i-1
    ·have aaY:(k:Int)<(i:Int)-1:=by omega
     have ew:((k:Int)+1).toNat=k+1:=by omega
     have pw:(0:Int)≤(k:Int)+1:=by omega
     have bw:(k:Int)+1<(d0.size:Int):=by omega
     have bw2:(k:Int)<(d0.size:Int):=by omega
     obtain⟨p0,p1,p2,_,_,_⟩:=uG S2.o.drew R (by omega) k (by omega);obtain⟨q0,q1,q2,_,_,_⟩:=uG S2.o.drew R (by omega) (k+1) (by omega);obtain⟨_,_,_,f2,f3,f4⟩:=uG S2.o R (by omega) k (by omega);obtain⟨_,_,_,g2,g3,g4⟩:=uG S2.o R (by omega) (k+1) (by omega);have q3:=fun u v x=>(vv S2.o R (by omega) k (k+1) (by omega) (by omega) u v x).1
     have q4:=fun u v x=>(vv S2.o R (by omega) k (k+1) (by omega) (by omega) u v x).2.1
     have q5:=fun u v x=>(vv S2.o R (by omega) k (k+1) (by omega) (by omega) u v x).2.2
     have S3:Aside (SWK qE 3 w0 blk off (swp dk k (k+1)) (Ee wr blk off k (k+1) dk[k+1]! dk[k]!)):=Fx S2.o R k (k+1) (by omega) (by omega);clear S2;generalize dk[k]! = X at *;generalize dk[k+1]! = Y at *
     go_wp2_with fail
     go_big_region_o
     clear p0 p1 p2 q0 q1 q2 f2 f3 f4 g2 g3 g4 q3 q4 q5;rw[Hw];generalize Ee wr blk off k (k+1) Y X=w2 at S3 ⊢;go_wp2
     go_roundg (i-1-(k+1))
     case measure=>omega
     case rel=>exact⟨k+1,swp dk k (k+1),by go_num,by omega,by omega,ay _,by rw[kW];exact hds,S3,UJ (by omega) (by omega) hak HK.o⟩
    ·have aaY:¬ (k:Int)<(i:Int)-1:=by omega
     go_wp2;have he:=Nb (key:=key) (d:=d) (d1:=dk) (a:=a) (i:=i) (b:=b) (by omega) hai hjb SB.o (by omega) (fun t=>by rw[HK.o,show k+1=i from by omega]) HL.o HR.o
     (try simp only[Exit.inBlock,Exit.then]);refine bf (dQ rfl _ _ _) rfl ?_
     exact⟨rfl,dk,S2.o,he.1,he.2⟩
end Go.Proofs.Y.PA
namespace Go.Proofs.Y.PA
open Go.RowKit Go.Proofs.Y.G Go.Proofs.YW.oO Go.Proofs.YW.pq Go.Proofs.YW.pz
theorem K9.c (A:Option Addr)(c n:Nat)(l:List ru)(eb:List Int)(ee:Int)(w:World)(hn:l.length=n)(hr:Kd.C Bc w A n l)(hc:n≤c)(hok:Na l)(hl:n≤100000)(ht:tot l≤1000000)(he:vP l=(eb,ee)) :
 Calls Tryz.prog 10 #[.slice A n c] w fun e w'=>∃ v:Value,e = .returned (.tuple #[v,.int .i64 ee])∧Kd.R (Kd.int .u8) 5 w' w.heap.size (fun _=>True) v eb∧Below w.heap.size w w':=by
 subst hn;have HR:=Y7 hr;have HT:=Y7 ht;have hpc:=BI l;cases hcan:vG l with
 | false=>
   rw[vP,av (by rw[hcan];decide)] at he;cases he;have ENC:=Y7 (UD.c A c l.length l [] 1 w rfl hr hc hok (by omega) (fun h=>by rw[hcan] at h;cases h) (by rw[Bo,av (by rw[hcan];decide)]));clear hr hok ht
   go_enter Tryz.func10,Tryz.ntmps10
   go_wp2_with (first|(go_at_call 22;(with_reducible refine ENC.o.mono ?_);rintro e w1 ⟨v1,rfl,hr1,hb⟩;obtain⟨A1,c1,rfl⟩:=Kd.pO hr1;have HB1:=Y7 hb;clear hr1 hb))
   refine bf (dD rfl _ _ _) rfl ?_;exact⟨_,rfl,Kd.tJ _ _ _ _ _,HB1.o⟩
 | true=>
   rw[vP,au hcan] at he;cases he;have hP:=Fh hok (G8 hcan);have hPn:(qY l).length≤150000:=by omega
   have hsh:=Bu hP;have ENC:=Y7 (UD.c A c l.length l ((qY l).flatMap uf) 0 w rfl hr hc hok (by omega) (fun _=>by rw[Ah];omega) (by rw[Bo,au hcan,Ah]));have HW:=Y7 (show uI l=xH 1 0 (rD (qY l).length 4)++(qO 0 (qY l)++xH 3 ((qY l).length+1) (rD (tot l) 8)) from rfl);have HP:=Y7 hP;generalize qY l=P at *;generalize hLL:P.flatMap uf=L at *;have HLL:=Y7 hLL;have HWL:oM (∃ W,uI l=W):=⟨_,rfl⟩;generalize uI l=WL at *;have hLn:L.length≤600000000:=by omega
   have hpu:IntKind.u64.wrap (P.length:Int)=(P.length:Int):=by simp[IntKind.wrap,IntKind.bits,IntKind.signed];omega
   have htu:IntKind.u64.wrap (tot l:Int)=(tot l:Int):=by simp[IntKind.wrap,IntKind.bits,IntKind.signed];omega
   obtain⟨p1,hp1⟩:∃ p1,P.length+1=p1:=⟨_,rfl⟩;have ao3:IntKind.i64.wrap ((P.length:Int)+1)=(p1:Int):=by rw[bD];omega
   have HP1:=Y7 hp1;obtain⟨h0,hh0⟩:∃ h0,rD P.length 4=h0:=⟨_,rfl⟩;have hh4:h0.length=4:=by rw[← hh0,pY]
   obtain⟨F0,hF0⟩:∃ F0,xH 1 0 h0=F0:=⟨_,rfl⟩;have akv:F0.length=17:=by rw[← hF0,wX,hh4]
   have HH4:=Y7 hh4;have ant:=Y7 akv;have akw:oM (∀ W,Calls Tryz.prog 34 #[.int .u64 P.length,.int .i64 4] W fun e w'=>∃ v0_:Value,e = .returned v0_∧Kd.R (Kd.int .u8) 5 w' W.heap.size (fun _=>True) v0_ h0∧Below W.heap.size W w'):=⟨fun W=>by rw[← hh0];exact Eu P.length 4 (by omega) (by decide) W⟩;have FR1:oM (∀ A c W,Kd.C (Kd.int .u8) W A h0.length h0→h0.length≤c→Calls Tryz.prog 33 #[.int .i64 1,.int .i64 0,.slice A h0.length c] W fun e w'=>∃ v:Value,e = .returned v∧Kd.R (Kd.int .u8) 5 w' W.heap.size (fun _=>True) v F0∧Below W.heap.size W w'):=⟨fun A c W h1 h2=>by rw[← hF0];exact K8.c 1 0 h0.length h0 A c W (by decide) (by decide) rfl h1 h2 (by omega) (by rw[← hh0];exact wB _ _)⟩;have HW':oM (WL=F0++(qO 0 P++xH 3 p1 (rD (tot l) 8))):=⟨by rw[HW.o,hh0,hF0,hp1]⟩;have anu:p1<4294967296:=by omega
   clear hr hok hpc hP hsh hLL HWL ht HW hh0 hh4 hF0 akv hp1
   go_enter Tryz.func10,Tryz.ntmps10
   go_wp2_with (first|(go_at_call 22;(with_reducible refine ENC.o.mono ?_);rintro e w1 ⟨v1,rfl,hr1,hb⟩;obtain⟨A1,c1,rfl⟩:=Kd.pO hr1;have HR1:=Y7 (Kd.pE hr1);have HB1:=Y7 hb;clear hr1 hb)|(go_at_call 32;(with_reducible refine (show Calls _ _ _ _ _ from by have h1:=VW.c A1 c1 L.length P w1 HP.o (by rw[HLL.o]) (by rw[HLL.o];exact HR1.o.2.2) HR1.o.2.1 hLn (by omega);exact h1).mono ?_);rintro e w2 ⟨v2,rfl,hn2,hb⟩;obtain⟨A2,c2,rfl,hc2,hC2⟩:=Kd.yj hn2;rw[bN] at hc2;have HC2:=Y7 hC2;have HB2:=Y7 (oP HB1.o hb);have anv:=Y7 (aU w2.heap.size w2);clear hn2 hC2 hb)|(go_at_call 34;(with_reducible refine (akw.o _).mono ?_);rintro e w3 ⟨v3,rfl,hr3,hb⟩;obtain⟨a3,c3,rfl⟩:=Kd.rV hr3 (by rw[HH4.o];decide);have HR3:=Y7 (Kd.pE hr3);have HB3:=Y7 (oP anv.o hb);clear hr3 hb)|(go_at_call 33;(with_reducible refine (FR1.o _ _ _ HR3.o.2.2 HR3.o.2.1).mono ?_);rintro e w4 ⟨v4,rfl,hr4,hb⟩;have HR4:=Y7 (Kd.qW hr4 HB3.o.size);have HB4:=Y7 (oP HB3.o hb);clear hr4 hb))
   have HLN:oM ((P.map uo).length=P.length):=⟨bN ..⟩;have HRS:=Y7 (Kd.o9 HR.o HB2.o);have HCL:oM (∀ k,k≤P.length→(F0++qO 0 (P.take k)).length≤1000000000):=⟨fun k hk=>by
    have h1:=(zl (P.take k) 0 (fun p hp=>HP.o p (bT hp))).2;rw[aW] at h1;rw[aT,ant.o];omega⟩
   clear ENC HR1 HLL hLn HB1 HB3 HR3 FR1 akw HR
   go_loopg [7,30] P.length (fun kx s7 s30 wr=>∃ k:Nat,s30 = .int .i64 k∧k≤P.length∧P.length-k≤kx∧oM (Kd.R (Kd.int .u8) 5 wr w2.heap.size (fun _=>True) s7 (F0++qO 0 (P.take k)))∧oM (Below w2.heap.size w2 wr))
   case atStart=>exact⟨0,rfl,bP _,by omega,⟨by rw[kD,qO,dZ];exact HR4.o⟩,HB4⟩
   case round=>
    clear HR4 HB4;obtain⟨k,rfl,hk,hkx,HRV,HB⟩:=hrel
    by_cases hlt:k<P.length
    ·obtain⟨ad,A0,c0,rfl,x0,l0,g0⟩:=Pv (Kd.o9 HC2.o HB.o) (k:Int) (by omega) (by rw[HLN.o];omega);rw[aG] at x0;have hrd:yE (P.map uo) (k:Int)=uo P[k]:=by simp[yE,aV,aR hlt]
     rw[hrd] at x0 l0 g0;have hpk:=HP.o P[k] (dL hlt);have hpo:=zu hpk;obtain⟨k1,hk1⟩:∃ k1,k+1=k1:=⟨_,rfl⟩;obtain⟨FK,hFK⟩:∃ FK,xH 2 k1 (uo P[k])=FK:=⟨_,rfl⟩;have HST:oM (F0++qO 0 (P.take k)++FK=F0++qO 0 (P.take k1)):=⟨by
      rw[← hFK,← hk1,bQ hlt,zB,bC,aW,dJ (by omega),dK]⟩
     have HFL:oM (0<FK.length∧FK.length≤2000):=⟨by rw[← hFK,wX];omega⟩;have ao4:IntKind.i64.wrap ((k:Int)+1)=(k1:Int):=by rw[bD];omega
     have FRM:=fun (m:Nat) (hm:(uo P[k]).length=m)=>K8.c 2 k1 m (uo P[k]) A0 c0 wr (by decide) (by omega) hm (hm ▸ g0) (hm ▸ l0) (by omega) hpo.1
     rw[hFK] at FRM;have hkz:(k:Int)<(P.length:Int):=by omega
     have hcl:=HCL.o k hk;generalize hG:F0++qO 0 (P.take k)=G at *;have HGL:=Y7 hcl;clear hrd hpk l0 g0 hFK hG hcl;generalize hm:(uo P[k]).length=m at *;have FR2:oM (Calls Tryz.prog 33 #[.int .i64 2,.int .i64 k1,.slice A0 m c0] wr fun e w'=>∃ v:Value,e = .returned v∧Kd.R (Kd.int .u8) 5 w' wr.heap.size (fun _=>True) v FK∧Below wr.heap.size wr w'):=⟨FRM m rfl⟩;have hs0:=HB.o.size;clear FRM hpo
     go_wp2_with (first|(go_at_call 33;(with_reducible refine FR2.o.mono ?_);rintro e w6 ⟨v6,rfl,hr6,hb⟩;obtain⟨a6,c6,rfl⟩:=Kd.rV hr6 HFL.o.1;have HR6:=Y7 (Kd.pE hr6);have HB6:=Y7 (oP HB.o hb);have anw:=Y7 (Kd.qo HRV.o hb);clear hr6 hb)|((with_reducible refine qm (N:=40) rfl ?_);go_must (refine Kd.sD (Kd.int .u8) (Rr:=(Kd.int .u8).K w6) (w0:=w2) w2.heap.size rfl (.tmp 35) (.tmp 39) 24 5 (.int .u8 0) 1 rfl Tryz.underlying24 rW rfl (by decide) (by decide) (u7) G FK (some a6) FK.length c6 (fun _=>True) (fun _=>False) rfl rfl anw.o HR6.o.2.2 (fun _ _ h=>h) (fun _ h=>h.elim) (fun _ _=>bE) HB6.o HB6.o.size ?h6 ?_);(case h6=>((have h1_:=HFL.o;have h2_:=HGL.o;omega)));intro v7 w7 hr_ hb_ hg_ adu;have HR7:=Y7 hr_;have HB7:=Y7 hb_;clear hr_ hb_ hg_ adu))
     go_roundg (P.length-k1)
     case measure=>omega
     case rel=>exact⟨k1,by go_num,by omega,ay _,⟨by rw[← HST.o];exact HR7.o⟩,HB7⟩
    ·obtain rfl:k=P.length:=by omega
     rw[dz] at HRV;have hcl:=HCL.o P.length (ay _);rw[dz] at hcl;have HGL:=Y7 hcl;have hkz:¬ ((P.length:Int)<(P.length:Int)):=by omega
     clear hlt hk hkx hcl HCL
     go_wp2_with fail
     go_loopg [10,44] l.length (fun kx s10 s44 wq=>∃ k:Nat,s44 = .int .i64 k∧k≤l.length∧l.length-k≤kx∧s10 = .int .i64 ((tot (l.take k):Nat):Int)∧oM (Below wr.heap.size wr wq))
     case atStart=>exact⟨0,rfl,bP _,by omega,rfl,⟨aU _ _⟩⟩
     case round=>
      obtain⟨k,rfl,hk,hkx,rfl,HBQ⟩:=hrel
      by_cases hlt:k<l.length
      ·obtain⟨ad,A0,c0,A3,c3,rfl,x0,x1,l0,g0,l3,g3⟩:=wL (Kd.o9 HRS.o (oP HB.o HBQ.o)) (k:Int) (by omega) (by omega);rw[aG] at x0 x1;have hts:tot (l.take (k+1))=tot (l.take k)+(qc l (k:Int)).f1.length:=by
        rw[bQ hlt,zV,rz hlt]
       have htl:=zy l (k+1);have hT:=HT.o;have hkz:(k:Int)<(l.length:Int):=by omega
       clear l0 g0 l3 g3;generalize (qc l (k:Int)).f1.length=m1 at *;generalize (qc l (k:Int)).f0.length=m0 at *;generalize tot (l.take k)=tk at *;have hw1:IntKind.i64.wrap ((tk:Int)+(m1:Int))=((tk+m1:Nat):Int):=by rw[bD];omega
       go_wp2_with fail
       go_roundg (l.length-(k+1))
       case measure=>omega
       case rel=>exact⟨k+1,by go_num,hlt,ay _,by rw[hts];go_num,⟨oN HBQ.o _⟩⟩
      ·obtain rfl:k=l.length:=by omega
       rw[dz];have hT:=HT.o;have akx:oM (∀ W,Calls Tryz.prog 34 #[.int .u64 (tot l),.int .i64 8] W fun e w'=>∃ v0_:Value,e = .returned v0_∧Kd.R (Kd.int .u8) 5 w' W.heap.size (fun _=>True) v0_ (rD (tot l) 8)∧Below W.heap.size W w'):=⟨fun W=>Eu (tot l) 8 (by omega) (by decide) W⟩;obtain⟨t8,ht8⟩:∃ t8,rD (tot l) 8=t8:=⟨_,rfl⟩;have ai0:t8.length=8:=by rw[← ht8,pY]
       have aky:okB t8=true:=by rw[← ht8];exact wB _ _
       rw[ht8] at akx HW';obtain⟨F3,hF3⟩:∃ F3,xH 3 p1 t8=F3:=⟨_,rfl⟩;have akz:oM (F3.length=21):=⟨by rw[← hF3,wX,ai0]⟩;have FR3:oM (∀ A c W,Kd.C (Kd.int .u8) W A t8.length t8→t8.length≤c→Calls Tryz.prog 33 #[.int .i64 3,.int .i64 p1,.slice A t8.length c] W fun e w'=>∃ v:Value,e = .returned v∧Kd.R (Kd.int .u8) 5 w' W.heap.size (fun _=>True) v F3∧Below W.heap.size W w'):=⟨fun A c W h1 h2=>by rw[← hF3];exact K8.c 3 p1 t8.length t8 A c W (by decide) anu rfl h1 h2 (by omega) aky⟩;have HW2:oM (WL=F0++qO 0 P++F3):=⟨by rw[HW'.o,hF3,bC]⟩;have HT8:=Y7 ai0;generalize F0++qO 0 P=G at *;have HBB:=Y7 (oP HB.o HBQ.o);have HRG:=Y7 (Kd.qo HRV.o HBQ.o);clear hlt hk hkx ht8 ai0 aky hF3 HW';generalize tot l=tt at *
       go_wp2_with (first|(go_at_call 34;(with_reducible refine (akx.o _).mono ?_);rintro e w8 ⟨v8,rfl,hr8,hb⟩;obtain⟨a8,c8,rfl⟩:=Kd.rV hr8 (by rw[HT8.o];decide);have HR8:=Y7 (Kd.pE hr8);have HB8:=Y7 (oP HBB.o hb);have anx:=Y7 (Kd.qo HRG.o hb);clear hr8 hb)|(go_at_call 33;(with_reducible refine (FR3.o _ _ _ HR8.o.2.2 HR8.o.2.1).mono ?_);rintro e w9 ⟨v9,rfl,hr9,hb⟩;obtain⟨a9,c9,rfl⟩:=Kd.rV hr9 (by rw[akz.o];decide);have HR9:=Y7 (Kd.pE hr9);have HB9:=Y7 (oP HB8.o hb);have anz:=Y7 (Kd.qo anx.o hb);clear hr9 hb)|((with_reducible refine qm (N:=62) rfl ?_);go_must (refine Kd.sD (Kd.int .u8) (Rr:=(Kd.int .u8).K w9) (w0:=w2) w2.heap.size rfl (.tmp 54) (.tmp 61) 24 5 (.int .u8 0) 1 rfl Tryz.underlying24 rW rfl (by decide) (by decide) (u7) G F3 (some a9) F3.length c9 (fun _=>True) (fun _=>False) rfl rfl anz.o HR9.o.2.2 (fun _ _ h=>h) (fun _ h=>h.elim) (fun _ _=>bE) HB9.o HB9.o.size ?h6 ?_);(case h6=>((have h1_:=akz.o;have h2_:=HGL.o;omega)));intro v10 w10 hr_ hb_ hg_ adu;have anA:=Y7 hr_;have anB:=Y7 hb_;clear hr_ hb_ hg_ adu))
       refine bf (dD rfl _ _ _) rfl ?_;exact⟨v10,rfl,by rw[HW2.o];exact Kd.qW anA.o HB2.o.size,HB2.o.trans (anB.o.mono HB2.o.size)⟩
end Go.Proofs.Y.PA
