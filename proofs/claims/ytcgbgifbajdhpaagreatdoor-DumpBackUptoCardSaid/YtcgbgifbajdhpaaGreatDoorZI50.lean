/- Of the law rZIQDumpBack. -/
import Derived.Test.YtcgbgifbajdhpaaGreatDoorZI49
import Derived.Test.YtcgbgifbajdhpaaGreatDoorZI48
import Derived.Test.YtcgbgifbajdhpaaGreatDoorZI43
set_option linter.unusedVariables false
set_option linter.unusedSimpArgs false
set_option maxHeartbeats 16000000
set_option maxRecDepth 1000000
namespace Go.Proofs.Y.PA
open Go.Shelf Go.RowKit Go.Lib Go.Sort
theorem Ou.c (g:Nat)(cf:EP→EP→Int)(key:EP→Int)(hcf:∀ x y,cf x y<0↔key x<key y)(eg:∀ args w,(callFunc g args).run Tryz.prog w = .ok (.enter g args) w)(hC:∀ blk off size w,CmpLays Tryz.prog g #[] qB 3 cf blk off size w)
 (blk off cap:Nat) (d:Array EP) (w:World) (R:Go.Proofs.RowK qB 3 w blk off d) (hsz:d.size<1152921504606846976) :
 Calls Tryz.prog 113 #[.slice (some ⟨blk,off,none⟩) d.size cap,.int .i64 d.size,.func (.func g) #[] #[]] w fun e w'=>e = .returned (.tuple #[])∧∃ d',SWK qB 3 w blk off d' w'∧MG key d 0 d.size d'∧uf key d' 0 d.size:=by
 have hlt:∀ x y,ltOf cf x y=true↔key x<key y:=fun x y=>by unfold ltOf;rw[j4];exact hcf x y
 have INS:∀ (a b:Nat) (dk:Array EP) (W:World),SWK qB 3 w blk off dk W→dk.size=d.size→a≤b→b≤d.size →
  Calls Tryz.prog 134 #[.slice (some ⟨blk,off,none⟩) d.size cap,.int .i64 a,.int .i64 b,.func (.func g) #[] #[]] W fun e w'=>e = .returned (.tuple #[])∧∃ d',SWK qB 3 w blk off d' w'∧MG key dk a b d'∧uf key d' a b:=fun a b dk W S hs hab hb=>by
  have h:=lC Tryz.OZ 3 SQ Pq qB (fun _=>rfl) Cv cf g #[] blk off cap a b dk W eg (hC _ _ _ _) (S.holds R.hblk R.hH hs) (S.lt R.hblk) hab (by omega) (by omega);rw[hs] at h;refine kV h ?_;rintro e w' ⟨he,n,os,rfl⟩;have hz:(Sort.insertionSort (ltOf cf) dk a b).size=dk.size:=(DT (fun x y=>(hlt x y).1) dk a b hab (by omega)).1;exact⟨he,_,S.on R.hblk n _ os hz,DT (fun x y=>(hlt x y).1) dk a b hab (by omega),Kk hlt dk a b hab (by omega)⟩
 have IN:=Yu INS;have SY:=Yu (fun k=>rU.c g cf key hcf eg blk off cap d w R (hC _ _ _ _) (by omega) k);have S0:Aside (SWK qB 3 w blk off d w):=SWK.start R.hH;have RR:=Yu R;obtain⟨n,hn⟩:∃ n,n=d.size:=⟨_,rfl⟩;have HN:=Yu hn;rw[← hn] at IN hsz ⊢;clear INS hlt hcf eg hC R hn
 go_enter Tryz.func113,Tryz.ntmps113
 go_wp2
 go_loopg [7,8] n (fun kx s7 s8 wr=>∃ (a:Nat) (dk:Array EP),s7 = .int .i64 a∧s8 = .int .i64 (a+20:Nat)∧a≤n∧n-a≤kx∧dk.size=n∧Aside (SWK qB 3 w blk off dk wr)∧YW.o7.oZ (20∣a)∧Aside (KO key dk 20 a)∧Aside (MG key d 0 n dk))
 case atStart=>exact⟨0,d,rfl,rfl,bV _,by omega,HN.o.symm,S0,⟨lT _⟩,(fun s h1 h2=>by omega),MG.refl _ _ _⟩
 case round=>
  clear S0;obtain⟨a,dk,rfl,rfl,han,hkx,hds,S1,HD,HB,HM⟩:=hrel
  by_cases hlt:a+20≤n
  ·have hltz:((a+20:Nat):Int)≤(n:Int):=by omega
   have hc:=Yu (IN.o a (a+20) dk wr S1.o (by omega) (by omega) (by omega))
   go_wp2_with (first|(go_at_call 134;refine hc.o.mono ?_;rintro _ w1 ⟨rfl,d1,hS,hm1,hs1⟩;have T1:Aside (SWK qB 3 w blk off d1 w1):=hS;have M1:=Yu hm1;have R1:=Yu hs1;clear hS hm1 hs1))
   go_roundg (n-(a+20))
   case measure=>omega
   case rel=>exact⟨a+20,d1,by go_num,by go_num,hlt,aD _,M1.o.1.trans hds,T1,⟨ku HD.o (jT _)⟩,HB.o.step HD.o M1.o R1.o,HM.o.trans (M1.o.wide (bV _) (by omega) (by omega))⟩
  ·have hltz:¬ ((a+20:Nat):Int)≤(n:Int):=by omega
   have aad:¬ (a:Int)+20≤(n:Int):=by omega
   have hc:=Yu (IN.o a n dk wr S1.o (by omega) (by omega) (by omega))
   go_wp2_with (first|(go_at_call 134;refine hc.o.mono ?_;rintro _ w1 ⟨rfl,d1,hS,hm1,hs1⟩;have T1:Aside (SWK qB 3 w blk off d1 w1):=hS;have M1:=Yu hm1;have R1:=Yu hs1;clear hS hm1 hs1))
   go_loopg [6,7,8,9] n (fun kx s6 s7 s8 s9 wr=>∃ (c:Nat) (dk:Array EP),s6 = .int .i64 c∧20≤c∧(c=20∨c<2*n)∧n-c≤kx∧dk.size=n∧Aside (SWK qB 3 w blk off dk wr)∧Aside (KP key dk c n 0)∧Aside (MG key d 0 n dk))
   case atStart=>exact⟨20,d1,rfl,by omega,.inl rfl,by omega,M1.o.1.trans hds,T1,Xp.first (by omega) HB.o HD.o (by omega) (by omega) M1.o R1.o,HM.o.trans (M1.o.wide (bV _) (by omega) (by omega))⟩
   case round=>
    clear S1 T1 M1 R1 HB HM hc HD hkx hds;obtain⟨c,dk,rfl,hc1,hc2,hkx,hds,S1,HB,HM⟩:=hrel
    by_cases hcn:c<n
    ·have agD:(c:Int)<(n:Int):=by omega
     go_wp2
     go_loopg [7,8] n (fun kx s7 s8 wr=>∃ (a:Nat) (dk:Array EP),s7 = .int .i64 a∧s8 = .int .i64 ((a:Int)+2*(c:Int))∧a≤n∧n-a≤kx∧dk.size=n∧Aside (SWK qB 3 w blk off dk wr)∧YW.o7.oZ (2*c∣a)∧Aside (KO key dk (2*c) a)∧Aside (KP key dk c n a)∧Aside (MG key d 0 n dk))
     case atStart=>exact⟨0,dk,rfl,by go_num,bV _,by omega,hds,S1,⟨lT _⟩,(fun s h1 h2=>by omega),HB,HM⟩
     case round=>
      clear S1 HB HM hds;obtain⟨a,dk,rfl,rfl,han,adp,hds,S1,HD,HB,HF,HM⟩:=hrel;have dca:c∣a:=Nat.dvd_trans (Nat.dvd_mul_left _ _) HD.o;have HDC:=Yu dca;clear dca
      by_cases hlt2:a+2*c≤n
      ·have aae:((a+2*c:Nat):Int)≤(n:Int):=by omega
       have aeL:(a:Int)+2*(c:Int)≤(n:Int):=by omega
       have hA:uf key dk a (a+c):=(HF.o a HDC.o (aD _)).sub (aD _) (by omega);have hB:uf key dk (a+c) (a+2*c):=(HF.o (a+c) (ku HDC.o (jT _)) (by omega)).sub (aD _) (by omega);have hc:=Yu (SY.o n a (a+c) (a+2*c) dk wr (by omega) (by rw[hds];exact HN.o) S1.o (by omega) (by omega) (by rw[← HN.o];exact hlt2) hA hB);rw[← HN.o,show ((a+c:Nat):Int)=(a:Int)+(c:Int) from by omega,show ((a+2*c:Nat):Int)=(a:Int)+2*(c:Int) from by omega] at hc;clear hA hB
       go_wp2_with (first|(go_at_call 135;refine hc.o.mono ?_;rintro _ w1 ⟨rfl,d1,hS,hm1,hs1⟩;have T1:Aside (SWK qB 3 w blk off d1 w1):=hS;have M1:=Yu hm1;have R1:=Yu hs1;clear hS hm1 hs1))
       go_roundg (n-(a+2*c))
       case measure=>omega
       case rel=>exact⟨a+2*c,d1,by go_num,by go_num,hlt2,aD _,M1.o.1.trans hds,T1,⟨ku HD.o (jT _)⟩,HB.o.step HD.o M1.o R1.o,HF.o.step M1.o (by omega),HM.o.trans (M1.o.wide (bV _) (by omega) (by omega))⟩
      ·have aae:¬ ((a+2*c:Nat):Int)≤(n:Int):=by omega
       have aeL:¬ (a:Int)+2*(c:Int)≤(n:Int):=by omega
       by_cases hm:a+c<n
       ·have hmz:(a:Int)+(c:Int)<(n:Int):=by omega
        have hA:uf key dk a (a+c):=(HF.o a HDC.o (aD _)).sub (aD _) (by omega);have hB:uf key dk (a+c) n:=(HF.o (a+c) (ku HDC.o (jT _)) (by omega)).sub (aD _) (by omega);have hc:=Yu (SY.o n a (a+c) n dk wr (by omega) (by rw[hds];exact HN.o) S1.o (by omega) (by omega) (by rw[← HN.o];exact aD _) hA hB);rw[← HN.o,show ((a+c:Nat):Int)=(a:Int)+(c:Int) from by omega] at hc;clear hA hB
        go_wp2_with (first|(go_at_call 135;refine hc.o.mono ?_;rintro _ w1 ⟨rfl,d1,hS,hm1,hs1⟩;have T1:Aside (SWK qB 3 w blk off d1 w1):=hS;have M1:=Yu hm1;have R1:=Yu hs1;clear hS hm1 hs1))
        go_roundg (n-c*2)
        case measure=>omega
        case rel=>exact⟨c*2,d1,by go_num,by omega,.inr (by omega),by omega,M1.o.1.trans hds,T1,(by rw[fJ c 2];exact Xp.first (by omega) HB.o HD.o han (by omega) M1.o R1.o),HM.o.trans (M1.o.wide (bV _) (aD _) han)⟩
       ·have hmz:¬ (a:Int)+(c:Int)<(n:Int):=by omega
        have HS:=Yu (show uf key dk a n from (HF.o a HDC.o (aD _)).sub (aD _) (by omega));go_wp2
        go_roundg (n-c*2)
        case measure=>omega
        case rel=>exact⟨c*2,dk,by go_num,by omega,.inr (by omega),by omega,hds,S1,(by rw[fJ c 2];exact Xp.first (by omega) HB.o HD.o han (by omega) (MG.refl _ _ _) HS.o),HM⟩
    ·have agD:¬ (c:Int)<(n:Int):=by omega
     go_wp2;go_end0;exact⟨rfl,dk,S1.o,HM.o,(HB.o 0 (lT _) (aD _)).sub (aD _) (by omega)⟩
theorem MS.c (g:Nat)(cf:EP→EP→Int)(key:EP→Int)(hcf:∀ x y,cf x y<0↔key x<key y)(eg:∀ args w,(callFunc g args).run Tryz.prog w = .ok (.enter g args) w)(hC:∀ blk off size w,CmpLays Tryz.prog g #[] qB 3 cf blk off size w)
 (blk off cap:Nat) (d:Array EP) (w:World) (R:Go.Proofs.RowK qB 3 w blk off d) (hsz:d.size<1152921504606846976) :
 Calls Tryz.prog 75 #[.slice (some ⟨blk,off,none⟩) d.size cap,.func (.func g) #[] #[]] w fun e w'=>e = .returned (.tuple #[])∧∃ d',SWK qB 3 w blk off d' w'∧MG key d 0 d.size d'∧uf key d' 0 d.size:=by
 have HI:=Yu (Ou.c g cf key hcf eg hC blk off cap d w R hsz);clear R hsz hcf eg hC;generalize d.size=n at *
 go_enter Tryz.func75,Tryz.ntmps75
 go_wp2_with (first|(go_at_call 113;refine HI.o.mono ?_;rintro e w' ⟨rfl,hw'⟩;have HW:=Yu hw';clear hw'))
 go_end0;exact⟨rfl,HW.o⟩
end Go.Proofs.Y.PA
namespace Go.Proofs.Y.PA
open Go.RowKit Go.Proofs.Y.G Go.Proofs.YW.o7 Go.Proofs.YW.pJ Go.Proofs.YW.pO
theorem I9 {b:List Int}(h:(rR b).2.2=0):rF (rR b).1=true∧(rR b).2.1.length≤b.length:=by
 cases b with
 | nil=>exact absurd h (by simp[rR])
 | cons a r=>
   rcases hd:sM r a.toNat with _ | ⟨l,q⟩
   ·have e:rR (a::r)=([],[],3):=by rw[rR];simp only[hd]
    rw[e] at h;exact absurd h (by decide)
   ·by_cases hc:rF l=true
    ·have e:rR (a::r)=(l,q,0):=by rw[rR];simp only[hd];rw[ak hc]
     rw[e];have h1:=(yY hd).2;exact⟨hc,by show q.length≤(a::r).length;rw[bC];omega⟩
    ·have e:rR (a::r)=([],[],5):=by rw[rR];simp only[hd];rw[aK hc]
     rw[e] at h;exact absurd h (by decide)
def X6 (p:qJ):Prop:=rF p.f0=true∧(∀ s∈p.f1,Dn s)∧1≤p.f1.length∧p.f1.length≤20
theorem P6 {p:List Int}{s:qJ}(hp:p.length≤1000)(h:zh p=some s):X6 s:=by
 unfold zh at h;split at h
 ·cases h
 ·rename_i h1;split at h
  ·cases h
  ·rename_i h2;injection h with h
   subst h;have hc:=I9 (Decidable.not_not.1 h1);exact⟨hc.1,(UR _ (by omega)).1,by show 1≤(xA (rR p).2.1).1.length;omega,by show (xA (rR p).2.1).1.length≤20;omega⟩
theorem Ki:∀ (k:Nat) (b:List Int),∀ f∈yB k b,f.pay.length≤1000
 | 0,b,f,hf=>by simp[yB] at hf
 | k+1,b,f,hf=>by
   rw[yB] at hf;split at hf
   ·simp at hf
   ·split at hf
    ·exact Ki k _ f hf
    ·rename_i g hg;rcases List.mem_cons.1 hf with rfl | hf
     ·exact (wX hg).2.1
     ·exact Ki k _ f hf
theorem WZ {b:List Int}{p:Pt}(h:p∈BR b):X6 p.ser:=by
 obtain⟨f,hf,he⟩:=List.mem_filterMap.1 h;unfold tT at he;split at he
 ·rw[Option.map_eq_some_iff] at he;obtain⟨s,hs,rfl⟩:=he;exact P6 (Ki _ _ f hf) hs
 ·cases he
theorem O1 {p q:Pt}:∀ {l:List Pt},q∈Br p l→q=p∨q∈l
 | [],h => .inl (List.mem_singleton.1 h)
 | x::l,h=>by
   rw[Br] at h;split at h
   ·rcases List.mem_cons.1 h with h | h
    ·exact .inl h
    ·exact .inr h
   ·rcases List.mem_cons.1 h with h | h
    ·exact .inr (h ▸ bK)
    ·rcases O1 h with h | h
     ·exact .inl h
     ·exact .inr (dh _ h)
theorem MV {q:Pt}:∀ {l a:List Pt},q∈l.foldl (fun a p=>Br p a) a→q∈a∨q∈l
 | [],a,h => .inl h
 | x::l,a,h=>by
   rw[jc] at h;rcases MV h with h | h
   ·rcases O1 h with h | h
    ·exact .inr (h ▸ bK)
    ·exact .inl h
   ·exact .inr (dh _ h)
theorem Gw {b:List Int}:∀ x∈sF b,X6 x:=fun x hx=>by
 obtain⟨p,hp,rfl⟩:=List.mem_map.1 hx;rcases MV hp with h | h
 ·cases h
 ·exact WZ h
theorem PX {l:List rW}(h:rF l=true):Ml l:=fun x hx=>by
 obtain⟨i,hi,rfl⟩:=List.mem_iff_getElem.1 hx;have h1:=(uQ h).2.2 i hi;have e:qM l ((i:Nat):Int)=l[i]:=by
  unfold qM;rw[bf,bn,aQ hi];rfl
 unfold yE at h1;rw[e] at h1;simp only[dx] at h1;have h2:=BL h1.1.1;have h3:=EK h1.1.2;exact⟨by omega,by omega⟩
theorem SS {l:List qJ}(h:∀ x∈l,X6 x)(ht:tot l≤1000000):KL (joinL l):=fun x hx=>by
 obtain⟨⟨s,hs,e⟩,h2⟩:=Au hx;have hq:=h s hs;have h8:=(uQ hq.1).2.1;refine⟨by rw[e];exact PX hq.1,by rw[e];omega,by omega,fun q hq=>?_⟩;obtain⟨y,hy,rfl⟩:=List.mem_map.1 hx;have hq:q∈tY [] y.f1:=hq;rcases zx y.f1 [] hq with h1 | h1
 ·cases h1
 ·obtain⟨s',hs',hq'⟩:=BI l y hy q h1;exact (h s' hs').2.1 q hq'
theorem Rc {l:List qJ}(h:KL l):okB (vB l).1=true:=by
 unfold vB;split
 ·rename_i hc;exact (El (AO h (F8 hc))).1
 ·rfl
theorem QN {m:Nat}(h:m<1152921504606846976):KY m:=fun blk off cap d w R hs=>
 MS.c 76 I6 yQ OO Nv.enters (fun blk off size w=>Nv.lays blk off size w) blk off cap d w R (by omega)
theorem Fz:∀ a b:List qJ,tot (a++b)=tot a+tot b
 | [],b=>by simp[tot]
 | x::a,b=>by rw[gH,tot,tot,Fz a b];omega
theorem Vz (G:List qJ)(i:Nat)(t:List rW):tot (BJ G i t)=tot G:=by
 have h:=gG tot (fA i G);rw[Fz] at h;rw[BJ,Fz,Fz];simp only[tot,fK];omega
theorem Px:∀ (G:List qJ) (i:Nat) (h:i<G.length) (x:qJ),tot (G.set i x)+G[i].f1.length=tot G+x.f1.length
 | y::G,0,_,x=>by
   rw[aI,tot,tot];show x.f1.length+tot G+y.f1.length=_;omega
 | y::G,i+1,h,x=>by
   rw[ay,tot,tot];have:=Px G i (by simpa using h) x;rw[List.getElem_cons_succ];omega
theorem Vy {G:List qJ}{i:Nat}(h:i<G.length)(ss:List qC):tot (Ck G i ss)=tot G+ss.length:=by
 have h1:=Px G i h ⟨(pK G (i:Int)).f0,(pK G (i:Int)).f1++ss⟩;rw[qR h] at h1;rw[Ck,qR h];simp only[bg] at h1;omega
theorem VA (G:List qJ)(t:List rW):tot (uT G t)=tot G:=by
 unfold uT;split
 ·rfl
 ·exact Vz _ _ _
theorem Ul (G:List qJ)(s:qJ):tot (stepG G s)=tot G+s.f1.length:=by
 unfold stepG;split
 ·omega
 ·rw[Vy (AU G s.f0).1,VA]
theorem H9:∀ (l G:List qJ),tot (l.foldl stepG G)=tot G+tot l
 | [],G=>by simp[tot]
 | x::l,G=>by rw[jc,H9 l,Ul,tot];omega
theorem Pw:∀ l:List qJ,tot (l.map (fun x=>⟨x.f0,tN x.f1⟩))≤tot l
 | []=>aD _
 | x::l=>by
   rw[dJ,tot,tot];have h1:=Pw l;have h2:=BZ x.f1;show (tN x.f1).length+_≤_;omega
theorem Q5 (l:List qJ):tot (joinL l)≤tot l:=by
 have h1:=Pw (qZ l);have h2:=H9 l [];have h3:tot ([]:List qJ)=0:=rfl;have h4:tot (qZ l)=tot l:=by rw[qZ,h2,h3,dX]
 rw[← h4];exact h1
theorem Gh (xb:List Int)(N:Nat)(hN:N≤100000000):∀ k,1≤k→(sQ xb (N:Int) k).2.1=false→128≤N
 | 1,_,h=>by
   simp only[sQ] at h;have p2:=vG (l:=xb) (N:=N) (c:=64) (s:=(Iu xb (N:Int) 0).2) hN h;have p1:=vG (l:=xb) (N:=N) (c:=64) (s:=(0,false)) hN p2.1;have e1:vW xb (N:Int) (0,false) 64=Iu xb (N:Int) 0:=rfl;rw[e1] at p1;omega
 | k+2,_,h=>by
   rw[sQ] at h
   by_cases hb:(sQ xb (N:Int) (k+1)).2.1=true
   ·rw[ak hb,hb] at h;exact absurd h (by decide)
   ·exact Gh xb N hN (k+1) (by omega) (by simpa using hb)
theorem Qb {b:List Int}(hlen:b.length≤2500)(h:(xA b).1.length≠0):18≤b.length:=by
 have hi:=Cq (b.drop 2) (8*(b.length-2)) (by omega) (yA 0 (b.take 2));unfold xA at h;split at h
 ·exact absurd rfl h
 ·split at h
  ·rename_i hc;have hk:=(hi.2.2 hc.1).1;have:=Gh (b.drop 2) (8*(b.length-2)) (by omega) (yA 0 (b.take 2)) (by simp only at h;omega) hc.1;omega
  ·exact absurd rfl h
theorem Lu {p:List Int}{s:qJ}(hp:p.length≤1000)(h:zh p=some s):18≤p.length:=by
 unfold zh at h;split at h
 ·cases h
 ·rename_i h1;split at h
  ·cases h
  ·rename_i h2;have hc:=I9 (Decidable.not_not.1 h1);have:=Qb (b:=(rR p).2.1) (by omega) (by omega);omega
theorem N8 {f:Fr}(hf:f.pay.length≤1000)(h:tT f≠none):31≤uW f:=by
 unfold tT at h;split at h
 ·cases hc:zh f.pay with
  | none=>rw[hc] at h;exact absurd rfl h
  | some s=>have:=Lu hf hc;unfold uW;omega
 ·exact absurd rfl h
theorem Kh:∀ (k:Nat) (b:List Int),31*((yB k b).filterMap tT).length≤b.length
 | 0,b=>by simp[yB]
 | k+1,b=>by
   rw[yB];split
   ·simp
   ·split
    ·have:=Kh k (b.drop 1);rw[bB] at this;omega
    ·rename_i f hf;have h1:=(wX hf).1;have h2:=(wX hf).2.1;have h3:=Kh k (b.drop (uW f));rw[bB] at h3;rw[nA];cases hp:tT f with
     | none=>simp only;omega
     | some p=>
       have:=N8 h2 (by rw[hp];exact fun h=>by cases h);simp only[bC];omega
theorem Cy {b:List Int}(hb:b.length≤1300000):y9 b:=by
 have h2:31*(BR b).length≤b.length:=Kh _ b;have h3:(sF b).length=(BR b).length:=by rw[sF,bJ,Bc];exact Hy _ _
 have h5:tot (sF b)≤20*(sF b).length:=by have:=Ia (l:=sF b) (m:=20) (fun x hx=>(Gw x hx).2.2.2);omega
 have h6:=Q5 (sF b);have h7:=SS (fun x hx=>Gw x hx) (show tot (sF b)≤1000000 by omega);have h8:=DU (sF b);exact⟨QN (by omega),by omega,by omega,fun x hx=>by have:=(uQ (Gw x hx).1).2.1;omega,h7,by omega,by omega,Rc h7⟩
theorem Jq:∀ l:List qJ,(qz l).length≤tot l+l.length
 | []=>by simp[qz]
 | x::l=>by
   rw[show qz (x::l)=vI x++qz l from rfl,bg,bC,tot];have h1:=Jq l;have h3:(vI x).length=(x.f1.length+19) / 20:=by simp[vI]
   omega
end Go.Proofs.Y.PA
