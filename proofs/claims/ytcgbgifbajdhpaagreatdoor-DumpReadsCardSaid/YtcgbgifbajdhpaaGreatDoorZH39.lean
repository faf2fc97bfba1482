/- Of the law ZHQDumpReads. -/
import Derived.Test.YtcgbgifbajdhpaaGreatDoorZH35
import Derived.Test.YtcgbgifbajdhpaaGreatDoorZH36
set_option linter.unusedVariables false
set_option linter.unusedSimpArgs false
set_option maxHeartbeats 16000000
set_option maxRecDepth 1000000
namespace Go.Proofs.Y.PA
open Go.Shelf Go.RowKit Go.Lib Go.Sort
theorem sF.right (g:Nat)(cf:EP→EP→Int)(key:EP→Int)(hcf:∀ x y,cf x y<0↔key x<key y)(eg:∀ args w,(callFunc g args).run Tryz.prog w = .ok (.enter g args) w)
 (blk off cap:Nat) (d0:Array EP) (w0:World) (R:Go.Proofs.RowK qE 3 w0 blk off d0) (hC:CmpLays Tryz.prog g #[] qE 3 cf blk off d0.size w0) (hsz:d0.size<4611686018427387904)
 (a m b:Nat) (d:Array EP) (w:World) (hmb:b=m+1) (hs:d.size=d0.size) (S:SWK qE 3 w0 blk off d w) (h1:m≠a+1) (ha:a<m) (hb:b≤d0.size) (hA:uV key d a m) :
 Calls Tryz.prog 135 #[.slice (some ⟨blk,off,none⟩) d0.size cap,.int .i64 (a),.int .i64 (m),.int .i64 (b),.func (.func g) #[] #[]] w fun e w'=>e = .returned (.tuple #[])∧∃ d',SWK qE 3 w0 blk off d' w'∧MG key d a b d'∧uV key d' a b:=by
 have mixed:Tryz.prog.follows .mixedOrders=true:=by kernel_rfl
 have S0:Aside (SWK qE 3 w0 blk off d w):=S;have HC:=Y7 hC;have HCF:=Y7 hcf;have SA:=Y7 hA;clear S hC hcf hA;have h1z:¬ (m:Int)-(a:Int)=1:=by omega
 have h1b:((m:Int)-(a:Int)==1)=false:=beq_eq_false_iff_ne.2 h1z;have h2z:(b:Int)-(m:Int)=1:=by omega
 have m1:b≤m+1:=by omega
 have m2:m+1≤b:=by omega
 have HMB:=Y7 hmb;clear hmb h1
 go_enter Tryz.func135,Tryz.ntmps135
 go_wp2
 go_loopg [14,15] (m-a) (fun kx s10 s11 wr=>∃ (i j:Nat),s10 = .int .i64 i∧s11 = .int .i64 j∧a≤i∧i≤j∧j≤m∧j-i≤kx∧Aside (SWK qE 3 w0 blk off d wr)∧Aside (a<i→key d[i-1]! ≤ key d[m]!)∧Aside (j<m→key d[m]! < key d[j]!))
 case atStart=>exact⟨a,m,rfl,rfl,ay _,by omega,ay _,ay _,S0,(fun h=>by omega),(fun h=>by omega)⟩
 case round=>
  clear S0;obtain⟨i,j,rfl,rfl,hai,hij,hjb,hkx,S1,HL,HR⟩:=hrel
  by_cases hlt:i<j
  ·have hltz:(i:Int)<(j:Int):=by omega
   have c0:=fun n' os'=>(qX S1.o R hs ((i+j) / 2) (by omega) n' os').1
   have c1:=fun n' os'=>(qX S1.o R hs ((i+j) / 2) (by omega) n' os').2.1
   have c2:=fun n' os'=>(qX S1.o R hs ((i+j) / 2) (by omega) n' os').2.2
   have e0:=fun n' os'=>(qX S1.o R hs m (by omega) n' os').1
   have e1:=fun n' os'=>(qX S1.o R hs m (by omega) n' os').2.1
   have e2:=fun n' os'=>(qX S1.o R hs m (by omega) n' os').2.2
   have hc:=fun n' os'=>EF S1.o HC.o hs d[m]! d[(i+j) / 2]! n' os'
   have pa:(0:Int)≤((i:Int)+(j:Int)) / 2:=by omega
   have ba:((i:Int)+(j:Int)) / 2<(d0.size:Int):=by omega
   have ea:(((i:Int)+(j:Int)) / 2).toNat=(i+j) / 2:=by omega
   have b1:(m:Int)<(d0.size:Int):=by omega
   cases hv:decide (cf d[m]! d[(i+j) / 2]! < 0) with
   | false=>
     have HX:=Y7 (fun h=>dF hv ((HCF.o _ _).2 h));generalize d[(i+j) / 2]! = y at c0 c1 c2 hc hv;generalize d[m]! = x at e0 e1 e2 hc hv
     go_wp2_with fail
     go_quiet_grown (first|(go_at_fn g;refine eG (hc _ _)))
     have S2:Aside (SWK qE 3 w0 blk off d (grow (wr.drewN nq) osq)):=S1.o.grown nq osq;clear c0 c1 c2 e0 e1 e2 hc S1;generalize grow (wr.drewN nq) osq=w2 at S2 ⊢;clear nq osq;go_wp2
     go_roundg (j-((i+j) / 2+1))
     case measure=>omega
     case rel=>exact⟨(i+j) / 2+1,j,by go_num,rfl,by omega,by omega,hjb,ay _,S2,(fun _=>Int.not_lt.1 HX.o),HR⟩
   | true=>
     have HX:=Y7 ((HCF.o _ _).1 (aJ hv));generalize d[(i+j) / 2]! = y at c0 c1 c2 hc hv;generalize d[m]! = x at e0 e1 e2 hc hv
     go_wp2_with fail
     go_quiet_grown (first|(go_at_fn g;refine eG (hc _ _)))
     have S2:Aside (SWK qE 3 w0 blk off d (grow (wr.drewN nq) osq)):=S1.o.grown nq osq;clear c0 c1 c2 e0 e1 e2 hc S1;generalize grow (wr.drewN nq) osq=w2 at S2 ⊢;clear nq osq;go_wp2
     go_roundg ((i+j) / 2-i)
     case measure=>omega
     case rel=>exact⟨i,(i+j) / 2,rfl,by go_num,hai,by omega,by omega,ay _,S2,HL,(fun _=>HX.o)⟩
  ·obtain rfl:i=j:=by omega
   have hltz:¬ (i:Int)<(i:Int):=by omega
   go_wp2
   go_loopg [17] (m-i) (fun kx s13 wr=>∃ (k:Nat) (dk:Array EP),s13 = .int .i64 k∧i≤k∧k≤m∧k-i≤kx∧dk.size=d0.size∧Aside (SWK qE 3 w0 blk off dk wr)∧Aside (∀ t,dk[t]! = d[sP k m (m+1) t]!))
   case atStart=>exact⟨m,d,rfl,by omega,by omega,ay _,hs,S1,(fun t=>by rw[zT m m (m+1) t (by omega) (by omega) (by omega)])⟩
   case round=>
    clear S1;obtain⟨k,dk,rfl,hak,hki,aeG,hds,S2,HK⟩:=hrel
    by_cases hlt2:i<k
    ·obtain⟨kp,rfl⟩:∃ kp,k=kp+1:=⟨k-1,by omega⟩;have aaY:((kp+1:Nat):Int)>(i:Int):=by omega
     have aaZ:(i:Int)<(kp:Int)+1:=by omega
     have ew:((kp:Int)+1).toNat=kp+1:=by omega
     have ew2:((kp:Int)+1-1).toNat=kp:=by omega
     have pw:(0:Int)≤(kp:Int)+1:=by omega
     have bw:(kp:Int)+1<(d0.size:Int):=by omega
     have bw2:(kp:Int)<(d0.size:Int):=by omega
     obtain⟨p0,p1,p2,_,_,_⟩:=uG S2.o.drew R (by omega) (kp+1) (by omega);obtain⟨q0,q1,q2,_,_,_⟩:=uG S2.o.drew R (by omega) kp (by omega);obtain⟨_,_,_,f2,f3,f4⟩:=uG S2.o R (by omega) (kp+1) (by omega);obtain⟨_,_,_,g2,g3,g4⟩:=uG S2.o R (by omega) kp (by omega);have q3:=fun u v x=>(vv S2.o R (by omega) (kp+1) kp (by omega) (by omega) u v x).1
     have q4:=fun u v x=>(vv S2.o R (by omega) (kp+1) kp (by omega) (by omega) u v x).2.1
     have q5:=fun u v x=>(vv S2.o R (by omega) (kp+1) kp (by omega) (by omega) u v x).2.2
     have S3:Aside (SWK qE 3 w0 blk off (swp dk (kp+1) kp) (Ee wr blk off (kp+1) kp dk[kp]! dk[kp+1]!)):=Fx S2.o R (kp+1) kp (by omega) (by omega);clear S2;generalize dk[kp+1]! = X at *;generalize dk[kp]! = Y at *
     go_wp2_with fail
     go_big_region_o
     clear p0 p1 p2 q0 q1 q2 f2 f3 f4 g2 g3 g4 q3 q4 q5;rw[Hw];generalize Ee wr blk off (kp+1) kp Y X=w2 at S3 ⊢;go_wp2
     go_roundg (kp-i)
     case measure=>omega
     case rel=>exact⟨kp,swp dk (kp+1) kp,by go_num,by omega,by omega,ay _,by rw[kW];exact hds,S3,Nv (by omega) (by omega) (by omega) HK.o⟩
    ·have aaY:¬ ((k:Nat):Int)>(i:Int):=by omega
     have aaZ:¬ (i:Int)<(k:Int):=by omega
     go_wp2;have hmb:=HMB.o;subst hmb;have he:=JJ (key:=key) (d:=d) (d1:=dk) (a:=a) (i:=i) (m:=m) (by omega) hai hjb SA.o (by omega) (fun t=>by rw[HK.o,show k=i from by omega]) HL.o HR.o
     (try simp only[Exit.inBlock,Exit.then]);refine bf (dQ rfl _ _ _) rfl ?_
     exact⟨rfl,dk,S2.o,he.1,he.2⟩
theorem sF.t43 (g:Nat)(cf:EP→EP→Int)(key:EP→Int)(blk off cap:Nat)(d0:Array EP)(w0:World)(R:Go.Proofs.RowK qE 3 w0 blk off d0)(hsz:d0.size<4611686018427387904)(n:Nat)(hIH:Bl g cf key blk off cap d0 w0 n)
 (a m b q i e:Nat) (d:Array EP) (w:World) (hn:b-a≤n+1) (hs:d.size=d0.size) (hm:m<b) (hb:b≤d0.size) (q1:2*q≤a+b) (q2:a+b≤2*q+1) (ZW:a≤i) (him:i≤m) (E1:e+i=q+m) (e3:m≤e) (e4:e≤b) (e5:i≤q) (e6:q≤e) (hA:uV key d a m) (hB:uV key d m b) (hL:a<i→e<b→key d[i-1]! ≤ key d[e]!) (hR:i<m→m<e→key d[e-1]! < key d[i]!) (d1 d2:Array EP) (hz1:d1.size=d0.size) (hp1:∀ t,d1[t]! = d[sP i m e t]!) (k2:MG key d1 a q d2) (s2:uV key d2 a q) (t1:∀ x y,q≤x→x<y→y<e→key d2[x]! ≤ key d2[y]!) (t2:∀ x y,e≤x→x<y→y<b→key d2[x]! ≤ key d2[y]!) (S:SWK qE 3 w0 blk off d2 w)
 {u5 u6 u7 u8 u9 u10 u11 u12 u13 u14 u15 u16 u17 u19 u21 u22 u23 u25 u26 u27 u28 u29 u30 u31 u32 u33 u34 u35 u36 u37 u38 u39 u40 u41 u42 u43 u44 u45 u46 u47 u48 u49 u50 u51 u52 u53 u54 u55 u56 u57 u58 u59 u60 u61 u62 u63 u64 u65 u66 u67 u68 u69 u70 u71 u72 u73 u74 u75 u76 u77 u78 u79 u80 u81 u82 u83 u84 u85 u86 u87 u88 u89 u90 u91 u92 u93 u94 u95 u96 u97 u98 u99 abC abD abE abF abG u105 abH abI abJ abK abL abM abN abO abP abQ abR abS abT u119 abU aa3 aa4 aa5 u124 abV abW u127 abX abY abZ u131 ab0 ab1 ab2 ab3 ab4 ab5 u138 u139 ab6 ab7 ab8 ab9 acd ace acf acg ach aci acj acn u152 aco u154 acp acr acs acu acv acw acy u162 acz u164 acA acB acC acD acE acF acG acH acI acJ acK acL acM acN acO acP acQ acR acS acT acU acV acW acX acY acZ ac0 ac1 u193 u194 ac2 u196 ac3 u198 ac4 ac5 u201 ac6 ac7 ac8 ac9 u206 ada u208 adb u210 ade adf adg adh adi adj adk adl adn:Value} :
 Code.wp Tryz.prog (XT 11 (Tryz.f135.body.getD .skip)) (bodyPost Tryz.prog Tryz.f135 fun e w'=>e = .returned (.tuple #[])∧∃ d',SWK qE 3 w0 blk off d' w'∧MG key d a b d'∧uV key d' a b) ⟨List.toArray ((.slice (some ⟨blk,off,none⟩) d0.size cap:Value)::(.int .i64 a:Value)::(.int .i64 m:Value)::(.int .i64 b:Value)::(.func (.func g) #[] #[]:Value)::u5::u6::u7::u8::u9::u10::u11::u12::u13::u14::u15::u16::u17::(.int .i64 q:Value)::u19::(.int .i64 i:Value)::u21::u22::u23::(.int .i64 e:Value)::u25::u26::u27::u28::u29::u30::u31::u32::u33::u34::u35::u36::u37::u38::u39::u40::u41::u42::u43::u44::u45::u46::u47::u48::u49::u50::u51::u52::u53::u54::u55::u56::u57::u58::u59::u60::u61::u62::u63::u64::u65::u66::u67::u68::u69::u70::u71::u72::u73::u74::u75::u76::u77::u78::u79::u80::u81::u82::u83::u84::u85::u86::u87::u88::u89::u90::u91::u92::u93::u94::u95::u96::u97::u98::u99::abC::abD::abE::abF::abG::u105::abH::abI::abJ::abK::abL::abM::abN::abO::abP::abQ::abR::abS::abT::u119::abU::aa3::aa4::aa5::u124::abV::abW::u127::abX::abY::abZ::u131::ab0::ab1::ab2::ab3::ab4::ab5::u138::u139::ab6::ab7::ab8::ab9::acd::ace::acf::acg::ach::aci::acj::acn::u152::aco::u154::acp::acr::acs::acu::acv::acw::acy::u162::acz::u164::acA::acB::acC::acD::acE::acF::acG::acH::acI::acJ::acK::acL::acM::acN::acO::acP::acQ::acR::acS::acT::acU::acV::acW::acX::acY::acZ::ac0::ac1::u193::u194::ac2::u196::ac3::u198::ac4::ac5::u201::ac6::ac7::ac8::ac9::u206::ada::u208::adb::u210::ade::adf::adg::adh::adi::adj::adk::adl::adn::[]),[]⟩ w:=by
 have mixed:Tryz.prog.follows .mixedOrders=true:=by kernel_rfl
 have IH:=Y7 hIH;have SA:=Y7 hA;have SB:=Y7 hB;have HLL:=Y7 hL;have HRR:=Y7 hR;clear hIH hA hB hL hR;have T3:Aside (SWK qE 3 w0 blk off d2 w):=S;have HP1:=Y7 hp1;have K2:=Y7 k2;have S2:=Y7 s2;have HD2:=Y7 (And.intro t1 t2);clear hp1 k2 s2 t1 t2 S
 conv=>arg 2;whnf
 go_upto_region 43 with (fail)
 rename_i hK
 go_cut [213] (fun v wx=>∃ bv:Bool,v = .bool bv∧YW.oO.oM (bv=decide ((q<e)∧(e<b)))∧YW.oO.oM (wx=w))
 case first=>
  by_cases g1:q<e
  ·have g1z:(q:Int)<(e:Int):=by omega
   by_cases g2:e<b
   ·have g2z:(e:Int)<(b:Int):=by omega
    go_wp2_with fail
    go_meet
    exact⟨true,rfl,⟨(aC ⟨g1,g2⟩).symm⟩,⟨rfl⟩⟩
   ·have g2z:¬ (e:Int)<(b:Int):=by omega
    go_wp2_with fail
    go_meet
    exact⟨false,rfl,⟨(aD (fun h=>g2 h.2)).symm⟩,⟨rfl⟩⟩
  ·have g1z:¬ (q:Int)<(e:Int):=by omega
   go_wp2_with fail
   go_meet
   exact⟨false,rfl,⟨(aD (fun h=>g1 h.1)).symm⟩,⟨rfl⟩⟩
 case rest=>
  obtain⟨bv,rfl,hbv,hw1⟩:=hcut;have T4:Aside (SWK qE 3 w0 blk off d2 wc):=by rw[hw1.o];exact T3
  clear T3 hw1;cases bv
  rotate_left
  ·have hr:q<e∧e<b:=aJ hbv.o.symm;have HR0:=Y7 (IH.o q e b d2 wc (by omega) (K2.o.1.trans hz1) T4.o hr.1 hr.2 (by omega) HD2.o.1 HD2.o.2);clear hr
   go_wp2_with (first|(go_at_call 135;refine HR0.o.mono ?_;rintro _ w1 ⟨rfl,d3,hS,hp1⟩;have T5:Aside (SWK qE 3 w0 blk off d3 w1):=hS;have HP3:=Y7 hp1;clear hS hp1))
   go_end0;have hf:=yg (key:=key) (d:=d) (d1:=d1) (d2:=d2) (d3:=d3) (a:=a) (s:=i) (m:=m) (e:=e) (b:=b) (q:=q) (by omega) ZW him e3 e4 (by omega) SA.o SB.o (by omega) HP1.o HLL.o HRR.o K2.o S2.o HP3.o.1 HP3.o.2;exact⟨rfl,d3,T5.o,hf.1,hf.2⟩
  ·have hr:¬ (q<e∧e<b):=dF hbv.o.symm;have HQ3:=Y7 (show uV key d2 q b from by
    by_cases hqe:q<e
    ·have:b=e:=by omega
     subst this;exact HD2.o.1
    ·have:q=e:=by omega
     subst this;exact HD2.o.2)
   clear hr;go_wp2;go_end0;have hf:=yg (key:=key) (d:=d) (d1:=d1) (d2:=d2) (d3:=d2) (a:=a) (s:=i) (m:=m) (e:=e) (b:=b) (q:=q) (by omega) ZW him e3 e4 (by omega) SA.o SB.o (by omega) HP1.o HLL.o HRR.o K2.o S2.o (MG.refl _ _ _) HQ3.o;exact⟨rfl,d2,T4.o,hf.1,hf.2⟩
theorem sF.t41 (g:Nat)(cf:EP→EP→Int)(key:EP→Int)(blk off cap:Nat)(d0:Array EP)(w0:World)(R:Go.Proofs.RowK qE 3 w0 blk off d0)(hsz:d0.size<4611686018427387904)(n:Nat)(hIH:Bl g cf key blk off cap d0 w0 n)
 (a m b q i e:Nat) (d:Array EP) (w:World) (hn:b-a≤n+1) (hs:d.size=d0.size) (hm:m<b) (hb:b≤d0.size) (q1:2*q≤a+b) (q2:a+b≤2*q+1) (ZW:a≤i) (him:i≤m) (E1:e+i=q+m) (e3:m≤e) (e4:e≤b) (e5:i≤q) (e6:q≤e) (hA:uV key d a m) (hB:uV key d m b) (hL:a<i→e<b→key d[i-1]! ≤ key d[e]!) (hR:i<m→m<e→key d[e-1]! < key d[i]!) (d1:Array EP) (hz1:d1.size=d0.size) (hp1:∀ t,d1[t]! = d[sP i m e t]!) (S:SWK qE 3 w0 blk off d1 w)
 {u5 u6 u7 u8 u9 u10 u11 u12 u13 u14 u15 u16 u17 u19 u21 u22 u23 u25 u26 u27 u28 u29 u30 u31 u32 u33 u34 u35 u36 u37 u38 u39 u40 u41 u42 u43 u44 u45 u46 u47 u48 u49 u50 u51 u52 u53 u54 u55 u56 u57 u58 u59 u60 u61 u62 u63 u64 u65 u66 u67 u68 u69 u70 u71 u72 u73 u74 u75 u76 u77 u78 u79 u80 u81 u82 u83 u84 u85 u86 u87 u88 u89 u90 u91 u92 u93 u94 u95 u96 u97 u98 u99 abC abD abE abF abG u105 abH abI abJ abK abL abM abN abO abP abQ abR abS abT u119 abU aa3 aa4 aa5 u124 abV abW u127 abX abY abZ u131 ab0 ab1 ab2 ab3 ab4 ab5 u138 u139 ab6 ab7 ab8 ab9 acd ace acf acg ach aci acj acn u152 aco u154 acp acr acs acu acv acw acy u162 acz u164 acA acB acC acD acE acF acG acH acI acJ acK acL acM acN acO acP acQ acR acS acT acU acV acW acX acY acZ ac0 ac1 u193 u194 ac2 u196 ac3 u198 ac4 ac5 u201 ac6 ac7 ac8 ac9 u206 ada u208 adb u210 ade adf adg adh adi adj adk adl adn:Value} :
 Code.wp Tryz.prog (XT 10 (Tryz.f135.body.getD .skip)) (bodyPost Tryz.prog Tryz.f135 fun e w'=>e = .returned (.tuple #[])∧∃ d',SWK qE 3 w0 blk off d' w'∧MG key d a b d'∧uV key d' a b) ⟨List.toArray ((.slice (some ⟨blk,off,none⟩) d0.size cap:Value)::(.int .i64 a:Value)::(.int .i64 m:Value)::(.int .i64 b:Value)::(.func (.func g) #[] #[]:Value)::u5::u6::u7::u8::u9::u10::u11::u12::u13::u14::u15::u16::u17::(.int .i64 q:Value)::u19::(.int .i64 i:Value)::u21::u22::u23::(.int .i64 e:Value)::u25::u26::u27::u28::u29::u30::u31::u32::u33::u34::u35::u36::u37::u38::u39::u40::u41::u42::u43::u44::u45::u46::u47::u48::u49::u50::u51::u52::u53::u54::u55::u56::u57::u58::u59::u60::u61::u62::u63::u64::u65::u66::u67::u68::u69::u70::u71::u72::u73::u74::u75::u76::u77::u78::u79::u80::u81::u82::u83::u84::u85::u86::u87::u88::u89::u90::u91::u92::u93::u94::u95::u96::u97::u98::u99::abC::abD::abE::abF::abG::u105::abH::abI::abJ::abK::abL::abM::abN::abO::abP::abQ::abR::abS::abT::u119::abU::aa3::aa4::aa5::u124::abV::abW::u127::abX::abY::abZ::u131::ab0::ab1::ab2::ab3::ab4::ab5::u138::u139::ab6::ab7::ab8::ab9::acd::ace::acf::acg::ach::aci::acj::acn::u152::aco::u154::acp::acr::acs::acu::acv::acw::acy::u162::acz::u164::acA::acB::acC::acD::acE::acF::acG::acH::acI::acJ::acK::acL::acM::acN::acO::acP::acQ::acR::acS::acT::acU::acV::acW::acX::acY::acZ::ac0::ac1::u193::u194::ac2::u196::ac3::u198::ac4::ac5::u201::ac6::ac7::ac8::ac9::u206::ada::u208::adb::u210::ade::adf::adg::adh::adi::adj::adk::adl::adn::[]),[]⟩ w:=by
 have mixed:Tryz.prog.follows .mixedOrders=true:=by kernel_rfl
 have IH:=Y7 hIH;have SA:=Y7 hA;have SB:=Y7 hB;have HLL:=Y7 hL;have HRR:=Y7 hR;clear hIH hA hB hL hR;have T1:Aside (SWK qE 3 w0 blk off d1 w):=S;have HP1:=Y7 hp1;clear hp1 S;have HRS:=Y7 (show (∀ x y,a≤x→x<y→y<i→key d1[x]! ≤ key d1[y]!)∧(∀ x y,i≤x→x<y→y<q→key d1[x]! ≤ key d1[y]!)∧(∀ x y,q≤x→x<y→y<e→key d1[x]! ≤ key d1[y]!)∧(∀ x y,e≤x→x<y→y<b→key d1[x]! ≤ key d1[y]!) from by
  refine⟨fun x y x1 x2 x3=>?_,fun x y x1 x2 x3=>?_,fun x y x1 x2 x3=>?_,fun x y x1 x2 x3=>?_⟩
  ·rw[HP1.o,HP1.o,show sP i m e x=x from by unfold sP;(repeat' split)<;>omega,show sP i m e y=y from by unfold sP;(repeat' split)<;>omega];exact SA.o _ _ x1 x2 (by omega)
  ·rw[HP1.o,HP1.o,show sP i m e x=m+(x-i) from by unfold sP;(repeat' split)<;>omega,show sP i m e y=m+(y-i) from by unfold sP;(repeat' split)<;>omega];exact SB.o _ _ (by omega) (by omega) (by omega)
  ·rw[HP1.o,HP1.o,show sP i m e x=x-(e-m) from by unfold sP;(repeat' split)<;>omega,show sP i m e y=y-(e-m) from by unfold sP;(repeat' split)<;>omega];exact SA.o _ _ (by omega) (by omega) (by omega)
  ·rw[HP1.o,HP1.o,show sP i m e x=x from by unfold sP;(repeat' split)<;>omega,show sP i m e y=y from by unfold sP;(repeat' split)<;>omega];exact SB.o _ _ (by omega) (by omega) (by omega))
 conv=>arg 2;whnf
 go_upto_region 41 with (fail)
 rename_i hK
 go_cut [199] (fun v wx=>∃ bv:Bool,v = .bool bv∧YW.oO.oM (bv=decide ((a<i)∧(i<q)))∧YW.oO.oM (wx=w))
 case first=>
  by_cases g1:a<i
  ·have g1z:(a:Int)<(i:Int):=by omega
   by_cases g2:i<q
   ·have g2z:(i:Int)<(q:Int):=by omega
    go_wp2_with fail
    go_meet
    exact⟨true,rfl,⟨(aC ⟨g1,g2⟩).symm⟩,⟨rfl⟩⟩
   ·have g2z:¬ (i:Int)<(q:Int):=by omega
    go_wp2_with fail
    go_meet
    exact⟨false,rfl,⟨(aD (fun h=>g2 h.2)).symm⟩,⟨rfl⟩⟩
  ·have g1z:¬ (a:Int)<(i:Int):=by omega
   go_wp2_with fail
   go_meet
   exact⟨false,rfl,⟨(aD (fun h=>g1 h.1)).symm⟩,⟨rfl⟩⟩
 case rest=>
  obtain⟨bv,rfl,hbv,hw1⟩:=hcut;have T2:Aside (SWK qE 3 w0 blk off d1 wc):=by rw[hw1.o];exact T1
  clear T1 hw1;generalize wc=wa2 at *
  go_upto_if 199 with (fail)
  rename_i hK2
  go_cut [] (fun wx=>∃ d2,Aside (SWK qE 3 w0 blk off d2 wx)∧YW.oO.oM (MG key d1 a q d2∧uV key d2 a q))
  case first=>
   cases bv
   rotate_left
   ·have hr:a<i∧i<q:=aJ hbv.o.symm;have HR0:=Y7 (IH.o a i q d1 wa2 (by omega) hz1 T2.o hr.1 hr.2 (by omega) HRS.o.1 HRS.o.2.1);clear hr
    go_wp2_with (first|(go_at_call 135;refine HR0.o.mono ?_;rintro _ w1 ⟨rfl,d2,hS,hp1⟩;have T3:Aside (SWK qE 3 w0 blk off d2 w1):=hS;have HP2:=Y7 hp1;clear hS hp1))
    go_meet
    exact⟨d2,T3,HP2⟩
   ·have hr:¬ (a<i∧i<q):=dF hbv.o.symm;have HN:=Y7 hr;clear hr;go_wp2
    go_meet
    refine⟨d1,T2,⟨MG.refl _ _ _,?_⟩⟩;have hr:=HN.o
    by_cases hai2:a<i
    ·have:q=i:=by omega
     subst this;exact HRS.o.1
    ·have:a=i:=by omega
     subst this;exact HRS.o.2.1
  case rest=>
   obtain⟨d2,T3,HP2⟩:=hcut;refine hK2 _ _ ?_;exact sF.t43 g cf key blk off cap d0 w0 R hsz n IH.o a m b q i e d _ hn hs hm hb q1 q2 ZW him E1 e3 e4 e5 e6 SA.o SB.o HLL.o HRR.o d1 d2 hz1 HP1.o HP2.o.1 HP2.o.2
    (fun x y x1 x2 x3=>by rw[HP2.o.1.2.1 x (.inr x1),HP2.o.1.2.1 y (.inr (by omega))];exact HRS.o.2.2.1 x y x1 x2 x3) (fun x y x1 x2 x3=>by rw[HP2.o.1.2.1 x (.inr (by omega)),HP2.o.1.2.1 y (.inr (by omega))];exact HRS.o.2.2.2 x y x1 x2 x3) T3.o
theorem sF.t39 (g:Nat)(cf:EP→EP→Int)(key:EP→Int)(blk off cap:Nat)(d0:Array EP)(w0:World)(R:Go.Proofs.RowK qE 3 w0 blk off d0)(hsz:d0.size<4611686018427387904)(n:Nat)(hIH:Bl g cf key blk off cap d0 w0 n)
 (a m b q i e:Nat) (d:Array EP) (w:World) (hn:b-a≤n+1) (hs:d.size=d0.size) (S:SWK qE 3 w0 blk off d w) (hm:m<b) (hb:b≤d0.size) (q1:2*q≤a+b) (q2:a+b≤2*q+1) (ZW:a≤i) (him:i≤m) (E1:e+i=q+m) (e3:m≤e) (e4:e≤b) (e5:i≤q) (e6:q≤e) (hA:uV key d a m) (hB:uV key d m b) (hL:a<i→e<b→key d[i-1]! ≤ key d[e]!) (hR:i<m→m<e→key d[e-1]! < key d[i]!)
 {u5 u6 u7 u8 u9 u10 u11 u12 u13 u14 u15 u16 u17 u19 u21 u22 u23 u25 u26 u27 u28 u29 u30 u31 u32 u33 u34 u35 u36 u37 u38 u39 u40 u41 u42 u43 u44 u45 u46 u47 u48 u49 u50 u51 u52 u53 u54 u55 u56 u57 u58 u59 u60 u61 u62 u63 u64 u65 u66 u67 u68 u69 u70 u71 u72 u73 u74 u75 u76 u77 u78 u79 u80 u81 u82 u83 u84 u85 u86 u87 u88 u89 u90 u91 u92 u93 u94 u95 u96 u97 u98 u99 abC abD abE abF abG u105 abH abI abJ abK abL abM abN abO abP abQ abR abS abT u119 abU aa3 aa4 aa5 u124 abV abW u127 abX abY abZ u131 ab0 ab1 ab2 ab3 ab4 ab5 u138 u139 ab6 ab7 ab8 ab9 acd ace acf acg ach aci acj acn u152 aco u154 acp acr acs acu acv acw acy u162 acz u164 acA acB acC acD acE acF acG acH acI acJ acK acL acM acN acO acP acQ acR acS acT acU acV acW acX acY acZ ac0 ac1 u193 u194 ac2 u196 ac3 u198 ac4 ac5 u201 ac6 ac7 ac8 ac9 u206 ada u208 adb u210 ade adf adg adh adi adj adk adl adn:Value} :
 Code.wp Tryz.prog (XT 9 (Tryz.f135.body.getD .skip)) (bodyPost Tryz.prog Tryz.f135 fun e w'=>e = .returned (.tuple #[])∧∃ d',SWK qE 3 w0 blk off d' w'∧MG key d a b d'∧uV key d' a b) ⟨List.toArray ((.slice (some ⟨blk,off,none⟩) d0.size cap:Value)::(.int .i64 a:Value)::(.int .i64 m:Value)::(.int .i64 b:Value)::(.func (.func g) #[] #[]:Value)::u5::u6::u7::u8::u9::u10::u11::u12::u13::u14::u15::u16::u17::(.int .i64 q:Value)::u19::(.int .i64 i:Value)::u21::u22::u23::(.int .i64 e:Value)::u25::u26::u27::u28::u29::u30::u31::u32::u33::u34::u35::u36::u37::u38::u39::u40::u41::u42::u43::u44::u45::u46::u47::u48::u49::u50::u51::u52::u53::u54::u55::u56::u57::u58::u59::u60::u61::u62::u63::u64::u65::u66::u67::u68::u69::u70::u71::u72::u73::u74::u75::u76::u77::u78::u79::u80::u81::u82::u83::u84::u85::u86::u87::u88::u89::u90::u91::u92::u93::u94::u95::u96::u97::u98::u99::abC::abD::abE::abF::abG::u105::abH::abI::abJ::abK::abL::abM::abN::abO::abP::abQ::abR::abS::abT::u119::abU::aa3::aa4::aa5::u124::abV::abW::u127::abX::abY::abZ::u131::ab0::ab1::ab2::ab3::ab4::ab5::u138::u139::ab6::ab7::ab8::ab9::acd::ace::acf::acg::ach::aci::acj::acn::u152::aco::u154::acp::acr::acs::acu::acv::acw::acy::u162::acz::u164::acA::acB::acC::acD::acE::acF::acG::acH::acI::acJ::acK::acL::acM::acN::acO::acP::acQ::acR::acS::acT::acU::acV::acW::acX::acY::acZ::ac0::ac1::u193::u194::ac2::u196::ac3::u198::ac4::ac5::u201::ac6::ac7::ac8::ac9::u206::ada::u208::adb::u210::ade::adf::adg::adh::adi::adj::adk::adl::adn::[]),[]⟩ w:=by
 have mixed:Tryz.prog.follows .mixedOrders=true:=by kernel_rfl
 have IH:=Y7 hIH;have SA:=Y7 hA;have SB:=Y7 hB;have HLL:=Y7 hL;have HRR:=Y7 hR;clear hIH hA hB hL hR;have T0:Aside (SWK qE 3 w0 blk off d w):=S;clear S
 conv=>arg 2;whnf
 go_upto_region 39 with (fail)
 rename_i hK
 go_cut [185] (fun v wx=>∃ bv:Bool,v = .bool bv∧YW.oO.oM (bv=decide ((i<m)∧(m<e)))∧YW.oO.oM (wx=w))
 case first=>
  by_cases g1:i<m
  ·have g1z:(i:Int)<(m:Int):=by omega
   by_cases g2:m<e
   ·have g2z:(m:Int)<(e:Int):=by omega
    go_wp2_with fail
    go_meet
    exact⟨true,rfl,⟨(aC ⟨g1,g2⟩).symm⟩,⟨rfl⟩⟩
   ·have g2z:¬ (m:Int)<(e:Int):=by omega
    go_wp2_with fail
    go_meet
    exact⟨false,rfl,⟨(aD (fun h=>g2 h.2)).symm⟩,⟨rfl⟩⟩
  ·have g1z:¬ (i:Int)<(m:Int):=by omega
   go_wp2_with fail
   go_meet
   exact⟨false,rfl,⟨(aD (fun h=>g1 h.1)).symm⟩,⟨rfl⟩⟩
 case rest=>
  obtain⟨bv,rfl,hbv,hw1⟩:=hcut;have T1:Aside (SWK qE 3 w0 blk off d wc):=by rw[hw1.o];exact T0
  clear T0 hw1;generalize wc=wa at *
  go_upto_if 185 with (fail)
  rename_i hK2
  go_cut [] (fun wx=>∃ d1,Aside (SWK qE 3 w0 blk off d1 wx)∧d1.size=d0.size∧YW.oO.oM (∀ t,d1[t]! = d[sP i m e t]!))
  case first=>
   cases bv
   rotate_left
   ·have hr:i<m∧m<e:=aJ hbv.o.symm;have hr0:=V4.c g blk off cap i m e d0 d w0 wa R hs.symm T1.o hr.1 hr.2 (by omega) (by omega);rw[hs] at hr0;have HR0:=Y7 hr0;clear hr0 hr
    go_wp2_with (first|(go_at_call 153;refine HR0.o.mono ?_;rintro _ w1 ⟨rfl,d1,hS,hz1,hp1⟩;have T2:Aside (SWK qE 3 w0 blk off d1 w1):=hS;have HP1:=Y7 hp1;clear hS hp1))
    go_meet
    exact⟨d1,T2,hz1,HP1⟩
   ·have hr:¬ (i<m∧m<e):=dF hbv.o.symm;have HN:=Y7 hr;clear hr;go_wp2
    go_meet
    exact⟨d,T1,hs,⟨fun t=>by rw[zT i m e t him e3 (by have:=HN.o;omega)]⟩⟩
  case rest=>
   obtain⟨d1,T2,hz1,HP1⟩:=hcut;refine hK2 _ _ ?_;exact sF.t41 g cf key blk off cap d0 w0 R hsz n IH.o a m b q i e d _ hn hs hm hb q1 q2 ZW him E1 e3 e4 e5 e6 SA.o SB.o HLL.o HRR.o d1 hz1 HP1.o T2.o
theorem sF.hi (g:Nat)(cf:EP→EP→Int)(key:EP→Int)(hcf:∀ x y,cf x y<0↔key x<key y)(eg:∀ args w,(callFunc g args).run Tryz.prog w = .ok (.enter g args) w)
 (blk off cap:Nat) (d0:Array EP) (w0:World) (R:Go.Proofs.RowK qE 3 w0 blk off d0) (hC:CmpLays Tryz.prog g #[] qE 3 cf blk off d0.size w0) (hsz:d0.size<4611686018427387904) (n:Nat) (hIH:Bl g cf key blk off cap d0 w0 n)
 (a m b:Nat) (d:Array EP) (w:World) (hn:b-a≤n+1) (hs:d.size=d0.size) (S:SWK qE 3 w0 blk off d w) (h1:m≠a+1) (h2:b≠m+1) (ha:a<m) (hm:m<b) (hb:b≤d0.size) (hq:(a+b) / 2<m) (hA:uV key d a m) (hB:uV key d m b) :
 Calls Tryz.prog 135 #[.slice (some ⟨blk,off,none⟩) d0.size cap,.int .i64 a,.int .i64 m,.int .i64 b,.func (.func g) #[] #[]] w fun e w'=>e = .returned (.tuple #[])∧∃ d',SWK qE 3 w0 blk off d' w'∧MG key d a b d'∧uV key d' a b:=by
 have mixed:Tryz.prog.follows .mixedOrders=true:=by kernel_rfl
 have S0:Aside (SWK qE 3 w0 blk off d w):=S;have HC:=Y7 hC;have HCF:=Y7 hcf;have SA:=Y7 hA;have SB:=Y7 hB;have IH:=Y7 hIH;clear S hC hcf hA hB hIH;have h1z:¬ (m:Int)-(a:Int)=1:=by omega
 have h1b:((m:Int)-(a:Int)==1)=false:=beq_eq_false_iff_ne.2 h1z;have h2z:¬ (b:Int)-(m:Int)=1:=by omega
 have h2b:((b:Int)-(m:Int)==1)=false:=beq_eq_false_iff_ne.2 h2z;obtain⟨q,hqd⟩:∃ q,q=(a+b) / 2:=⟨_,rfl⟩;have Q:((a:Int)+(b:Int)) / 2=(q:Int):=by omega
 have q1:2*q≤a+b:=by omega
 have q2:a+b≤2*q+1:=by omega
 rw[← hqd] at hq;clear hqd h1 h2;obtain⟨s0,hs0⟩:∃ s0,s0=q+m-b:=⟨_,rfl⟩;have Z0:(q:Int)+(m:Int)-(b:Int)=(s0:Int):=by omega
 have Z1:s0+b=q+m:=by omega
 have Z2:(m:Int)>(q:Int):=by omega
 clear hs0
 go_enter Tryz.func135,Tryz.ntmps135
 go_wp2
 go_loopg [20,21] (q-s0) (fun kx s20 s21 wr=>∃ (i j:Nat),s20 = .int .i64 i∧s21 = .int .i64 j∧s0≤i∧i≤j∧j≤q∧j-i≤kx∧Aside (SWK qE 3 w0 blk off d wr)∧Aside (s0<i→key d[i-1]! ≤ key d[q+m-i]!)∧Aside (j<q→key d[q+m-1-j]! < key d[j]!))
 case atStart=>exact⟨s0,q,rfl,rfl,ay _,by omega,ay _,ay _,S0,(fun h=>by omega),(fun h=>by omega)⟩
 case round=>
  clear S0;obtain⟨i,j,rfl,rfl,hai,hij,hjb,hkx,S1,HL,HR⟩:=hrel
  by_cases hlt:i<j
  ·have hltz:(i:Int)<(j:Int):=by omega
   obtain⟨c,hcd⟩:∃ c,c=(i+j) / 2:=⟨_,rfl⟩;have C:((i:Int)+(j:Int)) / 2=(c:Int):=by omega
   have c1':i≤c:=by omega
   have c2':c<j:=by omega
   clear hcd;obtain⟨pc,hpd⟩:∃ pc,pc=q+m-1-c:=⟨_,rfl⟩;have PC:(q:Int)+(m:Int)-1-(c:Int)=(pc:Int):=by omega
   have pc1:pc<d0.size:=by omega
   have R1:IntKind.i64.wrap ((q:Int)+(m:Int)-1-(c:Int))=(pc:Int):=by rw[PC,bD];omega
   have R2:IntKind.i64.wrap (pc:Int)=(pc:Int):=by rw[bD];omega
   have pc2:(pc:Int)<(d0.size:Int):=by omega
   have cc2:(c:Int)<(d0.size:Int):=by omega
   have c0:=fun n' os'=>(qX S1.o R hs pc (by omega) n' os').1
   have c1:=fun n' os'=>(qX S1.o R hs pc (by omega) n' os').2.1
   have c2:=fun n' os'=>(qX S1.o R hs pc (by omega) n' os').2.2
   have e0:=fun n' os'=>(qX S1.o R hs c (by omega) n' os').1
   have e1:=fun n' os'=>(qX S1.o R hs c (by omega) n' os').2.1
   have e2:=fun n' os'=>(qX S1.o R hs c (by omega) n' os').2.2
   have hc:=fun n' os'=>EF S1.o HC.o hs d[pc]! d[c]! n' os'
   have HPD:=Y7 hpd;clear hpd;cases hv:decide (cf d[pc]! d[c]! < 0) with
   | false=>
     have HX:=Y7 (fun h=>dF hv ((HCF.o _ _).2 h));generalize d[pc]! = x at c0 c1 c2 hc hv;generalize d[c]! = y at e0 e1 e2 hc hv
     go_wp2_with fail
     go_quiet_grown (first|(go_at_fn g;refine eG (hc _ _)))
     have S2:Aside (SWK qE 3 w0 blk off d (grow (wr.drewN nq) osq)):=S1.o.grown nq osq;clear c0 c1 c2 e0 e1 e2 hc S1;generalize grow (wr.drewN nq) osq=w2 at S2 ⊢;clear nq osq;go_wp2
     go_roundg (j-(c+1))
     case measure=>omega
     case rel=>exact⟨c+1,j,by go_num,rfl,by omega,by omega,hjb,ay _,S2,(fun _=>by rw[show c+1-1=c from rfl,show q+m-(c+1)=pc from by rw[HPD.o];omega];exact Int.not_lt.1 HX.o),HR⟩
   | true=>
     have HX:=Y7 ((HCF.o _ _).1 (aJ hv));generalize d[pc]! = x at c0 c1 c2 hc hv;generalize d[c]! = y at e0 e1 e2 hc hv
     go_wp2_with fail
     go_quiet_grown (first|(go_at_fn g;refine eG (hc _ _)))
     have S2:Aside (SWK qE 3 w0 blk off d (grow (wr.drewN nq) osq)):=S1.o.grown nq osq;clear c0 c1 c2 e0 e1 e2 hc S1;generalize grow (wr.drewN nq) osq=w2 at S2 ⊢;clear nq osq;go_wp2
     go_roundg (c-i)
     case measure=>omega
     case rel=>exact⟨i,c,rfl,rfl,hai,by omega,by omega,ay _,S2,HL,(fun _=>by rw[← HPD.o];exact HX.o)⟩
  ·obtain rfl:i=j:=by omega
   have hltz:¬ (i:Int)<(i:Int):=by omega
   have ZW:a≤i:=by omega
   have him:i≤m:=by omega
   obtain⟨e,hed⟩:∃ e,e=q+m-i:=⟨_,rfl⟩;have E:(q:Int)+(m:Int)-(i:Int)=(e:Int):=by omega
   have E1:e+i=q+m:=by omega
   have HL':a<i→e<b→key d[i-1]! ≤ key d[e]! := fun h1 h2=>by rw[hed];exact HL.o (by omega)
   have HR':i<m→m<e→key d[e-1]! < key d[i]! := fun h1 h2=>by rw[hed,show q+m-i-1=q+m-1-i from by omega];exact HR.o (by omega)
   have HLL:=Y7 HL';have HRR:=Y7 HR';have e3:m≤e:=by omega
   have e4:e≤b:=by omega
   have e5:i≤q:=by omega
   have e6:q≤e:=by omega
   clear HL HR hed HL' HR'
   go_upto_region 38 with (fail)
   rename_i hK;have HE:=Y7 E
   go_cut [24] (fun v wx=>v = .int .i64 (e:Int)∧YW.oO.oM (wx=wr))
   case first=>
    go_wp2_with fail
    go_meet
    exact⟨rfl,⟨rfl⟩⟩
   case rest=>
    obtain⟨rfl,hw1⟩:=hcut;have T0:SWK qE 3 w0 blk off d wc:=by rw[hw1.o];exact S1
    refine hK _ _ ?_;exact sF.t39 g cf key blk off cap d0 w0 R hsz n IH.o a m b q i e d wc hn hs T0 hm hb q1 q2 ZW him E1 e3 e4 e5 e6 SA.o SB.o HLL.o HRR.o
theorem sF.lo (g:Nat)(cf:EP→EP→Int)(key:EP→Int)(hcf:∀ x y,cf x y<0↔key x<key y)(eg:∀ args w,(callFunc g args).run Tryz.prog w = .ok (.enter g args) w)
 (blk off cap:Nat) (d0:Array EP) (w0:World) (R:Go.Proofs.RowK qE 3 w0 blk off d0) (hC:CmpLays Tryz.prog g #[] qE 3 cf blk off d0.size w0) (hsz:d0.size<4611686018427387904) (n:Nat) (hIH:Bl g cf key blk off cap d0 w0 n)
 (a m b:Nat) (d:Array EP) (w:World) (hn:b-a≤n+1) (hs:d.size=d0.size) (S:SWK qE 3 w0 blk off d w) (h1:m≠a+1) (h2:b≠m+1) (ha:a<m) (hm:m<b) (hb:b≤d0.size) (hq:m≤(a+b) / 2) (hA:uV key d a m) (hB:uV key d m b) :
 Calls Tryz.prog 135 #[.slice (some ⟨blk,off,none⟩) d0.size cap,.int .i64 a,.int .i64 m,.int .i64 b,.func (.func g) #[] #[]] w fun e w'=>e = .returned (.tuple #[])∧∃ d',SWK qE 3 w0 blk off d' w'∧MG key d a b d'∧uV key d' a b:=by
 have mixed:Tryz.prog.follows .mixedOrders=true:=by kernel_rfl
 have S0:Aside (SWK qE 3 w0 blk off d w):=S;have HC:=Y7 hC;have HCF:=Y7 hcf;have SA:=Y7 hA;have SB:=Y7 hB;have IH:=Y7 hIH;clear S hC hcf hA hB hIH;have h1z:¬ (m:Int)-(a:Int)=1:=by omega
 have h1b:((m:Int)-(a:Int)==1)=false:=beq_eq_false_iff_ne.2 h1z;have h2z:¬ (b:Int)-(m:Int)=1:=by omega
 have h2b:((b:Int)-(m:Int)==1)=false:=beq_eq_false_iff_ne.2 h2z;obtain⟨q,hqd⟩:∃ q,q=(a+b) / 2:=⟨_,rfl⟩;have Q:((a:Int)+(b:Int)) / 2=(q:Int):=by omega
 have q1:2*q≤a+b:=by omega
 have q2:a+b≤2*q+1:=by omega
 rw[← hqd] at hq;clear hqd h1 h2;have Z2:¬ (m:Int)>(q:Int):=by omega
 go_enter Tryz.func135,Tryz.ntmps135
 go_wp2
 go_loopg [20,21] (m-a) (fun kx s20 s21 wr=>∃ (i j:Nat),s20 = .int .i64 i∧s21 = .int .i64 j∧a≤i∧i≤j∧j≤m∧j-i≤kx∧Aside (SWK qE 3 w0 blk off d wr)∧Aside (a<i→key d[i-1]! ≤ key d[q+m-i]!)∧Aside (j<m→key d[q+m-1-j]! < key d[j]!))
 case atStart=>exact⟨a,m,rfl,rfl,ay _,by omega,ay _,ay _,S0,(fun h=>by omega),(fun h=>by omega)⟩
 case round=>
  clear S0;obtain⟨i,j,rfl,rfl,hai,hij,hjb,hkx,S1,HL,HR⟩:=hrel
  by_cases hlt:i<j
  ·have hltz:(i:Int)<(j:Int):=by omega
   obtain⟨c,hcd⟩:∃ c,c=(i+j) / 2:=⟨_,rfl⟩;have C:((i:Int)+(j:Int)) / 2=(c:Int):=by omega
   have c1':i≤c:=by omega
   have c2':c<j:=by omega
   clear hcd;obtain⟨pc,hpd⟩:∃ pc,pc=q+m-1-c:=⟨_,rfl⟩;have PC:(q:Int)+(m:Int)-1-(c:Int)=(pc:Int):=by omega
   have pc1:pc<d0.size:=by omega
   have R1:IntKind.i64.wrap ((q:Int)+(m:Int)-1-(c:Int))=(pc:Int):=by rw[PC,bD];omega
   have R2:IntKind.i64.wrap (pc:Int)=(pc:Int):=by rw[bD];omega
   have pc2:(pc:Int)<(d0.size:Int):=by omega
   have cc2:(c:Int)<(d0.size:Int):=by omega
   have c0:=fun n' os'=>(qX S1.o R hs pc (by omega) n' os').1
   have c1:=fun n' os'=>(qX S1.o R hs pc (by omega) n' os').2.1
   have c2:=fun n' os'=>(qX S1.o R hs pc (by omega) n' os').2.2
   have e0:=fun n' os'=>(qX S1.o R hs c (by omega) n' os').1
   have e1:=fun n' os'=>(qX S1.o R hs c (by omega) n' os').2.1
   have e2:=fun n' os'=>(qX S1.o R hs c (by omega) n' os').2.2
   have hc:=fun n' os'=>EF S1.o HC.o hs d[pc]! d[c]! n' os'
   have HPD:=Y7 hpd;clear hpd;cases hv:decide (cf d[pc]! d[c]! < 0) with
   | false=>
     have HX:=Y7 (fun h=>dF hv ((HCF.o _ _).2 h));generalize d[pc]! = x at c0 c1 c2 hc hv;generalize d[c]! = y at e0 e1 e2 hc hv
     go_wp2_with fail
     go_quiet_grown (first|(go_at_fn g;refine eG (hc _ _)))
     have S2:Aside (SWK qE 3 w0 blk off d (grow (wr.drewN nq) osq)):=S1.o.grown nq osq;clear c0 c1 c2 e0 e1 e2 hc S1;generalize grow (wr.drewN nq) osq=w2 at S2 ⊢;clear nq osq;go_wp2
     go_roundg (j-(c+1))
     case measure=>omega
     case rel=>exact⟨c+1,j,by go_num,rfl,by omega,by omega,hjb,ay _,S2,(fun _=>by rw[show c+1-1=c from rfl,show q+m-(c+1)=pc from by rw[HPD.o];omega];exact Int.not_lt.1 HX.o),HR⟩
   | true=>
     have HX:=Y7 ((HCF.o _ _).1 (aJ hv));generalize d[pc]! = x at c0 c1 c2 hc hv;generalize d[c]! = y at e0 e1 e2 hc hv
     go_wp2_with fail
     go_quiet_grown (first|(go_at_fn g;refine eG (hc _ _)))
     have S2:Aside (SWK qE 3 w0 blk off d (grow (wr.drewN nq) osq)):=S1.o.grown nq osq;clear c0 c1 c2 e0 e1 e2 hc S1;generalize grow (wr.drewN nq) osq=w2 at S2 ⊢;clear nq osq;go_wp2
     go_roundg (c-i)
     case measure=>omega
     case rel=>exact⟨i,c,rfl,rfl,hai,by omega,by omega,ay _,S2,HL,(fun _=>by rw[← HPD.o];exact HX.o)⟩
  ·obtain rfl:i=j:=by omega
   have hltz:¬ (i:Int)<(i:Int):=by omega
   have ZW:a≤i:=by omega
   have him:i≤m:=by omega
   obtain⟨e,hed⟩:∃ e,e=q+m-i:=⟨_,rfl⟩;have E:(q:Int)+(m:Int)-(i:Int)=(e:Int):=by omega
   have E1:e+i=q+m:=by omega
   have HL':a<i→e<b→key d[i-1]! ≤ key d[e]! := fun h1 h2=>by rw[hed];exact HL.o (by omega)
   have HR':i<m→m<e→key d[e-1]! < key d[i]! := fun h1 h2=>by rw[hed,show q+m-i-1=q+m-1-i from by omega];exact HR.o (by omega)
   have HLL:=Y7 HL';have HRR:=Y7 HR';have e3:m≤e:=by omega
   have e4:e≤b:=by omega
   have e5:i≤q:=by omega
   have e6:q≤e:=by omega
   clear HL HR hed HL' HR'
   go_upto_region 38 with (fail)
   rename_i hK;have HE:=Y7 E
   go_cut [24] (fun v wx=>v = .int .i64 (e:Int)∧YW.oO.oM (wx=wr))
   case first=>
    go_wp2_with fail
    go_meet
    exact⟨rfl,⟨rfl⟩⟩
   case rest=>
    obtain⟨rfl,hw1⟩:=hcut;have T0:SWK qE 3 w0 blk off d wc:=by rw[hw1.o];exact S1
    refine hK _ _ ?_;exact sF.t39 g cf key blk off cap d0 w0 R hsz n IH.o a m b q i e d wc hn hs T0 hm hb q1 q2 ZW him E1 e3 e4 e5 e6 SA.o SB.o HLL.o HRR.o
theorem sF.step (g:Nat)(cf:EP→EP→Int)(key:EP→Int)(hcf:∀ x y,cf x y<0↔key x<key y)(eg:∀ args w,(callFunc g args).run Tryz.prog w = .ok (.enter g args) w)
 (blk off cap:Nat) (d0:Array EP) (w0:World) (R:Go.Proofs.RowK qE 3 w0 blk off d0) (hC:CmpLays Tryz.prog g #[] qE 3 cf blk off d0.size w0) (hsz:d0.size<4611686018427387904) (n:Nat) (hIH:Bl g cf key blk off cap d0 w0 n):Bl g cf key blk off cap d0 w0 (n+1):=by
 intro a m b d w hn hs S ha hm hb hA hB
 by_cases h1:m=a+1
 ·exact sF.left g cf key hcf eg blk off cap d0 w0 R hC hsz a m b d w h1 hs S (by omega) hb (by rw[← h1];exact hB)
 ·by_cases h2:b=m+1
  ·exact sF.right g cf key hcf eg blk off cap d0 w0 R hC hsz a m b d w h2 hs S h1 ha hb hA
  ·by_cases hq:(a+b) / 2<m
   ·exact sF.hi g cf key hcf eg blk off cap d0 w0 R hC hsz n hIH a m b d w hn hs S h1 h2 ha hm hb hq hA hB
   ·exact sF.lo g cf key hcf eg blk off cap d0 w0 R hC hsz n hIH a m b d w hn hs S h1 h2 ha hm hb (by omega) hA hB
theorem sF.c (g:Nat)(cf:EP→EP→Int)(key:EP→Int)(hcf:∀ x y,cf x y<0↔key x<key y)(eg:∀ args w,(callFunc g args).run Tryz.prog w = .ok (.enter g args) w)
 (blk off cap:Nat) (d0:Array EP) (w0:World) (R:Go.Proofs.RowK qE 3 w0 blk off d0) (hC:CmpLays Tryz.prog g #[] qE 3 cf blk off d0.size w0) (hsz:d0.size<4611686018427387904):∀ n,Bl g cf key blk off cap d0 w0 n
 | 0=>fun a m b d w hn hs S ha hm hb hA hB=>by omega
 | n+1=>sF.step g cf key hcf eg blk off cap d0 w0 R hC hsz n (sF.c g cf key hcf eg blk off cap d0 w0 R hC hsz n)
theorem OZ.c (g:Nat)(cf:EP→EP→Int)(key:EP→Int)(hcf:∀ x y,cf x y<0↔key x<key y)(eg:∀ args w,(callFunc g args).run Tryz.prog w = .ok (.enter g args) w)(hC:∀ blk off size w,CmpLays Tryz.prog g #[] qE 3 cf blk off size w)
 (blk off cap:Nat) (d:Array EP) (w:World) (R:Go.Proofs.RowK qE 3 w blk off d) (hsz:d.size<1152921504606846976) :
 Calls Tryz.prog 113 #[.slice (some ⟨blk,off,none⟩) d.size cap,.int .i64 d.size,.func (.func g) #[] #[]] w fun e w'=>e = .returned (.tuple #[])∧∃ d',SWK qE 3 w blk off d' w'∧MG key d 0 d.size d'∧uV key d' 0 d.size:=by
 have hlt:∀ x y,ltOf cf x y=true↔key x<key y:=fun x y=>by unfold ltOf;rw[jR];exact hcf x y
 have INS:∀ (a b:Nat) (dk:Array EP) (W:World),SWK qE 3 w blk off dk W→dk.size=d.size→a≤b→b≤d.size →
  Calls Tryz.prog 134 #[.slice (some ⟨blk,off,none⟩) d.size cap,.int .i64 a,.int .i64 b,.func (.func g) #[] #[]] W fun e w'=>e = .returned (.tuple #[])∧∃ d',SWK qE 3 w blk off d' w'∧MG key dk a b d'∧uV key d' a b:=fun a b dk W S hs hab hb=>by
  have h:=kS Tryz.PZ 3 TL Qk qE (fun _=>rfl) Ed cf g #[] blk off cap a b dk W eg (hC _ _ _ _) (S.holds R.hblk R.hH hs) (S.lt R.hblk) hab (by omega) (by omega);rw[hs] at h;refine kJ h ?_;rintro e w' ⟨he,n,os,rfl⟩;have hz:(Sort.insertionSort (ltOf cf) dk a b).size=dk.size:=(Fa (fun x y=>(hlt x y).1) dk a b hab (by omega)).1;exact⟨he,_,S.on R.hblk n _ os hz,Fa (fun x y=>(hlt x y).1) dk a b hab (by omega),KO hlt dk a b hab (by omega)⟩
 have IN:=Y7 INS;have SY:=Y7 (fun k=>sF.c g cf key hcf eg blk off cap d w R (hC _ _ _ _) (by omega) k);have S0:Aside (SWK qE 3 w blk off d w):=SWK.start R.hH;have RR:=Y7 R;obtain⟨n,hn⟩:∃ n,n=d.size:=⟨_,rfl⟩;have HN:=Y7 hn;rw[← hn] at IN hsz ⊢;clear INS hlt hcf eg hC R hn
 go_enter Tryz.func113,Tryz.ntmps113
 go_wp2
 go_loopg [7,8] n (fun kx s7 s8 wr=>∃ (a:Nat) (dk:Array EP),s7 = .int .i64 a∧s8 = .int .i64 (a+20:Nat)∧a≤n∧n-a≤kx∧dk.size=n∧Aside (SWK qE 3 w blk off dk wr)∧YW.oO.oM (20∣a)∧Aside (LA key dk 20 a)∧Aside (MG key d 0 n dk))
 case atStart=>exact⟨0,d,rfl,rfl,bP _,by omega,HN.o.symm,S0,⟨kY _⟩,(fun s h1 h2=>by omega),MG.refl _ _ _⟩
 case round=>
  clear S0;obtain⟨a,dk,rfl,rfl,han,hkx,hds,S1,HD,HB,HM⟩:=hrel
  by_cases hlt:a+20≤n
  ·have hltz:((a+20:Nat):Int)≤(n:Int):=by omega
   have hc:=Y7 (IN.o a (a+20) dk wr S1.o (by omega) (by omega) (by omega))
   go_wp2_with (first|(go_at_call 134;refine hc.o.mono ?_;rintro _ w1 ⟨rfl,d1,hS,hm1,hs1⟩;have T1:Aside (SWK qE 3 w blk off d1 w1):=hS;have M1:=Y7 hm1;have R1:=Y7 hs1;clear hS hm1 hs1))
   go_roundg (n-(a+20))
   case measure=>omega
   case rel=>exact⟨a+20,d1,by go_num,by go_num,hlt,ay _,M1.o.1.trans hds,T1,⟨jX HD.o (jD _)⟩,HB.o.step HD.o M1.o R1.o,HM.o.trans (M1.o.wide (bP _) (by omega) (by omega))⟩
  ·have hltz:¬ ((a+20:Nat):Int)≤(n:Int):=by omega
   have aaY:¬ (a:Int)+20≤(n:Int):=by omega
   have hc:=Y7 (IN.o a n dk wr S1.o (by omega) (by omega) (by omega))
   go_wp2_with (first|(go_at_call 134;refine hc.o.mono ?_;rintro _ w1 ⟨rfl,d1,hS,hm1,hs1⟩;have T1:Aside (SWK qE 3 w blk off d1 w1):=hS;have M1:=Y7 hm1;have R1:=Y7 hs1;clear hS hm1 hs1))
   go_loopg [6,7,8,9] n (fun kx s6 s7 s8 s9 wr=>∃ (c:Nat) (dk:Array EP),s6 = .int .i64 c∧20≤c∧(c=20∨c<2*n)∧n-c≤kx∧dk.size=n∧Aside (SWK qE 3 w blk off dk wr)∧Aside (LC key dk c n 0)∧Aside (MG key d 0 n dk))
   case atStart=>exact⟨20,d1,rfl,by omega,.inl rfl,by omega,M1.o.1.trans hds,T1,X3.first (by omega) HB.o HD.o (by omega) (by omega) M1.o R1.o,HM.o.trans (M1.o.wide (bP _) (by omega) (by omega))⟩
   case round=>
    clear S1 T1 M1 R1 HB HM hc HD hkx hds;obtain⟨c,dk,rfl,hc1,hc2,hkx,hds,S1,HB,HM⟩:=hrel
    by_cases hcn:c<n
    ·have air:(c:Int)<(n:Int):=by omega
     go_wp2
     go_loopg [7,8] n (fun kx s7 s8 wr=>∃ (a:Nat) (dk:Array EP),s7 = .int .i64 a∧s8 = .int .i64 ((a:Int)+2*(c:Int))∧a≤n∧n-a≤kx∧dk.size=n∧Aside (SWK qE 3 w blk off dk wr)∧YW.oO.oM (2*c∣a)∧Aside (LA key dk (2*c) a)∧Aside (LC key dk c n a)∧Aside (MG key d 0 n dk))
     case atStart=>exact⟨0,dk,rfl,by go_num,bP _,by omega,hds,S1,⟨kY _⟩,(fun s h1 h2=>by omega),HB,HM⟩
     case round=>
      clear S1 HB HM hds;obtain⟨a,dk,rfl,rfl,han,aeG,hds,S1,HD,HB,HF,HM⟩:=hrel;have dca:c∣a:=Nat.dvd_trans (Nat.dvd_mul_left _ _) HD.o;have HDC:=Y7 dca;clear dca
      by_cases hlt2:a+2*c≤n
      ·have aaZ:((a+2*c:Nat):Int)≤(n:Int):=by omega
       have afY:(a:Int)+2*(c:Int)≤(n:Int):=by omega
       have hA:uV key dk a (a+c):=(HF.o a HDC.o (ay _)).sub (ay _) (by omega);have hB:uV key dk (a+c) (a+2*c):=(HF.o (a+c) (jX HDC.o (jD _)) (by omega)).sub (ay _) (by omega);have hc:=Y7 (SY.o n a (a+c) (a+2*c) dk wr (by omega) (by rw[hds];exact HN.o) S1.o (by omega) (by omega) (by rw[← HN.o];exact hlt2) hA hB);rw[← HN.o,show ((a+c:Nat):Int)=(a:Int)+(c:Int) from by omega,show ((a+2*c:Nat):Int)=(a:Int)+2*(c:Int) from by omega] at hc;clear hA hB
       go_wp2_with (first|(go_at_call 135;refine hc.o.mono ?_;rintro _ w1 ⟨rfl,d1,hS,hm1,hs1⟩;have T1:Aside (SWK qE 3 w blk off d1 w1):=hS;have M1:=Y7 hm1;have R1:=Y7 hs1;clear hS hm1 hs1))
       go_roundg (n-(a+2*c))
       case measure=>omega
       case rel=>exact⟨a+2*c,d1,by go_num,by go_num,hlt2,ay _,M1.o.1.trans hds,T1,⟨jX HD.o (jD _)⟩,HB.o.step HD.o M1.o R1.o,HF.o.step M1.o (by omega),HM.o.trans (M1.o.wide (bP _) (by omega) (by omega))⟩
      ·have aaZ:¬ ((a+2*c:Nat):Int)≤(n:Int):=by omega
       have afY:¬ (a:Int)+2*(c:Int)≤(n:Int):=by omega
       by_cases hm:a+c<n
       ·have hmz:(a:Int)+(c:Int)<(n:Int):=by omega
        have hA:uV key dk a (a+c):=(HF.o a HDC.o (ay _)).sub (ay _) (by omega);have hB:uV key dk (a+c) n:=(HF.o (a+c) (jX HDC.o (jD _)) (by omega)).sub (ay _) (by omega);have hc:=Y7 (SY.o n a (a+c) n dk wr (by omega) (by rw[hds];exact HN.o) S1.o (by omega) (by omega) (by rw[← HN.o];exact ay _) hA hB);rw[← HN.o,show ((a+c:Nat):Int)=(a:Int)+(c:Int) from by omega] at hc;clear hA hB
        go_wp2_with (first|(go_at_call 135;refine hc.o.mono ?_;rintro _ w1 ⟨rfl,d1,hS,hm1,hs1⟩;have T1:Aside (SWK qE 3 w blk off d1 w1):=hS;have M1:=Y7 hm1;have R1:=Y7 hs1;clear hS hm1 hs1))
        go_roundg (n-c*2)
        case measure=>omega
        case rel=>exact⟨c*2,d1,by go_num,by omega,.inr (by omega),by omega,M1.o.1.trans hds,T1,(by rw[dX c 2];exact X3.first (by omega) HB.o HD.o han (by omega) M1.o R1.o),HM.o.trans (M1.o.wide (bP _) (ay _) han)⟩
       ·have hmz:¬ (a:Int)+(c:Int)<(n:Int):=by omega
        have HS:=Y7 (show uV key dk a n from (HF.o a HDC.o (ay _)).sub (ay _) (by omega));go_wp2
        go_roundg (n-c*2)
        case measure=>omega
        case rel=>exact⟨c*2,dk,by go_num,by omega,.inr (by omega),by omega,hds,S1,(by rw[dX c 2];exact X3.first (by omega) HB.o HD.o han (by omega) (MG.refl _ _ _) HS.o),HM⟩
    ·have air:¬ (c:Int)<(n:Int):=by omega
     go_wp2;go_end0;exact⟨rfl,dk,S1.o,HM.o,(HB.o 0 (kY _) (ay _)).sub (ay _) (by omega)⟩
theorem NI.c (g:Nat)(cf:EP→EP→Int)(key:EP→Int)(hcf:∀ x y,cf x y<0↔key x<key y)(eg:∀ args w,(callFunc g args).run Tryz.prog w = .ok (.enter g args) w)(hC:∀ blk off size w,CmpLays Tryz.prog g #[] qE 3 cf blk off size w)
 (blk off cap:Nat) (d:Array EP) (w:World) (R:Go.Proofs.RowK qE 3 w blk off d) (hsz:d.size<1152921504606846976) :
 Calls Tryz.prog 75 #[.slice (some ⟨blk,off,none⟩) d.size cap,.func (.func g) #[] #[]] w fun e w'=>e = .returned (.tuple #[])∧∃ d',SWK qE 3 w blk off d' w'∧MG key d 0 d.size d'∧uV key d' 0 d.size:=by
 have HI:=Y7 (OZ.c g cf key hcf eg hC blk off cap d w R hsz);clear R hsz hcf eg hC;generalize d.size=n at *
 go_enter Tryz.func75,Tryz.ntmps75
 go_wp2_with (first|(go_at_call 113;refine HI.o.mono ?_;rintro e w' ⟨rfl,hw'⟩;have HW:=Y7 hw';clear hw'))
 go_end0;exact⟨rfl,HW.o⟩
end Go.Proofs.Y.PA
namespace Go.Proofs.Y.PA
open Go.RowKit Go.Proofs.Y.G Go.Proofs.YW.oO Go.Proofs.YW.pq Go.Proofs.YW.pz
theorem QJ {b:List Int}(h:(rR b).2.2=0):sI (rR b).1=true∧(rR b).2.1.length≤b.length:=by
 cases b with
 | nil=>exact absurd h (by simp[rR])
 | cons a r=>
   rcases hd:sO r a.toNat with _ | ⟨l,q⟩
   ·have e:rR (a::r)=([],[],3):=by rw[rR];simp only[hd]
    rw[e] at h;exact absurd h (by decide)
   ·by_cases hc:sI l=true
    ·have e:rR (a::r)=(l,q,0):=by rw[rR];simp only[hd];rw[au hc]
     rw[e];have h1:=(yZ hd).2;exact⟨hc,by show q.length≤(a::r).length;rw[bq];omega⟩
    ·have e:rR (a::r)=([],[],5):=by rw[rR];simp only[hd];rw[av hc]
     rw[e] at h;exact absurd h (by decide)
def YJ (p:ru):Prop:=sI p.f0=true∧(∀ s∈p.f1,Bd s)∧1≤p.f1.length∧p.f1.length≤20
theorem QE {p:List Int}{s:ru}(hp:p.length≤1000)(h:wh p=some s):YJ s:=by
 unfold wh at h;split at h
 ·cases h
 ·rename_i h1;split at h
  ·cases h
  ·rename_i h2;injection h with h
   subst h;have hc:=QJ (Decidable.not_not.1 h1);exact⟨hc.1,(KC _ (by omega)).1,by show 1≤(wH (rR p).2.1).1.length;omega,by show (wH (rR p).2.1).1.length≤20;omega⟩
theorem KM:∀ (k:Nat) (b:List Int),∀ f∈yP k b,f.pay.length≤1000
 | 0,b,f,hf=>by simp[yP] at hf
 | k+1,b,f,hf=>by
   rw[yP] at hf;split at hf
   ·simp at hf
   ·split at hf
    ·exact KM k _ f hf
    ·rename_i g hg;rcases List.mem_cons.1 hf with rfl | hf
     ·exact (xK hg).2.1
     ·exact KM k _ f hf
theorem XF {b:List Int}{p:Pt}(h:p∈CP b):YJ p.ser:=by
 obtain⟨f,hf,he⟩:=List.mem_filterMap.1 h;unfold uO at he;split at he
 ·rw[Option.map_eq_some_iff] at he;obtain⟨s,hs,rfl⟩:=he;exact QE (KM _ _ f hf) hs
 ·cases he
theorem P5 {p q:Pt}:∀ {l:List Pt},q∈C8 p l→q=p∨q∈l
 | [],h => .inl (List.mem_singleton.1 h)
 | x::l,h=>by
   rw[C8] at h;split at h
   ·rcases List.mem_cons.1 h with h | h
    ·exact .inl h
    ·exact .inr h
   ·rcases List.mem_cons.1 h with h | h
    ·exact .inr (h ▸ cO)
    ·rcases P5 h with h | h
     ·exact .inl h
     ·exact .inr (dh _ h)
theorem NK {q:Pt}:∀ {l a:List Pt},q∈l.foldl (fun a p=>C8 p a) a→q∈a∨q∈l
 | [],a,h => .inl h
 | x::l,a,h=>by
   rw[jq] at h;rcases NK h with h | h
   ·rcases P5 h with h | h
    ·exact .inr (h ▸ cO)
    ·exact .inl h
   ·exact .inr (dh _ h)
theorem H7 {b:List Int}:∀ x∈qL b,YJ x:=fun x hx=>by
 obtain⟨p,hp,rfl⟩:=List.mem_map.1 hx;rcases NK hp with h | h
 ·cases h
 ·exact XF h
theorem QC {l:List tQ}(h:sI l=true):OB l:=fun x hx=>by
 obtain⟨i,hi,rfl⟩:=List.mem_iff_getElem.1 hx;have h1:=(vB h).2.2 i hi;have e:qN l ((i:Nat):Int)=l[i]:=by
  unfold qN;rw[aG,aV,aR hi];rfl
 unfold zh at h1;rw[e] at h1;simp only[dw] at h1;have h2:=Dz h1.1.1;have h3:=Gc h1.1.2;exact⟨by omega,by omega⟩
theorem RU {l:List ru}{m:Nat}(h:tot l≤m):tot (joinL l)≤l.length*m:=
 bY (O8 (fun x hx=>bY (JF hx).2 h)) (dM m (JE l))
theorem TN {l:List ru}(h:∀ x∈l,YJ x)(ht:tot l≤1000000):Na (joinL l):=fun x hx=>by
 obtain⟨⟨s,hs,e⟩,h2⟩:=JF hx;have hq:=h s hs;have h8:=(vB hq.1).2.1;refine⟨by rw[e];exact QC hq.1,by rw[e];omega,by omega,fun q hq=>?_⟩;obtain⟨y,hy,rfl⟩:=List.mem_map.1 hx;have hq:q∈vO [] y.f1:=hq;rcases IG y.f1 [] hq with h1 | h1
 ·cases h1
 ·obtain⟨s',hs',hq'⟩:=Ov l y hy q h1;exact (h s' hs').2.1 q hq'
theorem R5 {l:List ru}(h:Na l):okB (vP l).1=true:=by
 unfold vP;split
 ·rename_i hc;exact (J8 (Fh h (G8 hc))).1
 ·rfl
theorem Rz {m:Nat}(h:m<1152921504606846976):LM m:=fun blk off cap d w R hs=>
 NI.c 76 Jq zD PI Oj.enters (fun blk off size w=>Oj.lays blk off size w) blk off cap d w R (by omega)
theorem KJ:∀ (k:Nat) (b:List Int),13*(yP k b).length≤b.length
 | 0,b=>by simp[yP]
 | k+1,b=>by
   rw[yP];split
   ·simp
   ·split
    ·have:=KJ k (b.drop 1);rw[aX] at this;omega
    ·rename_i f hf;have h1:=(xK hf).1;have:=KJ k (b.drop (wQ f));rw[aX] at this;unfold wQ at *;rw[bq];omega
theorem VA {b:List Int}(hb:b.length≤1500):yK b:=by
 have h1:(CP b).length≤(tZ b).length:=lq ..;have h2:13*(tZ b).length≤b.length:=KJ _ b;have h3:(qL b).length=(CP b).length:=by rw[qL,bN,zU];exact EC _ _
 have h4:(qL b).length≤116:=by omega
 have h5:tot (qL b)≤2320:=bY (O8 (fun x hx=>(H7 x hx).2.2.2)) (by omega);have h6:tot (joinL (qL b))≤1000000:=bY (RU h5) (by omega);have h7:=TN (fun x hx=>H7 x hx) (show tot (qL b)≤1000000 by omega);have h8:=JE (qL b);exact⟨Rz (by omega),by omega,by omega,fun x hx=>by have:=(vB (H7 x hx).1).2.1;omega,h7,by omega,h6,R5 h7⟩
end Go.Proofs.Y.PA
