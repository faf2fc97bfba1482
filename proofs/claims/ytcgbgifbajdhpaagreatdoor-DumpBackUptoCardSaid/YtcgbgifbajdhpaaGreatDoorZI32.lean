/- Of the law rZIQDumpBack. -/
import Derived.Test.YtcgbgifbajdhpaaGreatDoorZI19
set_option linter.unusedVariables false
set_option linter.unusedSimpArgs false
set_option maxHeartbeats 16000000
set_option maxRecDepth 1000000
namespace Go
abbrev gX:=@Go.Sort.alloc_eq_grow
abbrev jT:=@Nat.dvd_refl
abbrev j4:=@decide_eq_true_iff
abbrev ku:=@Nat.dvd_add
abbrev kW:=@Go.Calls.mono
abbrev lC:=@Go.Proofs.AnyQ.insertionSortCmpFunc
abbrev lT:=@Nat.dvd_zero
abbrev mK:=@Go.Sort.grow_grow
end Go
namespace Go.Proofs.Y.PA
open Go.Shelf Go.RowKit Go.Lib Go.Sort
def Xf:Nat→Code→Code
 | 0,c=>c
 | k+1,.seq _ b=>Xf k b
 | _,c=>c
theorem symMerge.t43 (g:Nat)(cf:qC→qC→Int)(key:qC→Int)(blk off cap:Nat)(d0:Array qC)(w0:World)(R:RowK qp 2 w0 blk off d0)(hsz:d0.size<4611686018427387904)(n:Nat)(hIH:Em g cf key blk off cap d0 w0 n)
 (a m b q i e:Nat) (d:Array qC) (w:World) (hn:b-a≤n+1) (hs:d.size=d0.size) (hm:m<b) (hb:b≤d0.size) (q1:2*q≤a+b) (q2:a+b≤2*q+1) (Zl:a≤i) (him:i≤m) (E1:e+i=q+m) (e3:m≤e) (e4:e≤b) (e5:i≤q) (e6:q≤e) (hA:uf key d a m) (hB:uf key d m b) (hL:a<i→e<b→key d[i-1]! ≤ key d[e]!) (hR:i<m→m<e→key d[e-1]! < key d[i]!) (d1 d2:Array qC) (hz1:d1.size=d0.size) (hp1:∀ t,d1[t]! = d[sw i m e t]!) (k2:MG key d1 a q d2) (s2:uf key d2 a q) (t1:∀ x y,q≤x→x<y→y<e→key d2[x]! ≤ key d2[y]!) (t2:∀ x y,e≤x→x<y→y<b→key d2[x]! ≤ key d2[y]!) (S:SWK qp 2 w0 blk off d2 w)
 {u5 u6 u7 u8 u9 u10 u11 u12 u13 u14 u15 u16 u17 u19 u21 u22 u23 u25 u26 u27 u28 u29 u30 u31 u32 u33 u34 u35 u36 u37 u38 u39 u40 u41 u42 u43 u44 u45 u46 u47 u48 u49 u50 u51 u52 u53 u54 u55 u56 u57 u58 u59 u60 u61 u62 u63 u64 u65 u66 u67 u68 u69 u70 u71 u72 u73 u74 u75 u76 u77 u78 u79 u80 u81 u82 u83 u84 u85 u86 u87 u88 u89 u90 u91 u92 u93 u94 u95 u96 u97 u98 u99 aaK aaL aaM aaN aaO u105 aaP aaQ aaR aaS aaT aaU aaV aaW aaX aaY aaZ aa0 aa1 u119 aa2 aa3 aa4 aa5 u124 aa6 aa7 u127 aa8 aa9 abb u131 abd abe abf abg abh abj u138 u139 abk abl abm abn abo abp abq abr abt abu abv abw u152 abx u154 aby abz abA abB abC abD abE u162 abF u164 abG abH abI abJ abK abL abM abN abO abP abQ abR abS abT abU abV abW abX abY abZ ab0 ab1 ab2 ab3 ab4 ab5 ab6 ab7 u193 u194 ab8 u196 ab9 u198 acd ace u201 acf acg ach aci u206 acj u208 acn u210 aco acp acr acs acu acv acw acy acz:Value} :
 Code.wp Tryz.prog (Xf 11 (Tryz.f149.body.getD .skip)) (bodyPost Tryz.prog Tryz.f149 fun e w'=>e = .returned (.tuple #[])∧∃ d',SWK qp 2 w0 blk off d' w'∧MG key d a b d'∧uf key d' a b) ⟨List.toArray ((.slice (some ⟨blk,off,none⟩) d0.size cap:Value)::(.int .i64 a:Value)::(.int .i64 m:Value)::(.int .i64 b:Value)::(.func (.func g) #[] #[]:Value)::u5::u6::u7::u8::u9::u10::u11::u12::u13::u14::u15::u16::u17::(.int .i64 q:Value)::u19::(.int .i64 i:Value)::u21::u22::u23::(.int .i64 e:Value)::u25::u26::u27::u28::u29::u30::u31::u32::u33::u34::u35::u36::u37::u38::u39::u40::u41::u42::u43::u44::u45::u46::u47::u48::u49::u50::u51::u52::u53::u54::u55::u56::u57::u58::u59::u60::u61::u62::u63::u64::u65::u66::u67::u68::u69::u70::u71::u72::u73::u74::u75::u76::u77::u78::u79::u80::u81::u82::u83::u84::u85::u86::u87::u88::u89::u90::u91::u92::u93::u94::u95::u96::u97::u98::u99::aaK::aaL::aaM::aaN::aaO::u105::aaP::aaQ::aaR::aaS::aaT::aaU::aaV::aaW::aaX::aaY::aaZ::aa0::aa1::u119::aa2::aa3::aa4::aa5::u124::aa6::aa7::u127::aa8::aa9::abb::u131::abd::abe::abf::abg::abh::abj::u138::u139::abk::abl::abm::abn::abo::abp::abq::abr::abt::abu::abv::abw::u152::abx::u154::aby::abz::abA::abB::abC::abD::abE::u162::abF::u164::abG::abH::abI::abJ::abK::abL::abM::abN::abO::abP::abQ::abR::abS::abT::abU::abV::abW::abX::abY::abZ::ab0::ab1::ab2::ab3::ab4::ab5::ab6::ab7::u193::u194::ab8::u196::ab9::u198::acd::ace::u201::acf::acg::ach::aci::u206::acj::u208::acn::u210::aco::acp::acr::acs::acu::acv::acw::acy::acz::[]),[]⟩ w:=by
 have mixed:Tryz.prog.follows .mixedOrders=true:=by kernel_rfl
 have IH:=Yu hIH;have SA:=Yu hA;have SB:=Yu hB;have HLL:=Yu hL;have HRR:=Yu hR;clear hIH hA hB hL hR;have T3:Aside (SWK qp 2 w0 blk off d2 w):=S;have HP1:=Yu hp1;have K2:=Yu k2;have S2:=Yu s2;have HD2:=Yu (And.intro t1 t2);clear hp1 k2 s2 t1 t2 S
 conv=>arg 2;whnf
 go_upto_region 43 with (fail)
 rename_i hK
 go_cut [213] (fun v wx=>∃ bv:Bool,v = .bool bv∧YW.o7.oZ (bv=decide ((q<e)∧(e<b)))∧YW.o7.oZ (wx=w))
 case first=>
  by_cases g1:q<e
  ·have g1z:(q:Int)<(e:Int):=by omega
   by_cases g2:e<b
   ·have g2z:(e:Int)<(b:Int):=by omega
    go_wp2_with fail
    go_meet
    exact⟨true,rfl,⟨(aM ⟨g1,g2⟩).symm⟩,⟨rfl⟩⟩
   ·have g2z:¬ (e:Int)<(b:Int):=by omega
    go_wp2_with fail
    go_meet
    exact⟨false,rfl,⟨(aN (fun h=>g2 h.2)).symm⟩,⟨rfl⟩⟩
  ·have g1z:¬ (q:Int)<(e:Int):=by omega
   go_wp2_with fail
   go_meet
   exact⟨false,rfl,⟨(aN (fun h=>g1 h.1)).symm⟩,⟨rfl⟩⟩
 case rest=>
  obtain⟨bv,rfl,hbv,hw1⟩:=hcut;have T4:Aside (SWK qp 2 w0 blk off d2 wc):=by rw[hw1.o];exact T3
  clear T3 hw1;cases bv
  rotate_left
  ·have hr:q<e∧e<b:=aX hbv.o.symm;have HR0:=Yu (IH.o q e b d2 wc (by omega) (K2.o.1.trans hz1) T4.o hr.1 hr.2 (by omega) HD2.o.1 HD2.o.2);clear hr
   go_wp2_with (first|(go_at_call 149;refine HR0.o.mono ?_;rintro _ w1 ⟨rfl,d3,hS,hp1⟩;have T5:Aside (SWK qp 2 w0 blk off d3 w1):=hS;have HP3:=Yu hp1;clear hS hp1))
   go_end0;have hf:=wM (key:=key) (d:=d) (d1:=d1) (d2:=d2) (d3:=d3) (a:=a) (s:=i) (m:=m) (e:=e) (b:=b) (q:=q) (by omega) Zl him e3 e4 (by omega) SA.o SB.o (by omega) HP1.o HLL.o HRR.o K2.o S2.o HP3.o.1 HP3.o.2;exact⟨rfl,d3,T5.o,hf.1,hf.2⟩
  ·have hr:¬ (q<e∧e<b):=dQ hbv.o.symm;have HQ3:=Yu (show uf key d2 q b from by
    by_cases hqe:q<e
    ·have:b=e:=by omega
     subst this;exact HD2.o.1
    ·have:q=e:=by omega
     subst this;exact HD2.o.2)
   clear hr;go_wp2;go_end0;have hf:=wM (key:=key) (d:=d) (d1:=d1) (d2:=d2) (d3:=d2) (a:=a) (s:=i) (m:=m) (e:=e) (b:=b) (q:=q) (by omega) Zl him e3 e4 (by omega) SA.o SB.o (by omega) HP1.o HLL.o HRR.o K2.o S2.o (MG.refl _ _ _) HQ3.o;exact⟨rfl,d2,T4.o,hf.1,hf.2⟩
theorem symMerge.t41 (g:Nat)(cf:qC→qC→Int)(key:qC→Int)(blk off cap:Nat)(d0:Array qC)(w0:World)(R:RowK qp 2 w0 blk off d0)(hsz:d0.size<4611686018427387904)(n:Nat)(hIH:Em g cf key blk off cap d0 w0 n)
 (a m b q i e:Nat) (d:Array qC) (w:World) (hn:b-a≤n+1) (hs:d.size=d0.size) (hm:m<b) (hb:b≤d0.size) (q1:2*q≤a+b) (q2:a+b≤2*q+1) (Zl:a≤i) (him:i≤m) (E1:e+i=q+m) (e3:m≤e) (e4:e≤b) (e5:i≤q) (e6:q≤e) (hA:uf key d a m) (hB:uf key d m b) (hL:a<i→e<b→key d[i-1]! ≤ key d[e]!) (hR:i<m→m<e→key d[e-1]! < key d[i]!) (d1:Array qC) (hz1:d1.size=d0.size) (hp1:∀ t,d1[t]! = d[sw i m e t]!) (S:SWK qp 2 w0 blk off d1 w)
 {u5 u6 u7 u8 u9 u10 u11 u12 u13 u14 u15 u16 u17 u19 u21 u22 u23 u25 u26 u27 u28 u29 u30 u31 u32 u33 u34 u35 u36 u37 u38 u39 u40 u41 u42 u43 u44 u45 u46 u47 u48 u49 u50 u51 u52 u53 u54 u55 u56 u57 u58 u59 u60 u61 u62 u63 u64 u65 u66 u67 u68 u69 u70 u71 u72 u73 u74 u75 u76 u77 u78 u79 u80 u81 u82 u83 u84 u85 u86 u87 u88 u89 u90 u91 u92 u93 u94 u95 u96 u97 u98 u99 aaK aaL aaM aaN aaO u105 aaP aaQ aaR aaS aaT aaU aaV aaW aaX aaY aaZ aa0 aa1 u119 aa2 aa3 aa4 aa5 u124 aa6 aa7 u127 aa8 aa9 abb u131 abd abe abf abg abh abj u138 u139 abk abl abm abn abo abp abq abr abt abu abv abw u152 abx u154 aby abz abA abB abC abD abE u162 abF u164 abG abH abI abJ abK abL abM abN abO abP abQ abR abS abT abU abV abW abX abY abZ ab0 ab1 ab2 ab3 ab4 ab5 ab6 ab7 u193 u194 ab8 u196 ab9 u198 acd ace u201 acf acg ach aci u206 acj u208 acn u210 aco acp acr acs acu acv acw acy acz:Value} :
 Code.wp Tryz.prog (Xf 10 (Tryz.f149.body.getD .skip)) (bodyPost Tryz.prog Tryz.f149 fun e w'=>e = .returned (.tuple #[])∧∃ d',SWK qp 2 w0 blk off d' w'∧MG key d a b d'∧uf key d' a b) ⟨List.toArray ((.slice (some ⟨blk,off,none⟩) d0.size cap:Value)::(.int .i64 a:Value)::(.int .i64 m:Value)::(.int .i64 b:Value)::(.func (.func g) #[] #[]:Value)::u5::u6::u7::u8::u9::u10::u11::u12::u13::u14::u15::u16::u17::(.int .i64 q:Value)::u19::(.int .i64 i:Value)::u21::u22::u23::(.int .i64 e:Value)::u25::u26::u27::u28::u29::u30::u31::u32::u33::u34::u35::u36::u37::u38::u39::u40::u41::u42::u43::u44::u45::u46::u47::u48::u49::u50::u51::u52::u53::u54::u55::u56::u57::u58::u59::u60::u61::u62::u63::u64::u65::u66::u67::u68::u69::u70::u71::u72::u73::u74::u75::u76::u77::u78::u79::u80::u81::u82::u83::u84::u85::u86::u87::u88::u89::u90::u91::u92::u93::u94::u95::u96::u97::u98::u99::aaK::aaL::aaM::aaN::aaO::u105::aaP::aaQ::aaR::aaS::aaT::aaU::aaV::aaW::aaX::aaY::aaZ::aa0::aa1::u119::aa2::aa3::aa4::aa5::u124::aa6::aa7::u127::aa8::aa9::abb::u131::abd::abe::abf::abg::abh::abj::u138::u139::abk::abl::abm::abn::abo::abp::abq::abr::abt::abu::abv::abw::u152::abx::u154::aby::abz::abA::abB::abC::abD::abE::u162::abF::u164::abG::abH::abI::abJ::abK::abL::abM::abN::abO::abP::abQ::abR::abS::abT::abU::abV::abW::abX::abY::abZ::ab0::ab1::ab2::ab3::ab4::ab5::ab6::ab7::u193::u194::ab8::u196::ab9::u198::acd::ace::u201::acf::acg::ach::aci::u206::acj::u208::acn::u210::aco::acp::acr::acs::acu::acv::acw::acy::acz::[]),[]⟩ w:=by
 have mixed:Tryz.prog.follows .mixedOrders=true:=by kernel_rfl
 have IH:=Yu hIH;have SA:=Yu hA;have SB:=Yu hB;have HLL:=Yu hL;have HRR:=Yu hR;clear hIH hA hB hL hR;have T1:Aside (SWK qp 2 w0 blk off d1 w):=S;have HP1:=Yu hp1;clear hp1 S;have HRS:=Yu (show (∀ x y,a≤x→x<y→y<i→key d1[x]! ≤ key d1[y]!)∧(∀ x y,i≤x→x<y→y<q→key d1[x]! ≤ key d1[y]!)∧(∀ x y,q≤x→x<y→y<e→key d1[x]! ≤ key d1[y]!)∧(∀ x y,e≤x→x<y→y<b→key d1[x]! ≤ key d1[y]!) from by
  refine⟨fun x y x1 x2 x3=>?_,fun x y x1 x2 x3=>?_,fun x y x1 x2 x3=>?_,fun x y x1 x2 x3=>?_⟩
  ·rw[HP1.o,HP1.o,show sw i m e x=x from by unfold sw;(repeat' split)<;>omega,show sw i m e y=y from by unfold sw;(repeat' split)<;>omega];exact SA.o _ _ x1 x2 (by omega)
  ·rw[HP1.o,HP1.o,show sw i m e x=m+(x-i) from by unfold sw;(repeat' split)<;>omega,show sw i m e y=m+(y-i) from by unfold sw;(repeat' split)<;>omega];exact SB.o _ _ (by omega) (by omega) (by omega)
  ·rw[HP1.o,HP1.o,show sw i m e x=x-(e-m) from by unfold sw;(repeat' split)<;>omega,show sw i m e y=y-(e-m) from by unfold sw;(repeat' split)<;>omega];exact SA.o _ _ (by omega) (by omega) (by omega)
  ·rw[HP1.o,HP1.o,show sw i m e x=x from by unfold sw;(repeat' split)<;>omega,show sw i m e y=y from by unfold sw;(repeat' split)<;>omega];exact SB.o _ _ (by omega) (by omega) (by omega))
 conv=>arg 2;whnf
 go_upto_region 41 with (fail)
 rename_i hK
 go_cut [199] (fun v wx=>∃ bv:Bool,v = .bool bv∧YW.o7.oZ (bv=decide ((a<i)∧(i<q)))∧YW.o7.oZ (wx=w))
 case first=>
  by_cases g1:a<i
  ·have g1z:(a:Int)<(i:Int):=by omega
   by_cases g2:i<q
   ·have g2z:(i:Int)<(q:Int):=by omega
    go_wp2_with fail
    go_meet
    exact⟨true,rfl,⟨(aM ⟨g1,g2⟩).symm⟩,⟨rfl⟩⟩
   ·have g2z:¬ (i:Int)<(q:Int):=by omega
    go_wp2_with fail
    go_meet
    exact⟨false,rfl,⟨(aN (fun h=>g2 h.2)).symm⟩,⟨rfl⟩⟩
  ·have g1z:¬ (a:Int)<(i:Int):=by omega
   go_wp2_with fail
   go_meet
   exact⟨false,rfl,⟨(aN (fun h=>g1 h.1)).symm⟩,⟨rfl⟩⟩
 case rest=>
  obtain⟨bv,rfl,hbv,hw1⟩:=hcut;have T2:Aside (SWK qp 2 w0 blk off d1 wc):=by rw[hw1.o];exact T1
  clear T1 hw1;generalize wc=wa2 at *
  go_upto_if 199 with (fail)
  rename_i hK2
  go_cut [] (fun wx=>∃ d2,Aside (SWK qp 2 w0 blk off d2 wx)∧YW.o7.oZ (MG key d1 a q d2∧uf key d2 a q))
  case first=>
   cases bv
   rotate_left
   ·have hr:a<i∧i<q:=aX hbv.o.symm;have HR0:=Yu (IH.o a i q d1 wa2 (by omega) hz1 T2.o hr.1 hr.2 (by omega) HRS.o.1 HRS.o.2.1);clear hr
    go_wp2_with (first|(go_at_call 149;refine HR0.o.mono ?_;rintro _ w1 ⟨rfl,d2,hS,hp1⟩;have T3:Aside (SWK qp 2 w0 blk off d2 w1):=hS;have HP2:=Yu hp1;clear hS hp1))
    go_meet
    exact⟨d2,T3,HP2⟩
   ·have hr:¬ (a<i∧i<q):=dQ hbv.o.symm;have HN:=Yu hr;clear hr;go_wp2
    go_meet
    refine⟨d1,T2,⟨MG.refl _ _ _,?_⟩⟩;have hr:=HN.o
    by_cases hai2:a<i
    ·have:q=i:=by omega
     subst this;exact HRS.o.1
    ·have:a=i:=by omega
     subst this;exact HRS.o.2.1
  case rest=>
   obtain⟨d2,T3,HP2⟩:=hcut;refine hK2 _ _ ?_;exact symMerge.t43 g cf key blk off cap d0 w0 R hsz n IH.o a m b q i e d _ hn hs hm hb q1 q2 Zl him E1 e3 e4 e5 e6 SA.o SB.o HLL.o HRR.o d1 d2 hz1 HP1.o HP2.o.1 HP2.o.2
    (fun x y x1 x2 x3=>by rw[HP2.o.1.2.1 x (.inr x1),HP2.o.1.2.1 y (.inr (by omega))];exact HRS.o.2.2.1 x y x1 x2 x3) (fun x y x1 x2 x3=>by rw[HP2.o.1.2.1 x (.inr (by omega)),HP2.o.1.2.1 y (.inr (by omega))];exact HRS.o.2.2.2 x y x1 x2 x3) T3.o
theorem symMerge.t39 (g:Nat)(cf:qC→qC→Int)(key:qC→Int)(blk off cap:Nat)(d0:Array qC)(w0:World)(R:RowK qp 2 w0 blk off d0)(hsz:d0.size<4611686018427387904)(n:Nat)(hIH:Em g cf key blk off cap d0 w0 n)
 (a m b q i e:Nat) (d:Array qC) (w:World) (hn:b-a≤n+1) (hs:d.size=d0.size) (S:SWK qp 2 w0 blk off d w) (hm:m<b) (hb:b≤d0.size) (q1:2*q≤a+b) (q2:a+b≤2*q+1) (Zl:a≤i) (him:i≤m) (E1:e+i=q+m) (e3:m≤e) (e4:e≤b) (e5:i≤q) (e6:q≤e) (hA:uf key d a m) (hB:uf key d m b) (hL:a<i→e<b→key d[i-1]! ≤ key d[e]!) (hR:i<m→m<e→key d[e-1]! < key d[i]!)
 {u5 u6 u7 u8 u9 u10 u11 u12 u13 u14 u15 u16 u17 u19 u21 u22 u23 u25 u26 u27 u28 u29 u30 u31 u32 u33 u34 u35 u36 u37 u38 u39 u40 u41 u42 u43 u44 u45 u46 u47 u48 u49 u50 u51 u52 u53 u54 u55 u56 u57 u58 u59 u60 u61 u62 u63 u64 u65 u66 u67 u68 u69 u70 u71 u72 u73 u74 u75 u76 u77 u78 u79 u80 u81 u82 u83 u84 u85 u86 u87 u88 u89 u90 u91 u92 u93 u94 u95 u96 u97 u98 u99 aaK aaL aaM aaN aaO u105 aaP aaQ aaR aaS aaT aaU aaV aaW aaX aaY aaZ aa0 aa1 u119 aa2 aa3 aa4 aa5 u124 aa6 aa7 u127 aa8 aa9 abb u131 abd abe abf abg abh abj u138 u139 abk abl abm abn abo abp abq abr abt abu abv abw u152 abx u154 aby abz abA abB abC abD abE u162 abF u164 abG abH abI abJ abK abL abM abN abO abP abQ abR abS abT abU abV abW abX abY abZ ab0 ab1 ab2 ab3 ab4 ab5 ab6 ab7 u193 u194 ab8 u196 ab9 u198 acd ace u201 acf acg ach aci u206 acj u208 acn u210 aco acp acr acs acu acv acw acy acz:Value} :
 Code.wp Tryz.prog (Xf 9 (Tryz.f149.body.getD .skip)) (bodyPost Tryz.prog Tryz.f149 fun e w'=>e = .returned (.tuple #[])∧∃ d',SWK qp 2 w0 blk off d' w'∧MG key d a b d'∧uf key d' a b) ⟨List.toArray ((.slice (some ⟨blk,off,none⟩) d0.size cap:Value)::(.int .i64 a:Value)::(.int .i64 m:Value)::(.int .i64 b:Value)::(.func (.func g) #[] #[]:Value)::u5::u6::u7::u8::u9::u10::u11::u12::u13::u14::u15::u16::u17::(.int .i64 q:Value)::u19::(.int .i64 i:Value)::u21::u22::u23::(.int .i64 e:Value)::u25::u26::u27::u28::u29::u30::u31::u32::u33::u34::u35::u36::u37::u38::u39::u40::u41::u42::u43::u44::u45::u46::u47::u48::u49::u50::u51::u52::u53::u54::u55::u56::u57::u58::u59::u60::u61::u62::u63::u64::u65::u66::u67::u68::u69::u70::u71::u72::u73::u74::u75::u76::u77::u78::u79::u80::u81::u82::u83::u84::u85::u86::u87::u88::u89::u90::u91::u92::u93::u94::u95::u96::u97::u98::u99::aaK::aaL::aaM::aaN::aaO::u105::aaP::aaQ::aaR::aaS::aaT::aaU::aaV::aaW::aaX::aaY::aaZ::aa0::aa1::u119::aa2::aa3::aa4::aa5::u124::aa6::aa7::u127::aa8::aa9::abb::u131::abd::abe::abf::abg::abh::abj::u138::u139::abk::abl::abm::abn::abo::abp::abq::abr::abt::abu::abv::abw::u152::abx::u154::aby::abz::abA::abB::abC::abD::abE::u162::abF::u164::abG::abH::abI::abJ::abK::abL::abM::abN::abO::abP::abQ::abR::abS::abT::abU::abV::abW::abX::abY::abZ::ab0::ab1::ab2::ab3::ab4::ab5::ab6::ab7::u193::u194::ab8::u196::ab9::u198::acd::ace::u201::acf::acg::ach::aci::u206::acj::u208::acn::u210::aco::acp::acr::acs::acu::acv::acw::acy::acz::[]),[]⟩ w:=by
 have mixed:Tryz.prog.follows .mixedOrders=true:=by kernel_rfl
 have IH:=Yu hIH;have SA:=Yu hA;have SB:=Yu hB;have HLL:=Yu hL;have HRR:=Yu hR;clear hIH hA hB hL hR;have T0:Aside (SWK qp 2 w0 blk off d w):=S;clear S
 conv=>arg 2;whnf
 go_upto_region 39 with (fail)
 rename_i hK
 go_cut [185] (fun v wx=>∃ bv:Bool,v = .bool bv∧YW.o7.oZ (bv=decide ((i<m)∧(m<e)))∧YW.o7.oZ (wx=w))
 case first=>
  by_cases g1:i<m
  ·have g1z:(i:Int)<(m:Int):=by omega
   by_cases g2:m<e
   ·have g2z:(m:Int)<(e:Int):=by omega
    go_wp2_with fail
    go_meet
    exact⟨true,rfl,⟨(aM ⟨g1,g2⟩).symm⟩,⟨rfl⟩⟩
   ·have g2z:¬ (m:Int)<(e:Int):=by omega
    go_wp2_with fail
    go_meet
    exact⟨false,rfl,⟨(aN (fun h=>g2 h.2)).symm⟩,⟨rfl⟩⟩
  ·have g1z:¬ (i:Int)<(m:Int):=by omega
   go_wp2_with fail
   go_meet
   exact⟨false,rfl,⟨(aN (fun h=>g1 h.1)).symm⟩,⟨rfl⟩⟩
 case rest=>
  obtain⟨bv,rfl,hbv,hw1⟩:=hcut;have T1:Aside (SWK qp 2 w0 blk off d wc):=by rw[hw1.o];exact T0
  clear T0 hw1;generalize wc=wa at *
  go_upto_if 185 with (fail)
  rename_i hK2
  go_cut [] (fun wx=>∃ d1,Aside (SWK qp 2 w0 blk off d1 wx)∧d1.size=d0.size∧YW.o7.oZ (∀ t,d1[t]! = d[sw i m e t]!))
  case first=>
   cases bv
   rotate_left
   ·have hr:i<m∧m<e:=aX hbv.o.symm;have hr0:=rotate.c g blk off cap i m e d0 d w0 wa R hs.symm T1.o hr.1 hr.2 (by omega) (by omega);rw[hs] at hr0;have HR0:=Yu hr0;clear hr0 hr
    go_wp2_with (first|(go_at_call 155;refine HR0.o.mono ?_;rintro _ w1 ⟨rfl,d1,hS,hz1,hp1⟩;have T2:Aside (SWK qp 2 w0 blk off d1 w1):=hS;have HP1:=Yu hp1;clear hS hp1))
    go_meet
    exact⟨d1,T2,hz1,HP1⟩
   ·have hr:¬ (i<m∧m<e):=dQ hbv.o.symm;have HN:=Yu hr;clear hr;go_wp2
    go_meet
    exact⟨d,T1,hs,⟨fun t=>by rw[y8 i m e t him e3 (by have:=HN.o;omega)]⟩⟩
  case rest=>
   obtain⟨d1,T2,hz1,HP1⟩:=hcut;refine hK2 _ _ ?_;exact symMerge.t41 g cf key blk off cap d0 w0 R hsz n IH.o a m b q i e d _ hn hs hm hb q1 q2 Zl him E1 e3 e4 e5 e6 SA.o SB.o HLL.o HRR.o d1 hz1 HP1.o T2.o
theorem symMerge.hi (g:Nat)(cf:qC→qC→Int)(key:qC→Int)(hcf:∀ x y,cf x y<0↔key x<key y)(eg:∀ args w,(callFunc g args).run Tryz.prog w = .ok (.enter g args) w)
 (blk off cap:Nat) (d0:Array qC) (w0:World) (R:RowK qp 2 w0 blk off d0) (hC:CmpLays Tryz.prog g #[] qp 2 cf blk off d0.size w0) (hsz:d0.size<4611686018427387904) (n:Nat) (hIH:Em g cf key blk off cap d0 w0 n)
 (a m b:Nat) (d:Array qC) (w:World) (hn:b-a≤n+1) (hs:d.size=d0.size) (S:SWK qp 2 w0 blk off d w) (h1:m≠a+1) (h2:b≠m+1) (ha:a<m) (hm:m<b) (hb:b≤d0.size) (hq:(a+b) / 2<m) (hA:uf key d a m) (hB:uf key d m b) :
 Calls Tryz.prog 149 #[.slice (some ⟨blk,off,none⟩) d0.size cap,.int .i64 a,.int .i64 m,.int .i64 b,.func (.func g) #[] #[]] w fun e w'=>e = .returned (.tuple #[])∧∃ d',SWK qp 2 w0 blk off d' w'∧MG key d a b d'∧uf key d' a b:=by
 have mixed:Tryz.prog.follows .mixedOrders=true:=by kernel_rfl
 have S0:Aside (SWK qp 2 w0 blk off d w):=S;have HC:=Yu hC;have HCF:=Yu hcf;have SA:=Yu hA;have SB:=Yu hB;have IH:=Yu hIH;clear S hC hcf hA hB hIH;have h1z:¬ (m:Int)-(a:Int)=1:=by omega
 have h1b:((m:Int)-(a:Int)==1)=false:=beq_eq_false_iff_ne.2 h1z;have h2z:¬ (b:Int)-(m:Int)=1:=by omega
 have h2b:((b:Int)-(m:Int)==1)=false:=beq_eq_false_iff_ne.2 h2z;obtain⟨q,hqd⟩:∃ q,q=(a+b) / 2:=⟨_,rfl⟩;have Q:((a:Int)+(b:Int)) / 2=(q:Int):=by omega
 have q1:2*q≤a+b:=by omega
 have q2:a+b≤2*q+1:=by omega
 rw[← hqd] at hq;clear hqd h1 h2;obtain⟨s0,hs0⟩:∃ s0,s0=q+m-b:=⟨_,rfl⟩;have Z0:(q:Int)+(m:Int)-(b:Int)=(s0:Int):=by omega
 have Z1:s0+b=q+m:=by omega
 have Z2:(m:Int)>(q:Int):=by omega
 clear hs0
 go_enter Tryz.func149,Tryz.ntmps149
 go_wp2
 go_loopg [20,21] (q-s0) (fun kx s20 s21 wr=>∃ (i j:Nat),s20 = .int .i64 i∧s21 = .int .i64 j∧s0≤i∧i≤j∧j≤q∧j-i≤kx∧Aside (SWK qp 2 w0 blk off d wr)∧Aside (s0<i→key d[i-1]! ≤ key d[q+m-i]!)∧Aside (j<q→key d[q+m-1-j]! < key d[j]!))
 case atStart=>exact⟨s0,q,rfl,rfl,aD _,by omega,aD _,aD _,S0,(fun h=>by omega),(fun h=>by omega)⟩
 case round=>
  clear S0;obtain⟨i,j,rfl,rfl,hai,hij,hjb,hkx,S1,HL,HR⟩:=hrel
  by_cases hlt:i<j
  ·have hltz:(i:Int)<(j:Int):=by omega
   obtain⟨c,hcd⟩:∃ c,c=(i+j) / 2:=⟨_,rfl⟩;have C:((i:Int)+(j:Int)) / 2=(c:Int):=by omega
   have c1':i≤c:=by omega
   have c2':c<j:=by omega
   clear hcd;obtain⟨pc,hpd⟩:∃ pc,pc=q+m-1-c:=⟨_,rfl⟩;have PC:(q:Int)+(m:Int)-1-(c:Int)=(pc:Int):=by omega
   have pc1:pc<d0.size:=by omega
   have R1:IntKind.i64.wrap ((q:Int)+(m:Int)-1-(c:Int))=(pc:Int):=by rw[PC,bI];omega
   have R2:IntKind.i64.wrap (pc:Int)=(pc:Int):=by rw[bI];omega
   have pc2:(pc:Int)<(d0.size:Int):=by omega
   have cc2:(c:Int)<(d0.size:Int):=by omega
   have c0:=fun n' os'=>(rC S1.o R hs pc (by omega) n' os').1
   have c1:=fun n' os'=>(rC S1.o R hs pc (by omega) n' os').2
   have e0:=fun n' os'=>(rC S1.o R hs c (by omega) n' os').1
   have e1:=fun n' os'=>(rC S1.o R hs c (by omega) n' os').2
   have hc:=fun n' os'=>Fy S1.o HC.o hs d[pc]! d[c]! n' os'
   have HPD:=Yu hpd;clear hpd;cases hv:decide (cf d[pc]! d[c]! < 0) with
   | false=>
     have HX:=Yu (fun h=>dQ hv ((HCF.o _ _).2 h));generalize d[pc]! = x at c0 c1 hc hv;generalize d[c]! = y at e0 e1 hc hv
     go_wp2_with fail
     go_quiet_grown (first|(go_at_fn g;refine fu (hc _ _)))
     have S2:Aside (SWK qp 2 w0 blk off d (grow (wr.drewN nq) osq)):=S1.o.grown nq osq;clear c0 c1 e0 e1 hc S1;generalize grow (wr.drewN nq) osq=w2 at S2 ⊢;clear nq osq;go_wp2
     go_roundg (j-(c+1))
     case measure=>omega
     case rel=>exact⟨c+1,j,by go_num,rfl,by omega,by omega,hjb,aD _,S2,(fun _=>by rw[show c+1-1=c from rfl,show q+m-(c+1)=pc from by rw[HPD.o];omega];exact Int.not_lt.1 HX.o),HR⟩
   | true=>
     have HX:=Yu ((HCF.o _ _).1 (aX hv));generalize d[pc]! = x at c0 c1 hc hv;generalize d[c]! = y at e0 e1 hc hv
     go_wp2_with fail
     go_quiet_grown (first|(go_at_fn g;refine fu (hc _ _)))
     have S2:Aside (SWK qp 2 w0 blk off d (grow (wr.drewN nq) osq)):=S1.o.grown nq osq;clear c0 c1 e0 e1 hc S1;generalize grow (wr.drewN nq) osq=w2 at S2 ⊢;clear nq osq;go_wp2
     go_roundg (c-i)
     case measure=>omega
     case rel=>exact⟨i,c,rfl,rfl,hai,by omega,by omega,aD _,S2,HL,(fun _=>by rw[← HPD.o];exact HX.o)⟩
  ·obtain rfl:i=j:=by omega
   have hltz:¬ (i:Int)<(i:Int):=by omega
   have Zl:a≤i:=by omega
   have him:i≤m:=by omega
   obtain⟨e,hed⟩:∃ e,e=q+m-i:=⟨_,rfl⟩;have E:(q:Int)+(m:Int)-(i:Int)=(e:Int):=by omega
   have E1:e+i=q+m:=by omega
   have HL':a<i→e<b→key d[i-1]! ≤ key d[e]! := fun h1 h2=>by rw[hed];exact HL.o (by omega)
   have HR':i<m→m<e→key d[e-1]! < key d[i]! := fun h1 h2=>by rw[hed,show q+m-i-1=q+m-1-i from by omega];exact HR.o (by omega)
   have HLL:=Yu HL';have HRR:=Yu HR';have e3:m≤e:=by omega
   have e4:e≤b:=by omega
   have e5:i≤q:=by omega
   have e6:q≤e:=by omega
   clear HL HR hed HL' HR'
   go_upto_region 38 with (fail)
   rename_i hK;have HE:=Yu E
   go_cut [24] (fun v wx=>v = .int .i64 (e:Int)∧YW.o7.oZ (wx=wr))
   case first=>
    go_wp2_with fail
    go_meet
    exact⟨rfl,⟨rfl⟩⟩
   case rest=>
    obtain⟨rfl,hw1⟩:=hcut;have T0:SWK qp 2 w0 blk off d wc:=by rw[hw1.o];exact S1
    refine hK _ _ ?_;exact symMerge.t39 g cf key blk off cap d0 w0 R hsz n IH.o a m b q i e d wc hn hs T0 hm hb q1 q2 Zl him E1 e3 e4 e5 e6 SA.o SB.o HLL.o HRR.o
theorem symMerge.lo (g:Nat)(cf:qC→qC→Int)(key:qC→Int)(hcf:∀ x y,cf x y<0↔key x<key y)(eg:∀ args w,(callFunc g args).run Tryz.prog w = .ok (.enter g args) w)
 (blk off cap:Nat) (d0:Array qC) (w0:World) (R:RowK qp 2 w0 blk off d0) (hC:CmpLays Tryz.prog g #[] qp 2 cf blk off d0.size w0) (hsz:d0.size<4611686018427387904) (n:Nat) (hIH:Em g cf key blk off cap d0 w0 n)
 (a m b:Nat) (d:Array qC) (w:World) (hn:b-a≤n+1) (hs:d.size=d0.size) (S:SWK qp 2 w0 blk off d w) (h1:m≠a+1) (h2:b≠m+1) (ha:a<m) (hm:m<b) (hb:b≤d0.size) (hq:m≤(a+b) / 2) (hA:uf key d a m) (hB:uf key d m b) :
 Calls Tryz.prog 149 #[.slice (some ⟨blk,off,none⟩) d0.size cap,.int .i64 a,.int .i64 m,.int .i64 b,.func (.func g) #[] #[]] w fun e w'=>e = .returned (.tuple #[])∧∃ d',SWK qp 2 w0 blk off d' w'∧MG key d a b d'∧uf key d' a b:=by
 have mixed:Tryz.prog.follows .mixedOrders=true:=by kernel_rfl
 have S0:Aside (SWK qp 2 w0 blk off d w):=S;have HC:=Yu hC;have HCF:=Yu hcf;have SA:=Yu hA;have SB:=Yu hB;have IH:=Yu hIH;clear S hC hcf hA hB hIH;have h1z:¬ (m:Int)-(a:Int)=1:=by omega
 have h1b:((m:Int)-(a:Int)==1)=false:=beq_eq_false_iff_ne.2 h1z;have h2z:¬ (b:Int)-(m:Int)=1:=by omega
 have h2b:((b:Int)-(m:Int)==1)=false:=beq_eq_false_iff_ne.2 h2z;obtain⟨q,hqd⟩:∃ q,q=(a+b) / 2:=⟨_,rfl⟩;have Q:((a:Int)+(b:Int)) / 2=(q:Int):=by omega
 have q1:2*q≤a+b:=by omega
 have q2:a+b≤2*q+1:=by omega
 rw[← hqd] at hq;clear hqd h1 h2;have Z2:¬ (m:Int)>(q:Int):=by omega
 go_enter Tryz.func149,Tryz.ntmps149
 go_wp2
 go_loopg [20,21] (m-a) (fun kx s20 s21 wr=>∃ (i j:Nat),s20 = .int .i64 i∧s21 = .int .i64 j∧a≤i∧i≤j∧j≤m∧j-i≤kx∧Aside (SWK qp 2 w0 blk off d wr)∧Aside (a<i→key d[i-1]! ≤ key d[q+m-i]!)∧Aside (j<m→key d[q+m-1-j]! < key d[j]!))
 case atStart=>exact⟨a,m,rfl,rfl,aD _,by omega,aD _,aD _,S0,(fun h=>by omega),(fun h=>by omega)⟩
 case round=>
  clear S0;obtain⟨i,j,rfl,rfl,hai,hij,hjb,hkx,S1,HL,HR⟩:=hrel
  by_cases hlt:i<j
  ·have hltz:(i:Int)<(j:Int):=by omega
   obtain⟨c,hcd⟩:∃ c,c=(i+j) / 2:=⟨_,rfl⟩;have C:((i:Int)+(j:Int)) / 2=(c:Int):=by omega
   have c1':i≤c:=by omega
   have c2':c<j:=by omega
   clear hcd;obtain⟨pc,hpd⟩:∃ pc,pc=q+m-1-c:=⟨_,rfl⟩;have PC:(q:Int)+(m:Int)-1-(c:Int)=(pc:Int):=by omega
   have pc1:pc<d0.size:=by omega
   have R1:IntKind.i64.wrap ((q:Int)+(m:Int)-1-(c:Int))=(pc:Int):=by rw[PC,bI];omega
   have R2:IntKind.i64.wrap (pc:Int)=(pc:Int):=by rw[bI];omega
   have pc2:(pc:Int)<(d0.size:Int):=by omega
   have cc2:(c:Int)<(d0.size:Int):=by omega
   have c0:=fun n' os'=>(rC S1.o R hs pc (by omega) n' os').1
   have c1:=fun n' os'=>(rC S1.o R hs pc (by omega) n' os').2
   have e0:=fun n' os'=>(rC S1.o R hs c (by omega) n' os').1
   have e1:=fun n' os'=>(rC S1.o R hs c (by omega) n' os').2
   have hc:=fun n' os'=>Fy S1.o HC.o hs d[pc]! d[c]! n' os'
   have HPD:=Yu hpd;clear hpd;cases hv:decide (cf d[pc]! d[c]! < 0) with
   | false=>
     have HX:=Yu (fun h=>dQ hv ((HCF.o _ _).2 h));generalize d[pc]! = x at c0 c1 hc hv;generalize d[c]! = y at e0 e1 hc hv
     go_wp2_with fail
     go_quiet_grown (first|(go_at_fn g;refine fu (hc _ _)))
     have S2:Aside (SWK qp 2 w0 blk off d (grow (wr.drewN nq) osq)):=S1.o.grown nq osq;clear c0 c1 e0 e1 hc S1;generalize grow (wr.drewN nq) osq=w2 at S2 ⊢;clear nq osq;go_wp2
     go_roundg (j-(c+1))
     case measure=>omega
     case rel=>exact⟨c+1,j,by go_num,rfl,by omega,by omega,hjb,aD _,S2,(fun _=>by rw[show c+1-1=c from rfl,show q+m-(c+1)=pc from by rw[HPD.o];omega];exact Int.not_lt.1 HX.o),HR⟩
   | true=>
     have HX:=Yu ((HCF.o _ _).1 (aX hv));generalize d[pc]! = x at c0 c1 hc hv;generalize d[c]! = y at e0 e1 hc hv
     go_wp2_with fail
     go_quiet_grown (first|(go_at_fn g;refine fu (hc _ _)))
     have S2:Aside (SWK qp 2 w0 blk off d (grow (wr.drewN nq) osq)):=S1.o.grown nq osq;clear c0 c1 e0 e1 hc S1;generalize grow (wr.drewN nq) osq=w2 at S2 ⊢;clear nq osq;go_wp2
     go_roundg (c-i)
     case measure=>omega
     case rel=>exact⟨i,c,rfl,rfl,hai,by omega,by omega,aD _,S2,HL,(fun _=>by rw[← HPD.o];exact HX.o)⟩
  ·obtain rfl:i=j:=by omega
   have hltz:¬ (i:Int)<(i:Int):=by omega
   have Zl:a≤i:=by omega
   have him:i≤m:=by omega
   obtain⟨e,hed⟩:∃ e,e=q+m-i:=⟨_,rfl⟩;have E:(q:Int)+(m:Int)-(i:Int)=(e:Int):=by omega
   have E1:e+i=q+m:=by omega
   have HL':a<i→e<b→key d[i-1]! ≤ key d[e]! := fun h1 h2=>by rw[hed];exact HL.o (by omega)
   have HR':i<m→m<e→key d[e-1]! < key d[i]! := fun h1 h2=>by rw[hed,show q+m-i-1=q+m-1-i from by omega];exact HR.o (by omega)
   have HLL:=Yu HL';have HRR:=Yu HR';have e3:m≤e:=by omega
   have e4:e≤b:=by omega
   have e5:i≤q:=by omega
   have e6:q≤e:=by omega
   clear HL HR hed HL' HR'
   go_upto_region 38 with (fail)
   rename_i hK;have HE:=Yu E
   go_cut [24] (fun v wx=>v = .int .i64 (e:Int)∧YW.o7.oZ (wx=wr))
   case first=>
    go_wp2_with fail
    go_meet
    exact⟨rfl,⟨rfl⟩⟩
   case rest=>
    obtain⟨rfl,hw1⟩:=hcut;have T0:SWK qp 2 w0 blk off d wc:=by rw[hw1.o];exact S1
    refine hK _ _ ?_;exact symMerge.t39 g cf key blk off cap d0 w0 R hsz n IH.o a m b q i e d wc hn hs T0 hm hb q1 q2 Zl him E1 e3 e4 e5 e6 SA.o SB.o HLL.o HRR.o
theorem symMerge.step (g:Nat)(cf:qC→qC→Int)(key:qC→Int)(hcf:∀ x y,cf x y<0↔key x<key y)(eg:∀ args w,(callFunc g args).run Tryz.prog w = .ok (.enter g args) w)
 (blk off cap:Nat) (d0:Array qC) (w0:World) (R:RowK qp 2 w0 blk off d0) (hC:CmpLays Tryz.prog g #[] qp 2 cf blk off d0.size w0) (hsz:d0.size<4611686018427387904) (n:Nat) (hIH:Em g cf key blk off cap d0 w0 n):Em g cf key blk off cap d0 w0 (n+1):=by
 intro a m b d w hn hs S ha hm hb hA hB
 by_cases h1:m=a+1
 ·exact symMerge.left g cf key hcf eg blk off cap d0 w0 R hC hsz a m b d w h1 hs S (by omega) hb (by rw[← h1];exact hB)
 ·by_cases h2:b=m+1
  ·exact symMerge.right g cf key hcf eg blk off cap d0 w0 R hC hsz a m b d w h2 hs S h1 ha hb hA
  ·by_cases hq:(a+b) / 2<m
   ·exact symMerge.hi g cf key hcf eg blk off cap d0 w0 R hC hsz n hIH a m b d w hn hs S h1 h2 ha hm hb hq hA hB
   ·exact symMerge.lo g cf key hcf eg blk off cap d0 w0 R hC hsz n hIH a m b d w hn hs S h1 h2 ha hm hb (by omega) hA hB
theorem symMerge.c (g:Nat)(cf:qC→qC→Int)(key:qC→Int)(hcf:∀ x y,cf x y<0↔key x<key y)(eg:∀ args w,(callFunc g args).run Tryz.prog w = .ok (.enter g args) w)
 (blk off cap:Nat) (d0:Array qC) (w0:World) (R:RowK qp 2 w0 blk off d0) (hC:CmpLays Tryz.prog g #[] qp 2 cf blk off d0.size w0) (hsz:d0.size<4611686018427387904):∀ n,Em g cf key blk off cap d0 w0 n
 | 0=>fun a m b d w hn hs S ha hm hb hA hB=>by omega
 | n+1=>symMerge.step g cf key hcf eg blk off cap d0 w0 R hC hsz n (symMerge.c g cf key hcf eg blk off cap d0 w0 R hC hsz n)
end Go.Proofs.Y.PA
namespace Go.Proofs
open Go.Shelf Go.RowKit Go.Lib Go.Sort
def Tryz.Mc:Go.Shelf.Ren:=⟨fun | 20=>148 | n=>n,fun | 24=>70 | 22=>49 | 3=>3 | 25=>160 | 4=>4 | 0=>0 | n=>n,fun | n=>n⟩
theorem Tryz.U4:Go.Proofs.SlLaysF0.n20 Tryz.prog Tryz.Mc:={
 mixed:=by kernel_rfl
 f20:=⟨Tryz.f148.name,by decide,Tryz.func148.trans (gG some (by kernel_rfl))⟩
 t0:=Tryz.underlying0
 a0:=Tryz.isAgg0
 z0:=Tryz.sizeOf0
 v0:=Tryz.zeroValue0
 t3:=Tryz.underlying3
 a3:=Tryz.isAgg3
 z3:=Tryz.sizeOf3
 v3:=Tryz.zeroValue3
 t4:=Tryz.underlying4
 a4:=Tryz.isAgg4
 z4:=Tryz.sizeOf4
 v4:=Tryz.zeroValue4
 t22:=Tryz.underlying49
 a22:=Tryz.isAgg49
 z22:=Tryz.sizeOf49
 v22:=Tryz.zeroValue49
 t25:=Tryz.underlying160
 a25:=Tryz.isAgg160
 z25:=Tryz.sizeOf160
 v25:=Tryz.zeroValue160 }
end Go.Proofs
namespace Go.Proofs.Y.PA
open Go.Shelf Go.RowKit Go.Lib Go.Sort
theorem SN:∀ w,(isAgg 70).run Tryz.prog w = .ok true w:=fun w=>by kernel_rfl
theorem Po:∀ w,(Go.sizeOf 70).run Tryz.prog w = .ok 2 w:=fun w=>by kernel_rfl
theorem Fe {c s a:Nat}(h1:c∣s)(h2:c∣a)(h:s<a):s+c≤a:=by
 have:=Nat.le_of_dvd (by omega) (Nat.dvd_sub h2 h1);omega
section
variable {α:Type} [Inhabited α] {key:α→Int}
def KP (key:α→Int)(d:Array α)(c n lo:Nat):Prop:=∀ s,c∣s→lo≤s→uf key d s (min (s+c) n)
def KO (key:α→Int)(d:Array α)(c hi:Nat):Prop:=∀ s,c∣s→s<hi→uf key d s (s+c)
theorem uf.keep {d d':Array α}{a b x y:Nat}(h:uf key d x y)(hm:MG key d a b d')(ho:y≤a∨b≤x):uf key d' x y:=fun i j h1 h2 h3=>by
 rw[hm.2.1 i (by omega),hm.2.1 j (by omega)];exact h i j h1 h2 h3
theorem uf.sub {d:Array α}{x y x' y':Nat}(h:uf key d x y)(h1:x≤x')(h2:y'≤y):uf key d x' y':=fun i j a b c=>h i j (by omega) b (by omega)
theorem KO.step {d d':Array α}{c a:Nat}(h:KO key d c a)(ha:c∣a)(hm:MG key d a (a+c) d')(hs:uf key d' a (a+c)):KO key d' c (a+c):=fun s h1 h2=>by
 rcases Nat.lt_trichotomy s a with h3 | rfl | h3
 ·exact (h s h1 h3).keep hm (.inl (Fe h1 ha h3))
 ·exact hs
 ·have:=Fe ha h1 h3;omega
theorem KP.step {d d':Array α}{c n a e:Nat}(h:KP key d c n a)(hm:MG key d a e d')(he:a≤e):KP key d' c n e:=fun s h1 h2=>(h s h1 (by omega)).keep hm (.inr (by omega))
theorem Xp.first {d d':Array α}{c n a:Nat}(hc:0<c)(h:KO key d c a)(ha:c∣a)(h1:a≤n)(h2:n<a+c)(hm:MG key d a n d')(hs:uf key d' a n):KP key d' c n 0:=fun s h3 _=>by
 rcases Nat.lt_trichotomy s a with h4 | rfl | h4
 ·have:=Fe h3 ha h4;exact ((h s h3 h4).keep hm (.inl this)).sub (aD _) (by omega)
 ·exact hs.sub (aD _) (by omega)
 ·have:=Fe ha h3 h4;exact fun i j _ _ _=>by omega
end
theorem stable.c (g:Nat)(cf:qC→qC→Int)(key:qC→Int)(hcf:∀ x y,cf x y<0↔key x<key y)(eg:∀ args w,(callFunc g args).run Tryz.prog w = .ok (.enter g args) w)(hC:∀ blk off size w,CmpLays Tryz.prog g #[] qp 2 cf blk off size w)
 (blk off cap:Nat) (d:Array qC) (w:World) (R:RowK qp 2 w blk off d) (hsz:d.size<1152921504606846976) :
 Calls Tryz.prog 131 #[.slice (some ⟨blk,off,none⟩) d.size cap,.int .i64 d.size,.func (.func g) #[] #[]] w fun e w'=>e = .returned (.tuple #[])∧∃ d',SWK qp 2 w blk off d' w'∧MG key d 0 d.size d'∧uf key d' 0 d.size:=by
 have hlt:∀ x y,ltOf cf x y=true↔key x<key y:=fun x y=>by unfold ltOf;rw[j4];exact hcf x y
 have INS:∀ (a b:Nat) (dk:Array qC) (W:World),SWK qp 2 w blk off dk W→dk.size=d.size→a≤b→b≤d.size →
  Calls Tryz.prog 148 #[.slice (some ⟨blk,off,none⟩) d.size cap,.int .i64 a,.int .i64 b,.func (.func g) #[] #[]] W fun e w'=>e = .returned (.tuple #[])∧∃ d',SWK qp 2 w blk off d' w'∧MG key dk a b d'∧uf key d' a b:=fun a b dk W S hs hab hb=>by
  have h:=lC Tryz.U4 2 SN Po qp (fun _=>rfl) Gl cf g #[] blk off cap a b dk W eg (hC _ _ _ _) (S.holds R.hblk R.hH hs) (S.lt R.hblk) hab (by omega) (by omega);rw[hs] at h;refine kW h ?_;rintro e w' ⟨he,n,os,rfl⟩;have hz:(Sort.insertionSort (ltOf cf) dk a b).size=dk.size:=(DT (fun x y=>(hlt x y).1) dk a b hab (by omega)).1;exact⟨he,_,S.on R.hblk n _ os hz,DT (fun x y=>(hlt x y).1) dk a b hab (by omega),Kk hlt dk a b hab (by omega)⟩
 have IN:=Yu INS;have SY:=Yu (fun k=>symMerge.c g cf key hcf eg blk off cap d w R (hC _ _ _ _) (by omega) k);have S0:Aside (SWK qp 2 w blk off d w):=SWK.start R.hH;have RR:=Yu R;obtain⟨n,hn⟩:∃ n,n=d.size:=⟨_,rfl⟩;have HN:=Yu hn;rw[← hn] at IN hsz ⊢;clear INS hlt hcf eg hC R hn
 go_enter Tryz.func131,Tryz.ntmps131
 go_wp2
 go_loopg [7,8] n (fun kx s7 s8 wr=>∃ (a:Nat) (dk:Array qC),s7 = .int .i64 a∧s8 = .int .i64 (a+20:Nat)∧a≤n∧n-a≤kx∧dk.size=n∧Aside (SWK qp 2 w blk off dk wr)∧YW.o7.oZ (20∣a)∧Aside (KO key dk 20 a)∧Aside (MG key d 0 n dk))
 case atStart=>exact⟨0,d,rfl,rfl,bV _,by omega,HN.o.symm,S0,⟨lT _⟩,(fun s h1 h2=>by omega),MG.refl _ _ _⟩
 case round=>
  clear S0;obtain⟨a,dk,rfl,rfl,han,hkx,hds,S1,HD,HB,HM⟩:=hrel
  by_cases hlt:a+20≤n
  ·have hltz:((a+20:Nat):Int)≤(n:Int):=by omega
   have hc:=Yu (IN.o a (a+20) dk wr S1.o (by omega) (by omega) (by omega))
   go_wp2_with (first|(go_at_call 148;refine hc.o.mono ?_;rintro _ w1 ⟨rfl,d1,hS,hm1,hs1⟩;have T1:Aside (SWK qp 2 w blk off d1 w1):=hS;have M1:=Yu hm1;have R1:=Yu hs1;clear hS hm1 hs1))
   go_roundg (n-(a+20))
   case measure=>omega
   case rel=>exact⟨a+20,d1,by go_num,by go_num,hlt,aD _,M1.o.1.trans hds,T1,⟨ku HD.o (jT _)⟩,HB.o.step HD.o M1.o R1.o,HM.o.trans (M1.o.wide (bV _) (by omega) (by omega))⟩
  ·have hltz:¬ ((a+20:Nat):Int)≤(n:Int):=by omega
   have aad:¬ (a:Int)+20≤(n:Int):=by omega
   have hc:=Yu (IN.o a n dk wr S1.o (by omega) (by omega) (by omega))
   go_wp2_with (first|(go_at_call 148;refine hc.o.mono ?_;rintro _ w1 ⟨rfl,d1,hS,hm1,hs1⟩;have T1:Aside (SWK qp 2 w blk off d1 w1):=hS;have M1:=Yu hm1;have R1:=Yu hs1;clear hS hm1 hs1))
   go_loopg [6,7,8,9] n (fun kx s6 s7 s8 s9 wr=>∃ (c:Nat) (dk:Array qC),s6 = .int .i64 c∧20≤c∧(c=20∨c<2*n)∧n-c≤kx∧dk.size=n∧Aside (SWK qp 2 w blk off dk wr)∧Aside (KP key dk c n 0)∧Aside (MG key d 0 n dk))
   case atStart=>exact⟨20,d1,rfl,by omega,.inl rfl,by omega,M1.o.1.trans hds,T1,Xp.first (by omega) HB.o HD.o (by omega) (by omega) M1.o R1.o,HM.o.trans (M1.o.wide (bV _) (by omega) (by omega))⟩
   case round=>
    clear S1 T1 M1 R1 HB HM hc HD hkx hds;obtain⟨c,dk,rfl,hc1,hc2,hkx,hds,S1,HB,HM⟩:=hrel
    by_cases hcn:c<n
    ·have agD:(c:Int)<(n:Int):=by omega
     go_wp2
     go_loopg [7,8] n (fun kx s7 s8 wr=>∃ (a:Nat) (dk:Array qC),s7 = .int .i64 a∧s8 = .int .i64 ((a:Int)+2*(c:Int))∧a≤n∧n-a≤kx∧dk.size=n∧Aside (SWK qp 2 w blk off dk wr)∧YW.o7.oZ (2*c∣a)∧Aside (KO key dk (2*c) a)∧Aside (KP key dk c n a)∧Aside (MG key d 0 n dk))
     case atStart=>exact⟨0,dk,rfl,by go_num,bV _,by omega,hds,S1,⟨lT _⟩,(fun s h1 h2=>by omega),HB,HM⟩
     case round=>
      clear S1 HB HM hds;obtain⟨a,dk,rfl,rfl,han,adp,hds,S1,HD,HB,HF,HM⟩:=hrel;have dca:c∣a:=Nat.dvd_trans (Nat.dvd_mul_left _ _) HD.o;have HDC:=Yu dca;clear dca
      by_cases hlt2:a+2*c≤n
      ·have aae:((a+2*c:Nat):Int)≤(n:Int):=by omega
       have aeL:(a:Int)+2*(c:Int)≤(n:Int):=by omega
       have hA:uf key dk a (a+c):=(HF.o a HDC.o (aD _)).sub (aD _) (by omega);have hB:uf key dk (a+c) (a+2*c):=(HF.o (a+c) (ku HDC.o (jT _)) (by omega)).sub (aD _) (by omega);have hc:=Yu (SY.o n a (a+c) (a+2*c) dk wr (by omega) (by rw[hds];exact HN.o) S1.o (by omega) (by omega) (by rw[← HN.o];exact hlt2) hA hB);rw[← HN.o,show ((a+c:Nat):Int)=(a:Int)+(c:Int) from by omega,show ((a+2*c:Nat):Int)=(a:Int)+2*(c:Int) from by omega] at hc;clear hA hB
       go_wp2_with (first|(go_at_call 149;refine hc.o.mono ?_;rintro _ w1 ⟨rfl,d1,hS,hm1,hs1⟩;have T1:Aside (SWK qp 2 w blk off d1 w1):=hS;have M1:=Yu hm1;have R1:=Yu hs1;clear hS hm1 hs1))
       go_roundg (n-(a+2*c))
       case measure=>omega
       case rel=>exact⟨a+2*c,d1,by go_num,by go_num,hlt2,aD _,M1.o.1.trans hds,T1,⟨ku HD.o (jT _)⟩,HB.o.step HD.o M1.o R1.o,HF.o.step M1.o (by omega),HM.o.trans (M1.o.wide (bV _) (by omega) (by omega))⟩
      ·have aae:¬ ((a+2*c:Nat):Int)≤(n:Int):=by omega
       have aeL:¬ (a:Int)+2*(c:Int)≤(n:Int):=by omega
       by_cases hm:a+c<n
       ·have hmz:(a:Int)+(c:Int)<(n:Int):=by omega
        have hA:uf key dk a (a+c):=(HF.o a HDC.o (aD _)).sub (aD _) (by omega);have hB:uf key dk (a+c) n:=(HF.o (a+c) (ku HDC.o (jT _)) (by omega)).sub (aD _) (by omega);have hc:=Yu (SY.o n a (a+c) n dk wr (by omega) (by rw[hds];exact HN.o) S1.o (by omega) (by omega) (by rw[← HN.o];exact aD _) hA hB);rw[← HN.o,show ((a+c:Nat):Int)=(a:Int)+(c:Int) from by omega] at hc;clear hA hB
        go_wp2_with (first|(go_at_call 149;refine hc.o.mono ?_;rintro _ w1 ⟨rfl,d1,hS,hm1,hs1⟩;have T1:Aside (SWK qp 2 w blk off d1 w1):=hS;have M1:=Yu hm1;have R1:=Yu hs1;clear hS hm1 hs1))
        go_roundg (n-c*2)
        case measure=>omega
        case rel=>exact⟨c*2,d1,by go_num,by omega,.inr (by omega),by omega,M1.o.1.trans hds,T1,(by rw[fJ c 2];exact Xp.first (by omega) HB.o HD.o han (by omega) M1.o R1.o),HM.o.trans (M1.o.wide (bV _) (aD _) han)⟩
       ·have hmz:¬ (a:Int)+(c:Int)<(n:Int):=by omega
        have HS:=Yu (show uf key dk a n from (HF.o a HDC.o (aD _)).sub (aD _) (by omega));go_wp2
        go_roundg (n-c*2)
        case measure=>omega
        case rel=>exact⟨c*2,dk,by go_num,by omega,.inr (by omega),by omega,hds,S1,(by rw[fJ c 2];exact Xp.first (by omega) HB.o HD.o han (by omega) (MG.refl _ _ _) HS.o),HM⟩
    ·have agD:¬ (c:Int)<(n:Int):=by omega
     go_wp2;go_end0;exact⟨rfl,dk,S1.o,HM.o,(HB.o 0 (lT _) (aD _)).sub (aD _) (by omega)⟩
theorem Ot.c (g:Nat)(cf:qC→qC→Int)(key:qC→Int)(hcf:∀ x y,cf x y<0↔key x<key y)(eg:∀ args w,(callFunc g args).run Tryz.prog w = .ok (.enter g args) w)(hC:∀ blk off size w,CmpLays Tryz.prog g #[] qp 2 cf blk off size w)
 (blk off cap:Nat) (d:Array qC) (w:World) (R:RowK qp 2 w blk off d) (hsz:d.size<1152921504606846976) :
 Calls Tryz.prog 109 #[.slice (some ⟨blk,off,none⟩) d.size cap,.func (.func g) #[] #[]] w fun e w'=>e = .returned (.tuple #[])∧∃ d',SWK qp 2 w blk off d' w'∧MG key d 0 d.size d'∧uf key d' 0 d.size:=by
 have HI:=Yu (stable.c g cf key hcf eg hC blk off cap d w R hsz);clear R hsz hcf eg hC;generalize d.size=n at *
 go_enter Tryz.func109,Tryz.ntmps109
 go_wp2_with (first|(go_at_call 131;refine HI.o.mono ?_;rintro e w' ⟨rfl,hw'⟩;have HW:=Yu hw';clear hw'))
 go_end0;exact⟨rfl,HW.o⟩
end Go.Proofs.Y.PA
namespace Go.Proofs
open Go.Shelf Go.RowKit Go.Lib Go.Sort
def Tryz.TP:Go.Shelf.Ren:=⟨fun | 35=>107 | n=>n,fun | 22=>49 | 23=>70 | 3=>3 | 4=>4 | 0=>0 | n=>n,fun | n=>n⟩
theorem Tryz.Xa:Go.Proofs.SlLaysE0.n35 Tryz.prog Tryz.TP:={
 mixed:=by kernel_rfl
 f35:=⟨Tryz.f107.name,by decide,Tryz.func107.trans (gG some (by kernel_rfl))⟩
 t0:=Tryz.underlying0
 a0:=Tryz.isAgg0
 z0:=Tryz.sizeOf0
 v0:=Tryz.zeroValue0
 t3:=Tryz.underlying3
 a3:=Tryz.isAgg3
 z3:=Tryz.sizeOf3
 v3:=Tryz.zeroValue3
 t4:=Tryz.underlying4
 a4:=Tryz.isAgg4
 z4:=Tryz.sizeOf4
 v4:=Tryz.zeroValue4
 t22:=Tryz.underlying49
 a22:=Tryz.isAgg49
 z22:=Tryz.sizeOf49
 v22:=Tryz.zeroValue49 }
end Go.Proofs
namespace Go.Proofs.Y.PA
open Go.Shelf Go.RowKit Go.Lib Go.Sort
def Ir (x y:Int):Int:=if x<y then -1 else if y<x then 1 else 0
def Lr (a b:qC):Int:=Ir a.f0 b.f0
def EO (a:qC):Int:=a.f0
theorem UO (x y:qC):Lr x y<0↔EO x<EO y:=by
 unfold Lr Ir EO
 by_cases h:x.f0<y.f0
 ·simp[h]
 ·by_cases h2:y.f0<x.f0<;>simp[h,h2]
theorem Sb.c (a b:qC)(W:World):Calls Tryz.prog 108 #[.agg (qp a).toArray,.agg (qp b).toArray] W fun e w'=>e = .returned (.int .i64 (Lr a b))∧∃ q os',w'=grow (W.drewN q) os':=by
 unfold qp;simp only[List.toArray]
 go_enter Tryz.func108,Tryz.ntmps108
 have h0:(a.f0 != a.f0)=false:=by simp
 have h1:(b.f0 != b.f0)=false:=by simp
 by_cases h2:a.f0<b.f0
 ·have d2:decide (a.f0<b.f0)=true:=aM h2;have HC:Aside (Lr a b = -1):=by show Lr a b = -1;unfold Lr Ir;rw[ak h2]
  clear h2
  go_wp2_with (first | go_in)
  go_ret;exact⟨by rw[show Lr a b = -1 from HC];rfl,0,_,by rw[gX,gX,mK];rfl⟩
 ·have d2:decide (a.f0<b.f0)=false:=aN h2
  by_cases h3:b.f0<a.f0
  ·have d3:decide (b.f0<a.f0)=true:=aM h3;have HC:Aside (Lr a b=1):=by show Lr a b=1;unfold Lr Ir;rw[aK h2,ak h3]
   clear h2 h3
   go_wp2_with (first | go_in)
   go_ret;exact⟨by rw[show Lr a b=1 from HC];rfl,0,_,by rw[gX,gX,mK];rfl⟩
  ·have d3:decide (b.f0<a.f0)=false:=aN h3;have HC:Aside (Lr a b=0):=by show Lr a b=0;unfold Lr Ir;rw[aK h2,aK h3]
   clear h2 h3
   go_wp2_with (first | go_in)
   go_ret;exact⟨by rw[show Lr a b=0 from HC];rfl,0,_,by rw[gX,gX,mK];rfl⟩
theorem Sb.lays (blk off size:Nat)(w:World):CmpLays Tryz.prog 108 #[] qp 2 Lr blk off size w:=fun _ _ _ _ x y=>Sb.c x y _
theorem Sb.enters:∀ args w,(callFunc 108 args).run Tryz.prog w = .ok (.enter 108 args) w:=enters_of Tryz.func108 (by kernel_rfl) rfl
theorem X5.enters:∀ args w,(callFunc 111 args).run Tryz.prog w = .ok (.enter 111 args) w:=enters_of Tryz.func111 (by kernel_rfl) rfl
theorem X5.c (a b:qC)(W:World):Calls Tryz.prog 111 #[.agg #[.int .i64 a.f0,.int .u64 a.f1],.agg #[.int .i64 b.f0,.int .u64 b.f1]] W fun e w'=>e = .returned (.bool (a.f0==b.f0))∧∃ q os',w'=grow (W.drewN q) os':=by
 go_enter Tryz.func111,Tryz.ntmps111
 go_wp2;go_ret;exact⟨rfl,0,_,by rw[gX,gX,mK];rfl⟩
theorem SWK.trans {w0 W W':World}{blk off:Nat}{d d':Array qC}(h:SWK qp 2 w0 blk off d W)(hb:blk<w0.heap.size)(k:SWK qp 2 W blk off d' W')(hs:d'.size=d.size):SWK qp 2 w0 blk off d' W':=by
 obtain⟨m,os,rfl⟩:=k;exact h.on hb m d' os hs
theorem SWK.row {w0 W:World}{blk off:Nat}{d0 d:Array qC}(h:SWK qp 2 w0 blk off d W)(R:RowK qp 2 w0 blk off d0)(hs:d.size=d0.size):RowK qp 2 W blk off d:=⟨R.hk,R.h1,h.holds R.hblk R.hH hs,h.lt R.hblk⟩
theorem Xa.c (blk off cap:Nat)(d:Array qC)(w:World)(R:RowK qp 2 w blk off d)(hsz:d.size≤9223372036854775807) :
 Calls Tryz.prog 107 #[.slice (some ⟨blk,off,none⟩) d.size cap] w fun e w'=>e = .returned (.tuple #[])∧SWK qp 2 w blk off d.reverse w':=by
 refine kW (AnyQ.slices_Reverse Tryz.Xa 2 SN Po qp (fun _=>rfl) Gl blk off cap d w R.hH hsz) ?_;rintro e w' ⟨he,n,rfl⟩;exact⟨he,n,#[],by unfold sortWorldK;rw[grow_empty]⟩
end Go.Proofs.Y.PA
