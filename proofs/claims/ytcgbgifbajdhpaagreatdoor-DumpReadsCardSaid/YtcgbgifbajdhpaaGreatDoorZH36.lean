/- Of the law ZHQDumpReads. -/
import Derived.Test.YtcgbgifbajdhpaaGreatDoorZH30
import Derived.Test.YtcgbgifbajdhpaaGreatDoorZH33
set_option linter.unusedVariables false
set_option linter.unusedSimpArgs false
set_option maxHeartbeats 8000000
set_option maxRecDepth 100000
namespace Go
abbrev lq:=@List.length_filterMap_le
end Go
namespace Go.Proofs.Y.PA
open Go.RowKit Go.Proofs.Y.G Go.Proofs.YW.oO Go.Proofs.YW.pq Go.Proofs.YW.pz
def CY (l:List EP):List Value:=l.flatMap qE
theorem H6 (x:EP)(l:List EP):CY (x::l) = .int .i64 x.num :: .slice x.A0 x.n0 x.c0 :: .slice x.A1 x.n1 x.c1::CY l:=rfl
theorem E8:∀ (l:List EP),(CY l).length=l.length*3
 | []=>rfl
 | x::l=>by rw[H6,bq,bq,bq,E8 l,bq];omega
theorem E5:∀ (l:List EP) (j:Nat),j<l.length*3→(CY l)[j]? = (qE (l.getD (j / 3) YF))[j % 3]?
 | [],j,h=>by simp at h
 | x::l,0,_=>rfl
 | x::l,1,_=>rfl
 | x::l,2,_=>rfl
 | x::l,j+3,h=>by
   rw[H6,gB,gB,gB,E5 l j (by rw[bq] at h;omega),show (j+3) / 3=j / 3+1 from by omega,show (j+3) % 3=j % 3 from by omega];rfl
theorem QU (d:Array EP)(i:Nat):d.toList.getD i YF=d[i]! := by
 rw[aV,getElem!_def];simp only[jm];cases d[i]? <;> rfl
theorem MB (x:EP)(j:Nat)(h:j<3):(qE x)[j]? = some (qE x)[j]! := by
 rcases (show j=0∨j=1∨j=2 from by omega) with rfl | rfl | rfl<;>rfl
theorem IK {w W:World}{g:Nat}{d:Array EP}(h:SWK qE 3 w g 0 d W)(hg:g<w.heap.size){cur:Array Value}(hh:w.heap[g]? = some (.cells cur 123 (0,0))) :
 w.grownBy W (some g)∧∃ cur',W.heap[g]? = some (.cells cur' 123 (0,0))∧cur'.size=cur.size:=by
 obtain⟨n,os,rfl⟩:=h;refine⟨⟨rfl,rfl,rfl,by unfold Go.Proofs.sortWorldK Sort.putRowK Sort.grow;simp[Sort.ahead],fun k hk hne=>?_⟩,?_⟩
 ·unfold Go.Proofs.sortWorldK Sort.putRowK;rw[lg _ _ (by simp;exact hk)];show (Sort.mapBlock _ g _).heap[k]? = _;unfold Sort.mapBlock;simp[jl,Sort.ahead];intro e;exact absurd (by rw[e]) hne
 ·unfold Go.Proofs.sortWorldK Sort.putRowK;rw[lg _ _ (by simp;exact hg)];show ∃ cur',(Sort.mapBlock _ g _).heap[g]? = _∧_;unfold Sort.mapBlock;have hh':(Sort.ahead w n).heap[g]? = some (.cells cur 123 (0,0)):=hh;refine⟨_,by rw[jl,au rfl,hh'];rfl,?_⟩;simp[Sort.putCells]
theorem RN {w W:World}{base g cap m:Nat}{d:Array EP}(h:SWK qE 3 w g 0 d W)(hg:g<w.heap.size){cur:Array Value}(hh:w.heap[g]? = some (.cells cur 123 (0,0)))(hc:cur.size=cap*3){d0:Array EP}(R:Go.Proofs.RowK qE 3 w g 0 d0)(hs:d.size=d0.size)(hb:base≤g)(hm:m≤d.size)(hd:d.size≤cap)(hx:cap≤maxLen) :
 W.ownsRow base 123 3 (.slice (some ⟨g,0,none⟩) m cap) m (CY (uw d 0 m)):=by
 obtain⟨_,cur',h1,h2⟩:=IK h hg hh;have hl:(uw d 0 m).length=m:=by rw[AJ,kG]
 refine⟨by rw[E8,hl],.inr ⟨g,cap,cur',rfl,hb,h1,by omega,hx,by omega,?_⟩⟩;apply iZ;intro j
 by_cases hj:j<m*3
 ·have hH:=h.holds R.hblk R.hH hs;have hc2:=(hH j (by rw[mG];omega)).1;rw[dK,oQ h1,jh _ _ _ _ (by omega)] at hc2;rw[dB,au hj,E5 _ _ (by rw[hl];exact hj),MB _ _ (gG _ (by omega))];have e2:(uw d 0 m).getD (j / 3) YF=d[j / 3]! := by
   rw[aV];unfold uw;simp[show j / 3<m from by omega]
  rw[e2]
  simpa using hc2
 ·rw[dS (by rw[aW];omega),dS (by rw[E8,hl];omega)]
theorem Ot (l:List EP)(i:Nat):l.getD i YF=l.toArray[i]! := by rw[← QU]
theorem JO {sz:Nat}:∀ (rows:List (List Value)) (inner:List Value),qP (fun x cs=>cs=x∧cs.length=sz∧∀ u∈cs,u.oneCell'=true) sz rows inner→inner=rows.flatten
 | [],inner,h=>by
   have h1:=h.1;rw[eF,gH] at h1;rw[List.length_eq_zero_iff.1 h1];rfl
 | r::rs,inner,h=>by
   have h0:=(h.2 0 r rfl).1;have hlen:=h.1;rw[bq,gI,nX] at hlen;have h1:=JO (sz:=sz) rs (inner.drop sz) ⟨by rw[aX];omega,fun j p hj=>by
    have h2:=h.2 (j+1) p (by simpa using hj);rw[gZ,show sz+j*sz=(j+1)*sz by rw[gI];omega];exact h2⟩
   rw[gH,gT] at h0;rw[fC,← h1,← h0,fH]
theorem JB {sz:Nat}:∀ (rows:List (List Value)),(∀ r∈rows,r.length=sz∧∀ u∈r,u.oneCell'=true)→qP (fun x cs=>cs=x∧cs.length=sz∧∀ u∈cs,u.oneCell'=true) sz rows rows.flatten
 | [],_=>⟨by simp,fun j p h=>by simp at h⟩
 | r::rs,h=>by
   have h1:=JB rs (fun x hx=>h x (dh _ hx));have h0:=h r cO;refine⟨by rw[fC,aT,h1.1,h0.1,bq,gI];omega,fun j p hj=>?_⟩;cases j with
   | zero=>
     simp only[iG,bF] at hj;subst hj;rw[gH,gT,fC,eO h0.1];exact⟨rfl,h0⟩
   | succ j=>
     rw[gB] at hj;have h2:=h1.2 j p hj;rw[fC,show (j+1)*sz=r.length+j*sz by rw[h0.1,gI];omega,lN,fE (by omega),cB,jJ];exact h2
abbrev ZP (W:World)(ok:Nat→Prop):={ z:EP × Pt // z.1.num=(z.2.num:Int)∧Kd.FK kP W ok z.2 (qE z.1) }
theorem NW {W:World}{ok:Nat→Prop}:∀ (out:List Pt) (rows:List (List Value)),rows.length=out.length→(∀ (j:Nat) (x:Pt) (c:List Value),out[j]? = some x→rows[j]? = some c→Kd.FK kP W ok x c)→∃ zs:List (ZP W ok),zs.map (·.1.2)=out∧zs.map (fun z=>qE z.1.1)=rows
 | [],rows,hl,_=>⟨[],rfl,by rw[List.length_eq_zero_iff.1 hl];rfl⟩
 | x::out,[],hl,_=>by simp at hl
 | x::out,c::rows,hl,h=>by
   obtain⟨zs,h1,h2⟩:=NW out rows (by simpa using hl) (fun j y d hy hd=>h (j+1) y d (by simpa using hy) (by simpa using hd));have hf:=h 0 x c rfl rfl;obtain⟨A0,c0,A1,c1,hc,_⟩:=KU (Kd.zA hf);subst hc;refine⟨⟨(⟨x.num,A0,x.ser.f0.length,c0,A1,x.ser.f1.length,c1⟩,x),rfl,hf⟩::zs,by rw[bS,h1],by rw[bS,h2];rfl⟩
theorem Xt.c (c:Nat)(w:World):Calls Tryz.prog 134 #[.slice none 0 c,.int .i64 0,.int .i64 0,.func (.func 76) #[] #[]] w fun e w'=>e = .returned (.tuple #[])∧Below w.heap.size w w':=by
 go_enter Tryz.func134,Tryz.ntmps134
 go_wp2
 go_loopg [8] 0 (fun kx s8 wr=>s8 = .int .i64 1∧wr=w)
 case atStart=>exact⟨rfl,rfl⟩
 case round=>
  obtain⟨rfl,rfl⟩:=hrel;go_wp2;go_end0;exact⟨rfl,aU _ _⟩
theorem V9.c (c:Nat)(w:World):Calls Tryz.prog 75 #[.slice none 0 c,.func (.func 76) #[] #[]] w fun e w'=>e = .returned (.tuple #[])∧Below w.heap.size w w':=by
 have ST:oM (Calls Tryz.prog 113 #[.slice none 0 c,.int .i64 0,.func (.func 76) #[] #[]] w fun e w'=>e = .returned (.tuple #[])∧Below w.heap.size w w'):=⟨by
  have IN:=Y7 (Xt.c c w)
  go_enter Tryz.func113,Tryz.ntmps113
  go_wp2
  go_loopg [7,8] 0 (fun kx s7 s8 wr=>s7 = .int .i64 0∧s8 = .int .i64 20∧wr=w)
  case atStart=>exact⟨rfl,rfl,rfl⟩
  case round=>
   obtain⟨rfl,rfl,rfl⟩:=hrel
   go_wp2_with (first|(go_at_call 134;refine IN.o.mono ?_;rintro _ w1 ⟨rfl,hS⟩;have S1:=Y7 hS;clear hS))
   go_loopg [6,7,8,9] 0 (fun kx s6 s7 s8 s9 wq=>s6 = .int .i64 20∧wq=w1)
   case atStart=>exact⟨rfl,rfl⟩
   case round=>
    obtain⟨rfl,rfl⟩:=hrel;go_wp2;go_end0;exact⟨rfl,S1.o⟩⟩
 go_enter Tryz.func75,Tryz.ntmps75
 go_wp2_with (first|(go_at_call 113;refine ST.o.mono ?_;rintro e w' ⟨rfl,hw'⟩;have HW:=Y7 hw';clear hw'))
 go_end0;exact⟨rfl,HW.o⟩
theorem Wd.c {v:Value}{out:List Pt}{W:World}{base:Nat}{ok:Nat→Prop}(h:Kd.N kP 123 W base ok v out)(hs:LM out.length) :
 Calls Tryz.prog 75 #[v,.func (.func 76) #[] #[]] W fun e w'=>e = .returned (.tuple #[])∧Kd.N kP 123 w' base ok v (BN out)∧W.grownBy w' v.ownBlock:=by
 obtain⟨h0,rows,hrl,hR,hf⟩:=h;obtain⟨zs,hz1,hz2⟩:=NW out rows hrl hf;obtain⟨hR0,inner,ho,hr⟩:=hR;have hin:inner=rows.flatten:=JO (sz:=3) rows inner hr;have hfl:rows.flatten=CY (zs.map (·.1.1)):=by
  rw[← hz2,CY,nO,List.flatMap_def]
 have hzl:zs.length=out.length:=by rw[← hz1,bN]
 have hrz:rows.length=zs.length:=by rw[← hz2,bN]
 rcases ho.2 with ⟨rfl,hn0⟩ | ⟨g,cap,cur,rfl,hb,hh,h1,h2,h3,h4⟩
 ·have hout:out=[]:=List.length_eq_zero_iff.1 (by omega);subst hout;exact (V9.c 0 W).mono fun e w' ⟨he,hb⟩=>⟨he,Kd.FJ _ _ _ _ _,⟨hb.os,hb.tape,hb.output,hb.size,fun k hk _=>hb.block k hk⟩⟩
 ·have hqs:(zs.map (·.1.1)).toArray.size=rows.length:=by simp[hrz]
  have hg:g<W.heap.size:=qQ hh;have R:Go.Proofs.RowK qE 3 W g 0 (zs.map (·.1.1)).toArray:=by
   refine⟨Tm,Ed,fun j hj=>?_,hg⟩;rw[mG] at hj;have hj':j<(zs.map (·.1.1)).length*3:=by simpa using hj
   refine⟨?_,oW hh _⟩;rw[dK,oQ hh,jh _ _ _ _ hj];have e1:cur[j]? = (CY (zs.map (·.1.1)))[j]? := by
    rw[← hfl,← hin,← h4,dB,au (by rw[bN] at hj';rw[hrz];exact hj')];simp
   rw[e1,E5 _ j hj',MB _ _ (gG _ (by omega)),Ot _ _];rfl
  refine kJ (by have h5:=hs g 0 cap (zs.map (·.1.1)).toArray W R (by rw[hqs];omega);rw[hqs] at h5;exact h5) ?_;rintro e w' ⟨rfl,d',hS,hM,hT⟩;have hds:d'.size=rows.length:=hM.1.trans hqs;have hd:d'.toList=Ba zD (zs.map (·.1.1)):=by
   refine U9 zD _ _ ?_ (Qm _ _) (fun v=>?_)
   ·rw[Up,nG];intro i j hi hj hij;have:=hT i j (bP _) hij (by simp at hj;omega)
    simpa [l9,show i<d'.size by simpa using hi,show j<d'.size by simpa using hj] using this
   ·rw[Ql];have h6:=hM.2.2 v;have h7:uw d' 0 rows.length=d'.toList:=by rw[← hds];exact Cw d'
    have h8:uw (zs.map (·.1.1)).toArray 0 rows.length=(zs.map (·.1.1)).toArray.toList:=by rw[← hqs];exact Cw _
    rw[h7,h8] at h6;exact h6
  have hkey:(fun z:ZP W (fun k=>ok k∧some k≠(Value.slice (some ⟨g,0,none⟩) rows.length cap).ownBlock)=>zD z.1.1)=fun z=>((z.1.2.num:Nat):Int):=by funext z;exact z.2.1
  have hd2:d'.toList=(Ba (fun z=>zD z.1.1) zs).map (·.1.1):=by rw[hd,IJ (fun z:ZP W _=>z.1.1) zD zs]
  have ho2:BN out=(Ba (fun z=>zD z.1.1) zs).map (·.1.2):=by rw[zU,← hz1,hkey,IJ (fun z:ZP W _=>z.1.2) (fun q=>(q.num:Int)) zs]
  generalize hzs:Ba (fun z=>zD z.1.1) zs=zs' at hd2 ho2;have anC:zs'.length=rows.length:=by
   have:=eU List.length hd2;rw[bN] at this;rw[← this,← hds];simp
  obtain⟨hgr,_⟩:=IK hS hg hh;have hO:=RN hS hg hh h3 R (hM.1) hb (ay d'.size) (by omega) h2;have hf':uw d' 0 d'.size=zs'.map (·.1.1):=by rw[Cw,hd2]
  rw[hf',hds] at hO;have anD:CY (zs'.map (·.1.1))=(zs'.map (fun z=>qE z.1.1)).flatten:=by rw[CY,nO,List.flatMap_def]
  rw[anD] at hO;have HRR:qP (fun x cs=>cs=x∧cs.length=3∧∀ (u:Value),u∈cs→u.oneCell'=true) 3 (zs'.map (fun z=>qE z.1.1)) (zs'.map (fun z=>qE z.1.1)).flatten:=JB (sz:=3) _ (fun r hr'=>by
   obtain⟨z,_,rfl⟩:=List.mem_map.1 hr';exact⟨rfl,Ed _⟩)
  have HL':(zs'.map (fun z=>qE z.1.1)).length=rows.length:=by rw[bN,anC]
  rw[← HL'] at hO h0 ⊢;have HRW:(Kd.raw kP.sz).R 123 w' base (fun k=>some k=(Value.slice (some ⟨g,0,none⟩) (zs'.map (fun z=>qE z.1.1)).length cap).ownBlock) (.slice (some ⟨g,0,none⟩) (zs'.map (fun z=>qE z.1.1)).length cap) (zs'.map (fun z=>qE z.1.1)):=⟨fun k hk=>hk.symm,_,hO,HRR⟩;refine⟨rfl,⟨h0,_,by rw[ho2,bN,bN],HRW,fun j x c hx hc=>?_⟩,hgr⟩
  ·rw[ho2,fK] at hx;rw[fK] at hc;cases hzj:zs'[j]? with
   | none=>rw[hzj] at hx;cases hx
   | some z=>
     rw[hzj] at hx hc;cases hx;cases hc;exact Kd.R8 z.2.2 hgr (fun k hk=>hk.2)
theorem Eh:∀ (k:Nat) (b:List Int),(yP k b).length≤b.length
 | 0,b=>by simp[yP]
 | k+1,b=>by
   rw[yP];split
   ·simp
   ·split
    ·have:=Eh k (b.drop 1);rw[aX] at this;omega
    ·rename_i f hf;have h1:=(xK hf).1;have:=Eh k (b.drop (wQ f));rw[aX] at this;unfold wQ at *;rw[bq];omega
theorem Un (b:List Int):(CP b).length≤b.length:=bY (lq ..) (Eh _ _)
theorem Xz {W:World}{ok:Nat→Prop}{x:Pt}{A0 A1:Option Addr}{c0 c1:Nat}(h:Kd.FK kP W ok x [.int .i64 x.num,.slice A0 x.ser.f0.length c0,.slice A1 x.ser.f1.length c1]):Kd.FK Bc W ok x.ser [.slice A0 x.ser.f0.length c0,.slice A1 x.ser.f1.length c1]:=fun W' hW=>by
 obtain⟨B0,d0,B1,d1,he,h1,h2,h3,h4⟩:=KU (h W' hW);injection he with _ he
 injection he with e1 he
 injection he with e2 _
 injection e1 with e1 _ e3
 injection e2 with e2 _ e4
 subst e1 e2 e3 e4;exact KS W' x.ser h1 h2 h3 h4
def LH (w:World)(fs:List Fr)(W:World):Prop:=∃ v,CU W w.heap.size v∧Kd.N kP 123 W w.heap.size (fun k=>w.heap.size<k) v (fs.filterMap uO)∧Below w.heap.size w W
theorem QS (A:Option Addr)(c n:Nat)(b:List Int)(w:World)(hn:b.length=n)(hr:Kd.C (Kd.int .u8) w A n b)(hc:n≤c)(hok:okB b=true)(hlen:n≤1000000)(hT:zZ w)(hZ:yN w) :
 Calls Tryz.prog 44 #[.slice A n c,.func (.func 74) #[.pointer (some ⟨w.heap.size,0,none⟩)] #[]] (w.alloc (.cells #[.slice none 0 0] 120 (0,0))) fun e w'=>e = .returned (.tuple #[])∧LH w (tZ b) w':=by
 refine Wj.c w.heap.size A c n b _ (LH w) hn hc hok (by omega) (fun fs W ⟨v,_,_,hb⟩=>Kd.o9 hr hb) (fun fs W ⟨v,_,_,hb⟩=>hT.below hb) (fun fs W W' ⟨v,h1,h2,h3⟩ hb=>⟨v,o7 h1 hb,Kd.wV h2 hb,oP h3 hb⟩)
  (fun fs f W A' c' ⟨v,h1,h2,h3⟩ hl hpl hpo hC hcc=>?_) ⟨.slice none 0 0,qx _ _,Kd.FJ _ _ _ _ _,oN (aU _ _) _⟩
 have hll:(fs.filterMap uO).length≤1000000000:=bY (lq ..) (by rw[bq] at hl;omega);refine (take.c w.heap.size f.pay.length f v (fs.filterMap uO) A' c' w.heap.size w W rfl hC hcc hpl hpo (hZ.below h3) h1 h2 hll h3 (ay _)).mono fun e w' ⟨he,v',g1,g2,g3⟩=>⟨he,v',g1,?_,g3⟩
 rw[List.filterMap_append,show [f].filterMap uO=(uO f).toList by cases h:uO f<;>simp[h]];exact g2
theorem found.c (A:Option Addr)(c n:Nat)(b:List Int)(w:World)(hn:b.length=n)(hr:Kd.C (Kd.int .u8) w A n b)(hc:n≤c)(hok:okB b=true)(hlen:n≤1000000)(hT:zZ w)(hZ:yN w)(akA:LM (CP b).length) :
 Calls Tryz.prog 37 #[.slice A n c] w fun e w'=>∃ v:Value,e = .returned v∧Kd.N Bc 51 w' w.heap.size (fun k=>w.heap.size<k) v (qL b)∧Below w.heap.size w w':=by
 have TH:=Y7 (QS A c n b w hn hr hc hok hlen hT hZ);have HFW:=Y7 akA;have HPL:oM ((CP b).length≤1000000):=⟨bY (Un b) (by omega)⟩;obtain⟨S,hS⟩:∃ S,BN (CP b)=S:=⟨_,rfl⟩;have HFL:oM (qL b=S.map (·.ser)):=⟨by rw[qL,hS]⟩;have HSS:=Y7 hS;clear hr hc hok hT hZ hn akA hS
 go_enter Tryz.func37,Tryz.ntmps37
 go_wp2_with (first|(go_at_call 44;(with_reducible refine TH.o.mono ?_);rintro e w1 ⟨rfl,v1,hu,hn1,hb⟩;obtain⟨n1,A1,c1,rfl⟩:∃ n A c,v1 = .slice A n c:=(by obtain⟨A1,c1,h⟩:=Kd.zW hn1;exact⟨_,A1,c1,h⟩);have HU1:=Y7 hu;have HN1:oM (Kd.N kP 123 w1 w.heap.size (fun k=>w.heap.size<k) (.slice A1 n1 c1) (CP b)):=⟨hn1⟩;have HB1:=Y7 hb;have q0:=(oQ hu 0).trans rfl;clear hu hn1 hb)|(go_at_call 75;(with_reducible refine (Wd.c HN1.o HFW.o).mono ?_);rintro e w2 ⟨rfl,hn2,hg⟩;have HN2:=Y7 hn2;have HG2:=Y7 hg;have HU2:=Y7 (qK HU1.o hg (fun e=>by have h1:w.heap.size<w.heap.size:=HN1.o.1 _ e.symm;omega));clear q0;have q0:=(oQ HU2.o 0).trans rfl;clear hn2 hg))
 rw[HSS.o] at HN2;obtain⟨A2,c2,hv2⟩:=Kd.zW HN2.o;cases hv2;have HW2:oM (Below w.heap.size w w2):=⟨Below.grown HB1.o HG2.o HB1.o.size (fun k e=>kV (HN2.o.1 k e))⟩;have hpw:w.heap.size<w2.heap.size:=qQ HU2.o;have HCF:=Y7 (Kd.BU (Kd.YG HN2.o));have HSL:oM (S.length≤1000000):=⟨by
  have h1:=eU List.length HSS.o;have h2:=HPL.o;have h3:(BN (CP b)).length=(CP b).length:=by rw[zU];exact EC _ _
  omega⟩
 clear q0
 go_loopg [5,25] S.length (fun kx s5 s25 wr=>∃ (k:Nat),s25 = .int .i64 k∧k≤S.length∧S.length-k≤kx∧oM (Kd.N Bc 51 wr w2.heap.size (fun k=>w.heap.size<k) s5 ((S.take k).map (·.ser)))∧oM (Below w2.heap.size w2 wr))
 case atStart=>exact⟨0,rfl,bP _,by omega,⟨by rw[kD];exact Kd.FJ _ _ _ _ _⟩,⟨aU _ _⟩⟩
 case round=>
  obtain⟨k,rfl,hk,hkx,HN,HB⟩:=hrel
  by_cases hlt:k<S.length
  ·obtain⟨ad,cs,rfl,hcl,hFK,hcc,_⟩:=Kd.Sc (Kd.xJ HCF.o HB.o) zP (k:Int) (by omega) (by omega);rw[aG] at hFK hcc;obtain⟨A0,c0,A3,c3,rfl,_⟩:=KU (Kd.zA hFK);have x0:wr.cell? (ad.add (k*3))=some (.int .i64 (S.getD k zP).num):=hcc 0 _ rfl;have x1:wr.cell? ⟨(ad.add (k*3)).block,(ad.add (k*3)).off+1,none⟩=some (.slice A0 (S.getD k zP).ser.f0.length c0):=by rw[← xX _ _ 1 (by omega)];exact hcc 1 _ rfl
   have x2:wr.cell? ⟨(ad.add (k*3)).block,(ad.add (k*3)).off+2,none⟩=some (.slice A3 (S.getD k zP).ser.f1.length c3):=by rw[← xX _ _ 2 (by omega)];exact hcc 2 _ rfl
   have HTF:oM ((S.take (k+1)).map (·.ser)=(S.take k).map (·.ser)++[(S.getD k zP).ser]):=⟨by
    rw[List.take_add_one,fJ];simp[aV,aR hlt]⟩
   have HFK:=Y7 (Xz hFK);have hkz:(k:Int)<(S.length:Int):=by omega
   have HTL:oM (((S.take k).map (·.ser)).length≤1000000):=⟨by rw[bN,aW];have:=HSL.o;omega⟩;have HBS:=Y7 (Kd.Df HN.o);clear hcc hFK hcl;generalize S.getD k zP=s at *;have hs1:=HB.o.size;have ao5:=HSL.o
   go_wp2_with (first|((with_reducible refine qm (N:=33) rfl ?_);go_must (refine Kd.Bg Bc (w0:=w2) w2.heap.size rfl (.tmp 29) (.tmp 32) 22 51 (.agg #[.slice none 0 0,.slice none 0 0]) 48 rfl Tryz.underlying22 Bz rfl (by decide) (by decide) u5 _ s.ser _ (fun k=>w.heap.size<k) (fun k=>w.heap.size<k∧k<w2.heap.size) rfl (by rw[bW];rfl) (Kd.y7 HFK.o (oN (aU _ _) _)) ?h4 ?h5 (Kd.DX HN.o _) (HB.o.alloc hs1 _) ?h7 ?h6 ?_);(case h4=>exact fun k hk=>⟨hk.1,fun e=>by have:=HBS.o k e.symm;omega⟩);(case h5=>exact fun k hk=>by rw[bW] at hk;omega);(case h6=>(have:=HTL.o;omega));(case h7=>(rw[bW];omega));intro v4 w4 hn4 hb4 hg4 adX;have HN4:=Y7 hn4;have HB4:=Y7 hb4;clear hn4 hb4 hg4 adX))
   go_roundg (S.length-(k+1))
   case measure=>omega
   case rel=>exact⟨k+1,by go_num,hlt,ay _,⟨by rw[HTF.o];exact HN4.o⟩,HB4⟩
  ·obtain rfl:k=S.length:=by omega
   rw[dz] at HN;have hkz:¬ ((S.length:Int)<(S.length:Int)):=by omega
   go_wp2_with fail
   go_ret;exact⟨_,rfl,by rw[HFL.o];exact Kd.Pq HN.o (kV hpw),HW2.o.trans (HB.o.mono (kV hpw))⟩
def yK (b:List Int):Prop:=LM (CP b).length∧(qL b).length≤100000∧tot (qL b)≤1000000∧(∀ x∈qL b,x.f0.length≤1000000)∧Na (joinL (qL b))∧(joinL (qL b)).length≤100000∧tot (joinL (qL b))≤1000000∧okB (vP (joinL (qL b))).1=true
theorem UA.c (A:Option Addr)(c n:Nat)(b:List Int)(w:World)(hn:b.length=n)(hr:Kd.C (Kd.int .u8) w A n b)(hc:n≤c)(hok:okB b=true)(hlen:n≤1000000)(hT:zZ w)(hZ:yN w)(hF:yK b) :
 Calls Tryz.prog 14 #[.slice A n c] w fun e w'=>∃ (A':Option Addr) (c':Nat),e = .returned (.tuple #[.slice A' (uq b).1.length c',.int .i64 (uq b).2])∧(uq b).1.length≤c'∧Kd.C Bc w' A' (uq b).1.length (uq b).1∧Below w.heap.size w w':=by
 have HN:=Y7 hn;have HR:=Y7 hr;have HOK:=Y7 hok;have HT:=Y7 hT;have HZ:=Y7 hZ;have FO:=Y7 (found.c A c n b w hn hr hc hok hlen hT hZ hF.1);obtain⟨F,hFe⟩:∃ F,qL b=F:=⟨_,rfl⟩;obtain⟨J,hJe⟩:∃ J,joinL F=J:=⟨_,rfl⟩;have hRF:uq b=if vP J=(b,0) then (J,0) else ([],5):=by rw[uq,hFe,hJe]
 unfold yK at hF;rw[hFe,hJe] at hF;rw[hFe] at FO;obtain⟨eb,ee,hw⟩:∃ eb ee,vP J=(eb,ee):=⟨_,_,rfl⟩;rw[hw] at hRF hF;have HF:=Y7 hF;have HJ:=Y7 hJe;have HW:=Y7 hw;have HRF:=Y7 hRF;have hee:ee=0∨ee=1:=by
  unfold vP at hw;split at hw
  ·injection hw with _ h;exact .inl h.symm
  ·injection hw with _ h;exact .inr h.symm
 clear hr hok hT hZ hF hFe hJe hRF hw hn;have CF:(F.length:Nat)=F.length:=rfl;rcases hee with rfl | rfl
 ·have ahD:okB eb=true:=HF.o.2.2.2.2.2.2.2
  by_cases he:eb=b
  ·have EQ:oM (∀ A3 c3 W,Kd.C (Kd.int .u8) W A3 eb.length eb→eb.length≤c3→Below w.heap.size w W→Calls Tryz.prog 38 #[.slice A3 eb.length c3,.slice A n c] W fun e w'=>e = .returned (.bool true)∧Below W.heap.size W w'):=⟨fun A3 c3 W h1 h2 hb=>by
    have h3:=bytes_Equal.c A3 c3 eb A c b true W h1 h2 (by rw[HN.o];exact Kd.o9 HR.o hb) (by rw[HN.o];exact hc) (by rw[bytes_Equal.f,au ⟨ahD,HOK.o⟩];simp[he]);rw[HN.o] at h3;exact h3.mono fun e w' ⟨h4,h5⟩=>⟨h4,h5.below⟩⟩
   have HE:oM (uq b=(J,0)):=⟨by rw[HRF.o,au (by rw[he])]⟩;rw[HE.o];clear HRF he ahD
   go_enter Tryz.func14,Tryz.ntmps14
   go_wp2_with (first|(go_at_call 37;(with_reducible refine FO.o.mono ?_);rintro e w1 ⟨v1,rfl,hn1,hb⟩;obtain⟨A1,c1,rfl,hc1,hC1⟩:=Kd.yj hn1;have HC1:=Y7 hC1;have HB1:=Y7 hb;clear hn1 hc1 hC1 hb)|(go_at_call 36;(with_reducible refine (join.c A1 c1 F.length F _ rfl HC1.o HF.o.2.1 HF.o.2.2.1 HF.o.2.2.2.1).mono ?_);rintro e w2 ⟨A2,c2,rfl,hc2,hC2,hb⟩;rw[HJ.o] at hc2 hC2 ⊢;have HC2:=Y7 (And.intro hc2 hC2);have HB2:=Y7 (oP HB1.o hb);clear hc2 hC2 hb)|(go_at_call 9;(with_reducible refine (Lr.c A2 c2 J.length J eb 0 _ rfl HC2.o.2 HC2.o.1 HF.o.2.2.2.2.1 HF.o.2.2.2.2.2.1 HF.o.2.2.2.2.2.2.1 (HZ.o.below HB2.o) (HT.o.below HB2.o) HW.o).mono ?_);rintro e w3 ⟨v3,rfl,hr3,hb⟩;obtain⟨A3,c3,rfl⟩:=Kd.pO hr3;have HR3:=Y7 (Kd.pE hr3);have HB3:=Y7 (oP HB2.o hb);have adY:=Y7 (Kd.o9 HC2.o.2 hb);clear hr3 hb)|(go_at_call 38;(with_reducible refine (EQ.o A3 c3 _ HR3.o.2.2 HR3.o.2.1 HB3.o).mono ?_);rintro e w4 ⟨rfl,hb⟩;have HB4:=Y7 (oP HB3.o hb);have ahE:=Y7 (Kd.o9 adY.o hb);clear hb))
   refine bf (dD rfl _ _ _) rfl ?_;exact⟨A2,c2,rfl,HC2.o.1,ahE.o,HB4.o⟩
  ·have EQ:oM (∀ A3 c3 W,Kd.C (Kd.int .u8) W A3 eb.length eb→eb.length≤c3→Below w.heap.size w W→Calls Tryz.prog 38 #[.slice A3 eb.length c3,.slice A n c] W fun e w'=>e = .returned (.bool false)∧Below W.heap.size W w'):=⟨fun A3 c3 W h1 h2 hb=>by
    have h3:=bytes_Equal.c A3 c3 eb A c b false W h1 h2 (by rw[HN.o];exact Kd.o9 HR.o hb) (by rw[HN.o];exact hc) (by rw[bytes_Equal.f,au ⟨ahD,HOK.o⟩];simp[he]);rw[HN.o] at h3;exact h3.mono fun e w' ⟨h4,h5⟩=>⟨h4,h5.below⟩⟩
   have HE:oM (uq b=([],5)):=⟨by rw[HRF.o,av (by intro h;injection h with h _;exact he h)]⟩;rw[HE.o];clear HRF he ahD
   go_enter Tryz.func14,Tryz.ntmps14
   go_wp2_with (first|(go_at_call 37;(with_reducible refine FO.o.mono ?_);rintro e w1 ⟨v1,rfl,hn1,hb⟩;obtain⟨A1,c1,rfl,hc1,hC1⟩:=Kd.yj hn1;have HC1:=Y7 hC1;have HB1:=Y7 hb;clear hn1 hc1 hC1 hb)|(go_at_call 36;(with_reducible refine (join.c A1 c1 F.length F _ rfl HC1.o HF.o.2.1 HF.o.2.2.1 HF.o.2.2.2.1).mono ?_);rintro e w2 ⟨A2,c2,rfl,hc2,hC2,hb⟩;rw[HJ.o] at hc2 hC2 ⊢;have HC2:=Y7 (And.intro hc2 hC2);have HB2:=Y7 (oP HB1.o hb);clear hc2 hC2 hb)|(go_at_call 9;(with_reducible refine (Lr.c A2 c2 J.length J eb 0 _ rfl HC2.o.2 HC2.o.1 HF.o.2.2.2.2.1 HF.o.2.2.2.2.2.1 HF.o.2.2.2.2.2.2.1 (HZ.o.below HB2.o) (HT.o.below HB2.o) HW.o).mono ?_);rintro e w3 ⟨v3,rfl,hr3,hb⟩;obtain⟨A3,c3,rfl⟩:=Kd.pO hr3;have HR3:=Y7 (Kd.pE hr3);have HB3:=Y7 (oP HB2.o hb);have adY:=Y7 (Kd.o9 HC2.o.2 hb);clear hr3 hb)|(go_at_call 38;(with_reducible refine (EQ.o A3 c3 _ HR3.o.2.2 HR3.o.2.1 HB3.o).mono ?_);rintro e w4 ⟨rfl,hb⟩;have HB4:=Y7 (oP HB3.o hb);have ahE:=Y7 (Kd.o9 adY.o hb);clear hb))
   refine bf (dD rfl _ _ _) rfl ?_;exact⟨none,0,rfl,ay _,Kd.Pn _ _,HB4.o⟩
 ·have HE:oM (uq b=([],5)):=⟨by rw[HRF.o,av (by intro h;injection h with _ h;exact absurd h (by decide))]⟩;rw[HE.o];clear HRF
  go_enter Tryz.func14,Tryz.ntmps14
  go_wp2_with (first|(go_at_call 37;(with_reducible refine FO.o.mono ?_);rintro e w1 ⟨v1,rfl,hn1,hb⟩;obtain⟨A1,c1,rfl,hc1,hC1⟩:=Kd.yj hn1;have HC1:=Y7 hC1;have HB1:=Y7 hb;clear hn1 hc1 hC1 hb)|(go_at_call 36;(with_reducible refine (join.c A1 c1 F.length F _ rfl HC1.o HF.o.2.1 HF.o.2.2.1 HF.o.2.2.2.1).mono ?_);rintro e w2 ⟨A2,c2,rfl,hc2,hC2,hb⟩;rw[HJ.o] at hc2 hC2 ⊢;have HC2:=Y7 (And.intro hc2 hC2);have HB2:=Y7 (oP HB1.o hb);clear hc2 hC2 hb)|(go_at_call 9;(with_reducible refine (Lr.c A2 c2 J.length J eb 1 _ rfl HC2.o.2 HC2.o.1 HF.o.2.2.2.2.1 HF.o.2.2.2.2.2.1 HF.o.2.2.2.2.2.2.1 (HZ.o.below HB2.o) (HT.o.below HB2.o) HW.o).mono ?_);rintro e w3 ⟨v3,rfl,hr3,hb⟩;have HB3:=Y7 (oP HB2.o hb);clear hr3 hb))
  refine bf (dD rfl _ _ _) rfl ?_;exact⟨none,0,rfl,ay _,Kd.Pn _ _,HB3.o⟩
theorem P9 {α:Type}(d:Kd α){W:World}{g t:Nat}{fr:Nat × Nat}{cs:Array Value}{x:α}(hb:W.heap[g]? = some (.cells cs t fr))(hK:d.K W x cs.toList):d.C W (some ⟨g,0,none⟩) 1 [x]:=by
 refine⟨rfl,by decide,fun _=>⟨_,rfl,fun j p hj=>?_⟩⟩
 match j,hj with
 | 0,hj=>
   injection hj with hj
   subst hj;refine⟨cs.toList,d.K_len hK,hK,fun i u hu=>?_⟩;rw[gH,dK,add_plain];exact (iN W g i cs t fr hb).trans (by simpa using hu)
 | n+1,hj=>simp at hj
def EN:ru:=⟨[⟨⟨#[97]⟩,⟨#[120]⟩⟩],[⟨1,2⟩]⟩
theorem Wu:sI EN.f0=true:=by decide
theorem Wv:vC EN.f1=true:=by decide
theorem SI:∀ s∈EN.f1,Bd s:=fun s hs=>by
 simp only[EN,iT,gY,lT] at hs;subst hs;exact⟨⟨by decide,by decide⟩,by decide,by decide⟩
theorem Km:vG [EN]=true:=Kq fun j hj=>by
 obtain rfl:j=0:=by simp at hj;omega
 exact Ij (D6 Wu (by decide) Wv)
theorem Ww:Na [EN]:=fun x hx=>by
 simp only[iT,gY,lT] at hx;subst hx;refine⟨fun y hy=>?_,by decide,by decide,SI⟩;simp only[EN,iT,gY,lT] at hy;subst hy;exact⟨by decide,by decide⟩
theorem yY:qY [EN]=[EN]:=by
 simp[qY,Fj,xQ,zH,EN]
theorem LU:joinL [EN]=[EN]:=by
 first | rfl | simp[joinL]
theorem Kl:∀ p∈qY [EN],M7 p:=by
 rw[yY];intro p hp;rw[List.mem_singleton.1 hp];exact⟨Wu,Wv,SI,by decide,by decide⟩
theorem G5:qL (uI [EN])=[EN]∧(tZ (uI [EN])).length=3:=by
 have h:=FT Kl (by rw[yY];decide);rw[yY] at h;exact h
theorem Vr:uq (uI [EN])=([EN],0):=OM Km Kl (by rw[yY];exact LU) (by rw[yY];decide)
theorem Wx:okB (uI [EN])=true∧(uI [EN]).length≤2000:=by
 have h:=J8 Kl;rw[yY] at h;exact⟨h.1,bY h.2 (by decide)⟩
theorem Ob:yK (uI [EN]):=by
 have h1:(CP (uI [EN])).length=(qL (uI [EN])).length:=by rw[qL,bN,zU,EC]
 rw[G5.1] at h1;unfold yK;rw[G5.1,LU,vP,au Km];refine⟨RA (by rw[h1];decide),by decide,by decide,fun x hx=>by rw[List.mem_singleton.1 hx];decide,Ww,by decide,by decide,Wx.1⟩
theorem Xj.c (w:World)(hT:yN w)(hQ:zZ w) :
 Calls Tryz.prog 12 #[] w fun e w'=>e = .returned (.bool true)∧Below w.heap.size w w':=by
 obtain⟨B,hB⟩:∃ B,uI [EN]=B:=⟨_,rfl⟩;have hWF:vP [EN]=(B,0):=by rw[vP,au Km,hB]
 have hrd:=Vr;have hok:=Wx;have hfo:=Ob;have hfr:=G5.2;have hlen:0<B.length:=by rw[← hB,uI,aT,wX];omega
 rw[hB] at hrd hok hfo hfr;have HRD:=Y7 hrd;have HOK:=Y7 hok;have HFO:=Y7 hfo;have HFR:=Y7 hfr;have HLN:=Y7 hlen;have HT:=Y7 hT;have HQ:=Y7 hQ;clear hrd hok hfo hfr hlen hT hQ hB;obtain⟨W3,hW3⟩:∃ W3,(((w.alloc (.cells #[.string ⟨#[97]⟩,.string ⟨#[120]⟩] 68)).alloc (.cells #[.int .i64 1,.int .u64 2] 70)).alloc (.cells #[.slice (some ⟨w.heap.size,0,none⟩) 1 1,.slice (some ⟨w.heap.size+1,0,none⟩) 1 1] 51))=W3:=⟨_,rfl⟩;have HB3:oM (Below w.heap.size w W3):=⟨by rw[← hW3];exact oN (oN (oN (aU _ _) _) _) _⟩;have hb1:W3.heap[w.heap.size]? = some (.cells #[.string ⟨#[97]⟩,.string ⟨#[120]⟩] 68 (0,0)):=by
  rw[← hW3];exact pK (pK (qx w _) _) _
 have hb2:W3.heap[w.heap.size+1]? = some (.cells #[.int .i64 1,.int .u64 2] 70 (0,0)):=by
  rw[← hW3];have:=qx (w.alloc (.cells #[.string ⟨#[97]⟩,.string ⟨#[120]⟩] 68)) (.cells #[.int .i64 1,.int .u64 2] 70);rw[bW] at this;exact pK this _
 have hb3:W3.heap[w.heap.size+1+1]? = some (.cells #[.slice (some ⟨w.heap.size,0,none⟩) 1 1,.slice (some ⟨w.heap.size+1,0,none⟩) 1 1] 51 (0,0)):=by
  rw[← hW3];have:=qx ((w.alloc (.cells #[.string ⟨#[97]⟩,.string ⟨#[120]⟩] 68)).alloc (.cells #[.int .i64 1,.int .u64 2] 70)) (.cells #[.slice (some ⟨w.heap.size,0,none⟩) 1 1,.slice (some ⟨w.heap.size+1,0,none⟩) 1 1] 51);rwa [bW,bW] at this
 have hC:=P9 Bc (x:=EN) hb3 (KS W3 EN (ay 1) (P9 xU (x:=⟨⟨#[97]⟩,⟨#[120]⟩⟩) hb1 (Xv W3 _)) (ay 1) (P9 vX (x:=⟨1,2⟩) hb2 (Xw W3 _)));have WR:=Y7 (Lr.c (some ⟨w.heap.size+1+1,0,none⟩) 1 1 [EN] B 0 W3 rfl hC (ay 1) Ww (by decide) (by decide) (HT.o.below HB3.o) (HQ.o.below HB3.o) hWF);clear hC hb1 hb2 hb3 hWF
 go_enter Tryz.func12,Tryz.ntmps12
 go_wp2_with (first|(go_at_call 9;(try rw[hW3]);(with_reducible refine WR.o.mono ?_);rintro e w4 ⟨v4,rfl,hr4,hb4⟩;clear hW3;obtain⟨a4,c4,rfl⟩:=Kd.rV hr4 HLN.o;have HR4:=Y7 (Kd.pE hr4);have HB4:=Y7 (oP HB3.o hb4);clear hr4 hb4)|(go_at_call 14;(with_reducible refine (UA.c (some a4) c4 B.length B _ rfl HR4.o.2.2 HR4.o.2.1 HOK.o.1 (bY HOK.o.2 (by decide)) (HQ.o.below HB4.o) (HT.o.below HB4.o) HFO.o).mono ?_);rintro e w5 ⟨A5,c5,rfl,_,_,hb⟩;rw[HRD.o];have HB5:=Y7 (oP HB4.o hb);have HR5:=Y7 (Kd.o9 HR4.o.2.2 hb);clear hb)|(go_at_call 20;(with_reducible refine (frames.c (some a4) c4 B.length B _ rfl HR5.o HR4.o.2.1 HOK.o.1 (bY HOK.o.2 (by decide)) (HQ.o.below HB5.o)).mono ?_);rintro e w6 ⟨rfl,hb⟩;rw[HFR.o];have HB6:=Y7 (oP HB5.o hb);clear hb))
 go_ret;exact⟨rfl,HB6.o⟩
end Go.Proofs.Y.PA
