/- Of the law rZIQDumpBack. -/
import Derived.Test.YtcgbgifbajdhpaaGreatDoorZI42
set_option linter.unusedVariables false
set_option linter.unusedSimpArgs false
set_option maxHeartbeats 4000000
set_option maxRecDepth 1000000
namespace Go.Proofs
open Go.Shelf Go.RowKit Go.Lib Go.Sort
def Tryz.L9:Go.Shelf.Ren:=⟨fun | 20=>134 | n=>n,fun | 24=>123 | 22=>118 | 3=>3 | 25=>125 | 4=>4 | 0=>0 | n=>n,fun | n=>n⟩
theorem Tryz.OZ:Go.Proofs.SlLaysF0.n20 Tryz.prog Tryz.L9:={
 mixed:=by kernel_rfl
 f20:=⟨Tryz.f134.name,by decide,Tryz.func134.trans (gG some (by kernel_rfl))⟩
 t0:=Tryz.underlying0
 a0:=Tryz.isAgg0
 z0:=Tryz.sizeOf0
 v0:=Tryz.zeroValue0
 t3:=Tryz.underlying3
 a3:=Tryz.isAgg3
 z3:=Tryz.sizeOf3
 v3:=Tryz.zeroValue3
 t4:=Tryz.underlying4
 a4:=Tryz.isAgg4
 z4:=Tryz.sizeOf4
 v4:=Tryz.zeroValue4
 t22:=Tryz.underlying118
 a22:=Tryz.isAgg118
 z22:=Tryz.sizeOf118
 v22:=Tryz.zeroValue118
 t25:=Tryz.underlying125
 a25:=Tryz.isAgg125
 z25:=Tryz.sizeOf125
 v25:=Tryz.zeroValue125 }
end Go.Proofs
namespace Go.Proofs.Y.PA
open Go.Shelf Go.RowKit Go.Lib Go.Sort
theorem SQ:∀ w,(isAgg 123).run Tryz.prog w = .ok true w:=fun w=>by kernel_rfl
theorem Pq:∀ w,(Go.sizeOf 123).run Tryz.prog w = .ok 3 w:=fun w=>by kernel_rfl
structure EP where
 num:Int
 A0:Option Addr
 n0:Nat
 c0:Nat
 A1:Option Addr
 n1:Nat
 c1:Nat
def X3:EP:=⟨0,none,0,0,none,0,0⟩
instance:Inhabited EP:=⟨X3⟩
def qB (x:EP):List Value:=[.int .i64 x.num,.slice x.A0 x.n0 x.c0,.slice x.A1 x.n1 x.c1]
theorem Sq (x:EP):(qB x).length=3:=rfl
theorem Cv (x:EP):∀ v∈qB x,v.oneCell'=true:=by
 intro v hv;simp only[qB,iU,iw,lN] at hv;rcases hv with rfl | rfl | rfl<;>rfl
def I6 (a b:EP):Int:=Ir a.num b.num
def yQ (a:EP):Int:=a.num
theorem OO (x y:EP):I6 x y<0↔yQ x<yQ y:=by
 unfold I6 Ir yQ
 by_cases h:x.num<y.num
 ·simp[h]
 ·by_cases h2:y.num<x.num<;>simp[h,h2]
theorem Nv.c (a b:EP)(W:World):Calls Tryz.prog 76 #[.agg (qB a).toArray,.agg (qB b).toArray] W fun e w'=>e = .returned (.int .i64 (I6 a b))∧∃ q os',w'=grow (W.drewN q) os':=by
 unfold qB;simp only[List.toArray]
 go_enter Tryz.func76,Tryz.ntmps76
 have h0:(a.num != a.num)=false:=by simp
 have h1:(b.num != b.num)=false:=by simp
 by_cases h2:a.num<b.num
 ·have d2:decide (a.num<b.num)=true:=aM h2;have HC:Aside (I6 a b = -1):=by show I6 a b = -1;unfold I6 Ir;rw[ak h2]
  clear h2
  go_wp2_with (first | go_in)
  go_ret;exact⟨by rw[show I6 a b = -1 from HC];rfl,0,_,by rw[gX,gX,mK];rfl⟩
 ·have d2:decide (a.num<b.num)=false:=aN h2
  by_cases h3:b.num<a.num
  ·have d3:decide (b.num<a.num)=true:=aM h3;have HC:Aside (I6 a b=1):=by show I6 a b=1;unfold I6 Ir;rw[aK h2,ak h3]
   clear h2 h3
   go_wp2_with (first | go_in)
   go_ret;exact⟨by rw[show I6 a b=1 from HC];rfl,0,_,by rw[gX,gX,mK];rfl⟩
  ·have d3:decide (b.num<a.num)=false:=aN h3;have HC:Aside (I6 a b=0):=by show I6 a b=0;unfold I6 Ir;rw[aK h2,aK h3]
   clear h2 h3
   go_wp2_with (first | go_in)
   go_ret;exact⟨by rw[show I6 a b=0 from HC];rfl,0,_,by rw[gX,gX,mK];rfl⟩
theorem Nv.lays (blk off size:Nat)(w:World):CmpLays Tryz.prog 76 #[] qB 3 I6 blk off size w:=fun _ _ _ _ x y=>Nv.c x y _
theorem Nv.enters:∀ args w,(callFunc 76 args).run Tryz.prog w = .ok (.enter 76 args) w:=enters_of Tryz.func76 (by kernel_rfl) rfl
theorem Vu.c (blk off cap:Nat)(d:Array EP)(w:World)(R:RowK qB 3 w blk off d)(hsz:d.size<20) :
 Calls Tryz.prog 113 #[.slice (some ⟨blk,off,none⟩) d.size cap,.int .i64 d.size,.func (.func 76) #[] #[]] w fun e w'=>e = .returned (.tuple #[])∧∃ d',SWK qB 3 w blk off d' w'∧MG yQ d 0 d.size d'∧uf yQ d' 0 d.size:=by
 have hlt:∀ x y,ltOf I6 x y=true↔yQ x<yQ y:=fun x y=>by unfold ltOf;rw[j4];exact OO x y
 have INS:Calls Tryz.prog 134 #[.slice (some ⟨blk,off,none⟩) d.size cap,.int .i64 0,.int .i64 d.size,.func (.func 76) #[] #[]] w fun e w'=>e = .returned (.tuple #[])∧∃ d',SWK qB 3 w blk off d' w'∧MG yQ d 0 d.size d'∧uf yQ d' 0 d.size:=by
  have h:=lC Tryz.OZ 3 SQ Pq qB (fun _=>rfl) Cv I6 76 #[] blk off cap 0 d.size d w Nv.enters (Nv.lays _ _ _ _) R.hH R.hblk (bV _) (by omega) (by omega);refine kV h ?_;rintro e w' ⟨he,n,os,rfl⟩;have hz:(Sort.insertionSort (ltOf I6) d 0 d.size).size=d.size:=(DT (fun x y=>(hlt x y).1) d 0 d.size (by omega) (by omega)).1;exact⟨he,_,(SWK.start R.hH).on R.hblk n _ os hz,DT (fun x y=>(hlt x y).1) d 0 d.size (by omega) (by omega),Kk hlt d 0 d.size (by omega) (by omega)⟩
 have IN:=Yu INS;clear INS hlt R;generalize d.size=n at *;have akO:¬ ((20:Int)≤(n:Int)):=by omega
 have akP:¬ ((20:Int)<(n:Int)):=by omega
 go_enter Tryz.func113,Tryz.ntmps113
 go_wp2
 go_loopg [7,8] 0 (fun kx s7 s8 wr=>s7 = .int .i64 0∧s8 = .int .i64 20∧wr=w)
 case atStart=>exact⟨rfl,rfl,rfl⟩
 case round=>
  obtain⟨rfl,rfl,rfl⟩:=hrel
  go_wp2_with (first|(go_at_call 134;refine IN.o.mono ?_;rintro _ w1 ⟨rfl,hS⟩;have S1:=Yu hS;clear hS))
  go_loopg [6,7,8,9] 0 (fun kx s6 s7 s8 s9 wq=>s6 = .int .i64 20∧wq=w1)
  case atStart=>exact⟨rfl,rfl⟩
  case round=>
   obtain⟨rfl,rfl⟩:=hrel;go_wp2;go_end0;exact⟨rfl,S1.o⟩
theorem XV.c (blk off cap:Nat)(d:Array EP)(w:World)(R:RowK qB 3 w blk off d)(hsz:d.size<20) :
 Calls Tryz.prog 75 #[.slice (some ⟨blk,off,none⟩) d.size cap,.func (.func 76) #[] #[]] w fun e w'=>e = .returned (.tuple #[])∧∃ d',SWK qB 3 w blk off d' w'∧MG yQ d 0 d.size d'∧uf yQ d' 0 d.size:=by
 have HI:=Yu (Vu.c blk off cap d w R hsz);clear R hsz;generalize d.size=n at *
 go_enter Tryz.func75,Tryz.ntmps75
 go_wp2_with (first|(go_at_call 113;refine HI.o.mono ?_;rintro e w' ⟨rfl,hw'⟩;have HW:=Yu hw';clear hw'))
 go_end0;exact⟨rfl,HW.o⟩
def KY (m:Nat):Prop:=∀ (blk off cap:Nat) (d:Array EP) (w:World),Go.Proofs.RowK qB 3 w blk off d→d.size=m →
 Calls Tryz.prog 75 #[.slice (some ⟨blk,off,none⟩) d.size cap,.func (.func 76) #[] #[]] w fun e w'=>e = .returned (.tuple #[])∧∃ d',SWK qB 3 w blk off d' w'∧MG yQ d 0 d.size d'∧uf yQ d' 0 d.size
theorem QO {m:Nat}(h:m<20):KY m:=fun blk off cap d w R hs=>XV.c blk off cap d w R (by omega)
end Go.Proofs.Y.PA
namespace Go.Proofs.Y.PA
open Go.RowKit Go.Proofs.Y.G Go.Proofs.YW.o7 Go.Proofs.YW.pJ Go.Proofs.YW.pO
def Bp (l:List EP):List Value:=l.flatMap qB
theorem Gv (x:EP)(l:List EP):Bp (x::l) = .int .i64 x.num :: .slice x.A0 x.n0 x.c0 :: .slice x.A1 x.n1 x.c1::Bp l:=rfl
theorem DK:∀ (l:List EP),(Bp l).length=l.length*3
 | []=>rfl
 | x::l=>by rw[Gv,bC,bC,bC,DK l,bC];omega
theorem DJ:∀ (l:List EP) (j:Nat),j<l.length*3→(Bp l)[j]? = (qB (l.getD (j / 3) X3))[j % 3]?
 | [],j,h=>by simp at h
 | x::l,0,_=>rfl
 | x::l,1,_=>rfl
 | x::l,2,_=>rfl
 | x::l,j+3,h=>by
   rw[Gv,gW,gW,gW,DJ l j (by rw[bC] at h;omega),show (j+3) / 3=j / 3+1 from by omega,show (j+3) % 3=j % 3 from by omega];rfl
theorem Qk (d:Array EP)(i:Nat):d.toList.getD i X3=d[i]! := by
 rw[bn,getElem!_def];simp only[jF];cases d[i]? <;> rfl
theorem LJ (x:EP)(j:Nat)(h:j<3):(qB x)[j]? = some (qB x)[j]! := by
 rcases (show j=0∨j=1∨j=2 from by omega) with rfl | rfl | rfl<;>rfl
theorem Hz {w W:World}{g:Nat}{d:Array EP}(h:SWK qB 3 w g 0 d W)(hg:g<w.heap.size){cur:Array Value}(hh:w.heap[g]? = some (.cells cur 123 (0,0))) :
 w.grownBy W (some g)∧∃ cur',W.heap[g]? = some (.cells cur' 123 (0,0))∧cur'.size=cur.size:=by
 obtain⟨n,os,rfl⟩:=h;refine⟨⟨rfl,rfl,rfl,by unfold Go.Proofs.sortWorldK Sort.putRowK Sort.grow;simp[Sort.ahead],fun k hk hne=>?_⟩,?_⟩
 ·unfold Go.Proofs.sortWorldK Sort.putRowK;rw[lU _ _ (by simp;exact hk)];show (Sort.mapBlock _ g _).heap[k]? = _;unfold Sort.mapBlock;simp[jD,Sort.ahead];intro e;exact absurd (by rw[e]) hne
 ·unfold Go.Proofs.sortWorldK Sort.putRowK;rw[lU _ _ (by simp;exact hg)];show ∃ cur',(Sort.mapBlock _ g _).heap[g]? = _∧_;unfold Sort.mapBlock;have hh':(Sort.ahead w n).heap[g]? = some (.cells cur 123 (0,0)):=hh;refine⟨_,by rw[jD,ak rfl,hh'];rfl,?_⟩;simp[Sort.putCells]
theorem QV {w W:World}{base g cap m:Nat}{d:Array EP}(h:SWK qB 3 w g 0 d W)(hg:g<w.heap.size){cur:Array Value}(hh:w.heap[g]? = some (.cells cur 123 (0,0)))(hc:cur.size=cap*3){d0:Array EP}(R:Go.Proofs.RowK qB 3 w g 0 d0)(hs:d.size=d0.size)(hb:base≤g)(hm:m≤d.size)(hd:d.size≤cap)(hx:cap≤maxLen) :
 W.ownsRow base 123 3 (.slice (some ⟨g,0,none⟩) m cap) m (Bp (tC d 0 m)):=by
 obtain⟨_,cur',h1,h2⟩:=Hz h hg hh;have hl:(tC d 0 m).length=m:=by rw[zw,kT]
 refine⟨by rw[DK,hl],.inr ⟨g,cap,cur',rfl,hb,h1,by omega,hx,by omega,?_⟩⟩;apply iY;intro j
 by_cases hj:j<m*3
 ·have hH:=h.holds R.hblk R.hH hs;have hc2:=(hH j (by rw[mZ];omega)).1;rw[dX,pq h1,jA _ _ _ _ (by omega)] at hc2;rw[dH,ak hj,DJ _ _ (by rw[hl];exact hj),LJ _ _ (iI _ (by omega))];have e2:(tC d 0 m).getD (j / 3) X3=d[j / 3]! := by
   rw[bn];unfold tC;simp[show j / 3<m from by omega]
  rw[e2]
  simpa using hc2
 ·rw[dK (by rw[bG];omega),dK (by rw[DK,hl];omega)]
theorem NM (l:List EP)(i:Nat):l.getD i X3=l.toArray[i]! := by rw[← Qk]
theorem Jy {sz:Nat}:∀ (rows:List (List Value)) (inner:List Value),tq (fun x cs=>cs=x∧cs.length=sz∧∀ u∈cs,u.oneCell'=true) sz rows inner→inner=rows.flatten
 | [],inner,h=>by
   have h1:=h.1;rw[fK,iF] at h1;rw[List.length_eq_zero_iff.1 h1];rfl
 | r::rs,inner,h=>by
   have h0:=(h.2 0 r rfl).1;have hlen:=h.1;rw[bC,iD,Nat.one_mul] at hlen;have h1:=Jy (sz:=sz) rs (inner.drop sz) ⟨by rw[bB];omega,fun j p hj=>by
    have h2:=h.2 (j+1) p (by simpa using hj);rw[jM,show sz+j*sz=(j+1)*sz by rw[iD];omega];exact h2⟩
   rw[iF,iA] at h0;rw[fV,← h1,← h0,fA]
theorem Jg {sz:Nat}:∀ (rows:List (List Value)),(∀ r∈rows,r.length=sz∧∀ u∈r,u.oneCell'=true)→tq (fun x cs=>cs=x∧cs.length=sz∧∀ u∈cs,u.oneCell'=true) sz rows rows.flatten
 | [],_=>⟨by simp,fun j p h=>by simp at h⟩
 | r::rs,h=>by
   have h1:=Jg rs (fun x hx=>h x (dh _ hx));have h0:=h r bK;refine⟨by rw[fV,bg,h1.1,h0.1,bC,iD];omega,fun j p hj=>?_⟩;cases j with
   | zero=>
     simp only[iW,cO] at hj;subst hj;rw[iF,iA,fV,gF h0.1];exact⟨rfl,h0⟩
   | succ j=>
     rw[gW] at hj;have h2:=h1.2 j p hj;rw[fV,show (j+1)*sz=r.length+j*sz by rw[h0.1,iD];omega,mD,gP (by omega),dL,jW];exact h2
abbrev ZP (W:World)(ok:Nat→Prop):={ z:EP × Pt // z.1.num=(z.2.num:Int)∧Kd.FK kP W ok z.2 (qB z.1) }
theorem M9 {W:World}{ok:Nat→Prop}:∀ (out:List Pt) (rows:List (List Value)),rows.length=out.length→(∀ (j:Nat) (x:Pt) (c:List Value),out[j]? = some x→rows[j]? = some c→Kd.FK kP W ok x c)→∃ zs:List (ZP W ok),zs.map (·.1.2)=out∧zs.map (fun z=>qB z.1.1)=rows
 | [],rows,hl,_=>⟨[],rfl,by rw[List.length_eq_zero_iff.1 hl];rfl⟩
 | x::out,[],hl,_=>by simp at hl
 | x::out,c::rows,hl,h=>by
   obtain⟨zs,h1,h2⟩:=M9 out rows (by simpa using hl) (fun j y d hy hd=>h (j+1) y d (by simpa using hy) (by simpa using hd));have hf:=h 0 x c rfl rfl;obtain⟨A0,c0,A1,c1,hc,_⟩:=Km (Kd.Dq hf);subst hc;refine⟨⟨(⟨x.num,A0,x.ser.f0.length,c0,A1,x.ser.f1.length,c1⟩,x),rfl,hf⟩::zs,by rw[dJ,h1],by rw[dJ,h2];rfl⟩
theorem WJ.c (c:Nat)(w:World):Calls Tryz.prog 134 #[.slice none 0 c,.int .i64 0,.int .i64 0,.func (.func 76) #[] #[]] w fun e w'=>e = .returned (.tuple #[])∧Below w.heap.size w w':=by
 go_enter Tryz.func134,Tryz.ntmps134
 go_wp2
 go_loopg [8] 0 (fun kx s8 wr=>s8 = .int .i64 1∧wr=w)
 case atStart=>exact⟨rfl,rfl⟩
 case round=>
  obtain⟨rfl,rfl⟩:=hrel;go_wp2;go_end0;exact⟨rfl,bq _ _⟩
theorem Vq.c (c:Nat)(w:World):Calls Tryz.prog 75 #[.slice none 0 c,.func (.func 76) #[] #[]] w fun e w'=>e = .returned (.tuple #[])∧Below w.heap.size w w':=by
 have ST:oZ (Calls Tryz.prog 113 #[.slice none 0 c,.int .i64 0,.func (.func 76) #[] #[]] w fun e w'=>e = .returned (.tuple #[])∧Below w.heap.size w w'):=⟨by
  have IN:=Yu (WJ.c c w)
  go_enter Tryz.func113,Tryz.ntmps113
  go_wp2
  go_loopg [7,8] 0 (fun kx s7 s8 wr=>s7 = .int .i64 0∧s8 = .int .i64 20∧wr=w)
  case atStart=>exact⟨rfl,rfl,rfl⟩
  case round=>
   obtain⟨rfl,rfl,rfl⟩:=hrel
   go_wp2_with (first|(go_at_call 134;refine IN.o.mono ?_;rintro _ w1 ⟨rfl,hS⟩;have S1:=Yu hS;clear hS))
   go_loopg [6,7,8,9] 0 (fun kx s6 s7 s8 s9 wq=>s6 = .int .i64 20∧wq=w1)
   case atStart=>exact⟨rfl,rfl⟩
   case round=>
    obtain⟨rfl,rfl⟩:=hrel;go_wp2;go_end0;exact⟨rfl,S1.o⟩⟩
 go_enter Tryz.func75,Tryz.ntmps75
 go_wp2_with (first|(go_at_call 113;refine ST.o.mono ?_;rintro e w' ⟨rfl,hw'⟩;have HW:=Yu hw';clear hw'))
 go_end0;exact⟨rfl,HW.o⟩
theorem Vr.c {v:Value}{out:List Pt}{W:World}{base:Nat}{ok:Nat→Prop}(h:Kd.N kP 123 W base ok v out)(hs:KY out.length) :
 Calls Tryz.prog 75 #[v,.func (.func 76) #[] #[]] W fun e w'=>e = .returned (.tuple #[])∧Kd.N kP 123 w' base ok v (zY out)∧W.grownBy w' v.ownBlock:=by
 obtain⟨h0,rows,hrl,hR,hf⟩:=h;obtain⟨zs,hz1,hz2⟩:=M9 out rows hrl hf;obtain⟨hR0,inner,ho,hr⟩:=hR;have hin:inner=rows.flatten:=Jy (sz:=3) rows inner hr;have hfl:rows.flatten=Bp (zs.map (·.1.1)):=by
  rw[← hz2,Bp,nZ,og]
 have hzl:zs.length=out.length:=by rw[← hz1,bJ]
 have hrz:rows.length=zs.length:=by rw[← hz2,bJ]
 rcases ho.2 with ⟨rfl,hn0⟩ | ⟨g,cap,cur,rfl,hb,hh,h1,h2,h3,h4⟩
 ·have hout:out=[]:=List.length_eq_zero_iff.1 (by omega);subst hout;exact (Vq.c 0 W).mono fun e w' ⟨he,hb⟩=>⟨he,Kd.IU _ _ _ _ _,⟨hb.os,hb.tape,hb.output,hb.size,fun k hk _=>hb.block k hk⟩⟩
 ·have hqs:(zs.map (·.1.1)).toArray.size=rows.length:=by simp[hrz]
  have hg:g<W.heap.size:=rE hh;have R:Go.Proofs.RowK qB 3 W g 0 (zs.map (·.1.1)).toArray:=by
   refine⟨Sq,Cv,fun j hj=>?_,hg⟩;rw[mZ] at hj;have hj':j<(zs.map (·.1.1)).length*3:=by simpa using hj
   refine⟨?_,pE hh _⟩;rw[dX,pq hh,jA _ _ _ _ hj];have e1:cur[j]? = (Bp (zs.map (·.1.1)))[j]? := by
    rw[← hfl,← hin,← h4,dH,ak (by rw[bJ] at hj';rw[hrz];exact hj')];simp
   rw[e1,DJ _ j hj',LJ _ _ (iI _ (by omega)),NM _ _];rfl
  refine kV (by have h5:=hs g 0 cap (zs.map (·.1.1)).toArray W R (by rw[hqs];omega);rw[hqs] at h5;exact h5) ?_;rintro e w' ⟨rfl,d',hS,hM,hT⟩;have hds:d'.size=rows.length:=hM.1.trans hqs;have hd:d'.toList=EW yQ (zs.map (·.1.1)):=by
   refine Ur yQ _ _ ?_ (Vt _ _) (fun v=>?_)
   ·rw[Up,nU];intro i j hi hj hij;have:=hT i j (bV _) hij (by simp at hj;omega)
    simpa [mR,show i<d'.size by simpa using hi,show j<d'.size by simpa using hj] using this
   ·rw[Vs];have h6:=hM.2.2 v;have h7:tC d' 0 rows.length=d'.toList:=by rw[← hds];exact AZ d'
    have h8:tC (zs.map (·.1.1)).toArray 0 rows.length=(zs.map (·.1.1)).toArray.toList:=by rw[← hqs];exact AZ _
    rw[h7,h8] at h6;exact h6
  have hkey:(fun z:ZP W (fun k=>ok k∧some k≠(Value.slice (some ⟨g,0,none⟩) rows.length cap).ownBlock)=>yQ z.1.1)=fun z=>((z.1.2.num:Nat):Int):=by funext z;exact z.2.1
  have hd2:d'.toList=(EW (fun z=>yQ z.1.1) zs).map (·.1.1):=by rw[hd,MW (fun z:ZP W _=>z.1.1) yQ zs]
  have ho2:zY out=(EW (fun z=>yQ z.1.1) zs).map (·.1.2):=by rw[Bc,← hz1,hkey,MW (fun z:ZP W _=>z.1.2) (fun q=>(q.num:Int)) zs]
  generalize hzs:EW (fun z=>yQ z.1.1) zs=zs' at hd2 ho2;have ajQ:zs'.length=rows.length:=by
   have:=gG List.length hd2;rw[bJ] at this;rw[← this,← hds];simp
  obtain⟨hgr,_⟩:=Hz hS hg hh;have hO:=QV hS hg hh h3 R (hM.1) hb (aD d'.size) (by omega) h2;have hf':tC d' 0 d'.size=zs'.map (·.1.1):=by rw[AZ,hd2]
  rw[hf',hds] at hO;have ajR:Bp (zs'.map (·.1.1))=(zs'.map (fun z=>qB z.1.1)).flatten:=by rw[Bp,nZ,og]
  rw[ajR] at hO;have HRR:tq (fun x cs=>cs=x∧cs.length=3∧∀ (u:Value),u∈cs→u.oneCell'=true) 3 (zs'.map (fun z=>qB z.1.1)) (zs'.map (fun z=>qB z.1.1)).flatten:=Jg (sz:=3) _ (fun r hr'=>by
   obtain⟨z,_,rfl⟩:=List.mem_map.1 hr';exact⟨rfl,Cv _⟩)
  have HL':(zs'.map (fun z=>qB z.1.1)).length=rows.length:=by rw[bJ,ajQ]
  rw[← HL'] at hO h0 ⊢;have HRW:(Kd.raw kP.sz).R 123 w' base (fun k=>some k=(Value.slice (some ⟨g,0,none⟩) (zs'.map (fun z=>qB z.1.1)).length cap).ownBlock) (.slice (some ⟨g,0,none⟩) (zs'.map (fun z=>qB z.1.1)).length cap) (zs'.map (fun z=>qB z.1.1)):=⟨fun k hk=>hk.symm,_,hO,HRR⟩;refine⟨rfl,⟨h0,_,by rw[ho2,bJ,bJ],HRW,fun j x c hx hc=>?_⟩,hgr⟩
  ·rw[ho2,fC] at hx;rw[fC] at hc;cases hzj:zs'[j]? with
   | none=>rw[hzj] at hx;cases hx
   | some z=>
     rw[hzj] at hx hc;cases hx;cases hc;exact Kd.Rk z.2.2 hgr (fun k hk=>hk.2)
end Go.Proofs.Y.PA
namespace Go.Proofs.Y.PA
open Go.Shelf Go.RowKit Go.Lib Go.Sort
section
variable {w0 W:World} {blk off:Nat} {d0 dk:Array EP}
theorem tH (h:SWK qB 3 w0 blk off dk W)(R:Go.Proofs.RowK qB 3 w0 blk off d0)(hs:dk.size=d0.size)(i:Nat)(hi:i<dk.size) :
 W.cell? ⟨blk,off+i*3,none⟩=some (.int .i64 dk[i]!.num)∧W.cell? ⟨blk,off+i*3+1,none⟩=some (.slice dk[i]!.A0 dk[i]!.n0 dk[i]!.c0)∧W.cell? ⟨blk,off+i*3+2,none⟩=some (.slice dk[i]!.A1 dk[i]!.n1 dk[i]!.c1)∧W.frozen? ⟨blk,off+i*3,none⟩=false∧W.frozen? ⟨blk,off+i*3+1,none⟩=false∧W.frozen? ⟨blk,off+i*3+2,none⟩=false:=by
 have H:=h.holds R.hblk R.hH hs;have h0:=nJ H (c:=0) hi (by omega);have h1:=nJ H (c:=1) hi (by omega);have h2:=nJ H (c:=2) hi (by omega);exact⟨h0.1,h1.1,h2.1,h0.2,h1.2,h2.2⟩
theorem Sk (W:World)(p:Addr)(v:Value):(W.setCell p v).drew=W.drew.setCell p v:=rfl
def Cw (W:World)(blk off i j:Nat)(x y:EP):World:=(W.drew.setCells blk (off+i*3) (qB x)).setCells blk (off+j*3) (qB y)
theorem Gs (W:World)(blk off i j:Nat)(x y:EP):((((((W.setCell ⟨blk,off+i*3,none⟩ (.int .i64 x.num)).setCell ⟨blk,off+i*3+1,none⟩ (.slice x.A0 x.n0 x.c0)).setCell ⟨blk,off+i*3+2,none⟩ (.slice x.A1 x.n1 x.c1)).setCell ⟨blk,off+j*3,none⟩ (.int .i64 y.num)).setCell ⟨blk,off+j*3+1,none⟩ (.slice y.A0 y.n0 y.c0)).setCell ⟨blk,off+j*3+2,none⟩ (.slice y.A1 y.n1 y.c1)).drew=Cw W blk off i j x y:=by
 simp only[Cw,qB,World.setCells,mh,Nat.reduceAdd,Sk]
theorem Ef (h:SWK qB 3 w0 blk off dk W)(R:Go.Proofs.RowK qB 3 w0 blk off d0)(i j:Nat)(hi:i<dk.size)(hj:j<dk.size):SWK qB 3 w0 blk off (swp dk i j) (Cw W blk off i j dk[j]! dk[i]!):=h.swapped R i j hi hj
theorem uq (h:SWK qB 3 w0 blk off dk W)(R:Go.Proofs.RowK qB 3 w0 blk off d0)(hs:dk.size=d0.size)(i j:Nat)(hij:i≠j)(hj:j<dk.size)(u v x:Value) :
 (((W.setCell ⟨blk,off+i*3,none⟩ u).setCell ⟨blk,off+i*3+1,none⟩ v).setCell ⟨blk,off+i*3+2,none⟩ x).drew.cell? ⟨blk,off+j*3,none⟩=some (.int .i64 dk[j]!.num)∧(((W.setCell ⟨blk,off+i*3,none⟩ u).setCell ⟨blk,off+i*3+1,none⟩ v).setCell ⟨blk,off+i*3+2,none⟩ x).drew.cell? ⟨blk,off+j*3+1,none⟩=some (.slice dk[j]!.A0 dk[j]!.n0 dk[j]!.c0)∧(((W.setCell ⟨blk,off+i*3,none⟩ u).setCell ⟨blk,off+i*3+1,none⟩ v).setCell ⟨blk,off+i*3+2,none⟩ x).drew.cell? ⟨blk,off+j*3+2,none⟩=some (.slice dk[j]!.A1 dk[j]!.n1 dk[j]!.c1):=by
 obtain⟨q0,q1,q2,_,_,_⟩:=tH h R hs j hj;refine⟨?_,?_,?_⟩
 ·show (((W.setCell _ u).setCell _ v).setCell _ x).cell? _=_;rw[dZ _ _ _ _ (by intro e;injection e with _ e _;omega),dZ _ _ _ _ (by intro e;injection e with _ e _;omega),dZ _ _ _ _ (by intro e;injection e with _ e _;omega)];exact q0
 ·show (((W.setCell _ u).setCell _ v).setCell _ x).cell? _=_;rw[dZ _ _ _ _ (by intro e;injection e with _ e _;omega),dZ _ _ _ _ (by intro e;injection e with _ e _;omega),dZ _ _ _ _ (by intro e;injection e with _ e _;omega)];exact q1
 ·show (((W.setCell _ u).setCell _ v).setCell _ x).cell? _=_;rw[dZ _ _ _ _ (by intro e;injection e with _ e _;omega),dZ _ _ _ _ (by intro e;injection e with _ e _;omega),dZ _ _ _ _ (by intro e;injection e with _ e _;omega)];exact q2
theorem Dc {cf:EP→EP→Int}{g:Nat}(h:SWK qB 3 w0 blk off dk W)(hC:CmpLays Tryz.prog g #[] qB 3 cf blk off d0.size w0)(hs:dk.size=d0.size)(x y:EP)(n:Nat)(os:Array Obj) :
 Calls Tryz.prog g #[.agg #[.int .i64 x.num,.slice x.A0 x.n0 x.c0,.slice x.A1 x.n1 x.c1],.agg #[.int .i64 y.num,.slice y.A0 y.n0 y.c0,.slice y.A1 y.n1 y.c1]] (grow (W.drewN n) os) fun e w'=>e = .returned (.int .i64 (cf x y))∧∃ q os',w'=grow ((grow (W.drewN n) os).drewN q) os' :=
 h.cmp hC hs x y n os
theorem qU (h:SWK qB 3 w0 blk off dk W)(R:Go.Proofs.RowK qB 3 w0 blk off d0)(hs:dk.size=d0.size)(i:Nat)(hi:i<dk.size)(n:Nat)(os:Array Obj) :
 (grow (W.drewN n) os).cell? ⟨blk,off+i*3,none⟩=some (.int .i64 dk[i]!.num)∧(grow (W.drewN n) os).cell? ⟨blk,off+i*3+1,none⟩=some (.slice dk[i]!.A0 dk[i]!.n0 dk[i]!.c0)∧(grow (W.drewN n) os).cell? ⟨blk,off+i*3+2,none⟩=some (.slice dk[i]!.A1 dk[i]!.n1 dk[i]!.c1):=
 have h1:=tH (h.grown n os) R hs i hi
 ⟨h1.1,h1.2.1,h1.2.2.1⟩
end
theorem Cb.c (g:Nat)(blk off cap a b n:Nat)(d0 d:Array EP)(w0 w:World)(R:Go.Proofs.RowK qB 3 w0 blk off d0)(hs:d0.size=d.size)(S:SWK qB 3 w0 blk off d w)(ha:a+n≤b)(hb:b+n≤d.size)(hsz:d.size<4611686018427387904) :
 Calls Tryz.prog 158 #[.slice (some ⟨blk,off,none⟩) d.size cap,.int .i64 a,.int .i64 b,.int .i64 n,.func (.func g) #[] #[]] w fun e w'=>e = .returned (.tuple #[])∧SWK qB 3 w0 blk off (EI d a b n) w':=by
 have mixed:Tryz.prog.follows .mixedOrders=true:=by kernel_rfl
 have S0:Aside (SWK qB 3 w0 blk off d w):=S;clear S
 go_enter Tryz.func158,Tryz.ntmps158
 go_wp2
 go_loopg [10] n (fun kx s wr=>∃ (m:Nat),s = .int .i64 m∧m≤n∧n-m≤kx∧Aside (SWK qB 3 w0 blk off (EI d a b m) wr))
 case atStart=>exact⟨0,rfl,by omega,by omega,S0⟩
 case round=>
  clear S0;obtain⟨m,rfl,hm,hkx,S1⟩:=hrel
  by_cases hlt:(m:Int)<(n:Int)
  ·have hds:=vw d a b m;generalize hdk:EI d a b m=dk at S1 hds;have ea44:((a:Int)+(m:Int)).toNat=a+m:=by omega
   have pa44:(0:Int)≤(a:Int)+(m:Int):=by omega
   have ba44:(a:Int)+(m:Int)<(d.size:Int):=by omega
   have ra44:IntKind.i64.wrap ((a:Int)+(m:Int))=(a:Int)+(m:Int):=by rw[bI];omega
   have ec44:((b:Int)+(m:Int)).toNat=b+m:=by omega
   have pc44:(0:Int)≤(b:Int)+(m:Int):=by omega
   have bc44:(b:Int)+(m:Int)<(d.size:Int):=by omega
   have rc44:IntKind.i64.wrap ((b:Int)+(m:Int))=(b:Int)+(m:Int):=by rw[bI];omega
   have S2:Aside (SWK qB 3 w0 blk off (swp dk (a+m) (b+m)) (Cw wr blk off (a+m) (b+m) dk[b+m]! dk[a+m]!)):=Ef S1.o R (a+m) (b+m) (by omega) (by omega);obtain⟨p0,p1,p2,_,_,_⟩:=tH S1.o.drew R (by omega) (a+m) (by omega);obtain⟨q0,q1,q2,_,_,_⟩:=tH S1.o.drew R (by omega) (b+m) (by omega);obtain⟨_,_,_,f2,f3,f4⟩:=tH S1.o R (by omega) (a+m) (by omega);obtain⟨_,_,_,g2,g3,g4⟩:=tH S1.o R (by omega) (b+m) (by omega);have q3:=fun u v x=>(uq S1.o R (by omega) (a+m) (b+m) (by omega) (by omega) u v x).1
   have q4:=fun u v x=>(uq S1.o R (by omega) (a+m) (b+m) (by omega) (by omega) u v x).2.1
   have q5:=fun u v x=>(uq S1.o R (by omega) (a+m) (b+m) (by omega) (by omega) u v x).2.2
   generalize dk[a+m]! = X at *;generalize dk[b+m]! = Y at *;clear S1
   go_wp2_with fail
   go_big_region_o
   clear p0 p1 p2 q0 q1 q2 f2 f3 f4 g2 g3 g4 q3 q4 q5;rw[Gs];generalize Cw wr blk off (a+m) (b+m) Y X=w2 at S2 ⊢;have S3:Aside (SWK qB 3 w0 blk off (EI d a b (m+1)) w2):=by rw[EI,hdk];exact S2
   clear S2;go_wp2
   go_roundg (n-(m+1))
   case measure=>omega
   case rel=>exact⟨m+1,by go_num,by omega,aD _,S3⟩
  ·obtain rfl:m=n:=by omega
   go_wp2;go_end0;exact⟨rfl,S1.o⟩
theorem Vm.c (g:Nat)(blk off cap a m b:Nat)(d0 d:Array EP)(w0 w:World)(R:Go.Proofs.RowK qB 3 w0 blk off d0)(hs:d0.size=d.size)(S:SWK qB 3 w0 blk off d w)(ha:a<m)(hm:m<b)(hb:b≤d.size)(hsz:d.size<4611686018427387904) :
 Calls Tryz.prog 153 #[.slice (some ⟨blk,off,none⟩) d.size cap,.int .i64 a,.int .i64 m,.int .i64 b,.func (.func g) #[] #[]] w fun e w'=>e = .returned (.tuple #[])∧∃ d',SWK qB 3 w0 blk off d' w'∧d'.size=d.size∧∀ t,d'[t]! = d[sw a m b t]! := by
 have mixed:Tryz.prog.follows .mixedOrders=true:=by kernel_rfl
 have S0:Aside (SWK qB 3 w0 blk off d w):=S;clear S
 go_enter Tryz.func153,Tryz.ntmps153
 go_wp2
 go_loopg [10,11] b (fun kx s10 s11 wr=>∃ (i j:Nat) (dk:Array EP),s10 = .int .i64 i∧s11 = .int .i64 j∧0<i∧0<j∧i≤m∧m+j≤d.size∧i+j≤kx∧dk.size=d.size∧Aside (SWK qB 3 w0 blk off dk wr)∧Aside (∀ t,dk[sw (m-i) m (m+j) t]! = d[sw a m b t]!))
 case atStart=>exact⟨m-a,b-m,d,by go_num,by go_num,by omega,by omega,by omega,by omega,by omega,rfl,S0,by show ∀ t,_;intro t;rw[show m-(m-a)=a from by omega,show m+(b-m)=b from by omega]⟩
 case round=>
  clear S0;obtain⟨i,j,dk,rfl,rfl,hi,hj,him,hmj,hkx,hds,S1,HR⟩:=hrel;have rw1:IntKind.i64.wrap ((m:Int)-(i:Int))=((m-i:Nat):Int):=by rw[bI];omega
  have rw2:(m:Int)-(i:Int)=((m-i:Nat):Int):=by omega
  by_cases hij:i=j
  ·subst hij;have hc:=Cb.c g blk off cap (m-i) m i d0 dk w0 wr R (by omega) S1.o (by omega) (by omega) (by omega);rw[hds] at hc;have HC:=Yu hc;clear hc
   go_wp2_with (first|(go_at_call 158;refine HC.o.mono ?_;rintro e w1 ⟨rfl,hS⟩;have S2:Aside (SWK qB 3 w0 blk off (EI dk (m-i) m i) w1):=hS;clear hS))
   go_end0;refine⟨rfl,_,S2.o,by rw[vw];exact hds,fun t=>?_⟩;rw[xQ dk _ _ i (by omega) (by omega),MO i m t him];exact HR.o t
  ·by_cases hlt:j<i
   ·have hgz:(i:Int)>(j:Int):=by omega
    have hne:¬ (i:Int)=(j:Int):=by omega
    have hc:=Cb.c g blk off cap (m-i) m j d0 dk w0 wr R (by omega) S1.o (by omega) (by omega) (by omega);rw[hds] at hc;have HC:=Yu hc;clear hc
    go_wp2_with (first|(go_at_call 158;refine HC.o.mono ?_;rintro e w1 ⟨rfl,hS⟩;have S2:Aside (SWK qB 3 w0 blk off (EI dk (m-i) m j) w1):=hS;clear hS))
    go_roundg (i+j-1)
    case measure=>omega
    case rel=>
     refine⟨i-j,j,EI dk (m-i) m j,by go_num,rfl,by omega,hj,by omega,hmj,by omega,by rw[vw];exact hds,S2,?_⟩;show ∀ t,_;intro t;rw[xQ dk _ _ j (by omega) (by omega),MN i j m t hlt him];exact HR.o t
   ·have hgz:¬ (i:Int)>(j:Int):=by omega
    have hne:¬ (i:Int)=(j:Int):=by omega
    have rw3:(m:Int)+(j:Int)-(i:Int)=((m+j-i:Nat):Int):=by omega
    have hc:=Cb.c g blk off cap (m-i) (m+j-i) i d0 dk w0 wr R (by omega) S1.o (by omega) (by omega) (by omega);rw[hds] at hc;have HC:=Yu hc;clear hc
    go_wp2_with (first|(go_at_call 158;refine HC.o.mono ?_;rintro e w1 ⟨rfl,hS⟩;have S2:Aside (SWK qB 3 w0 blk off (EI dk (m-i) (m+j-i) i) w1):=hS;clear hS))
    go_roundg (i+j-1)
    case measure=>omega
    case rel=>
     refine⟨i,j-i,EI dk (m-i) (m+j-i) i,rfl,by go_num,hi,by omega,him,by omega,by omega,by rw[vw];exact hds,S2,?_⟩;show ∀ t,_;intro t;rw[xQ dk _ _ i (by omega) (by omega),Jz i j m t (by omega) him];exact HR.o t
end Go.Proofs.Y.PA
