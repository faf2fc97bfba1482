/- Of the law ZHQDumpReads. -/
import Derived.Test.YtcgbgifbajdhpaaGreatDoorZH3
set_option linter.unusedVariables false
set_option linter.unusedSimpArgs false
set_option maxHeartbeats 8000000
set_option maxRecDepth 100000
namespace Go
abbrev aJ:=@of_decide_eq_true
abbrev bJ:=@eq_true
abbrev iH:=@Nat.div_le_self
end Go
namespace Go.Proofs.Y.G
open Go.RowKit Go.Proofs.YW.oO Go.Proofs.YW.pq Go.Proofs.YW.pz
attribute [local go_sem] sV sZ uE uF
def tV.f (a0 a1:Int):Option (List Int):=uZ.f a0 a1
def tT.f (l:List Int):Option (Int × Bool):=vI.f l
theorem tV.c (a0 a1:Int)(r:List Int)(w:World)(h:tV.f a0 a1=some r) :
 Calls Tryz.prog 34 #[.int .u64 a0,.int .i64 a1] w fun e w'=>∃ v0_:Value,e = .returned (v0_)∧Kd.R (Kd.int .u8) 5 w' w.heap.size (fun _=>True) v0_ r∧Below w.heap.size w w':=by
 unfold tV.f uZ.f at h;split at h
 case isFalse=>cases h
 case isTrue hN=>
  obtain rfl:=bB h;clear h;obtain⟨N,rfl⟩:=bO hN.1;rw[aG];obtain⟨j,hj⟩:∃ j:Int,(if a1<0 then 0 else a1)=j:=⟨_,rfl⟩;obtain⟨m,hm8,hm,hw⟩:∃ m:Nat,m≤8∧(if 8<j then 8 else j)=(m:Int)∧wid a1=m:=⟨wid a1,Va _,by unfold wid;split at hj<;>split<;>omega,rfl⟩;rw[hw];clear hw;have hm0:(m:Int)≤8:=by omega
  go_enter Tryz.func34,Tryz.ntmps34
  go_wp2_with ((with_reducible refine qm (N:=12) rfl ?_);refine Kd.Sj (Kd.int .u8) _ 5 rfl (N:=12) rfl 24 _ _ rfl (m:Int) rfl rfl Tryz.underlying24 (.int .u8 0) 1 rW rfl (by decide) (by omega) 0 (ok:=fun _=>True) (okp:=fun _=>True) rfl (fun _ hk=>hk) bE (by omega) (by omega) (aU _ _) (ay _) ?_;intro ala w7 ho8 hb hg_ ZG;rw[aG] at ho8;obtain⟨g,c9,e9,hgb⟩:=JI ho8 ZG;rw[jo] at e9;subst e9;have HO:=Y7 ho8;have HB:=Y7 hb;clear ho8 hb hg_ ZG)
  clear hm hj
  go_loopw [0,7] (fun n i wr=>∃ k:Nat,k≤m∧i = .int .i64 ((m:Int)-1-(k:Int))∧n = .int .u64 ((N / 256 ^ k:Nat):Int)∧oM (Kd.R (Kd.int .u8) 5 wr w.heap.size (fun _=>True) (.slice (some ⟨g,0,none⟩) m c9) (List.replicate (m-k) 0++rD N k))∧oM (Below w.heap.size w wr)) (fun _ i _=>(intOf i+1).toNat)
  case atStart=>exact⟨0,bP _,by simp,by simp,⟨by simpa [rD] using HO.o⟩,HB⟩
  case round=>
   clear HO HB;obtain⟨k,hk,rfl,rfl,HO,HB⟩:=hrel;have HS:=fun hlt=>Y7 (uZ.step (N:=N) (k:=k) (m:=m) hlt)
   have HD:=Y7 (Nat.div_div_eq_div_mul N (256 ^ k) 256);have HL:=Y7 (show N / 256 ^ k≤N from iH _ _);generalize N / 256 ^ k=M at HS HD HL ⊢
   by_cases hlt:k<m
   ·obtain⟨hc,hf⟩:=Kd.Gq 0 HO.o ((m-1-k:Nat):Int) (by omega) (by omega);have HP:=Y7 (Kd.N8 HO.o ((m-1-k:Nat):Int) ((M % 256:Nat):Int));rw[aG] at hc hf HP;have HS:=HS hlt;have hM:(0:Int)≤(M:Int):=by omega
    have h0:(0:Int)≤(m:Int)-1-(k:Int):=by omega
    go_wp2
    go_roundw
    case rel=>
     refine⟨k+1,by omega,eU _ (by omega),eU _ ?_,⟨?_⟩,⟨?_⟩⟩
     ·rw[jk,← HD.o];have:=HL.o;simp[IntKind.wrap,IntKind.bits,IntKind.signed];omega
     ·rw[← HS.o];exact HP.o.1
     ·exact pF HB.o (by omega)
    case measure=>simp[intOf];omega
   ·obtain rfl:k=m:=by omega
    have h0:¬ ((0:Int)≤(k:Int)-1-(k:Int)):=by omega
    go_wp2;go_ret;exact⟨_,rfl,by simpa using HO.o,HB.o⟩
theorem tT.c (A0:Option Addr)(c0:Nat)(l0:List Int)(r1:Int)(r2:Bool)(w:World)(hr0:Kd.C (Kd.int .u8) w A0 l0.length l0)(hc0:l0.length≤c0)(h:tT.f l0=some (r1,r2)) :
 Calls Tryz.prog 97 #[.slice A0 l0.length c0] w fun e w'=>e = .returned (.tuple #[.int .u64 r1,.bool r2])∧pJ w w':=by
 have HR:=Y7 hr0;clear hr0 hc0;unfold tT.f vI.f at h;split at h
 case isFalse=>cases h
 case isTrue hok=>
 by_cases hl:1≤l0.length∧l0.length≤8
 case neg=>
  rw[av hl] at h;simp only[bF,bG] at h;obtain⟨rfl,rfl⟩:=h
  by_cases h0:l0.length=0
  ·have e0:decide ((l0.length:Int)<1)=true:=aC (by omega);clear hl h0
   go_enter Tryz.func97,Tryz.ntmps97
   go_wp2
   go_ret2
   exact⟨rfl,pJ.refl _⟩
  ·have e0:decide ((l0.length:Int)<1)=false:=aD (by omega);have e1:decide ((8:Int)<(l0.length:Int))=true:=aC (by omega);clear hl h0
   go_enter Tryz.func97,Tryz.ntmps97
   go_wp2
   go_ret2
   exact⟨rfl,pJ.refl _⟩
 case pos=>
  rw[au hl] at h;simp only[bF,bG] at h;obtain⟨rfl,rfl⟩:=h;have e0:decide ((l0.length:Int)<1)=false:=aD (by omega);have e1:decide ((8:Int)<(l0.length:Int))=false:=aD (by omega)
  go_enter Tryz.func97,Tryz.ntmps97
  go_wp2
  go_loop [4,17] (fun n i=>∃ k:Nat,k≤l0.length∧i = .int .i64 k∧n = .int .u64 (wI 0 (l0.take k):Nat)) (fun _ i=>l0.length-(intOf i).toNat)
  case atStart=>exact⟨0,bP _,rfl,rfl⟩
  case round=>
   obtain⟨k,hk,rfl,rfl⟩:=hrel
   by_cases hlt:k<l0.length
   ·obtain⟨ad,rfl,hc⟩:=Kd.vw HR.o (k:Int) (by omega) (by omega);rw[aG] at hc;have hx:=qV.1 hok _ (Fu l0 k hlt);have HT:=Y7 (LX l0 k hlt);have hV:=zi hok k;have HV:=Y7 (dA hV (dH (n:=256) (by decide) (show k≤7 by omega)));have HX:=Y7 hx;clear hV hx;go_wp2
    go_round
    case rel=>
     refine⟨k+1,by omega,by go_num,eU _ ?_⟩;have:=HV.o;have:=HX.o;rw[HT.o];simp[IntKind.wrap,IntKind.bits,IntKind.signed];omega
    case measure=>simp[intOf];omega
   ·obtain rfl:k=l0.length:=by omega
    go_wp2
    go_ret2
    exact⟨rfl,pJ.refl _⟩
end Go.Proofs.Y.G
namespace Go.Proofs.Y.PA
open Go.RowKit Go.Proofs.YW.oO Go.Proofs.YW.pq Go.Proofs.YW.pz
attribute [local go_sem] sV sZ uE uF sW tq uj um
attribute [local go_sem high] Ye
def rQ.l0:Nat→List (qG)→List (qG)→Int→Int→Option (Bool)
 | 0,_,_,_,_=>none
 | k+1,x0,x1,x12,x13=>if x13<x12 then (if 0≤x13 then (if x13<(x0.length:Int) then (if x13<(x1.length:Int) then (if (!(((pI x0 x13).f0)==((pI x1 x13).f0))||(!(((pI x0 x13).f1)==((pI x1 x13).f1))))=true then (some false) else (rQ.l0 k x0 x1 x12 (wrap64 (x13+1)))) else (none)) else (none)) else (none)) else (some true)
def rQ.f (k:Nat)(l0:List (qG))(l1:List (qG)):Option (Bool):=if (l0.length:Int)=(l1.length:Int) then (rQ.l0 k l0 l1 (l0.length:Int) 0) else (some false)
theorem rQ.c (k:Nat)(A0:Option Addr)(c0:Nat)(l0:List (qG))(A1:Option Addr)(c1:Nat)(l1:List (qG))(r:Bool)(w:World)(hr0:Kd.C vX w A0 l0.length l0)(hc0:l0.length≤c0)(hr1:Kd.C vX w A1 l1.length l1)(hc1:l1.length≤c1)(h:rQ.f k l0 l1=some r) :
 Calls Tryz.prog 42 #[.slice A0 l0.length c0,.slice A1 l1.length c1] w fun e w'=>e = .returned (.bool r)∧pJ w w':=by
 have aoh:=Tryz.underlying70;have HR0:=Y7 hr0;have HC0:=Y7 hc0;clear hr0 hc0;have HR1:=Y7 hr1;have HC1:=Y7 hc1;clear hr1 hc1;have H:(if (l0.length:Int)=(l1.length:Int) then (rQ.l0 k l0 l1 (l0.length:Int) 0) else (some false))=some r:=h;clear h
 by_cases c3:(l0.length:Int)=(l1.length:Int)
 ·rw[au c3] at H;have aax:((l0.length:Int)==(l1.length:Int))=true:=beq_iff_eq.mpr c3;have abx:((l0.length:Int) != (l1.length:Int))=false:=bne_eq_false_iff_eq.mpr c3;have afG:(l0.length==l1.length)=true:=by first | simpa using c3 | (simp at c3 ⊢;omega)
  clear c3;have H':=Y7 H;clear H
  go_enter Tryz.func42,Tryz.ntmps42
  go_wp2
  repeat (go_quiet (fail);try go_wp2)
  go_loopg [13] k (fun kq v13 w'=>∃ (Zj:Int),v13 = .int .i64 Zj∧oM (rQ.l0 kq l0 l1 (l0.length:Int) Zj=some r)∧oM (kq≤k)∧pJ w w')
  case atStart=>exact⟨(0),(by first | rfl | (simp;done)|(simp[*];done)),H',⟨ay _⟩,by repeat (first | exact pJ.refl _ | apply pJ.step)⟩
  case round=>
   clear H'
   try clear c1
   try clear p2
   try clear c3
   try clear aax
   try clear abx
   try clear afG
   obtain⟨Zj,rfl,HA,HK1,⟨m1,rfl⟩⟩:=hrel;cases gk with
   | zero=>exact absurd HA.o (by simp[rQ.l0])
   | succ k1=>
     have H:=HA.o;clear HA;simp only[rQ.l0] at H
     by_cases c4:Zj<(l0.length:Int)
     ·rw[au c4] at H;have aaw:decide (Zj<(l0.length:Int))=true:=aC c4;clear c4
      by_cases c5:0≤Zj
      ·rw[au c5] at H;have adJ:decide (0≤Zj)=true:=aC c5;clear c5
       by_cases c6:Zj<(l0.length:Int)
       ·rw[au c6] at H;have afl:decide (Zj<(l0.length:Int))=true:=aC c6;clear c6
        by_cases c7:Zj<(l1.length:Int)
        ·rw[au c7] at H;have ZV:decide (Zj<(l1.length:Int))=true:=aC c7;clear c7
         by_cases c8:(!(((pI l0 Zj).f0)==((pI l1 Zj).f0))||(!(((pI l0 Zj).f1)==((pI l1 Zj).f1))))=true
         ·rw[au c8] at H;have aac:(!(((pI l0 Zj).f0)==((pI l1 Zj).f0))||(!(((pI l0 Zj).f1)==((pI l1 Zj).f1))))=true:=c8;clear c8;obtain rfl:=bB H;have aew:0≤(Zj:Int):=aJ (by assumption);have aex:Zj<(l0.length:Int):=aJ (by assumption);obtain⟨ajf,aif,ag8,ag9⟩:=tY HR0.o Zj aew aex;cases aif;replace aew:=bJ aew;replace aex:=bJ aex;have aey:0≤(Zj:Int):=aJ (by assumption);have aez:Zj<(l1.length:Int):=aJ (by assumption);obtain⟨ajg,aii,aha,ahb⟩:=tY HR1.o Zj aey aez;cases aii;replace aey:=bJ aey;replace aez:=bJ aez;go_wp2
          repeat (go_quiet (fail);try go_wp2)
          go_ret;exact⟨by first | rfl | (simp;done)|(simp[*];done)|(simp;decide +kernel),by repeat (first | exact pJ.refl _ | apply pJ.step)⟩
         ·rw[av c8] at H;have aac:(!(((pI l0 Zj).f0)==((pI l1 Zj).f0))||(!(((pI l0 Zj).f1)==((pI l1 Zj).f1))))=false:=by simpa using c8
          clear c8;have H':=Y7 H;clear H;have aew:0≤(Zj:Int):=aJ (by assumption);have aex:Zj<(l0.length:Int):=aJ (by assumption);obtain⟨ajf,aif,ag8,ag9⟩:=tY HR0.o Zj aew aex;cases aif;replace aew:=bJ aew;replace aex:=bJ aex;have aey:0≤(Zj:Int):=aJ (by assumption);have aez:Zj<(l1.length:Int):=aJ (by assumption);obtain⟨ajg,aii,aha,ahb⟩:=tY HR1.o Zj aey aez;cases aii;replace aey:=bJ aey;replace aez:=bJ aez;go_wp2
          repeat (go_quiet (fail);try go_wp2)
          go_roundg k1
          case measure=>have:=HK1.o;omega
          case rel=>exact⟨(wrap64 (Zj+1)),(by first | rfl | (simp;done)|(simp[*];done)),H',⟨by have:=HK1.o;omega⟩,by repeat (first | exact pJ.refl _ | apply pJ.step)⟩
        ·rw[av c7] at H;exact absurd H (by simp)
       ·rw[av c6] at H;exact absurd H (by simp)
      ·rw[av c5] at H;exact absurd H (by simp)
     ·rw[av c4] at H;have aaw:decide (Zj<(l0.length:Int))=false:=aD c4;clear c4;obtain rfl:=bB H;go_wp2
      repeat (go_quiet (fail);try go_wp2)
      go_ret;exact⟨by first | rfl | (simp;done)|(simp[*];done)|(simp;decide +kernel),by repeat (first | exact pJ.refl _ | apply pJ.step)⟩
 ·rw[av c3] at H;have aax:((l0.length:Int)==(l1.length:Int))=false:=beq_eq_false_iff_ne.mpr c3;have abx:((l0.length:Int) != (l1.length:Int))=true:=bne_iff_ne.mpr c3;have afG:(l0.length==l1.length)=false:=by first | simpa using c3 | (simp at c3 ⊢;omega)
  obtain rfl:=bB H
  go_enter Tryz.func42,Tryz.ntmps42
  go_wp2
  repeat (go_quiet (fail);try go_wp2)
  go_ret;exact⟨by first | rfl | (simp;done)|(simp[*];done)|(simp;decide +kernel),by repeat (first | exact pJ.refl _ | apply pJ.step)⟩
attribute [local go_sem] sV sZ uE uF sW tq uj um
def oZ (w0 W:World)(g:Nat)(f0:List Int)(f1:Int)(f2:Bool):Prop:=∃ A0 c0,W.heap[g]? = some (.cells #[.slice A0 f0.length c0,.int .i64 f1,.bool f2] 172 (0,0))∧w0.heap.size≤g∧Kd.C (Kd.int .u8) w0 A0 f0.length f0
theorem oZ.grown {w0 W:World}{g:Nat}{f0:List Int}{f1:Int}{f2:Bool}{W1:World}{row:Option Nat}(h:oZ w0 W g f0 f1 f2)(hw:W.grownBy W1 row)(hne:some g≠row):oZ w0 W1 g f0 f1 f2:=by
 obtain⟨A0,c0,hb,hg,hr0⟩:=h;exact⟨A0,c0,qK hb hw hne,hg,hr0⟩
theorem oZ.below {w0 W:World}{g:Nat}{f0:List Int}{f1:Int}{f2:Bool}{W1:World}(h:oZ w0 W g f0 f1 f2)(hw:Below W.heap.size W W1):oZ w0 W1 g f0 f1 f2:=h.grown (Bw hw none) (by simp)
theorem oZ.alloc {w0 W:World}{g:Nat}{f0:List Int}{f1:Int}{f2:Bool}(h:oZ w0 W g f0 f1 f2)(o:Obj):oZ w0 (W.alloc o) g f0 f1 f2:=h.below (oN (aU _ _) o)
theorem oZ.drewN {w0 W:World}{g:Nat}{f0:List Int}{f1:Int}{f2:Bool}(h:oZ w0 W g f0 f1 f2)(m:Nat):oZ w0 (W.drewN m) g f0 f1 f2:=h
theorem oZ.drew {w0 W:World}{g:Nat}{f0:List Int}{f1:Int}{f2:Bool}(h:oZ w0 W g f0 f1 f2):oZ w0 W.drew g f0 f1 f2:=h
theorem oZ.apart {w0 W:World}{g:Nat}{f0:List Int}{f1:Int}{f2:Bool}{α:Type}{d:Kd α}{e:Nat}{base:Nat}{ok:Nat→Prop}{v:Value}{xs:List α}(h:oZ w0 W g f0 f1 f2)(ho:d.R e W base ok v xs)(ht:∀ q,q∈e::d.E→q≠172):d.R e W base (fun k=>ok k∧k≠g) v xs:=by
 obtain⟨A0,c0,hb,hg,hr0⟩:=h;exact Kd.yL ho hb ht
theorem oZ.own_ne {w0 W:World}{g:Nat}{f0:List Int}{f1:Int}{f2:Bool}{α:Type}{d:Kd α}{e:Nat}{base:Nat}{ok:Nat→Prop}{v:Value}{xs:List α}(h:oZ w0 W g f0 f1 f2)(ho:d.R e W base ok v xs)(ht:e≠172):some g≠v.ownBlock:=by
 obtain⟨A0,c0,hb,hg,hr0⟩:=h;exact Kd.DZ ho hb ht
theorem oZ.lt {w0 W:World}{g:Nat}{f0:List Int}{f1:Int}{f2:Bool}(h:oZ w0 W g f0 f1 f2):g<W.heap.size:=by
 obtain⟨A0,c0,hb,hg,hr0⟩:=h;exact qQ hb
theorem oZ.ge {w0 W:World}{g:Nat}{f0:List Int}{f1:Int}{f2:Bool}(h:oZ w0 W g f0 f1 f2):w0.heap.size≤g:=by
 obtain⟨A0,c0,hb,hg,hr0⟩:=h;exact hg
theorem oZ.far {w0 W:World}{g:Nat}{f0:List Int}{f1:Int}{f2:Bool}{p:Addr}(h:oZ w0 W g f0 f1 f2)(hne:g≠p.block)(u:Value):oZ w0 (W.setCell p u) g f0 f1 f2:=by
 obtain⟨A0,c0,hb,hg,hr0⟩:=h;exact⟨A0,c0,vH hb hne u,hg,hr0⟩
theorem Dj {W:World}{g:Nat}{A0:Option Addr}{c0:Nat}{f0:List Int}{f1:Int}{f2:Bool}(h:W.heap[g]? = some (.cells #[.slice A0 f0.length c0,.int .i64 f1,.bool f2] 172 (0,0))):W.cell? ⟨g,0,none⟩=some (.slice A0 f0.length c0):=(oQ h 0).trans rfl
theorem Dk {W:World}{g:Nat}{A0:Option Addr}{c0:Nat}{f0:List Int}{f1:Int}{f2:Bool}(h:W.heap[g]? = some (.cells #[.slice A0 f0.length c0,.int .i64 f1,.bool f2] 172 (0,0))):W.cell? ⟨g,1,none⟩=some (.int .i64 f1):=(oQ h 1).trans rfl
theorem oZ.rJ {w0 W:World}{g:Nat}{f0:List Int}{f1:Int}{f2:Bool}(h:oZ w0 W g f0 f1 f2)(x:Int):oZ w0 (W.setCell ⟨g,1,none⟩ (.int .i64 x)) g f0 x f2:=by
 obtain⟨A0,c0,hb,hg,hr0⟩:=h;exact⟨A0,c0,by simpa using Ac hb 1 (.int .i64 x),hg,hr0⟩
theorem Dl {W:World}{g:Nat}{A0:Option Addr}{c0:Nat}{f0:List Int}{f1:Int}{f2:Bool}(h:W.heap[g]? = some (.cells #[.slice A0 f0.length c0,.int .i64 f1,.bool f2] 172 (0,0))):W.cell? ⟨g,2,none⟩=some (.bool f2):=(oQ h 2).trans rfl
theorem oZ.rO {w0 W:World}{g:Nat}{f0:List Int}{f1:Int}{f2:Bool}(h:oZ w0 W g f0 f1 f2)(x:Bool):oZ w0 (W.setCell ⟨g,2,none⟩ (.bool x)) g f0 f1 x:=by
 obtain⟨A0,c0,hb,hg,hr0⟩:=h;exact⟨A0,c0,by simpa using Ac hb 2 (.bool x),hg,hr0⟩
def o8.l0:Nat→Int→Int→Int→List Int→Int→Bool→Option (Int × Int × Bool)
 | 0,_,_,_,_,_,_=>none
 | k+1,x5,x6,x7,x1000,aas,ad4=>if x7<x6 then (if aas≥(wrap64 (8*(x1000.length:Int))) then (some (0,aas,true)) else (if 0≤(wrap64 (Int.tdiv aas 8)) then (if (wrap64 (Int.tdiv aas 8))<(x1000.length:Int) then (if 0≤(wrap64 (7-(Int.tmod aas 8))) then (o8.l0 k (IntKind.u64.wrap ((IntKind.u64.wrap (x5*2))+(IntKind.u64.wrap (Go.bits .and .u8 (shr .u8 (rd x1000 (wrap64 (Int.tdiv aas 8))) (wrap64 (7-(Int.tmod aas 8)))) 1)))) x6 (wrap64 (x7+1)) x1000 (wrap64 (aas+1)) ad4) else (none)) else (none)) else (none))) else (some (x5,aas,ad4))
def o8.f (k:Nat)(Zl:List Int)(ZX:Int)(ZY:Bool)(a1:Int):Option (Int × Int × Bool):=o8.l0 k 0 a1 0 Zl ZX ZY
theorem o8.c (k:Nat)(g:Nat)(Zl:List Int)(ZX:Int)(ZY:Bool)(a1:Int)(r1:Int)(r2:Int)(r3:Bool)(w0 w:World)(hI:oZ w0 w g Zl ZX ZY)(hB:Below w0.heap.size w0 w)(h:o8.f k Zl ZX ZY a1=some (r1,r2,r3)) :
 Calls Tryz.prog 118 #[.pointer (some ⟨g,0,none⟩),.int .i64 a1] w fun e w'=>e = .returned (.int .u64 r1)∧oZ w0 w' g Zl r2 r3∧Below w0.heap.size w0 w'∧pG w w' g none:=by
 have HI0:=Y7 hI;have HK:=Y7 (pG.refl w g none);have HL:=Y7 hB.size;clear hI;have HW0:=Y7 hB.size;have HB:=Y7 hB;clear hB;have H:(o8.l0 k 0 a1 0 Zl ZX ZY)=some (r1,r2,r3):=h;clear h;have H':=Y7 H;clear H
 go_enter Tryz.func118,Tryz.ntmps118
 go_wp2
 repeat (go_quiet (fail);try go_wp2)
 go_loopg [5,7] k (fun kq v5 v7 w'=>∃ (aeA:Int) (adw:Int) (Zk:Int) (Zp:Bool),v5 = .int .u64 aeA∧v7 = .int .i64 adw∧oM (o8.l0 kq aeA a1 adw Zl Zk Zp=some (r1,r2,r3))∧oM (kq≤k)∧oM (oZ w0 w' g Zl Zk Zp)∧oM (pG w w' g none)∧oM (Below w0.heap.size w0 w'))
 case atStart=>exact⟨(0),(0),(ZX),(ZY),(by first | rfl | (simp;done)|(simp[*];done)),(by first | rfl | (simp;done)|(simp[*];done)),H',⟨ay _⟩,⟨by repeat (first|(with_reducible first | exact HI0.o | apply oZ.alloc | apply oZ.drewN | apply oZ.drew | apply oZ.rJ | apply oZ.rO)|exact HI0.o)⟩,⟨by repeat (first|(with_reducible first | exact HK.o | apply pG.sG | apply p9 | apply ql | apply p8)|exact HK.o)⟩,⟨by repeat (first|(with_reducible first | exact HB.o | apply oN | apply oU | apply oV | refine pF ?_ (oZ.ge HI0.o))|exact HB.o)⟩⟩
 case round=>
  clear H'
  try clear c1
  try clear p2
  obtain⟨aeA,adw,Zk,Zp,rfl,rfl,HA,HK1,HI0,HK,HB⟩:=hrel;cases gk with
  | zero=>exact absurd HA.o (by simp[o8.l0])
  | succ k1=>
    have H:=HA.o;clear HA;simp only[o8.l0] at H
    by_cases c3:adw<a1
    ·rw[au c3] at H;have aax:decide (adw<a1)=true:=aC c3;clear c3
     by_cases c4:Zk≥(wrap64 (8*(Zl.length:Int)))
     ·rw[au c4] at H;have aaw:decide ((wrap64 (8*(Zl.length:Int)))≤Zk)=true:=aC c4;clear c4;simp only[bF,bG] at H;obtain⟨rfl,rfl,rfl⟩:=H;obtain⟨ale,alf,afn,alg,alh⟩:=HI0.o;have ali:=Dj afn;have alj:=Dk afn;have alk:=Dl afn;have alm:=oW afn 1;have aln:=oW afn 2;clear afn alg;go_wp2
      repeat (go_quiet (fail);try go_wp2)
      go_ret;exact⟨by first | rfl | (simp[pQ,pR]<;>rfl)|(simp[*,pQ,pR]<;>rfl),by repeat (first|(with_reducible first | exact HI0.o | apply oZ.alloc | apply oZ.drewN | apply oZ.drew | apply oZ.rJ | apply oZ.rO)|exact HI0.o),by repeat (first|(with_reducible first | exact HB.o | apply oN | apply oU | apply oV | refine pF ?_ (oZ.ge HI0.o))|exact HB.o),by repeat (first|(with_reducible first | exact HK.o | apply pG.sG | apply p9 | apply ql | apply p8)|exact HK.o)⟩
     ·rw[av c4] at H;have aaw:decide ((wrap64 (8*(Zl.length:Int)))≤Zk)=false:=aD c4;clear c4;obtain⟨ji6,aij⟩:∃ j_:Int,(wrap64 (Int.tdiv Zk 8))=j_:=⟨_,rfl⟩;replace H:(if 0≤(ji6) then (if (ji6)<(Zl.length:Int) then (if 0≤(wrap64 (7-(Int.tmod Zk 8))) then (o8.l0 k1 (IntKind.u64.wrap ((IntKind.u64.wrap (aeA*2))+(IntKind.u64.wrap (Go.bits .and .u8 (shr .u8 (rd Zl (ji6)) (wrap64 (7-(Int.tmod Zk 8)))) 1)))) a1 (wrap64 (adw+1)) Zl (wrap64 (Zk+1)) Zp) else (none)) else (none)) else (none))=some (r1,r2,r3):=by first|(rw[aij] at H;exact H)|(simp only[aij] at H ⊢;exact H)
      have anU:(IntKind.i64.wrap (Int.tdiv Zk 8))=ji6:=(q8 _).trans aij
      by_cases c7:0≤(ji6)
      ·rw[au c7] at H;have ZV:decide (0≤(ji6))=true:=aC c7;clear c7
       by_cases c8:(ji6)<(Zl.length:Int)
       ·rw[au c8] at H;have aac:decide ((ji6)<(Zl.length:Int))=true:=aC c8;clear c8;obtain⟨ji9,aik⟩:∃ j_:Int,(wrap64 (7-(Int.tmod Zk 8)))=j_:=⟨_,rfl⟩;replace H:(if 0≤(ji9) then (o8.l0 k1 (IntKind.u64.wrap ((IntKind.u64.wrap (aeA*2))+(IntKind.u64.wrap (Go.bits .and .u8 (shr .u8 (rd Zl (ji6)) (ji9)) 1)))) a1 (wrap64 (adw+1)) Zl (wrap64 (Zk+1)) Zp) else (none))=some (r1,r2,r3):=by first|(rw[aik] at H;exact H)|(simp only[aik] at H ⊢;exact H)
        have anV:(IntKind.i64.wrap (7-(Int.tmod Zk 8)))=ji9:=(q8 _).trans aik
        by_cases c10:0≤(ji9)
        ·rw[au c10] at H;have adB:=bJ c10;have ahJ:decide (0≤(ji9))=true:=aC c10;clear c10;obtain⟨aad,aae⟩:∃ j_:Int,(shr .u8 (rd Zl (ji6)) (ji9))=j_:=⟨_,rfl⟩;replace H:(o8.l0 k1 (IntKind.u64.wrap ((IntKind.u64.wrap (aeA*2))+(IntKind.u64.wrap (Go.bits .and .u8 (aad) 1)))) a1 (wrap64 (adw+1)) Zl (wrap64 (Zk+1)) Zp)=some (r1,r2,r3):=by first|(rw[aae] at H;exact H)|(simp only[aae] at H ⊢;exact H)
         have alo:((rd Zl (ji6)) / 2 ^ min (ji9).toNat 8)=aad:=aae;have alp:(ji9)≤8→((rd Zl (ji6)) / 2 ^ (ji9).toNat)=aad:=Cz aae;have H':=Y7 H;clear H;obtain⟨akK,akL,adC,ajh,ahc⟩:=HI0.o;have aai:=Dj adC;have aaj:=Dk adC;have akM:=Dl adC;have aak:=oW adC 1;have akN:=oW adC 2;clear adC ajh;have ail:0≤((ji6):Int):=aJ (by assumption);have ain:(ji6)<(Zl.length:Int):=aJ (by assumption);obtain⟨anW,alq,aeZ⟩:=Kd.vw ahc (ji6) ail ain;cases alq;replace aeZ:=pW HB.o aeZ;replace ail:=bJ ail;replace ain:=bJ ain;go_wp2
         repeat (go_quiet (fail);try go_wp2)
         go_roundg k1
         case measure=>have:=HK1.o;omega
         case rel=>exact⟨(IntKind.u64.wrap ((IntKind.u64.wrap (aeA*2))+(IntKind.u64.wrap (Go.bits .and .u8 (aad) 1)))),(wrap64 (adw+1)),(wrap64 (Zk+1)),(Zp),(by first | rfl | (simp;done)|(simp only[← aae]<;>(first | rfl | simp))|(simp[*];done)),(by first | rfl | (simp;done)|(simp[*];done)),H',⟨by have:=HK1.o;omega⟩,⟨by repeat (first|(with_reducible first | exact HI0.o | apply oZ.alloc | apply oZ.drewN | apply oZ.drew | apply oZ.rJ | apply oZ.rO)|exact HI0.o)⟩,⟨by repeat (first|(with_reducible first | exact HK.o | apply pG.sG | apply p9 | apply ql | apply p8)|exact HK.o)⟩,⟨by repeat (first|(with_reducible first | exact HB.o | apply oN | apply oU | apply oV | refine pF ?_ (oZ.ge HI0.o))|exact HB.o)⟩⟩
        ·rw[av c10] at H;exact absurd H (by simp)
       ·rw[av c8] at H;exact absurd H (by simp)
      ·rw[av c7] at H;exact absurd H (by simp)
    ·rw[av c3] at H;have aax:decide (adw<a1)=false:=aD c3;clear c3;simp only[bF,bG] at H;obtain⟨rfl,rfl,rfl⟩:=H;go_wp2
     repeat (go_quiet (fail);try go_wp2)
     go_ret;exact⟨by first | rfl | (simp[pQ,pR]<;>rfl)|(simp[*,pQ,pR]<;>rfl),by repeat (first|(with_reducible first | exact HI0.o | apply oZ.alloc | apply oZ.drewN | apply oZ.drew | apply oZ.rJ | apply oZ.rO)|exact HI0.o),by repeat (first|(with_reducible first | exact HB.o | apply oN | apply oU | apply oV | refine pF ?_ (oZ.ge HI0.o))|exact HB.o),by repeat (first|(with_reducible first | exact HK.o | apply pG.sG | apply p9 | apply ql | apply p8)|exact HK.o)⟩
attribute [local go_sem] sV sZ uE uF sW tq uj um
def tL.f (k:Nat)(Zl:List Int)(ZX:Int)(ZY:Bool):Option (Int × Int × Bool):=(o8.f k Zl ZX ZY 1).bind fun aay=>(if aay.1=0 then (some (0,aay.2.1,aay.2.2)) else ((o8.f k Zl aay.2.1 aay.2.2 6).bind fun ZR=>((o8.f k Zl ZR.2.1 ZR.2.2 6).bind fun ZC=>((o8.f k Zl ZC.2.1 ZC.2.2 (wrap64 ((wrap64 (ZC.1))+1))).bind fun ZH=>(if (wrap64 ((wrap64 (ZR.1))+(wrap64 ((wrap64 (ZC.1))+1))))>64 then (some (0,ZH.2.1,true)) else (if 0≤(wrap64 ((wrap64 (64-(wrap64 (ZR.1))))-(wrap64 ((wrap64 (ZC.1))+1)))) then (some (shl .u64 ZH.1 (wrap64 ((wrap64 (64-(wrap64 (ZR.1))))-(wrap64 ((wrap64 (ZC.1))+1)))),ZH.2.1,ZH.2.2)) else (none)))))))
theorem tL.c (k:Nat)(g:Nat)(Zl:List Int)(ZX:Int)(ZY:Bool)(r1:Int)(r2:Int)(r3:Bool)(w0 w:World)(hI:oZ w0 w g Zl ZX ZY)(hB:Below w0.heap.size w0 w)(h:tL.f k Zl ZX ZY=some (r1,r2,r3)) :
 Calls Tryz.prog 120 #[.pointer (some ⟨g,0,none⟩)] w fun e w'=>e = .returned (.int .u64 r1)∧oZ w0 w' g Zl r2 r3∧Below w0.heap.size w0 w'∧pG w w' g none:=by
 have HI0:=Y7 hI;have HK:=Y7 (pG.refl w g none);have HL:=Y7 hB.size;clear hI;have HW0:=Y7 hB.size;have HB:=Y7 hB;clear hB;have H:((o8.f k Zl ZX ZY 1).bind fun aay=>(if aay.1=0 then (some (0,aay.2.1,aay.2.2)) else ((o8.f k Zl aay.2.1 aay.2.2 6).bind fun ZR=>((o8.f k Zl ZR.2.1 ZR.2.2 6).bind fun ZC=>((o8.f k Zl ZC.2.1 ZC.2.2 (wrap64 ((wrap64 (ZC.1))+1))).bind fun ZH=>(if (wrap64 ((wrap64 (ZR.1))+(wrap64 ((wrap64 (ZC.1))+1))))>64 then (some (0,ZH.2.1,true)) else (if 0≤(wrap64 ((wrap64 (64-(wrap64 (ZR.1))))-(wrap64 ((wrap64 (ZC.1))+1)))) then (some (shl .u64 ZH.1 (wrap64 ((wrap64 (64-(wrap64 (ZR.1))))-(wrap64 ((wrap64 (ZC.1))+1)))),ZH.2.1,ZH.2.2)) else (none))))))))=some (r1,r2,r3):=h;clear h;replace H:=Option.bind_eq_some_iff.mp H;obtain⟨⟨adL,aeB,aeC⟩,A20,H⟩:=H;replace H:(if adL=0 then (some (0,aeB,aeC)) else ((o8.f k Zl aeB aeC 6).bind fun ZR=>((o8.f k Zl ZR.2.1 ZR.2.2 6).bind fun ZC=>((o8.f k Zl ZC.2.1 ZC.2.2 (wrap64 ((wrap64 (ZC.1))+1))).bind fun ZH=>(if (wrap64 ((wrap64 (ZR.1))+(wrap64 ((wrap64 (ZC.1))+1))))>64 then (some (0,ZH.2.1,true)) else (if 0≤(wrap64 ((wrap64 (64-(wrap64 (ZR.1))))-(wrap64 ((wrap64 (ZC.1))+1)))) then (some (shl .u64 ZH.1 (wrap64 ((wrap64 (64-(wrap64 (ZR.1))))-(wrap64 ((wrap64 (ZC.1))+1)))),ZH.2.1,ZH.2.2)) else (none)))))))=some (r1,r2,r3):=H;have A2:=Y7 A20;clear A20
 by_cases c3:adL=0
 ·rw[au c3] at H;have aax:(adL==0)=true:=beq_iff_eq.mpr c3;have abx:(adL != 0)=false:=bne_eq_false_iff_eq.mpr c3;clear c3;simp only[bF,bG] at H;obtain⟨rfl,rfl,rfl⟩:=H
  go_enter Tryz.func120,Tryz.ntmps120
  go_wp2_with (first|((with_reducible refine qp (f:=118) rfl ?_);refine rZ (some 7) rfl rfl Tryz.func118 (by kernel_rfl) rfl #[.pointer (some ⟨g,0,none⟩),.int .i64 1] rfl (by (try simp only[bR,bS,bZ]);first | done | rfl | (simp only[aX,aW];rfl)) ?_;(with_reducible refine (o8.c k g Zl ZX ZY 1 adL aeB aeC w0 _ ?Zc ?Zd A2.o).mono ?_);(case Zc=>repeat (first|(with_reducible first | exact HI0.o | apply oZ.alloc | apply oZ.drewN | apply oZ.drew | apply oZ.rJ | apply oZ.rO)|exact HI0.o));(case Zd=>repeat (first|(with_reducible first | exact HB.o | apply oN | apply oU | apply oV | refine pF ?_ (oZ.ge HI0.o))|exact HB.o));rintro e w4 ⟨rfl,hi,hb,hk⟩;refine⟨_,rfl,?_⟩;have n0_:=Y7 (pG.trans (by repeat (first|(with_reducible first | exact HK.o | apply pG.sG | apply p9 | apply ql | apply p8)|exact HK.o)) hk (.inl rfl));have n1_:=Y7 (hb);have n2_:=Y7 (hi);clear HK;clear HB;clear HI0;have HK:=n0_;have HB:=n1_;have HI0:=n2_;clear n0_ n1_ n2_;(try clear hb);(try clear hb2);(try clear hk);(try clear hi)))
  go_ret;exact⟨by first | rfl | (simp[pQ,pR]<;>rfl)|(simp[*,pQ,pR]<;>rfl),by repeat (first|(with_reducible first | exact HI0.o | apply oZ.alloc | apply oZ.drewN | apply oZ.drew | apply oZ.rJ | apply oZ.rO)|exact HI0.o),by repeat (first|(with_reducible first | exact HB.o | apply oN | apply oU | apply oV | refine pF ?_ (oZ.ge HI0.o))|exact HB.o),by repeat (first|(with_reducible first | exact HK.o | apply pG.sG | apply p9 | apply ql | apply p8)|exact HK.o)⟩
 ·rw[av c3] at H;have aax:(adL==0)=false:=beq_eq_false_iff_ne.mpr c3;have abx:(adL != 0)=true:=bne_iff_ne.mpr c3;replace H:=Option.bind_eq_some_iff.mp H;obtain⟨⟨aaL,afJ,afK⟩,A50,H⟩:=H;replace H:((o8.f k Zl afJ afK 6).bind fun ZC=>((o8.f k Zl ZC.2.1 ZC.2.2 (wrap64 ((wrap64 (ZC.1))+1))).bind fun ZH=>(if (wrap64 ((wrap64 (aaL))+(wrap64 ((wrap64 (ZC.1))+1))))>64 then (some (0,ZH.2.1,true)) else (if 0≤(wrap64 ((wrap64 (64-(wrap64 (aaL))))-(wrap64 ((wrap64 (ZC.1))+1)))) then (some (shl .u64 ZH.1 (wrap64 ((wrap64 (64-(wrap64 (aaL))))-(wrap64 ((wrap64 (ZC.1))+1)))),ZH.2.1,ZH.2.2)) else (none)))))=some (r1,r2,r3):=H;have A5:=Y7 A50;clear A50;replace H:=Option.bind_eq_some_iff.mp H;obtain⟨⟨aau,afL,afM⟩,A60,H⟩:=H;replace H:((o8.f k Zl afL afM (wrap64 ((wrap64 (aau))+1))).bind fun ZH=>(if (wrap64 ((wrap64 (aaL))+(wrap64 ((wrap64 (aau))+1))))>64 then (some (0,ZH.2.1,true)) else (if 0≤(wrap64 ((wrap64 (64-(wrap64 (aaL))))-(wrap64 ((wrap64 (aau))+1)))) then (some (shl .u64 ZH.1 (wrap64 ((wrap64 (64-(wrap64 (aaL))))-(wrap64 ((wrap64 (aau))+1)))),ZH.2.1,ZH.2.2)) else (none))))=some (r1,r2,r3):=H;have A6:=Y7 A60;clear A60;replace H:=Option.bind_eq_some_iff.mp H;obtain⟨⟨aeD,afo,afN⟩,A70,H⟩:=H;replace H:(if (wrap64 ((wrap64 (aaL))+(wrap64 ((wrap64 (aau))+1))))>64 then (some (0,afo,true)) else (if 0≤(wrap64 ((wrap64 (64-(wrap64 (aaL))))-(wrap64 ((wrap64 (aau))+1)))) then (some (shl .u64 aeD (wrap64 ((wrap64 (64-(wrap64 (aaL))))-(wrap64 ((wrap64 (aau))+1)))),afo,afN)) else (none)))=some (r1,r2,r3):=H;have A7:=Y7 A70;clear A70
  by_cases c8:(wrap64 ((wrap64 (aaL))+(wrap64 ((wrap64 (aau))+1))))>64
  ·rw[au c8] at H;have aac:decide (64<(wrap64 ((wrap64 (aaL))+(wrap64 ((wrap64 (aau))+1)))))=true:=aC c8;clear c8;simp only[bF,bG] at H;obtain⟨rfl,rfl,rfl⟩:=H
   go_enter Tryz.func120,Tryz.ntmps120
   go_wp2_with (first|((with_reducible refine qp (f:=118) rfl ?_);refine rZ (some 7) rfl rfl Tryz.func118 (by kernel_rfl) rfl #[.pointer (some ⟨g,0,none⟩),.int .i64 1] rfl (by (try simp only[bR,bS,bZ]);first | done | rfl | (simp only[aX,aW];rfl)) ?_;(with_reducible refine (o8.c k g Zl ZX ZY 1 adL aeB aeC w0 _ ?Zc ?Zd A2.o).mono ?_);(case Zc=>repeat (first|(with_reducible first | exact HI0.o | apply oZ.alloc | apply oZ.drewN | apply oZ.drew | apply oZ.rJ | apply oZ.rO)|exact HI0.o));(case Zd=>repeat (first|(with_reducible first | exact HB.o | apply oN | apply oU | apply oV | refine pF ?_ (oZ.ge HI0.o))|exact HB.o));rintro e w9 ⟨rfl,hi,hb,hk⟩;refine⟨_,rfl,?_⟩;have n0_:=Y7 (pG.trans (by repeat (first|(with_reducible first | exact HK.o | apply pG.sG | apply p9 | apply ql | apply p8)|exact HK.o)) hk (.inl rfl));have n1_:=Y7 (hb);have n2_:=Y7 (hi);clear HK;clear HB;clear HI0;have HK:=n0_;have HB:=n1_;have HI0:=n2_;clear n0_ n1_ n2_;(try clear hb);(try clear hb2);(try clear hk);(try clear hi))|((with_reducible refine qp (f:=118) rfl ?_);refine rZ (some 10) rfl rfl Tryz.func118 (by kernel_rfl) rfl #[.pointer (some ⟨g,0,none⟩),.int .i64 6] rfl (by (try simp only[bR,bS,bZ]);first | done | rfl | (simp only[aX,aW];rfl)) ?_;(with_reducible refine (o8.c k g Zl aeB aeC 6 aaL afJ afK w0 _ ?Zc ?Zd A5.o).mono ?_);(case Zc=>repeat (first|(with_reducible first | exact HI0.o | apply oZ.alloc | apply oZ.drewN | apply oZ.drew | apply oZ.rJ | apply oZ.rO)|exact HI0.o));(case Zd=>repeat (first|(with_reducible first | exact HB.o | apply oN | apply oU | apply oV | refine pF ?_ (oZ.ge HI0.o))|exact HB.o));rintro e w10 ⟨rfl,hi,hb,hk⟩;refine⟨_,rfl,?_⟩;have n0_:=Y7 (pG.trans (by repeat (first|(with_reducible first | exact HK.o | apply pG.sG | apply p9 | apply ql | apply p8)|exact HK.o)) hk (.inl rfl));have n1_:=Y7 (hb);have n2_:=Y7 (hi);clear HK;clear HB;clear HI0;have HK:=n0_;have HB:=n1_;have HI0:=n2_;clear n0_ n1_ n2_;(try clear hb);(try clear hb2);(try clear hk);(try clear hi))|((with_reducible refine qp (f:=118) rfl ?_);refine rZ (some 13) rfl rfl Tryz.func118 (by kernel_rfl) rfl #[.pointer (some ⟨g,0,none⟩),.int .i64 6] rfl (by (try simp only[bR,bS,bZ]);first | done | rfl | (simp only[aX,aW];rfl)) ?_;(with_reducible refine (o8.c k g Zl afJ afK 6 aau afL afM w0 _ ?Zc ?Zd A6.o).mono ?_);(case Zc=>repeat (first|(with_reducible first | exact HI0.o | apply oZ.alloc | apply oZ.drewN | apply oZ.drew | apply oZ.rJ | apply oZ.rO)|exact HI0.o));(case Zd=>repeat (first|(with_reducible first | exact HB.o | apply oN | apply oU | apply oV | refine pF ?_ (oZ.ge HI0.o))|exact HB.o));rintro e w11 ⟨rfl,hi,hb,hk⟩;refine⟨_,rfl,?_⟩;have n0_:=Y7 (pG.trans (by repeat (first|(with_reducible first | exact HK.o | apply pG.sG | apply p9 | apply ql | apply p8)|exact HK.o)) hk (.inl rfl));have n1_:=Y7 (hb);have n2_:=Y7 (hi);clear HK;clear HB;clear HI0;have HK:=n0_;have HB:=n1_;have HI0:=n2_;clear n0_ n1_ n2_;(try clear hb);(try clear hb2);(try clear hk);(try clear hi))|((with_reducible refine qp (f:=118) rfl ?_);refine rZ (some 18) rfl rfl Tryz.func118 (by kernel_rfl) rfl #[.pointer (some ⟨g,0,none⟩),.int .i64 (wrap64 ((wrap64 (aau))+1))] rfl (by (try simp only[bR,bS,bZ]);first | done | rfl | (simp only[aX,aW];rfl)) ?_;(with_reducible refine (o8.c k g Zl afL afM (wrap64 ((wrap64 (aau))+1)) aeD afo afN w0 _ ?Zc ?Zd A7.o).mono ?_);(case Zc=>repeat (first|(with_reducible first | exact HI0.o | apply oZ.alloc | apply oZ.drewN | apply oZ.drew | apply oZ.rJ | apply oZ.rO)|exact HI0.o));(case Zd=>repeat (first|(with_reducible first | exact HB.o | apply oN | apply oU | apply oV | refine pF ?_ (oZ.ge HI0.o))|exact HB.o));rintro e w12 ⟨rfl,hi,hb,hk⟩;refine⟨_,rfl,?_⟩;have n0_:=Y7 (pG.trans (by repeat (first|(with_reducible first | exact HK.o | apply pG.sG | apply p9 | apply ql | apply p8)|exact HK.o)) hk (.inl rfl));have n1_:=Y7 (hb);have n2_:=Y7 (hi);clear HK;clear HB;clear HI0;have HK:=n0_;have HB:=n1_;have HI0:=n2_;clear n0_ n1_ n2_;(try clear hb);(try clear hb2);(try clear hk);(try clear hi);obtain⟨akO,akP,adD,aji,akQ⟩:=HI0.o;have aal:=Dj adD;have aam:=Dk adD;have akR:=Dl adD;have aan:=oW adD 1;have akS:=oW adD 2;clear adD aji))
   go_ret;exact⟨by first | rfl | (simp[pQ,pR]<;>rfl)|(simp[*,pQ,pR]<;>rfl),by repeat (first|(with_reducible first | exact HI0.o | apply oZ.alloc | apply oZ.drewN | apply oZ.drew | apply oZ.rJ | apply oZ.rO)|exact HI0.o),by repeat (first|(with_reducible first | exact HB.o | apply oN | apply oU | apply oV | refine pF ?_ (oZ.ge HI0.o))|exact HB.o),by repeat (first|(with_reducible first | exact HK.o | apply pG.sG | apply p9 | apply ql | apply p8)|exact HK.o)⟩
  ·rw[av c8] at H;have aac:decide (64<(wrap64 ((wrap64 (aaL))+(wrap64 ((wrap64 (aau))+1)))))=false:=aD c8;clear c8;obtain⟨ZN,aaf⟩:∃ j_:Int,(wrap64 ((wrap64 (64-(wrap64 (aaL))))-(wrap64 ((wrap64 (aau))+1))))=j_:=⟨_,rfl⟩;replace H:(if 0≤(ZN) then (some (shl .u64 aeD (ZN),afo,afN)) else (none))=some (r1,r2,r3):=by first|(rw[aaf] at H;exact H)|(simp only[aaf] at H ⊢;exact H)
   (try rw[aaf] at A2)
   (try rw[aaf] at A5)
   (try rw[aaf] at A6)
   (try rw[aaf] at A7)
   have aio:(IntKind.i64.wrap ((wrap64 (64-(wrap64 (aaL))))-(wrap64 ((wrap64 (aau))+1))))=ZN:=(q8 _).trans aaf
   by_cases c15:0≤(ZN)
   ·rw[au c15] at H;have ae0:=bJ c15;have ajj:decide (0≤(ZN))=true:=aC c15;clear c15;obtain⟨aby,ZT⟩:∃ j_:Int,(shl .u64 aeD (ZN))=j_:=⟨_,rfl⟩;replace H:(some (aby,afo,afN))=some (r1,r2,r3):=by first|(rw[ZT] at H;exact H)|(simp only[ZT] at H ⊢;exact H)
    (try rw[ZT] at A2)
    (try rw[ZT] at A5)
    (try rw[ZT] at A6)
    (try rw[ZT] at A7)
    have aeE:(IntKind.u64.wrap (aeD*2 ^ min (ZN).toNat 64))=aby:=ZT;have aeF:(ZN)≤64→(IntKind.u64.wrap (aeD*2 ^ (ZN).toNat))=aby:=uW ZT;simp only[bF,bG] at H;obtain⟨rfl,rfl,rfl⟩:=H
    go_enter Tryz.func120,Tryz.ntmps120
    go_wp2_with (first|((with_reducible refine qp (f:=118) rfl ?_);refine rZ (some 7) rfl rfl Tryz.func118 (by kernel_rfl) rfl #[.pointer (some ⟨g,0,none⟩),.int .i64 1] rfl (by (try simp only[bR,bS,bZ]);first | done | rfl | (simp only[aX,aW];rfl)) ?_;(with_reducible refine (o8.c k g Zl ZX ZY 1 adL aeB aeC w0 _ ?Zc ?Zd A2.o).mono ?_);(case Zc=>repeat (first|(with_reducible first | exact HI0.o | apply oZ.alloc | apply oZ.drewN | apply oZ.drew | apply oZ.rJ | apply oZ.rO)|exact HI0.o));(case Zd=>repeat (first|(with_reducible first | exact HB.o | apply oN | apply oU | apply oV | refine pF ?_ (oZ.ge HI0.o))|exact HB.o));rintro e w17 ⟨rfl,hi,hb,hk⟩;refine⟨_,rfl,?_⟩;have n0_:=Y7 (pG.trans (by repeat (first|(with_reducible first | exact HK.o | apply pG.sG | apply p9 | apply ql | apply p8)|exact HK.o)) hk (.inl rfl));have n1_:=Y7 (hb);have n2_:=Y7 (hi);clear HK;clear HB;clear HI0;have HK:=n0_;have HB:=n1_;have HI0:=n2_;clear n0_ n1_ n2_;(try clear hb);(try clear hb2);(try clear hk);(try clear hi))|((with_reducible refine qp (f:=118) rfl ?_);refine rZ (some 10) rfl rfl Tryz.func118 (by kernel_rfl) rfl #[.pointer (some ⟨g,0,none⟩),.int .i64 6] rfl (by (try simp only[bR,bS,bZ]);first | done | rfl | (simp only[aX,aW];rfl)) ?_;(with_reducible refine (o8.c k g Zl aeB aeC 6 aaL afJ afK w0 _ ?Zc ?Zd A5.o).mono ?_);(case Zc=>repeat (first|(with_reducible first | exact HI0.o | apply oZ.alloc | apply oZ.drewN | apply oZ.drew | apply oZ.rJ | apply oZ.rO)|exact HI0.o));(case Zd=>repeat (first|(with_reducible first | exact HB.o | apply oN | apply oU | apply oV | refine pF ?_ (oZ.ge HI0.o))|exact HB.o));rintro e w18 ⟨rfl,hi,hb,hk⟩;refine⟨_,rfl,?_⟩;have n0_:=Y7 (pG.trans (by repeat (first|(with_reducible first | exact HK.o | apply pG.sG | apply p9 | apply ql | apply p8)|exact HK.o)) hk (.inl rfl));have n1_:=Y7 (hb);have n2_:=Y7 (hi);clear HK;clear HB;clear HI0;have HK:=n0_;have HB:=n1_;have HI0:=n2_;clear n0_ n1_ n2_;(try clear hb);(try clear hb2);(try clear hk);(try clear hi))|((with_reducible refine qp (f:=118) rfl ?_);refine rZ (some 13) rfl rfl Tryz.func118 (by kernel_rfl) rfl #[.pointer (some ⟨g,0,none⟩),.int .i64 6] rfl (by (try simp only[bR,bS,bZ]);first | done | rfl | (simp only[aX,aW];rfl)) ?_;(with_reducible refine (o8.c k g Zl afJ afK 6 aau afL afM w0 _ ?Zc ?Zd A6.o).mono ?_);(case Zc=>repeat (first|(with_reducible first | exact HI0.o | apply oZ.alloc | apply oZ.drewN | apply oZ.drew | apply oZ.rJ | apply oZ.rO)|exact HI0.o));(case Zd=>repeat (first|(with_reducible first | exact HB.o | apply oN | apply oU | apply oV | refine pF ?_ (oZ.ge HI0.o))|exact HB.o));rintro e w19 ⟨rfl,hi,hb,hk⟩;refine⟨_,rfl,?_⟩;have n0_:=Y7 (pG.trans (by repeat (first|(with_reducible first | exact HK.o | apply pG.sG | apply p9 | apply ql | apply p8)|exact HK.o)) hk (.inl rfl));have n1_:=Y7 (hb);have n2_:=Y7 (hi);clear HK;clear HB;clear HI0;have HK:=n0_;have HB:=n1_;have HI0:=n2_;clear n0_ n1_ n2_;(try clear hb);(try clear hb2);(try clear hk);(try clear hi))|((with_reducible refine qp (f:=118) rfl ?_);refine rZ (some 18) rfl rfl Tryz.func118 (by kernel_rfl) rfl #[.pointer (some ⟨g,0,none⟩),.int .i64 (wrap64 ((wrap64 (aau))+1))] rfl (by (try simp only[bR,bS,bZ]);first | done | rfl | (simp only[aX,aW];rfl)) ?_;(with_reducible refine (o8.c k g Zl afL afM (wrap64 ((wrap64 (aau))+1)) aeD afo afN w0 _ ?Zc ?Zd A7.o).mono ?_);(case Zc=>repeat (first|(with_reducible first | exact HI0.o | apply oZ.alloc | apply oZ.drewN | apply oZ.drew | apply oZ.rJ | apply oZ.rO)|exact HI0.o));(case Zd=>repeat (first|(with_reducible first | exact HB.o | apply oN | apply oU | apply oV | refine pF ?_ (oZ.ge HI0.o))|exact HB.o));rintro e w20 ⟨rfl,hi,hb,hk⟩;refine⟨_,rfl,?_⟩;have n0_:=Y7 (pG.trans (by repeat (first|(with_reducible first | exact HK.o | apply pG.sG | apply p9 | apply ql | apply p8)|exact HK.o)) hk (.inl rfl));have n1_:=Y7 (hb);have n2_:=Y7 (hi);clear HK;clear HB;clear HI0;have HK:=n0_;have HB:=n1_;have HI0:=n2_;clear n0_ n1_ n2_;(try clear hb);(try clear hb2);(try clear hk);(try clear hi)))
    go_ret;exact⟨by first | rfl | (simp[pQ,pR]<;>rfl)|(simp only[← aaf,← ZT];first | rfl | (simp[pQ,pR]<;>rfl))|(simp[*,pQ,pR]<;>rfl),by repeat (first|(with_reducible first | exact HI0.o | apply oZ.alloc | apply oZ.drewN | apply oZ.drew | apply oZ.rJ | apply oZ.rO)|exact HI0.o),by repeat (first|(with_reducible first | exact HB.o | apply oN | apply oU | apply oV | refine pF ?_ (oZ.ge HI0.o))|exact HB.o),by repeat (first|(with_reducible first | exact HK.o | apply pG.sG | apply p9 | apply ql | apply p8)|exact HK.o)⟩
   ·rw[av c15] at H;exact absurd H (by simp)
end Go.Proofs.Y.PA
