/- Of the law rZIQDumpBack. -/
import Derived.Test.YtcgbgifbajdhpaaGreatDoorZI7
set_option linter.unusedVariables false
set_option linter.unusedSimpArgs false
set_option maxHeartbeats 8000000
set_option maxRecDepth 100000
namespace Go
abbrev aR:=@of_decide_eq_true
abbrev bO:=@eq_true
abbrev fA:=@List.take_append_drop
abbrev fK:=@List.length_nil
abbrev jv:=@List.flatten_append
end Go
namespace Go.Proofs.Y.PA
open Go.RowKit Go.Proofs.YW.o7 Go.Proofs.YW.pJ Go.Proofs.YW.pO
attribute [local go_sem] rZ r9 sU sV rX rY sN sO
def rG.l0:Nat→List (qC)→Int→Option (Bool)
 | 0,_,_=>none
 | k+1,x0,x3=>if x3<(x0.length:Int) then (if 0≤x3 then (if 0≤(wrap64 (x3-1)) then (if (wrap64 (x3-1))<(x0.length:Int) then (if ((pV x0 x3).f0)≤((pV x0 (wrap64 (x3-1))).f0) then (some false) else (rG.l0 k x0 (wrap64 (x3+1)))) else (none)) else (none)) else (none)) else (some (decide ((x0.length:Int)≤65535)))
def rG.f (k:Nat)(l0:List (qC)):Option (Bool):=rG.l0 k l0 1
theorem rG.c (k:Nat)(A0:Option Addr)(c0:Nat)(l0:List (qC))(r:Bool)(w:World)(hr0:Kd.C vk w A0 l0.length l0)(hc0:l0.length≤c0)(h:rG.f k l0=some r) :
 Calls Tryz.prog 88 #[.slice A0 l0.length c0] w fun e w'=>e = .returned (.bool r)∧pQ w w':=by
 have HR0:=Yu hr0;have HC0:=Yu hc0;clear hr0 hc0;have H:(rG.l0 k l0 1)=some r:=h;clear h;have H':=Yu H;clear H
 go_enter Tryz.func88,Tryz.ntmps88
 go_wp2
 repeat (go_quiet (fail);try go_wp2)
 go_loopg [3] k (fun kq v3 w'=>∃ (Yx:Int),v3 = .int .i64 Yx∧oZ (rG.l0 kq l0 Yx=some r)∧oZ (kq≤k)∧pQ w w')
 case atStart=>exact⟨(1),(by first | rfl | (simp;done)|(simp[*];done)),H',⟨aD _⟩,by repeat (first | exact pQ.refl _ | apply pQ.step)⟩
 case round=>
  clear H';obtain⟨Yx,rfl,HA,HK1,⟨m1,rfl⟩⟩:=hrel;cases gk with
  | zero=>exact absurd HA.o (by simp[rG.l0])
  | succ k1=>
    have H:=HA.o;clear HA;simp only[rG.l0] at H
    by_cases c2:Yx<(l0.length:Int)
    ·rw[ak c2] at H;have Z6:decide (Yx<(l0.length:Int))=true:=aM c2;clear c2
     by_cases c3:0≤Yx
     ·rw[ak c3] at H;have acA:decide (0≤Yx)=true:=aM c3;clear c3;obtain⟨ji4,acI⟩:∃ j_:Int,(wrap64 (Yx-1))=j_:=⟨_,rfl⟩;replace H:(if 0≤(ji4) then (if (ji4)<(l0.length:Int) then (if ((pV l0 Yx).f0)≤((pV l0 (ji4)).f0) then (some false) else (rG.l0 k1 l0 (wrap64 (Yx+1)))) else (none)) else (none))=some r:=by first|(rw[acI] at H;exact H)|(simp only[acI] at H ⊢;exact H)
      have agU:(IntKind.i64.wrap (Yx-1))=ji4:=(rH _).trans acI
      by_cases c5:0≤(ji4)
      ·rw[ak c5] at H;have acH:decide (0≤(ji4))=true:=aM c5;clear c5
       by_cases c6:(ji4)<(l0.length:Int)
       ·rw[ak c6] at H;have aec:decide ((ji4)<(l0.length:Int))=true:=aM c6;clear c6
        by_cases c7:((pV l0 Yx).f0)≤((pV l0 (ji4)).f0)
        ·rw[ak c7] at H;have Zi:decide (((pV l0 Yx).f0)≤((pV l0 (ji4)).f0))=true:=aM c7;clear c7;obtain rfl:=bE H;have ac8:0≤(Yx:Int):=aR (by assumption);have ac9:Yx<(l0.length:Int):=aR (by assumption);obtain⟨aed,e119,ae0,ae1⟩:=uD HR0.o Yx ac8 ac9;cases e119;replace ac8:=bO ac8;replace ac9:=bO ac9;have ada:0≤((ji4):Int):=aR (by assumption);have adb:(ji4)<(l0.length:Int):=aR (by assumption);obtain⟨aee,e120,ae2,ae3⟩:=uD HR0.o (ji4) ada adb;obtain rfl:aed=aee:=(by injection e120);replace ada:=bO ada;replace adb:=bO adb;go_wp2
         repeat (go_quiet (fail);try go_wp2)
         go_ret;exact⟨by first | rfl | (simp;done)|(simp only[← acI]<;>(first | rfl | simp))|(simp[*];done),by repeat (first | exact pQ.refl _ | apply pQ.step)⟩
        ·rw[aK c7] at H;have Zi:decide (((pV l0 Yx).f0)≤((pV l0 (ji4)).f0))=false:=aN c7;clear c7;have H':=Yu H;clear H;have ac8:0≤(Yx:Int):=aR (by assumption);have ac9:Yx<(l0.length:Int):=aR (by assumption);obtain⟨aed,e119,ae0,ae1⟩:=uD HR0.o Yx ac8 ac9;cases e119;replace ac8:=bO ac8;replace ac9:=bO ac9;have ada:0≤((ji4):Int):=aR (by assumption);have adb:(ji4)<(l0.length:Int):=aR (by assumption);obtain⟨aee,e120,ae2,ae3⟩:=uD HR0.o (ji4) ada adb;obtain rfl:aed=aee:=(by injection e120);replace ada:=bO ada;replace adb:=bO adb;go_wp2
         repeat (go_quiet (fail);try go_wp2)
         go_roundg k1
         case measure=>have:=HK1.o;omega
         case rel=>exact⟨(wrap64 (Yx+1)),(by first | rfl | (simp;done)|(simp[*];done)),H',⟨by have:=HK1.o;omega⟩,by repeat (first | exact pQ.refl _ | apply pQ.step)⟩
       ·rw[aK c6] at H;exact absurd H (by simp)
      ·rw[aK c5] at H;exact absurd H (by simp)
     ·rw[aK c3] at H;exact absurd H (by simp)
    ·rw[aK c2] at H;have Z6:decide (Yx<(l0.length:Int))=false:=aN c2;clear c2;obtain rfl:=bE H;go_wp2
     repeat (go_quiet (fail);try go_wp2)
     go_ret;exact⟨by first | rfl | (simp;done)|(simp[*];done)|(simp;decide +kernel),by repeat (first | exact pQ.refl _ | apply pQ.step)⟩
end Go.Proofs.Y.PA
namespace Go.Proofs.Y.PA
open Go.RowKit Go.Proofs.Y.G Go.Proofs.YW.o7 Go.Proofs.YW.pJ Go.Proofs.YW.pO
def yu (xs:List (List Int))(i:Int):List Int:=xs.getD i.toNat []
theorem RJ {w:World}{A:Option Addr}{n:Nat}{xs:List (List Int)}(h:Kd.C (Kd.slice 5 (Kd.int .u8)) w A n xs)(i:Int)(h0:0≤i)(h1:i<n):∃ ad A0 c0,A=some ad∧w.cell? (ad.add i.toNat)=some (.slice A0 (yu xs i).length c0)∧(yu xs i).length≤c0∧(Kd.int .u8).C w A0 (yu xs i).length (yu xs i):=by
 obtain⟨ad,c,e,_,hK,hc0⟩:=Kd.Bh h ([]:List Int) i h0 h1;have hc:∀ j u,c[j]? = some u→w.cell? (ad.add (i.toNat*1+j))=some u:=hc0;obtain⟨A0,c0,rfl,l0,g0⟩:=hK;exact⟨ad,A0,c0,e,by have hq:=hc 0 _ rfl;rwa [kZ,iB] at hq,l0,g0⟩
theorem XI.c (n:Int)(w:World)(h0:0≤n)(h1:n≤1000000000) :
 Calls Tryz.prog 94 #[.slice none 0 0,.int .i64 n] w fun e w'=>∃ v:Value,e = .returned v∧Kd.R (Kd.int .u8) 5 w' w.heap.size (fun _=>True) v []∧Below w.heap.size w w':=by
 have hneg:decide (n<0)=false:=aN (by omega);have hw:IntKind.i64.wrap n=n:=by rw[bI];omega
 have HB0:oZ (Below w.heap.size w w):=⟨bq _ _⟩;obtain⟨i05,acJ,_,hsz5,_⟩:=info_parts uS;have ajX:=Gc (P:=Tryz.prog) 24 5 .i64 Tryz.underlying24 acJ none 0 0 0 (by omega) (by omega) (by omega);have HN0:oZ (0≤n∧n≤1000000000):=⟨h0,h1⟩;clear h0 h1
 go_enter Tryz.func94,Tryz.ntmps94
 by_cases hp:0<n
 ·have hd:decide (0<n)=true:=aM hp;have HP:=Yu hp;clear hp
  go_wp2_with (first|((with_reducible refine qK (N:=22) rfl ?_);go_must (refine Kd.FP (Kd.int .u8) (w0:=w) w.heap.size rfl (.tmp 20) (.tmp 21) 24 3 5 (.int .u8 0) 1 rfl Tryz.underlying24 Tryz.underlying3 uS rfl (by decide) (by omega) (.slice none 0 0) [] 0 n (fun _=>True) rfl rfl rfl (fun _ _=>dD) (Kd.ug _ _ _ _ _) HN0.o.1 (bq _ _) (aD _) ?h6 ?_);(case h6=>(have:=HN0.o;simp only[fK];omega));intro v4 w4 hR4 hB4 hg4 ho4;obtain⟨g4,c4,rfl,hb4,hl4,_⟩:=Kd.FT hR4 (by have:=HP.o;simp only[dL,kN];omega);have hcc:=(Kd.pR hR4).2.1;have ajY:=Gc (P:=Tryz.prog) 24 5 .i64 Tryz.underlying24 acJ (some ⟨g4,0,none⟩) _ c4 0 (by omega) (by omega) hcc;have HR4:=Yu (Kd.Ws hR4 (bV _));have HB4:=Yu hB4;clear hR4 hB4 hg4 ho4))
  go_ret;exact⟨_,rfl,HR4.o,HB4.o⟩
 ·obtain rfl:n=0:=by have:=HN0.o;omega
  go_wp2;go_ret;exact⟨_,rfl,Kd.ug _ _ _ _ _,bq _ _⟩
theorem Gu (Ls:List (List Int))(k:Nat)(hk:k<Ls.length):(Ls.take (k+1)).flatten=(Ls.take k).flatten++yu Ls (k:Int):=by
 have e:yu Ls (k:Int)=Ls[k]:=by simp[yu,bn,aQ hk]
 rw[cZ hk,jv,e];simp
theorem LU (Ls:List (List Int))(k:Nat):(Ls.take k).flatten.length≤Ls.flatten.length:=by
 have:Ls.flatten.length=(Ls.take k).flatten.length+(Ls.drop k).flatten.length:=by rw[← bg,← jv,fA]
 omega
theorem OP.c (A0:Option Addr)(c0 n:Nat)(Ls:List (List Int))(w:World)(hn:Ls.length=n)(hr0:Kd.C (Kd.slice 5 (Kd.int .u8)) w A0 n Ls)(hlen:n≤1000000)(afI:Ls.flatten.length≤1000000000) :
 Calls Tryz.prog 62 #[.slice A0 n c0] w fun e w'=>∃ v:Value,e = .returned v∧Kd.R (Kd.int .u8) 5 w' w.heap.size (fun _=>True) v Ls.flatten∧Below w.heap.size w w':=by
 subst hn;have HR:=Yu hr0;have HL:=Yu afI;clear hr0 afI
 go_enter Tryz.func62,Tryz.ntmps62
 go_wp2
 go_loopw [3,11] (fun s i wr=>∃ k:Nat,k≤Ls.length∧i = .int .i64 k∧s = .int .i64 (((Ls.take k).flatten.length:Nat):Int)∧oZ (Below w.heap.size w wr)) (fun _ i _=>Ls.length-(intOf i).toNat)
 case atStart=>exact⟨0,bV _,rfl,rfl,⟨bq _ _⟩⟩
 case round=>
  obtain⟨k,hk,rfl,rfl,HB⟩:=hrel
  by_cases hlt:k<Ls.length
  ·obtain⟨ad,A1,c1,rfl,h0,_,_⟩:=RJ (Kd.pI HR.o HB.o) (k:Int) (by omega) (by omega);rw[bf] at h0;have hst:=Gu Ls k hlt;have hle1:=LU Ls (k+1);have hlL:=HL.o;have HST:oZ ((((Ls.take (k+1)).flatten.length:Nat):Int)=((Ls.take k).flatten.length:Int)+((yu Ls (k:Int)).length:Int)):=⟨by rw[hst,bg];omega⟩;have hneg:decide (((Ls.take k).flatten.length:Int)+((yu Ls (k:Int)).length:Int)<0)=false:=aN (by omega);have hw:IntKind.i64.wrap (((Ls.take k).flatten.length:Int)+((yu Ls (k:Int)).length:Int))=((Ls.take k).flatten.length:Int)+((yu Ls (k:Int)).length:Int):=by rw[bI];have:=HST.o;omega
   clear hst hle1 hlL;generalize yu Ls (k:Int)=y at h0 HST hneg hw;generalize (Ls.take k).flatten.length=m at HST hneg hw;go_wp2
   go_roundw
   case rel=>exact⟨k+1,by omega,by go_num,by rw[HST.o],HB⟩
   case measure=>simp[intOf];omega
  ·obtain rfl:k=Ls.length:=by omega
   rw[dW];have HL0:oZ ((0:Int)≤(Ls.flatten.length:Int)∧(Ls.flatten.length:Int)≤1000000000):=⟨by have:=HL.o;omega⟩;generalize Ls.flatten.length=N at HL0 ⊢
   go_wp2_with (first|(go_at_call 94;(with_reducible refine (XI.c (N:Int) _ HL0.o.1 HL0.o.2).mono ?_);rintro e w2 ⟨v2,rfl,hr2,hb2⟩;have HR2:=Yu (Kd.sj hr2 HB.o.size);have HB2:=Yu (o9 HB.o hb2);clear hr2 hb2))
   go_loopw [6,27] (fun v i wq=>∃ k:Nat,k≤Ls.length∧i = .int .i64 k∧oZ (Kd.R (Kd.int .u8) 5 wq w.heap.size (fun _=>True) v (Ls.take k).flatten)∧oZ (Below w.heap.size w wq)) (fun _ i _=>Ls.length-(intOf i).toNat)
   case atStart=>exact⟨0,bV _,rfl,HR2,HB2⟩
   case round=>
    clear HR2 HB2 HB;obtain⟨k,hk,rfl,HO,HB⟩:=hrel
    by_cases hlt:k<Ls.length
    ·obtain⟨ad,A1,c1,rfl,h0,_,hC⟩:=RJ HR.o (k:Int) (by omega) (by omega);rw[bf] at h0;have h0':=qm HB.o h0;have HF:=Yu (Kd.pI hC HB.o);have HST:=Yu (Gu Ls k hlt);have HLE:=Yu (LU Ls (k+1));clear h0 hC;generalize yu Ls (k:Int)=y at h0' HST HF
     go_wp2_with (first|((with_reducible refine qK (N:=33) rfl ?_);go_must (refine Kd.xG (Value.int .u8) 0 (h1:=fun _=>rfl) (w0:=w) w.heap.size rfl (.tmp 31) (.tmp 32) 24 5 (.int .u8 0) 1 rfl Tryz.underlying24 uS rfl (by decide) _ (Ls.take k).flatten y A1 y.length c1 (fun _=>True) rfl rfl (fun _ _=>dD) HO.o HF.o HB.o HB.o.size ?h6 ?_);(case h6=>(have h1:=HST.o;have h2:=HLE.o;have h3:=HL.o;rw[h1,bg] at h2;omega));intro v4 w4 hR4 hB4 hg4 ho4;have HR4:=Yu hR4;have HB4:=Yu hB4;clear hR4 hB4 hg4 ho4))
     go_roundw
     case rel=>exact⟨k+1,by omega,by go_num,⟨by rw[HST.o];exact HR4.o⟩,HB4⟩
     case measure=>simp[intOf];omega
    ·obtain rfl:k=Ls.length:=by omega
     go_wp2;go_ret;exact⟨_,rfl,by have:=HO.o;rwa [dW] at this,HB.o⟩
theorem WC (W:World)(g:Nat)(A1 A2 A3 A4:Option Addr)(c1 c2 c3 c4:Nat)(l1 l2 l3 l4:List Int)(t:Nat)(fr:Nat × Nat)(hb:W.heap[g]? = some (.cells #[.slice A1 l1.length c1,.slice A2 l2.length c2,.slice A3 l3.length c3,.slice A4 l4.length c4] t fr))
 (h1:Kd.C (Kd.int .u8) W A1 l1.length l1) (k1:l1.length≤c1) (h2:Kd.C (Kd.int .u8) W A2 l2.length l2) (k2:l2.length≤c2) (h3:Kd.C (Kd.int .u8) W A3 l3.length l3) (k3:l3.length≤c3) (h4:Kd.C (Kd.int .u8) W A4 l4.length l4) (k4:l4.length≤c4) :
 Kd.C (Kd.slice 5 (Kd.int .u8)) W (some ⟨g,0,none⟩) 4 [l1,l2,l3,l4]:=by
 have key:∀ (j:Nat) (u:Value),#[Value.slice A1 l1.length c1,.slice A2 l2.length c2,.slice A3 l3.length c3,.slice A4 l4.length c4][j]? = some u→W.cell? (Addr.add ⟨g,0,none⟩ j)=some u:=fun j u hu=>by
  rw[add_plain];exact (je W g j _ t fr hb).trans hu
 have one:∀ (j:Nat) (u:Value),#[Value.slice A1 l1.length c1,.slice A2 l2.length c2,.slice A3 l3.length c3,.slice A4 l4.length c4][j]? = some u→∀ i v,[u][i]? = some v→W.cell? (Addr.add ⟨g,0,none⟩ (j*1+i))=some v:=fun j u hu i v hv=>by
  match i,hv with
  | 0,hv=>
    injection hv with hv
    subst hv;rw[kZ,iB];exact key j u hu
  | n+1,hv=>simp at hv
 refine⟨rfl,by decide,fun _=>⟨_,rfl,fun j p hj=>?_⟩⟩
 match j,hj with
 | 0,hj=>injection hj with hj;subst hj;exact⟨_,rfl,⟨A1,c1,rfl,k1,h1⟩,one 0 _ rfl⟩
 | 1,hj=>injection hj with hj;subst hj;exact⟨_,rfl,⟨A2,c2,rfl,k2,h2⟩,one 1 _ rfl⟩
 | 2,hj=>injection hj with hj;subst hj;exact⟨_,rfl,⟨A3,c3,rfl,k3,h3⟩,one 2 _ rfl⟩
 | 3,hj=>injection hj with hj;subst hj;exact⟨_,rfl,⟨A4,c4,rfl,k4,h4⟩,one 3 _ rfl⟩
 | n+4,hj=>simp at hj
end Go.Proofs.Y.PA
