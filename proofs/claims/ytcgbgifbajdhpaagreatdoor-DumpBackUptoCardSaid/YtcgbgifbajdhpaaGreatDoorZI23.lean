/- Of the law rZIQDumpBack. -/
import Derived.Test.YtcgbgifbajdhpaaGreatDoorZI7
set_option linter.unusedVariables false
set_option linter.unusedSimpArgs false
set_option maxHeartbeats 4000000
set_option maxRecDepth 100000
namespace Go
abbrev aZ:=@of_decide_eq_true
abbrev dR:=@of_decide_eq_false
abbrev gU:=@Go.Calls.quiet_of_same
abbrev jf:=@Go.rounds_succ
abbrev lV:=@Go.wp_loop_rounds
abbrev lW:=@List.take_zero
abbrev nG:=@List.lt_irrefl
end Go
namespace Go.Proofs.Y.PA
open Go.RowKit Go.Proofs.Y.G Go.Proofs.YW.o7 Go.Proofs.YW.pJ Go.Proofs.YW.pO
def sG (a b:Int):Int:=if a≠0 then a else b
def yP (x y:rW):Int:=sG (txt x.f0 y.f0) (txt x.f1 y.f1)
theorem sG.c (a b:Int)(w:World)(g:Nat)(h0:w.cell? ⟨g,0,none⟩=some (.int .i64 a))(h1:w.cell? ⟨g,1,none⟩=some (.int .i64 b)):Calls Tryz.prog 103 #[.slice (some ⟨g,0,none⟩) 2 2] w fun e w'=>e = .returned (.int .i64 (sG a b))∧w'=w:=by
 cases ha:(a != 0) with
 | true=>
   have HV:oZ (sG a b=a):=⟨by rw[sG,ak (bne_iff_ne.1 ha)]⟩
   go_enter Tryz.func103,Tryz.ntmps103
   go_wp2;refine lV 1 ?_;rw[jf];go_wp2;go_ret;exact⟨by rw[HV.o];rfl,rfl⟩
 | false=>
   have HV:oZ (sG a b=b):=⟨by rw[sG,aK (by simpa using ha)]⟩;cases hb:(b != 0) with
   | true=>
     go_enter Tryz.func103,Tryz.ntmps103
     go_wp2;refine lV 2 ?_;rw[jf];go_wp2;rw[jf];go_wp2;go_ret;exact⟨by rw[HV.o];rfl,rfl⟩
   | false=>
     have hz:b=0:=by simpa using hb
     have HV2:oZ (sG a b=0):=⟨by rw[HV.o,hz]⟩;clear hz
     go_enter Tryz.func103,Tryz.ntmps103
     go_wp2;refine lV 3 ?_;rw[jf];go_wp2;rw[jf];go_wp2;rw[jf];go_wp2;go_ret;exact⟨by rw[HV2.o];rfl,rfl⟩
theorem yP.c (x y:rW)(w:World):Calls Tryz.prog 102 #[.agg #[.string x.f0,.string x.f1],.agg #[.string y.f0,.string y.f1]] w fun e w'=>e = .returned (.int .i64 (yP x y))∧Below w.heap.size w w':=by
 have bx:=pU (qG w (.cells #[.string x.f0,.string x.f1] 68 (0,0))) (.cells #[.string y.f0,.string y.f1] 68 (0,0));have by_:=qG (w.alloc (.cells #[.string x.f0,.string x.f1] 68 (0,0))) (.cells #[.string y.f0,.string y.f1] 68 (0,0));rw[show (w.alloc (.cells #[.string x.f0,.string x.f1] 68 (0,0))).heap.size=w.heap.size+1 by simp] at by_;have HB:=Yu (pF (o8 (o8 (bq w.heap.size w) (.cells #[.string x.f0,.string x.f1] 68 (0,0))) (.cells #[.string y.f0,.string y.f1] 68 (0,0))));have a0:∀ W,W=((w.alloc (.cells #[.string x.f0,.string x.f1] 68 (0,0))).alloc (.cells #[.string y.f0,.string y.f1] 68 (0,0))).drew→W.cell? ⟨w.heap.size,0,none⟩=some (.string x.f0)∧W.cell? ⟨w.heap.size,1,none⟩=some (.string x.f1)∧W.cell? ⟨w.heap.size+1,0,none⟩=some (.string y.f0)∧W.cell? ⟨w.heap.size+1,1,none⟩=some (.string y.f1)∧W.heap.size=w.heap.size+1+1:=fun W hW=>by
  subst hW;exact⟨pq (qg bx) 0,pq (qg bx) 1,pq (qg by_) 0,pq (qg by_) 1,by simp⟩
 have HA:=Yu a0;clear a0 bx by_
 go_enter Tryz.func102,Tryz.ntmps102
 go_wp2_with fail
 refine KH 10 (by kernel_rfl) (by kernel_rfl) ?_;intro W hW;obtain⟨a0,a1,a2,a3,hz⟩:=HA.o W hW;rw[← hW] at HB;have HB1:=Yu (o8 HB.o (.cells #[.int .i64 (txt x.f0 y.f0),.int .i64 (txt x.f1 y.f1)] 3 (0,0)));have HN:=Yu (qG W (.cells #[.int .i64 (txt x.f0 y.f0),.int .i64 (txt x.f1 y.f1)] 3 (0,0)));clear hW HA hz;simp only[jU,lW,List.drop_succ_cons,iA]
 repeat (first | still_step | still_call (Ww.c _ _ _))
 refine wpStill_nil ?_
 go_wp2_with (first|(go_at_call 103;refine (sG.c (txt x.f0 y.f0) (txt x.f1 y.f1) _ _ (pq HN.o 0) (pq HN.o 1)).mono ?_;rintro e w1 ⟨rfl,rfl⟩))
 go_ret;exact⟨rfl,HB1.o⟩
def cmpL:List rW→List rW→Int
 | [],[]=>0
 | [],_::_ => -1
 | _::_,[]=>1
 | x::a,y::b=>sG (yP x y) (cmpL a b)
theorem Cr (l:List rW)(k:Nat)(h:k<l.length):l.drop k=qM l (k:Int)::l.drop (k+1):=by
 rw[fH h];simp[qM,bn,aQ h]
theorem Dx (a b:List rW)(k:Nat)(h1:k<a.length)(h2:k<b.length):cmpL (a.drop k) (b.drop k)=sG (yP (qM a (k:Int)) (qM b (k:Int))) (cmpL (a.drop (k+1)) (b.drop (k+1))):=by
 rw[Cr a k h1,Cr b k h2];rfl
theorem J7 (a b:List rW)(k:Nat)(h1:k<a.length)(h2:b.length≤k):cmpL (a.drop k) (b.drop k)=1:=by
 rw[Cr a k h1,gP h2];rfl
theorem J8 (a b:List rW)(k:Nat)(h1:a.length≤k)(h2:k<b.length):cmpL (a.drop k) (b.drop k) = -1:=by
 rw[Cr b k h2,gP h1];rfl
theorem cmpL_eq (a b:List rW)(k:Nat)(h1:a.length≤k)(h2:b.length≤k):cmpL (a.drop k) (b.drop k)=0:=by
 rw[gP h2,gP h1];rfl
theorem Ya.c (A B:Option Addr)(c e0 n m:Nat)(a b:List rW)(w:World)(hn:a.length=n)(hm:b.length=m)(hr:Kd.C wE w A n a)(hs:Kd.C wE w B m b)(hl:n≤1000000) :
 Calls Tryz.prog 101 #[.slice A n c,.slice B m e0,.func (.func 102) #[] #[]] w fun e w'=>e = .returned (.int .i64 (cmpL a b))∧Below w.heap.size w w':=by
 subst hn hm;have HR:=Yu hr;have HS:=Yu hs;clear hr hs
 go_enter Tryz.func101,Tryz.ntmps101
 go_wp2
 go_loopw [13] (fun j wr=>∃ k:Nat,k≤a.length∧k≤b.length∧j = .int .i64 k∧oZ (cmpL a b=cmpL (a.drop k) (b.drop k))∧oZ (Below w.heap.size w wr)) (fun j _=>a.length-(intOf j).toNat)
 case atStart=>exact⟨0,bV _,bV _,rfl,⟨rfl⟩,⟨bq _ _⟩⟩
 case round=>
  obtain⟨k,hk,hk2,rfl,HE,HB⟩:=hrel
  by_cases hlt:k<a.length
  ·obtain⟨ad,rfl,h0,h1⟩:=wu (Kd.pI HR.o HB.o) (k:Int) (by omega) (by omega);rw[bf] at h0 h1
   by_cases hlt2:k<b.length
   ·obtain⟨bd,rfl,i0,i1⟩:=wu (Kd.pI HS.o HB.o) (k:Int) (by omega) (by omega);rw[bf] at i0 i1;have HST:=Yu (Dx a b k hlt hlt2);generalize qM a (k:Int)=x at *;generalize qM b (k:Int)=y at *;have j0:=qm (o8 (bq _ _) (.cells #[.string x.f0,.string x.f1] 68 (0,0))) i0;have j1:=qm (o8 (bq _ _) (.cells #[.string x.f0,.string x.f1] 68 (0,0))) i1;have HB0:=Yu (o8 (o8 HB.o (.cells #[.string x.f0,.string x.f1] 68 (0,0))) (.cells #[.string y.f0,.string y.f1] 68 (0,0)));cases hc:(yP x y != 0) with
    | true=>
      have HV:oZ (cmpL a b=yP x y):=⟨by rw[HE.o,HST.o,sG,ak (bne_iff_ne.1 hc)]⟩
      go_wp2_with (first|(go_at_call 102;(with_reducible refine (yP.c x y _).mono ?_);rintro e w1 ⟨rfl,hb⟩;have HB1:=Yu (o9 HB0.o hb);clear hb))
      go_ret;exact⟨by rw[HV.o];rfl,HB1.o⟩
    | false=>
      have HV:oZ (cmpL a b=cmpL (a.drop (k+1)) (b.drop (k+1))):=⟨by rw[HE.o,HST.o,sG,aK (by simpa using hc)]⟩
      go_wp2_with (first|(go_at_call 102;(with_reducible refine (yP.c x y _).mono ?_);rintro e w1 ⟨rfl,hb⟩;have HB1:=Yu (o9 HB0.o hb);clear hb))
      go_roundw
      case rel=>exact⟨k+1,by omega,by omega,by go_num,HV,HB1⟩
      case measure=>simp[intOf];omega
   ·have HV:oZ (cmpL a b=1):=⟨by rw[HE.o,J7 a b k hlt (by omega)]⟩;have HB0:=Yu (o8 HB.o (.cells #[.string (qM a (k:Int)).f0,.string (qM a (k:Int)).f1] 68 (0,0)));have hge:((b.length:Nat):Int)≤(k:Int):=by omega
    go_wp2;go_ret;exact⟨by rw[HV.o];rfl,HB0.o⟩
  ·obtain rfl:k=a.length:=by omega
   by_cases hlt2:a.length<b.length
   ·have HV:oZ (cmpL a b = -1):=⟨by rw[HE.o,J8 a b _ (aD _) hlt2]⟩;have hge:((a.length:Nat):Int)<(b.length:Int):=by omega
    go_wp2;go_ret;exact⟨by rw[HV.o];rfl,HB.o⟩
   ·have HV:oZ (cmpL a b=0):=⟨by rw[HE.o,cmpL_eq a b _ (aD _) (by omega)]⟩;have hge:decide (((a.length:Nat):Int)<(b.length:Int))=false:=aN (by omega);go_wp2;go_ret;exact⟨by rw[HV.o];rfl,HB.o⟩
theorem cmpL.c (A B:Option Addr)(c e0 n m:Nat)(a b:List rW)(w:World)(hn:a.length=n)(hm:b.length=m)(hr:Kd.C wE w A n a)(hs:Kd.C wE w B m b)(hl:n≤1000000) :
 Calls Tryz.prog 71 #[.slice A n c,.slice B m e0] w fun e w'=>e = .returned (.int .i64 (cmpL a b))∧Below w.heap.size w w':=by
 have HC:=Yu (Ya.c A B c e0 n m a b w hn hm hr hs hl);clear hn hm hr hs hl
 go_enter Tryz.func71,Tryz.ntmps71
 go_wp2_with (first|(go_at_call 101;(with_reducible refine HC.o.mono ?_);rintro e w1 ⟨rfl,hb⟩;have HB:=Yu hb;clear hb))
 go_ret;exact⟨rfl,HB.o⟩
theorem TG.c (A B:Option Addr)(c e0 n m:Nat)(a b:List rW)(w:World)(hn:a.length=n)(hm:b.length=m)(hr:Kd.C wE w A n a)(hs:Kd.C wE w B m b)(hl:n≤1000000) :
 Calls Tryz.prog 50 #[.slice A n c,.slice B m e0] w fun e w'=>e = .returned (.int .i64 (cmpL a b))∧Below w.heap.size w w':=by
 subst hn hm;have HR:=Yu hr;have HS:=Yu hs;clear hr hs
 by_cases hba:b.length<a.length
 ·have HQ:oZ (b.length=min a.length b.length):=⟨by omega⟩;have hqa:b.length≤a.length:=by omega
  have hqb:b.length≤b.length:=by omega
  go_enter Tryz.func50,Tryz.ntmps50
  go_wp2
  go_loopw [13] (fun j wr=>∃ k:Nat,k≤b.length∧j = .int .i64 k∧oZ (cmpL a b=cmpL (a.drop k) (b.drop k))∧oZ (Below w.heap.size w wr)) (fun j _=>b.length-(intOf j).toNat)
  case atStart=>exact⟨0,bV _,rfl,⟨rfl⟩,⟨bq _ _⟩⟩
  case round=>
   obtain⟨k,hk,rfl,HE,HB⟩:=hrel
   by_cases hlt:k<b.length
   ·obtain⟨ad,rfl,h0,h1⟩:=wu (Kd.pI HR.o HB.o) (k:Int) (by omega) (by omega);rw[bf] at h0 h1;obtain⟨bd,rfl,i0,i1⟩:=wu (Kd.pI HS.o HB.o) (k:Int) (by omega) (by omega);rw[bf] at i0 i1;have HST:=Yu (Dx a b k (by omega) (by omega));have k0:(0:Int)≤(k:Int):=by omega
    have k1:(k:Int)<(a.length:Int):=by omega
    have k2:(k:Int)<(b.length:Int):=by omega
    have k3:(k:Int)<(b.length:Int):=by omega
    generalize qM a (k:Int)=x at *;generalize qM b (k:Int)=y at *;cases hc:(txt x.f0 y.f0 != 0) with
    | true=>
      have HV:oZ (cmpL a b=txt x.f0 y.f0):=⟨by
       have h_:txt x.f0 y.f0≠0:=bne_iff_ne.1 hc;rw[HE.o,HST.o,yP,sG,sG,ak h_,ak h_]⟩
      go_wp2_with fail
      go_quiet ((go_at_call 86;exact gU (texts.c _ _ _)))
      go_wp2;go_ret;exact⟨by rw[HV.o];rfl,pz HB.o _⟩
    | false=>
      have hz:txt x.f0 y.f0=0:=by simpa using hc
      cases hd:(txt x.f1 y.f1 != 0) with
      | true=>
        have HV:oZ (cmpL a b=txt x.f1 y.f1):=⟨by
         have h_:txt x.f1 y.f1≠0:=bne_iff_ne.1 hd;rw[HE.o,HST.o,yP,sG,sG,hz,aK (show ¬ (0:Int)≠0 by simp),ak h_]⟩
        clear hz
        go_wp2_with fail
        go_quiet ((go_at_call 86;exact gU (texts.c _ _ _)))
        go_wp2_with fail
        generalize hw1:wr.drewN nq=w1;have HW1:oZ (Below w.heap.size w w1):=⟨hw1 ▸ pz HB.o _⟩;have h1':w1.cell? ⟨(ad.add (k*2)).block,(ad.add (k*2)).off+1,none⟩=some (.string x.f1):=hw1 ▸ h1;have i1':w1.cell? ⟨(bd.add (k*2)).block,(bd.add (k*2)).off+1,none⟩=some (.string y.f1):=hw1 ▸ i1;clear hw1
        go_quiet ((go_at_call 86;exact gU (texts.c _ _ _)))
        go_wp2;go_ret;exact⟨by rw[HV.o];rfl,pz HW1.o _⟩
      | false=>
        have hy:txt x.f1 y.f1=0:=by simpa using hd
        have HV:oZ (cmpL a b=cmpL (a.drop (k+1)) (b.drop (k+1))):=⟨by
         rw[HE.o,HST.o,yP,sG,sG,hz,hy,aK (show ¬ (0:Int)≠0 by simp),aK (show ¬ (0:Int)≠0 by simp)]⟩
        clear hz hy
        go_wp2_with fail
        go_quiet ((go_at_call 86;exact gU (texts.c _ _ _)))
        go_wp2_with fail
        generalize hw1:wr.drewN nq=w1;have HW1:oZ (Below w.heap.size w w1):=⟨hw1 ▸ pz HB.o _⟩;have h1':w1.cell? ⟨(ad.add (k*2)).block,(ad.add (k*2)).off+1,none⟩=some (.string x.f1):=hw1 ▸ h1;have i1':w1.cell? ⟨(bd.add (k*2)).block,(bd.add (k*2)).off+1,none⟩=some (.string y.f1):=hw1 ▸ i1;clear hw1
        go_quiet ((go_at_call 86;exact gU (texts.c _ _ _)))
        go_wp2
        go_roundw
        case rel=>exact⟨k+1,by omega,by go_num,HV,⟨pz HW1.o _⟩⟩
        case measure=>simp[intOf];omega
   ·obtain rfl:k=b.length:=by omega
    have hqm:=HQ.o
    by_cases hlt2:a.length<b.length
    ·have HV:oZ (cmpL a b = -1):=⟨by rw[HE.o,J8 a b _ (by omega) (by omega)]⟩;have hge:decide (a.length<b.length)=true:=aM (by omega);clear hqm hlt2;go_wp2;go_ret;exact⟨by rw[HV.o];rfl,HB.o⟩
    ·by_cases hlt3:b.length<a.length
     ·have HV:oZ (cmpL a b=1):=⟨by rw[HE.o,J7 a b _ (by omega) (by omega)]⟩;have hge:decide (a.length<b.length)=false:=aN (by omega);have aaI:decide (b.length<a.length)=true:=aM (by omega);clear hqm hlt2 hlt3;go_wp2;go_ret
      first | exact⟨by rw[HV.o];rfl,HB.o⟩ | exact absurd hba (dR aaI)|exact absurd (aZ aaI) hba
     ·have HV:oZ (cmpL a b=0):=⟨by rw[HE.o,cmpL_eq a b _ (by omega) (by omega)]⟩;have hge:decide (a.length<b.length)=false:=aN (by omega);have aaI:decide (b.length<a.length)=false:=aN (by omega);clear hqm hlt2 hlt3;go_wp2;go_ret
      first | exact⟨by rw[HV.o];rfl,HB.o⟩ | exact absurd hba (dR aaI)|exact absurd (aZ aaI) hba
 ·have HQ:oZ (a.length=min a.length b.length):=⟨by omega⟩;have hqa:a.length≤a.length:=by omega
  have hqb:a.length≤b.length:=by omega
  go_enter Tryz.func50,Tryz.ntmps50
  go_wp2
  go_loopw [13] (fun j wr=>∃ k:Nat,k≤a.length∧j = .int .i64 k∧oZ (cmpL a b=cmpL (a.drop k) (b.drop k))∧oZ (Below w.heap.size w wr)) (fun j _=>a.length-(intOf j).toNat)
  case atStart=>exact⟨0,bV _,rfl,⟨rfl⟩,⟨bq _ _⟩⟩
  case round=>
   obtain⟨k,hk,rfl,HE,HB⟩:=hrel
   by_cases hlt:k<a.length
   ·obtain⟨ad,rfl,h0,h1⟩:=wu (Kd.pI HR.o HB.o) (k:Int) (by omega) (by omega);rw[bf] at h0 h1;obtain⟨bd,rfl,i0,i1⟩:=wu (Kd.pI HS.o HB.o) (k:Int) (by omega) (by omega);rw[bf] at i0 i1;have HST:=Yu (Dx a b k (by omega) (by omega));have k0:(0:Int)≤(k:Int):=by omega
    have k1:(k:Int)<(a.length:Int):=by omega
    have k2:(k:Int)<(b.length:Int):=by omega
    have k3:(k:Int)<(a.length:Int):=by omega
    generalize qM a (k:Int)=x at *;generalize qM b (k:Int)=y at *;cases hc:(txt x.f0 y.f0 != 0) with
    | true=>
      have HV:oZ (cmpL a b=txt x.f0 y.f0):=⟨by
       have h_:txt x.f0 y.f0≠0:=bne_iff_ne.1 hc;rw[HE.o,HST.o,yP,sG,sG,ak h_,ak h_]⟩
      go_wp2_with fail
      go_quiet ((go_at_call 86;exact gU (texts.c _ _ _)))
      go_wp2;go_ret;exact⟨by rw[HV.o];rfl,pz HB.o _⟩
    | false=>
      have hz:txt x.f0 y.f0=0:=by simpa using hc
      cases hd:(txt x.f1 y.f1 != 0) with
      | true=>
        have HV:oZ (cmpL a b=txt x.f1 y.f1):=⟨by
         have h_:txt x.f1 y.f1≠0:=bne_iff_ne.1 hd;rw[HE.o,HST.o,yP,sG,sG,hz,aK (show ¬ (0:Int)≠0 by simp),ak h_]⟩
        clear hz
        go_wp2_with fail
        go_quiet ((go_at_call 86;exact gU (texts.c _ _ _)))
        go_wp2_with fail
        generalize hw1:wr.drewN nq=w1;have HW1:oZ (Below w.heap.size w w1):=⟨hw1 ▸ pz HB.o _⟩;have h1':w1.cell? ⟨(ad.add (k*2)).block,(ad.add (k*2)).off+1,none⟩=some (.string x.f1):=hw1 ▸ h1;have i1':w1.cell? ⟨(bd.add (k*2)).block,(bd.add (k*2)).off+1,none⟩=some (.string y.f1):=hw1 ▸ i1;clear hw1
        go_quiet ((go_at_call 86;exact gU (texts.c _ _ _)))
        go_wp2;go_ret;exact⟨by rw[HV.o];rfl,pz HW1.o _⟩
      | false=>
        have hy:txt x.f1 y.f1=0:=by simpa using hd
        have HV:oZ (cmpL a b=cmpL (a.drop (k+1)) (b.drop (k+1))):=⟨by
         rw[HE.o,HST.o,yP,sG,sG,hz,hy,aK (show ¬ (0:Int)≠0 by simp),aK (show ¬ (0:Int)≠0 by simp)]⟩
        clear hz hy
        go_wp2_with fail
        go_quiet ((go_at_call 86;exact gU (texts.c _ _ _)))
        go_wp2_with fail
        generalize hw1:wr.drewN nq=w1;have HW1:oZ (Below w.heap.size w w1):=⟨hw1 ▸ pz HB.o _⟩;have h1':w1.cell? ⟨(ad.add (k*2)).block,(ad.add (k*2)).off+1,none⟩=some (.string x.f1):=hw1 ▸ h1;have i1':w1.cell? ⟨(bd.add (k*2)).block,(bd.add (k*2)).off+1,none⟩=some (.string y.f1):=hw1 ▸ i1;clear hw1
        go_quiet ((go_at_call 86;exact gU (texts.c _ _ _)))
        go_wp2
        go_roundw
        case rel=>exact⟨k+1,by omega,by go_num,HV,⟨pz HW1.o _⟩⟩
        case measure=>simp[intOf];omega
   ·obtain rfl:k=a.length:=by omega
    have hqm:=HQ.o
    by_cases hlt2:a.length<b.length
    ·have HV:oZ (cmpL a b = -1):=⟨by rw[HE.o,J8 a b _ (by omega) (by omega)]⟩;have hge:decide (a.length<b.length)=true:=aM (by omega);clear hqm hlt2;go_wp2;go_ret;exact⟨by rw[HV.o];rfl,HB.o⟩
    ·by_cases hlt3:b.length<a.length
     ·have HV:oZ (cmpL a b=1):=⟨by rw[HE.o,J7 a b _ (by omega) (by omega)]⟩;have hge:decide (a.length<b.length)=false:=aN (by omega);have aaI:decide (b.length<a.length)=true:=aM (by omega);clear hqm hlt2 hlt3;go_wp2;go_ret
      first | exact⟨by rw[HV.o];rfl,HB.o⟩ | exact absurd hba (dR aaI)|exact absurd (aZ aaI) hba
     ·have HV:oZ (cmpL a b=0):=⟨by rw[HE.o,cmpL_eq a b _ (by omega) (by omega)]⟩;have hge:decide (a.length<b.length)=false:=aN (by omega);have aaI:decide (b.length<a.length)=false:=aN (by omega);clear hqm hlt2 hlt3;go_wp2;go_ret
      first | exact⟨by rw[HV.o];rfl,HB.o⟩ | exact absurd hba (dR aaI)|exact absurd (aZ aaI) hba
theorem blt:∀ (x y:List UInt8),Op.bytesLess x y=decide (x<y)
 | [],[]=>by simp[Op.bytesLess]
 | _::_,[]=>by simp[Op.bytesLess]
 | [],_::_=>by simp[Op.bytesLess]
 | a::x,b::y=>by
   rw[Op.bytesLess,blt x y];simp only[List.cons_lt_cons_iff]
   by_cases h1:a<b<;>by_cases h2:a=b<;>by_cases h3:x<y<;>simp[h1,h2,h3]
structure Rt {α:Type} (c:α→α→Int):Prop where
 eq:∀ x y,c x y=0↔x=y
 swap:∀ x y,c y x = - c x y
 trans:∀ x y z,c x y<0→c y z<0→c x z<0
theorem Nq {a b:ByteArray}(h:a.toList=b.toList):a=b:=by
 rw[jd,jd] at h;cases a;cases b;simp at h;rw[h]
theorem Xi (a b:ByteArray):txt a b<0↔a.toList<b.toList:=by
 unfold txt;rw[blt]
 by_cases h:a.toList<b.toList
 ·simp[h]
 ·simp[h];split<;>simp
theorem Xh (a b:ByteArray):txt a b=0↔a=b:=by
 unfold txt;rw[blt]
 by_cases h:a.toList<b.toList
 ·simp[h];rintro rfl;exact nG _ h
 ·simp[h];constructor
  ·intro h2;exact Nq h2
  ·rintro rfl;rfl
theorem Un (a b:ByteArray):txt b a = - txt a b:=by
 unfold txt;rw[blt,blt]
 by_cases h:a.toList<b.toList
 ·have h2:¬ b.toList<a.toList:=List.lt_asymm h;have h3:¬ b.toList=a.toList:=fun e=>by rw[e] at h;exact nG _ h
  simp[h,h2,h3]
 ·by_cases h2:b.toList<a.toList
  ·have h3:¬ a.toList=b.toList:=fun e=>by rw[e] at h2;exact nG _ h2
   simp[h,h2,h3]
  ·have h3:a.toList=b.toList:=List.le_antisymm (List.not_lt.1 h2) (List.not_lt.1 h);simp[h3,nG b.toList]
theorem O9:Rt txt:=⟨Xh,Un,fun x y z h1 h2=>by
 rw[Xi] at *;exact List.lt_trans h1 h2⟩
theorem Vf {α β:Type}{c:α→α→Int}{d:β→β→Int}(hc:Rt c)(hd:Rt d):Rt (fun (x y:α × β)=>sG (c x.1 y.1) (d x.2 y.2)):=by
 refine⟨fun x y=>?_,fun x y=>?_,fun x y z h1 h2=>?_⟩
 ·show sG _ _=0↔_;unfold sG
  by_cases h:c x.1 y.1=0
  ·rw[aK (by simpa using h),hd.eq];have:=(hc.eq _ _).1 h;exact⟨fun h2=>Prod.ext this h2,fun h2=>by rw[h2]⟩
  ·rw[ak h];exact⟨fun h2=>absurd h2 h,fun h2=>absurd ((hc.eq _ _).2 (by rw[h2])) h⟩
 ·show sG _ _ = - sG _ _;unfold sG;rw[hc.swap x.1 y.1,hd.swap x.2 y.2]
  by_cases h:c x.1 y.1=0
  ·rw[aK (by simp[h]),aK (by simp[h])]
  ·rw[ak (by simpa using h),ak h]
 ·show sG _ _<0;have h1':sG (c x.1 y.1) (d x.2 y.2)<0:=h1;have h2':sG (c y.1 z.1) (d y.2 z.2)<0:=h2;unfold sG at *
  by_cases e1:c x.1 y.1=0
  ·rw[aK (by simp[e1])] at h1';have:=(hc.eq _ _).1 e1;rw[this]
   by_cases e2:c y.1 z.1=0
   ·rw[aK (by simp[e2])] at h2' ⊢;exact hd.trans _ _ _ h1' h2'
   ·rw[ak e2] at h2' ⊢;exact h2'
  ·rw[ak e1] at h1'
   by_cases e2:c y.1 z.1=0
   ·have:=(hc.eq _ _).1 e2;rw[← this,ak e1];exact h1'
   ·rw[ak e2] at h2';have:=hc.trans _ _ _ h1' h2';rw[ak (by omega)];exact this
theorem y7:Rt yP:=by
 have h:=Vf O9 O9;refine⟨fun x y=>?_,fun x y=>h.swap (x.f0,x.f1) (y.f0,y.f1),fun x y z=>h.trans (x.f0,x.f1) (y.f0,y.f1) (z.f0,z.f1)⟩;have:=h.eq (x.f0,x.f1) (y.f0,y.f1);refine Iff.trans this ⟨fun e=>?_,fun e=>by rw[e]⟩;cases x;cases y;simp at e;rw[e.1,e.2]
theorem Ao (x y:rW)(a b:List rW):cmpL (x::a) (y::b)=sG (yP x y) (cmpL a b):=rfl
theorem yc:∀ a b:List rW,cmpL a b=0↔a=b
 | [],[]=>by simp[cmpL]
 | [],y::b=>by simp[cmpL]
 | x::a,[]=>by simp[cmpL]
 | x::a,y::b=>by
   rw[Ao];unfold sG
   by_cases h:yP x y=0
   ·rw[aK (by simp[h]),yc a b,(y7.eq _ _).1 h];simp
   ·rw[ak h];exact⟨fun h2=>absurd h2 h,fun h2=>absurd ((y7.eq _ _).2 (List.cons.inj h2).1) h⟩
theorem yV:∀ a b:List rW,cmpL b a = - cmpL a b
 | [],[]=>rfl
 | [],y::b=>rfl
 | x::a,[]=>rfl
 | x::a,y::b=>by
   rw[Ao,Ao];unfold sG;rw[y7.swap x y,yV a b]
   by_cases h:yP x y=0
   ·rw[aK (by simp[h]),aK (by simp[h])]
   ·rw[ak (by simpa using h),ak h]
theorem BF:∀ a b c:List rW,cmpL a b<0→cmpL b c<0→cmpL a c<0
 | [],[],c,h1,h2=>by simp[cmpL] at h1
 | [],y::b,[],h1,h2=>by simp[cmpL] at h2
 | [],y::b,z::c,h1,h2=>by simp[cmpL]
 | x::a,[],c,h1,h2=>by simp[cmpL] at h1
 | x::a,y::b,[],h1,h2=>by simp[cmpL] at h2
 | x::a,y::b,z::c,h1,h2=>by
   rw[Ao] at *;unfold sG at *
   by_cases e1:yP x y=0
   ·rw[aK (by simp[e1])] at h1;have:=(y7.eq _ _).1 e1;rw[this]
    by_cases e2:yP y z=0
    ·rw[aK (by simp[e2])] at h2 ⊢;exact BF a b c h1 h2
    ·rw[ak e2] at h2 ⊢;exact h2
   ·rw[ak e1] at h1
    by_cases e2:yP y z=0
    ·have:=(y7.eq _ _).1 e2;rw[← this,ak e1];exact h1
    ·rw[ak e2] at h2;have:=y7.trans _ _ _ h1 h2;rw[ak (by omega)];exact this
end Go.Proofs.Y.PA
