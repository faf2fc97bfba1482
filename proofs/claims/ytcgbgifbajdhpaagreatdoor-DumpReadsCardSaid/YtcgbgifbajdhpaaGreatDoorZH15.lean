/- Of the law ZHQDumpReads. -/
import Derived.Test.YtcgbgifbajdhpaaGreatDoorZH3
set_option linter.unusedVariables false
set_option linter.unusedSimpArgs false
set_option maxHeartbeats 4000000
set_option maxRecDepth 100000
namespace Go
abbrev aQ:=@of_decide_eq_true
abbrev dG:=@of_decide_eq_false
abbrev fZ:=@Go.Calls.quiet_of_same
abbrev iQ:=@Go.rounds_succ
abbrev kD:=@List.take_zero
abbrev lu:=@Go.wp_loop_rounds
abbrev mO:=@List.lt_irrefl
end Go
namespace Go.Proofs.Y.PA
open Go.RowKit Go.Proofs.Y.G Go.Proofs.YW.oO Go.Proofs.YW.pq Go.Proofs.YW.pz
def tK (a b:Int):Int:=if a≠0 then a else b
def zC (x y:tQ):Int:=tK (txt x.f0 y.f0) (txt x.f1 y.f1)
theorem tK.c (a b:Int)(w:World)(g:Nat)(h0:w.cell? ⟨g,0,none⟩=some (.int .i64 a))(h1:w.cell? ⟨g,1,none⟩=some (.int .i64 b)):Calls Tryz.prog 103 #[.slice (some ⟨g,0,none⟩) 2 2] w fun e w'=>e = .returned (.int .i64 (tK a b))∧w'=w:=by
 cases ha:(a != 0) with
 | true=>
   have HV:oM (tK a b=a):=⟨by rw[tK,au (bne_iff_ne.1 ha)]⟩
   go_enter Tryz.func103,Tryz.ntmps103
   go_wp2;refine lu 1 ?_;rw[iQ];go_wp2;go_ret;exact⟨by rw[HV.o];rfl,rfl⟩
 | false=>
   have HV:oM (tK a b=b):=⟨by rw[tK,av (by simpa using ha)]⟩;cases hb:(b != 0) with
   | true=>
     go_enter Tryz.func103,Tryz.ntmps103
     go_wp2;refine lu 2 ?_;rw[iQ];go_wp2;rw[iQ];go_wp2;go_ret;exact⟨by rw[HV.o];rfl,rfl⟩
   | false=>
     have hz:b=0:=by simpa using hb
     have HV2:oM (tK a b=0):=⟨by rw[HV.o,hz]⟩;clear hz
     go_enter Tryz.func103,Tryz.ntmps103
     go_wp2;refine lu 3 ?_;rw[iQ];go_wp2;rw[iQ];go_wp2;rw[iQ];go_wp2;go_ret;exact⟨by rw[HV2.o];rfl,rfl⟩
theorem zC.c (x y:tQ)(w:World):Calls Tryz.prog 102 #[.agg #[.string x.f0,.string x.f1],.agg #[.string y.f0,.string y.f1]] w fun e w'=>e = .returned (.int .i64 (zC x y))∧Below w.heap.size w w':=by
 have bx:=pK (qx w (.cells #[.string x.f0,.string x.f1] 68 (0,0))) (.cells #[.string y.f0,.string y.f1] 68 (0,0));have by_:=qx (w.alloc (.cells #[.string x.f0,.string x.f1] 68 (0,0))) (.cells #[.string y.f0,.string y.f1] 68 (0,0));rw[show (w.alloc (.cells #[.string x.f0,.string x.f1] 68 (0,0))).heap.size=w.heap.size+1 by simp] at by_;have HB:=Y7 (oV (oN (oN (aU w.heap.size w) (.cells #[.string x.f0,.string x.f1] 68 (0,0))) (.cells #[.string y.f0,.string y.f1] 68 (0,0))));have a0:∀ W,W=((w.alloc (.cells #[.string x.f0,.string x.f1] 68 (0,0))).alloc (.cells #[.string y.f0,.string y.f1] 68 (0,0))).drew→W.cell? ⟨w.heap.size,0,none⟩=some (.string x.f0)∧W.cell? ⟨w.heap.size,1,none⟩=some (.string x.f1)∧W.cell? ⟨w.heap.size+1,0,none⟩=some (.string y.f0)∧W.cell? ⟨w.heap.size+1,1,none⟩=some (.string y.f1)∧W.heap.size=w.heap.size+1+1:=fun W hW=>by
  subst hW;exact⟨oQ (pX bx) 0,oQ (pX bx) 1,oQ (pX by_) 0,oQ (pX by_) 1,by simp⟩
 have HA:=Y7 a0;clear a0 bx by_
 go_enter Tryz.func102,Tryz.ntmps102
 go_wp2_with fail
 refine Lp 10 (by kernel_rfl) (by kernel_rfl) ?_;intro W hW;obtain⟨a0,a1,a2,a3,hz⟩:=HA.o W hW;rw[← hW] at HB;have HB1:=Y7 (oN HB.o (.cells #[.int .i64 (txt x.f0 y.f0),.int .i64 (txt x.f1 y.f1)] 3 (0,0)));have HN:=Y7 (qx W (.cells #[.int .i64 (txt x.f0 y.f0),.int .i64 (txt x.f1 y.f1)] 3 (0,0)));clear hW HA hz;simp only[jG,kD,List.drop_succ_cons,gT]
 repeat (first | still_step | still_call (Xi.c _ _ _))
 refine wpStill_nil ?_
 go_wp2_with (first|(go_at_call 103;refine (tK.c (txt x.f0 y.f0) (txt x.f1 y.f1) _ _ (oQ HN.o 0) (oQ HN.o 1)).mono ?_;rintro e w1 ⟨rfl,rfl⟩))
 go_ret;exact⟨rfl,HB1.o⟩
def cmpL:List tQ→List tQ→Int
 | [],[]=>0
 | [],_::_ => -1
 | _::_,[]=>1
 | x::a,y::b=>tK (zC x y) (cmpL a b)
theorem D9 (l:List tQ)(k:Nat)(h:k<l.length):l.drop k=qN l (k:Int)::l.drop (k+1):=by
 rw[fP h];simp[qN,aV,aR h]
theorem ER (a b:List tQ)(k:Nat)(h1:k<a.length)(h2:k<b.length):cmpL (a.drop k) (b.drop k)=tK (zC (qN a (k:Int)) (qN b (k:Int))) (cmpL (a.drop (k+1)) (b.drop (k+1))):=by
 rw[D9 a k h1,D9 b k h2];rfl
theorem Kz (a b:List tQ)(k:Nat)(h1:k<a.length)(h2:b.length≤k):cmpL (a.drop k) (b.drop k)=1:=by
 rw[D9 a k h1,fE h2];rfl
theorem KA (a b:List tQ)(k:Nat)(h1:a.length≤k)(h2:k<b.length):cmpL (a.drop k) (b.drop k) = -1:=by
 rw[D9 b k h2,fE h1];rfl
theorem cmpL_eq (a b:List tQ)(k:Nat)(h1:a.length≤k)(h2:b.length≤k):cmpL (a.drop k) (b.drop k)=0:=by
 rw[fE h2,fE h1];rfl
theorem YN.c (A B:Option Addr)(c e0 n m:Nat)(a b:List tQ)(w:World)(hn:a.length=n)(hm:b.length=m)(hr:Kd.C xU w A n a)(hs:Kd.C xU w B m b)(hl:n≤1000000) :
 Calls Tryz.prog 101 #[.slice A n c,.slice B m e0,.func (.func 102) #[] #[]] w fun e w'=>e = .returned (.int .i64 (cmpL a b))∧Below w.heap.size w w':=by
 subst hn hm;have HR:=Y7 hr;have HS:=Y7 hs;clear hr hs
 go_enter Tryz.func101,Tryz.ntmps101
 go_wp2
 go_loopw [13] (fun j wr=>∃ k:Nat,k≤a.length∧k≤b.length∧j = .int .i64 k∧oM (cmpL a b=cmpL (a.drop k) (b.drop k))∧oM (Below w.heap.size w wr)) (fun j _=>a.length-(intOf j).toNat)
 case atStart=>exact⟨0,bP _,bP _,rfl,⟨rfl⟩,⟨aU _ _⟩⟩
 case round=>
  obtain⟨k,hk,hk2,rfl,HE,HB⟩:=hrel
  by_cases hlt:k<a.length
  ·obtain⟨ad,rfl,h0,h1⟩:=xu (Kd.o9 HR.o HB.o) (k:Int) (by omega) (by omega);rw[aG] at h0 h1
   by_cases hlt2:k<b.length
   ·obtain⟨bd,rfl,i0,i1⟩:=xu (Kd.o9 HS.o HB.o) (k:Int) (by omega) (by omega);rw[aG] at i0 i1;have HST:=Y7 (ER a b k hlt hlt2);generalize qN a (k:Int)=x at *;generalize qN b (k:Int)=y at *;have j0:=pW (oN (aU _ _) (.cells #[.string x.f0,.string x.f1] 68 (0,0))) i0;have j1:=pW (oN (aU _ _) (.cells #[.string x.f0,.string x.f1] 68 (0,0))) i1;have HB0:=Y7 (oN (oN HB.o (.cells #[.string x.f0,.string x.f1] 68 (0,0))) (.cells #[.string y.f0,.string y.f1] 68 (0,0)));cases hc:(zC x y != 0) with
    | true=>
      have HV:oM (cmpL a b=zC x y):=⟨by rw[HE.o,HST.o,tK,au (bne_iff_ne.1 hc)]⟩
      go_wp2_with (first|(go_at_call 102;(with_reducible refine (zC.c x y _).mono ?_);rintro e w1 ⟨rfl,hb⟩;have HB1:=Y7 (oP HB0.o hb);clear hb))
      go_ret;exact⟨by rw[HV.o];rfl,HB1.o⟩
    | false=>
      have HV:oM (cmpL a b=cmpL (a.drop (k+1)) (b.drop (k+1))):=⟨by rw[HE.o,HST.o,tK,av (by simpa using hc)]⟩
      go_wp2_with (first|(go_at_call 102;(with_reducible refine (zC.c x y _).mono ?_);rintro e w1 ⟨rfl,hb⟩;have HB1:=Y7 (oP HB0.o hb);clear hb))
      go_roundw
      case rel=>exact⟨k+1,by omega,by omega,by go_num,HV,HB1⟩
      case measure=>simp[intOf];omega
   ·have HV:oM (cmpL a b=1):=⟨by rw[HE.o,Kz a b k hlt (by omega)]⟩;have HB0:=Y7 (oN HB.o (.cells #[.string (qN a (k:Int)).f0,.string (qN a (k:Int)).f1] 68 (0,0)));have hge:((b.length:Nat):Int)≤(k:Int):=by omega
    go_wp2;go_ret;exact⟨by rw[HV.o];rfl,HB0.o⟩
  ·obtain rfl:k=a.length:=by omega
   by_cases hlt2:a.length<b.length
   ·have HV:oM (cmpL a b = -1):=⟨by rw[HE.o,KA a b _ (ay _) hlt2]⟩;have hge:((a.length:Nat):Int)<(b.length:Int):=by omega
    go_wp2;go_ret;exact⟨by rw[HV.o];rfl,HB.o⟩
   ·have HV:oM (cmpL a b=0):=⟨by rw[HE.o,cmpL_eq a b _ (ay _) (by omega)]⟩;have hge:decide (((a.length:Nat):Int)<(b.length:Int))=false:=aD (by omega);go_wp2;go_ret;exact⟨by rw[HV.o];rfl,HB.o⟩
theorem cmpL.c (A B:Option Addr)(c e0 n m:Nat)(a b:List tQ)(w:World)(hn:a.length=n)(hm:b.length=m)(hr:Kd.C xU w A n a)(hs:Kd.C xU w B m b)(hl:n≤1000000) :
 Calls Tryz.prog 71 #[.slice A n c,.slice B m e0] w fun e w'=>e = .returned (.int .i64 (cmpL a b))∧Below w.heap.size w w':=by
 have HC:=Y7 (YN.c A B c e0 n m a b w hn hm hr hs hl);clear hn hm hr hs hl
 go_enter Tryz.func71,Tryz.ntmps71
 go_wp2_with (first|(go_at_call 101;(with_reducible refine HC.o.mono ?_);rintro e w1 ⟨rfl,hb⟩;have HB:=Y7 hb;clear hb))
 go_ret;exact⟨rfl,HB.o⟩
theorem blt:∀ (x y:List UInt8),Op.bytesLess x y=decide (x<y)
 | [],[]=>by simp[Op.bytesLess]
 | _::_,[]=>by simp[Op.bytesLess]
 | [],_::_=>by simp[Op.bytesLess]
 | a::x,b::y=>by
   rw[Op.bytesLess,blt x y];simp only[List.cons_lt_cons_iff]
   by_cases h1:a<b<;>by_cases h2:a=b<;>by_cases h3:x<y<;>simp[h1,h2,h3]
structure Si {α:Type} (c:α→α→Int):Prop where
 eq:∀ x y,c x y=0↔x=y
 swap:∀ x y,c y x = - c x y
 trans:∀ x y z,c x y<0→c y z<0→c x z<0
theorem Oe {a b:ByteArray}(h:a.toList=b.toList):a=b:=by
 rw[iK,iK] at h;cases a;cases b;simp at h;rw[h]
theorem XY (a b:ByteArray):txt a b<0↔a.toList<b.toList:=by
 unfold txt;rw[blt]
 by_cases h:a.toList<b.toList
 ·simp[h]
 ·simp[h];split<;>simp
theorem XW (a b:ByteArray):txt a b=0↔a=b:=by
 unfold txt;rw[blt]
 by_cases h:a.toList<b.toList
 ·simp[h];rintro rfl;exact mO _ h
 ·simp[h];constructor
  ·intro h2;exact Oe h2
  ·rintro rfl;rfl
theorem U7 (a b:ByteArray):txt b a = - txt a b:=by
 unfold txt;rw[blt,blt]
 by_cases h:a.toList<b.toList
 ·have h2:¬ b.toList<a.toList:=List.lt_asymm h;have h3:¬ b.toList=a.toList:=fun e=>by rw[e] at h;exact mO _ h
  simp[h,h2,h3]
 ·by_cases h2:b.toList<a.toList
  ·have h3:¬ a.toList=b.toList:=fun e=>by rw[e] at h2;exact mO _ h2
   simp[h,h2,h3]
  ·have h3:a.toList=b.toList:=List.le_antisymm (List.not_lt.1 h2) (List.not_lt.1 h);simp[h3,mO b.toList]
theorem Qa:Si txt:=⟨XW,U7,fun x y z h1 h2=>by
 rw[XY] at *;exact List.lt_trans h1 h2⟩
theorem VP {α β:Type}{c:α→α→Int}{d:β→β→Int}(hc:Si c)(hd:Si d):Si (fun (x y:α × β)=>tK (c x.1 y.1) (d x.2 y.2)):=by
 refine⟨fun x y=>?_,fun x y=>?_,fun x y z h1 h2=>?_⟩
 ·show tK _ _=0↔_;unfold tK
  by_cases h:c x.1 y.1=0
  ·rw[av (by simpa using h),hd.eq];have:=(hc.eq _ _).1 h;exact⟨fun h2=>Prod.ext this h2,fun h2=>by rw[h2]⟩
  ·rw[au h];exact⟨fun h2=>absurd h2 h,fun h2=>absurd ((hc.eq _ _).2 (by rw[h2])) h⟩
 ·show tK _ _ = - tK _ _;unfold tK;rw[hc.swap x.1 y.1,hd.swap x.2 y.2]
  by_cases h:c x.1 y.1=0
  ·rw[av (by simp[h]),av (by simp[h])]
  ·rw[au (by simpa using h),au h]
 ·show tK _ _<0;have h1':tK (c x.1 y.1) (d x.2 y.2)<0:=h1;have h2':tK (c y.1 z.1) (d y.2 z.2)<0:=h2;unfold tK at *
  by_cases e1:c x.1 y.1=0
  ·rw[av (by simp[e1])] at h1';have:=(hc.eq _ _).1 e1;rw[this]
   by_cases e2:c y.1 z.1=0
   ·rw[av (by simp[e2])] at h2' ⊢;exact hd.trans _ _ _ h1' h2'
   ·rw[au e2] at h2' ⊢;exact h2'
  ·rw[au e1] at h1'
   by_cases e2:c y.1 z.1=0
   ·have:=(hc.eq _ _).1 e2;rw[← this,au e1];exact h1'
   ·rw[au e2] at h2';have:=hc.trans _ _ _ h1' h2';rw[au (by omega)];exact this
theorem zR:Si zC:=by
 have h:=VP Qa Qa;refine⟨fun x y=>?_,fun x y=>h.swap (x.f0,x.f1) (y.f0,y.f1),fun x y z=>h.trans (x.f0,x.f1) (y.f0,y.f1) (z.f0,z.f1)⟩;have:=h.eq (x.f0,x.f1) (y.f0,y.f1);refine Iff.trans this ⟨fun e=>?_,fun e=>by rw[e]⟩;cases x;cases y;simp at e;rw[e.1,e.2]
theorem Cb (x y:tQ)(a b:List tQ):cmpL (x::a) (y::b)=tK (zC x y) (cmpL a b):=rfl
theorem Mk:∀ a b:List tQ,cmpL a b=0↔a=b
 | [],[]=>by simp[cmpL]
 | [],y::b=>by simp[cmpL]
 | x::a,[]=>by simp[cmpL]
 | x::a,y::b=>by
   rw[Cb];unfold tK
   by_cases h:zC x y=0
   ·rw[av (by simp[h]),Mk a b,(zR.eq _ _).1 h];simp
   ·rw[au h];exact⟨fun h2=>absurd h2 h,fun h2=>absurd ((zR.eq _ _).2 (List.cons.inj h2).1) h⟩
theorem Jr:∀ a b:List tQ,cmpL b a = - cmpL a b
 | [],[]=>rfl
 | [],y::b=>rfl
 | x::a,[]=>rfl
 | x::a,y::b=>by
   rw[Cb,Cb];unfold tK;rw[zR.swap x y,Jr a b]
   by_cases h:zC x y=0
   ·rw[av (by simp[h]),av (by simp[h])]
   ·rw[au (by simpa using h),au h]
theorem Dm:∀ a b c:List tQ,cmpL a b<0→cmpL b c<0→cmpL a c<0
 | [],[],c,h1,h2=>by simp[cmpL] at h1
 | [],y::b,[],h1,h2=>by simp[cmpL] at h2
 | [],y::b,z::c,h1,h2=>by simp[cmpL]
 | x::a,[],c,h1,h2=>by simp[cmpL] at h1
 | x::a,y::b,[],h1,h2=>by simp[cmpL] at h2
 | x::a,y::b,z::c,h1,h2=>by
   rw[Cb] at *;unfold tK at *
   by_cases e1:zC x y=0
   ·rw[av (by simp[e1])] at h1;have:=(zR.eq _ _).1 e1;rw[this]
    by_cases e2:zC y z=0
    ·rw[av (by simp[e2])] at h2 ⊢;exact Dm a b c h1 h2
    ·rw[au e2] at h2 ⊢;exact h2
   ·rw[au e1] at h1
    by_cases e2:zC y z=0
    ·have:=(zR.eq _ _).1 e2;rw[← this,au e1];exact h1
    ·rw[au e2] at h2;have:=zR.trans _ _ _ h1 h2;rw[au (by omega)];exact this
theorem Uy.c (A B:Option Addr)(c e0 n m:Nat)(a b:List tQ)(w:World)(hn:a.length=n)(hm:b.length=m)(hr:Kd.C xU w A n a)(hs:Kd.C xU w B m b)(hl:n≤1000000) :
 Calls Tryz.prog 50 #[.slice A n c,.slice B m e0] w fun e w'=>e = .returned (.int .i64 (cmpL a b))∧Below w.heap.size w w':=by
 subst hn hm;have HR:=Y7 hr;have HS:=Y7 hs;clear hr hs
 by_cases hba:b.length<a.length
 ·have HQ:oM (b.length=min a.length b.length):=⟨by omega⟩;have hqa:b.length≤a.length:=by omega
  have hqb:b.length≤b.length:=by omega
  go_enter Tryz.func50,Tryz.ntmps50
  go_wp2
  go_loopw [13] (fun j wr=>∃ k:Nat,k≤b.length∧j = .int .i64 k∧oM (cmpL a b=cmpL (a.drop k) (b.drop k))∧oM (Below w.heap.size w wr)) (fun j _=>b.length-(intOf j).toNat)
  case atStart=>exact⟨0,bP _,rfl,⟨rfl⟩,⟨aU _ _⟩⟩
  case round=>
   obtain⟨k,hk,rfl,HE,HB⟩:=hrel
   by_cases hlt:k<b.length
   ·obtain⟨ad,rfl,h0,h1⟩:=xu (Kd.o9 HR.o HB.o) (k:Int) (by omega) (by omega);rw[aG] at h0 h1;obtain⟨bd,rfl,i0,i1⟩:=xu (Kd.o9 HS.o HB.o) (k:Int) (by omega) (by omega);rw[aG] at i0 i1;have HST:=Y7 (ER a b k (by omega) (by omega));have k0:(0:Int)≤(k:Int):=by omega
    have k1:(k:Int)<(a.length:Int):=by omega
    have k2:(k:Int)<(b.length:Int):=by omega
    have k3:(k:Int)<(b.length:Int):=by omega
    generalize qN a (k:Int)=x at *;generalize qN b (k:Int)=y at *;cases hc:(txt x.f0 y.f0 != 0) with
    | true=>
      have HV:oM (cmpL a b=txt x.f0 y.f0):=⟨by
       have h_:txt x.f0 y.f0≠0:=bne_iff_ne.1 hc;rw[HE.o,HST.o,zC,tK,tK,au h_,au h_]⟩
      go_wp2_with fail
      go_quiet ((go_at_call 86;exact fZ (texts.c _ _ _)))
      go_wp2;go_ret;exact⟨by rw[HV.o];rfl,oU HB.o _⟩
    | false=>
      have hz:txt x.f0 y.f0=0:=by simpa using hc
      cases hd:(txt x.f1 y.f1 != 0) with
      | true=>
        have HV:oM (cmpL a b=txt x.f1 y.f1):=⟨by
         have h_:txt x.f1 y.f1≠0:=bne_iff_ne.1 hd;rw[HE.o,HST.o,zC,tK,tK,hz,av (show ¬ (0:Int)≠0 by simp),au h_]⟩
        clear hz
        go_wp2_with fail
        go_quiet ((go_at_call 86;exact fZ (texts.c _ _ _)))
        go_wp2_with fail
        generalize hw1:wr.drewN nq=w1;have HW1:oM (Below w.heap.size w w1):=⟨hw1 ▸ oU HB.o _⟩;have h1':w1.cell? ⟨(ad.add (k*2)).block,(ad.add (k*2)).off+1,none⟩=some (.string x.f1):=hw1 ▸ h1;have i1':w1.cell? ⟨(bd.add (k*2)).block,(bd.add (k*2)).off+1,none⟩=some (.string y.f1):=hw1 ▸ i1;clear hw1
        go_quiet ((go_at_call 86;exact fZ (texts.c _ _ _)))
        go_wp2;go_ret;exact⟨by rw[HV.o];rfl,oU HW1.o _⟩
      | false=>
        have hy:txt x.f1 y.f1=0:=by simpa using hd
        have HV:oM (cmpL a b=cmpL (a.drop (k+1)) (b.drop (k+1))):=⟨by
         rw[HE.o,HST.o,zC,tK,tK,hz,hy,av (show ¬ (0:Int)≠0 by simp),av (show ¬ (0:Int)≠0 by simp)]⟩
        clear hz hy
        go_wp2_with fail
        go_quiet ((go_at_call 86;exact fZ (texts.c _ _ _)))
        go_wp2_with fail
        generalize hw1:wr.drewN nq=w1;have HW1:oM (Below w.heap.size w w1):=⟨hw1 ▸ oU HB.o _⟩;have h1':w1.cell? ⟨(ad.add (k*2)).block,(ad.add (k*2)).off+1,none⟩=some (.string x.f1):=hw1 ▸ h1;have i1':w1.cell? ⟨(bd.add (k*2)).block,(bd.add (k*2)).off+1,none⟩=some (.string y.f1):=hw1 ▸ i1;clear hw1
        go_quiet ((go_at_call 86;exact fZ (texts.c _ _ _)))
        go_wp2
        go_roundw
        case rel=>exact⟨k+1,by omega,by go_num,HV,⟨oU HW1.o _⟩⟩
        case measure=>simp[intOf];omega
   ·obtain rfl:k=b.length:=by omega
    have hqm:=HQ.o
    by_cases hlt2:a.length<b.length
    ·have HV:oM (cmpL a b = -1):=⟨by rw[HE.o,KA a b _ (by omega) (by omega)]⟩;have hge:decide (a.length<b.length)=true:=aC (by omega);clear hqm hlt2;go_wp2;go_ret;exact⟨by rw[HV.o];rfl,HB.o⟩
    ·by_cases hlt3:b.length<a.length
     ·have HV:oM (cmpL a b=1):=⟨by rw[HE.o,Kz a b _ (by omega) (by omega)]⟩;have hge:decide (a.length<b.length)=false:=aD (by omega);have adp:decide (b.length<a.length)=true:=aC (by omega);clear hqm hlt2 hlt3;go_wp2;go_ret
      first | exact⟨by rw[HV.o];rfl,HB.o⟩ | exact absurd hba (dG adp)|exact absurd (aQ adp) hba
     ·have HV:oM (cmpL a b=0):=⟨by rw[HE.o,cmpL_eq a b _ (by omega) (by omega)]⟩;have hge:decide (a.length<b.length)=false:=aD (by omega);have adp:decide (b.length<a.length)=false:=aD (by omega);clear hqm hlt2 hlt3;go_wp2;go_ret
      first | exact⟨by rw[HV.o];rfl,HB.o⟩ | exact absurd hba (dG adp)|exact absurd (aQ adp) hba
 ·have HQ:oM (a.length=min a.length b.length):=⟨by omega⟩;have hqa:a.length≤a.length:=by omega
  have hqb:a.length≤b.length:=by omega
  go_enter Tryz.func50,Tryz.ntmps50
  go_wp2
  go_loopw [13] (fun j wr=>∃ k:Nat,k≤a.length∧j = .int .i64 k∧oM (cmpL a b=cmpL (a.drop k) (b.drop k))∧oM (Below w.heap.size w wr)) (fun j _=>a.length-(intOf j).toNat)
  case atStart=>exact⟨0,bP _,rfl,⟨rfl⟩,⟨aU _ _⟩⟩
  case round=>
   obtain⟨k,hk,rfl,HE,HB⟩:=hrel
   by_cases hlt:k<a.length
   ·obtain⟨ad,rfl,h0,h1⟩:=xu (Kd.o9 HR.o HB.o) (k:Int) (by omega) (by omega);rw[aG] at h0 h1;obtain⟨bd,rfl,i0,i1⟩:=xu (Kd.o9 HS.o HB.o) (k:Int) (by omega) (by omega);rw[aG] at i0 i1;have HST:=Y7 (ER a b k (by omega) (by omega));have k0:(0:Int)≤(k:Int):=by omega
    have k1:(k:Int)<(a.length:Int):=by omega
    have k2:(k:Int)<(b.length:Int):=by omega
    have k3:(k:Int)<(a.length:Int):=by omega
    generalize qN a (k:Int)=x at *;generalize qN b (k:Int)=y at *;cases hc:(txt x.f0 y.f0 != 0) with
    | true=>
      have HV:oM (cmpL a b=txt x.f0 y.f0):=⟨by
       have h_:txt x.f0 y.f0≠0:=bne_iff_ne.1 hc;rw[HE.o,HST.o,zC,tK,tK,au h_,au h_]⟩
      go_wp2_with fail
      go_quiet ((go_at_call 86;exact fZ (texts.c _ _ _)))
      go_wp2;go_ret;exact⟨by rw[HV.o];rfl,oU HB.o _⟩
    | false=>
      have hz:txt x.f0 y.f0=0:=by simpa using hc
      cases hd:(txt x.f1 y.f1 != 0) with
      | true=>
        have HV:oM (cmpL a b=txt x.f1 y.f1):=⟨by
         have h_:txt x.f1 y.f1≠0:=bne_iff_ne.1 hd;rw[HE.o,HST.o,zC,tK,tK,hz,av (show ¬ (0:Int)≠0 by simp),au h_]⟩
        clear hz
        go_wp2_with fail
        go_quiet ((go_at_call 86;exact fZ (texts.c _ _ _)))
        go_wp2_with fail
        generalize hw1:wr.drewN nq=w1;have HW1:oM (Below w.heap.size w w1):=⟨hw1 ▸ oU HB.o _⟩;have h1':w1.cell? ⟨(ad.add (k*2)).block,(ad.add (k*2)).off+1,none⟩=some (.string x.f1):=hw1 ▸ h1;have i1':w1.cell? ⟨(bd.add (k*2)).block,(bd.add (k*2)).off+1,none⟩=some (.string y.f1):=hw1 ▸ i1;clear hw1
        go_quiet ((go_at_call 86;exact fZ (texts.c _ _ _)))
        go_wp2;go_ret;exact⟨by rw[HV.o];rfl,oU HW1.o _⟩
      | false=>
        have hy:txt x.f1 y.f1=0:=by simpa using hd
        have HV:oM (cmpL a b=cmpL (a.drop (k+1)) (b.drop (k+1))):=⟨by
         rw[HE.o,HST.o,zC,tK,tK,hz,hy,av (show ¬ (0:Int)≠0 by simp),av (show ¬ (0:Int)≠0 by simp)]⟩
        clear hz hy
        go_wp2_with fail
        go_quiet ((go_at_call 86;exact fZ (texts.c _ _ _)))
        go_wp2_with fail
        generalize hw1:wr.drewN nq=w1;have HW1:oM (Below w.heap.size w w1):=⟨hw1 ▸ oU HB.o _⟩;have h1':w1.cell? ⟨(ad.add (k*2)).block,(ad.add (k*2)).off+1,none⟩=some (.string x.f1):=hw1 ▸ h1;have i1':w1.cell? ⟨(bd.add (k*2)).block,(bd.add (k*2)).off+1,none⟩=some (.string y.f1):=hw1 ▸ i1;clear hw1
        go_quiet ((go_at_call 86;exact fZ (texts.c _ _ _)))
        go_wp2
        go_roundw
        case rel=>exact⟨k+1,by omega,by go_num,HV,⟨oU HW1.o _⟩⟩
        case measure=>simp[intOf];omega
   ·obtain rfl:k=a.length:=by omega
    have hqm:=HQ.o
    by_cases hlt2:a.length<b.length
    ·have HV:oM (cmpL a b = -1):=⟨by rw[HE.o,KA a b _ (by omega) (by omega)]⟩;have hge:decide (a.length<b.length)=true:=aC (by omega);clear hqm hlt2;go_wp2;go_ret;exact⟨by rw[HV.o];rfl,HB.o⟩
    ·by_cases hlt3:b.length<a.length
     ·have HV:oM (cmpL a b=1):=⟨by rw[HE.o,Kz a b _ (by omega) (by omega)]⟩;have hge:decide (a.length<b.length)=false:=aD (by omega);have adp:decide (b.length<a.length)=true:=aC (by omega);clear hqm hlt2 hlt3;go_wp2;go_ret
      first | exact⟨by rw[HV.o];rfl,HB.o⟩ | exact absurd hba (dG adp)|exact absurd (aQ adp) hba
     ·have HV:oM (cmpL a b=0):=⟨by rw[HE.o,cmpL_eq a b _ (by omega) (by omega)]⟩;have hge:decide (a.length<b.length)=false:=aD (by omega);have adp:decide (b.length<a.length)=false:=aD (by omega);clear hqm hlt2 hlt3;go_wp2;go_ret
      first | exact⟨by rw[HV.o];rfl,HB.o⟩ | exact absurd hba (dG adp)|exact absurd (aQ adp) hba
end Go.Proofs.Y.PA
