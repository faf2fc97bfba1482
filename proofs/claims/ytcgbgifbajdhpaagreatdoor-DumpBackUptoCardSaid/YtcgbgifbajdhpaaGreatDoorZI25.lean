/- Of the law rZIQDumpBack. -/
import Derived.Test.YtcgbgifbajdhpaaGreatDoorZI18
set_option linter.unusedVariables false
set_option linter.unusedSimpArgs false
set_option maxHeartbeats 8000000
set_option maxRecDepth 100000
namespace Go
abbrev bY:=@Go.bodyPost_ret
abbrev dV:=@List.mem_of_mem_drop
abbrev fO:=@List.length_nil
abbrev gB:=@Go.results_tmp2
abbrev iH:=@List.drop_succ_cons
abbrev jg:=@Go.rounds_succ
abbrev jV:=@List.flatMap_append
abbrev kR:=@Go.results_tmp3
abbrev lY:=@Option.bind_eq_some_iff
end Go
namespace Go.Proofs.Y.PA
open Go.RowKit Go.Proofs.Y.G Go.Proofs.YW.o7 Go.Proofs.YW.pJ Go.Proofs.YW.pO
def LK (s:ByteArray):List Int:=(s.size:Int)::bytesOf s
def J9 (x:rW):List Int:=LK x.f0++LK x.f1
def Gm (l:List rW)(k:Nat):List Int:=(l.length:Int)::(l.take k).flatMap J9
def vM (l:List rW):List Int:=(l.length:Int)::l.flatMap J9
theorem Uj (l:List rW)(k:Nat)(h:k<l.length):l.take (k+1)=l.take k++[qM l (k:Int)]:=by
 rw[cZ h];simp[qM,bn,aQ h]
theorem Jc (l:List rW)(k:Nat)(h:k<l.length):Gm l (k+1)=Gm l k++J9 (qM l (k:Int)):=by
 rw[Gm,Uj l k h,jV,Gm];simp
theorem Gn (l:List rW):Gm l l.length=vM l:=by rw[Gm,dW,vM]
theorem BN {l:List rW}{k:Nat}(h:yE l k=true):(qM l (k:Int)).f0.size≤24∧(qM l (k:Int)).f1.size≤40:=by
 simp only[yE,dx] at h;exact⟨(BL h.1.1).2,(EK h.1.2).2⟩
theorem LM (s:ByteArray):(LK s).length=s.size+1:=by rw[LK,bC,bytesOf_length]
theorem Sr (x:rW):(J9 x).length=x.f0.size+x.f1.size+2:=by rw[J9,bg,LM,LM];omega
theorem Cu {l:List rW}(h:rF l=true):∀ k,k≤l.length→(Gm l k).length≤1+66*k
 | 0,_=>by simp[Gm]
 | k+1,hk=>by
   have ih:=Cu h k (by omega);have hs:=BN ((uQ h).2.2 k (by omega));rw[Jc l k (by omega),bg,Sr];omega
theorem Yn {n:Nat}(h:n<256):IntKind.u8.wrap (n:Int)=(n:Int):=by simp[IntKind.wrap,IntKind.bits,IntKind.signed];omega
theorem Fh {P:Program}(t e:TypeId)(h:P.underlying t=some (.array 2 e))(hs:∀ W,(Go.sizeOf e).run P W = .ok 1 W)(ha:∀ W,(isAgg e).run P W = .ok false W)(a b:Value)(i:Int)(v:Value)(hv:(i=0∧v=a)∨(i=1∧v=b))(W:World):(Instr.index t (.agg #[a,b]) (.int .i64 i)).run P W = .ok v W:=by
 rcases hv with ⟨rfl,rfl⟩ | ⟨rfl,rfl⟩<;>simp[Instr.index,eY h,asIntOf,go_sem,hs,ha]
theorem vM.c (A:Option Addr)(c n:Nat)(l:List rW)(w:World)(hn:l.length=n)(hr:Kd.C wE w A n l)(hc:n≤c)(h:rF l=true) :
 Calls Tryz.prog 59 #[.slice A n c] w fun e w'=>∃ v:Value,e = .returned (.tuple #[v,.int .i64 0])∧Kd.R (Kd.int .u8) 5 w' w.heap.size (fun _=>True) v (vM l)∧Below w.heap.size w w':=by
 subst hn;have hp:=uQ h;have HR:=Yu hr;have HP:=Yu hp;have HL:=Yu (Cu h);have HC:oZ (Calls Tryz.prog 87 #[.slice A l.length c] w fun e w'=>e = .returned (.bool true)∧Below w.heap.size w w'):=⟨h ▸ rF.c A c l.length l w rfl hr hc⟩;have hl8:=hp.2.1;clear hr hc hp h
 go_enter Tryz.func59,Tryz.ntmps59
 go_wp2_with (first|(go_at_call 87;(with_reducible refine HC.o.mono ?_);rintro e w1 ⟨rfl,hb⟩;have HB1:=Yu hb;clear hb))
 have HR0:oZ (Kd.R (Kd.int .u8) 5 (w1.alloc (.cells #[.int .u8 (l.length:Int)] 5)) w.heap.size (fun _=>True) (.slice (some ⟨w1.heap.size,0,none⟩) 1 1) (Gm l 0)):=⟨Kd.zL (Pb w1 w.heap.size 5 .u8 [(l.length:Int)] HB1.o.size (by simp)) (fun _ _=>dD)⟩;have HB0:=Yu (o8 HB1.o (.cells #[.int .u8 (l.length:Int)] 5))
 go_loopw [4,18] (fun v i wr=>∃ k:Nat,k≤l.length∧i = .int .i64 k∧oZ (Kd.R (Kd.int .u8) 5 wr w.heap.size (fun _=>True) v (Gm l k))∧oZ (Below w.heap.size w wr)) (fun _ i _=>l.length-(intOf i).toNat)
 case atStart=>exact⟨0,bV _,rfl,HR0,HB0⟩
 case round=>
  clear HR0 HB0;obtain⟨k,hk,rfl,HV,HB⟩:=hrel
  by_cases hlt:k<l.length
  ·obtain⟨ad,rfl,c0,c1⟩:=wu (Kd.pI HR.o HB.o) (k:Int) (by omega) (by omega);rw[bf] at c0 c1;have hsz:=BN (HP.o.2.2 k hlt);have HST:=Yu (Jc l k hlt);have HKL:oZ ((Gm l k).length≤600):=⟨by have:=HL.o k hk;omega⟩;generalize qM l (k:Int)=x at *;obtain⟨hz0,hz1⟩:=hsz;have HB0:=Yu (o8 HB.o (.cells #[.string x.f0,.string x.f1] 68 (0,0)));have HV0:=Yu (Kd.qO HV.o (o8 (bq _ _) (.cells #[.string x.f0,.string x.f1] 68 (0,0))));clear HV;have HV:=HV0;have hi0:=fun W=>Fh 147 9 Tryz.underlying147 (fun W=>by kernel_rfl) (fun W=>by kernel_rfl) (.string x.f0) (.string x.f1) 0 _ (.inl ⟨rfl,rfl⟩) W
   have hi1:=fun W=>Fh 147 9 Tryz.underlying147 (fun W=>by kernel_rfl) (fun W=>by kernel_rfl) (.string x.f0) (.string x.f1) 1 _ (.inr ⟨rfl,rfl⟩) W
   go_wp2;refine wp_loop_rounds 3 ?_;rw[jg]
   go_wp2_with (first|((with_reducible refine uR (b := .append) (xs := #[.tmp 30,.tmp 34]) rfl ?_);at_builtin;go_must (refine Bl (w0:=w) w.heap.size rfl (.tmp 30) (.tmp 34) 24 5 rfl Tryz.underlying24 uS _ _ _ ((x.f0.size:Nat):Int) ?hq rfl ?hx HV.o HB0.o HB0.o.size ?hl ?_;(case hq=>first | rfl | exact Yn (by omega));(case hx=>first | rfl | (go_simp;done));(case hl=>(have hk_:=HKL.o;(try simp only[bg,bC,fO,bytesOf_length]);omega));intro va1 wa1 hr hb;have aiV:=Yu hr;have ahj:=Yu hb;clear hr hb))|((with_reducible refine uR (b := .append) (xs := #[.tmp 35,.tmp 36]) rfl ?_);at_builtin;go_must (refine Ci (w0:=w) w.heap.size rfl (.tmp 35) (.tmp 36) 24 9 5 rfl Tryz.underlying24 Tryz.underlying9 uS _ _ x.f0 rfl rfl aiV.o ahj.o ahj.o.size ?hl ?_;(case hl=>(have hk_:=HKL.o;(try simp only[bg,bC,fO,bytesOf_length]);omega));intro vb1 wb1 hr hb;have aiW:=Yu hr;have afl:=Yu hb;clear hr hb)))
   rw[jg]
   go_wp2_with (first|((with_reducible refine uR (b := .append) (xs := #[.tmp 30,.tmp 34]) rfl ?_);at_builtin;go_must (refine Bl (w0:=w) w.heap.size rfl (.tmp 30) (.tmp 34) 24 5 rfl Tryz.underlying24 uS _ _ _ ((x.f1.size:Nat):Int) ?hq rfl ?hx aiW.o afl.o afl.o.size ?hl ?_;(case hq=>first | rfl | exact Yn (by omega));(case hx=>first | rfl | (go_simp;done));(case hl=>(have hk_:=HKL.o;(try simp only[bg,bC,fO,bytesOf_length]);omega));intro va2 wa2 hr hb;have aiX:=Yu hr;have ahk:=Yu hb;clear hr hb))|((with_reducible refine uR (b := .append) (xs := #[.tmp 35,.tmp 36]) rfl ?_);at_builtin;go_must (refine Ci (w0:=w) w.heap.size rfl (.tmp 35) (.tmp 36) 24 9 5 rfl Tryz.underlying24 Tryz.underlying9 uS _ _ x.f1 rfl rfl aiX.o ahk.o ahk.o.size ?hl ?_;(case hl=>(have hk_:=HKL.o;(try simp only[bg,bC,fO,bytesOf_length]);omega));intro vb2 wb2 hr hb;have aiY:=Yu hr;have agu:=Yu hb;clear hr hb)))
   rw[jg];go_wp2
   go_roundw
   case rel=>exact⟨k+1,by omega,by go_num,⟨by have h_:=aiY.o;rw[HST.o];simpa [J9,LK] using h_⟩,agu⟩
   case measure=>simp[intOf];omega
  ·obtain rfl:k=l.length:=by omega
   rw[Gn] at HV;go_wp2;refine bY (gB rfl _ _ _) rfl ?_;exact⟨_,rfl,HV.o,HB.o⟩
def uL:List Int→Option (ByteArray × List Int)
 | []=>none
 | x::r=>if r.length<x.toNat then none else some (strOfNums (r.take x.toNat),r.drop x.toNat)
def sM (b:List Int):Nat→Option (List rW × List Int)
 | 0=>some ([],b)
 | k+1=>(sM b k).bind fun p=>(uL p.2).bind fun s=>(uL s.2).bind fun t=>some (p.1++[⟨s.1,t.1⟩],t.2)
def rR:List Int→List rW × List Int × Int
 | []=>([],[],3)
 | x::r=>match sM r x.toNat with
   | none=>([],[],3)
   | some p=>if rF p.1=true then (p.1,p.2,0) else ([],[],5)
theorem Gg {b:List Int}{k:Nat}(h:sM b k=none):∀ d,sM b (k+d)=none
 | 0=>h
 | d+1=>by rw[← mh,sM,Gg h d];rfl
theorem Nw {b:List Int}{k n:Nat}(hk:k<n)(h:sM b (k+1)=none):sM b n=none:=by
 have:=Gg h (n-(k+1));rwa [show k+1+(n-(k+1))=n by omega] at this
theorem yY {b:List Int}:∀ {k:Nat} {l:List rW} {r:List Int},sM b k=some (l,r)→l.length=k∧r.length≤b.length
 | 0,l,r,h=>by
   simp only[sM,cO,dB] at h;obtain⟨rfl,rfl⟩:=h;exact⟨rfl,aD _⟩
 | k+1,l,r,h=>by
   simp only[sM,lY] at h;obtain⟨⟨l1,r1⟩,h1,⟨s,r2⟩,h2,⟨t,r3⟩,h3,h4⟩:=h;simp only[cO,dB] at h4;obtain⟨rfl,rfl⟩:=h4;have ih:=yY h1;have hp:∀ {x:List Int} {s:ByteArray} {y:List Int},uL x=some (s,y)→y.length≤x.length:=by
    intro x s y hx;cases x with
    | nil=>cases hx
    | cons a x=>
      simp only[uL] at hx;split at hx
      ·cases hx
      ·simp only[cO,dB] at hx;rw[← hx.2,bB,bC];omega
   have e2:=hp h2;have e3:=hp h3;simp only at e2 e3;rw[bg,ih.1];exact⟨rfl,by have:=ih.2;omega⟩
theorem G7 {r:List Int}(h:r.length=0):uL r=none:=by
 rw[dG h];rfl
theorem CZ {r:List Int}(h0:0<r.length)(hp:0≤rd r 0)(h:(r.length:Int)-1<rd r 0):uL r=none:=by
 cases r with
 | nil=>simp at h0
 | cons x r=>
   have e:rd (x::r) 0=x:=rfl;rw[e] at h hp;rw[uL,ak];rw[bC] at h;omega
theorem Jr {r:List Int}{n:Nat}(h0:0<r.length)(hn:rd r 0=(n:Int))(h:n<r.length):uL r=some (strOfNums ((r.take (1+n)).drop 1),r.drop (1+n)):=by
 cases r with
 | nil=>simp at h0
 | cons x r=>
   have e:rd (x::r) 0=x:=rfl;rw[e] at hn;subst hn;rw[bC] at h;rw[uL,aK (by rw[bf];omega),bf,mU 1 n,jU,iH,iH,iA]
theorem Ny {b r r1 r2:List Int}{l:List rW}{k:Nat}{s t:ByteArray}(h:sM b k=some (l,r))(h1:uL r=some (s,r1))(h2:uL r1=some (t,r2)):sM b (k+1)=some (l++[⟨s,t⟩],r2):=by
 simp only[sM,h,dS,h1,h2]
theorem Gd {b r:List Int}{l:List rW}{k:Nat}(h:sM b k=some (l,r))(h1:uL r=none):sM b (k+1)=none:=by
 simp only[sM,h,dS,h1,Option.bind_none]
theorem Gf {b r r1:List Int}{l:List rW}{k:Nat}{s:ByteArray}(h:sM b k=some (l,r))(h1:uL r=some (s,r1))(h2:uL r1=none):sM b (k+1)=none:=by
 simp only[sM,h,dS,h1,h2,Option.bind_none]
theorem LD {b:List Int}(h0:0<b.length){n:Nat}(hn:rd b 0=(n:Int))(h:sM (b.drop 1) n=none):rR b=([],[],3):=by
 cases b with
 | nil=>simp at h0
 | cons x r=>
   have e:rd (x::r) 0=x:=rfl;rw[e] at hn;subst hn;simp only[iH,iA] at h;simp only[rR,bf,h]
theorem Nz {b r':List Int}{l:List rW}(h0:0<b.length){n:Nat}(hn:rd b 0=(n:Int))(h:sM (b.drop 1) n=some (l,r'))(hc:rF l=false):rR b=([],[],5):=by
 cases b with
 | nil=>simp at h0
 | cons x r=>
   have e:rd (x::r) 0=x:=rfl;rw[e] at hn;subst hn;simp only[iH,iA] at h;simp[rR,bf,h,hc]
theorem Sj {b r':List Int}{l:List rW}(h0:0<b.length){n:Nat}(hn:rd b 0=(n:Int))(h:sM (b.drop 1) n=some (l,r'))(hc:rF l=true):rR b=(l,r',0):=by
 cases b with
 | nil=>simp at h0
 | cons x r=>
   have e:rd (x::r) 0=x:=rfl;rw[e] at hn;subst hn;simp only[iH,iA] at h;simp[rR,bf,h,hc]
theorem Qc {b:List Int}{k:Nat}{l:List rW}{r:List Int}(h:sM b k=some (l,r)):∀ x∈r,x∈b:=by
 induction k generalizing l r with
 | zero=>
   simp only[sM,cO,dB] at h;obtain⟨rfl,rfl⟩:=h;exact fun x hx=>hx
 | succ k ih=>
   simp only[sM,lY] at h;obtain⟨⟨l1,r1⟩,h1,⟨s,r2⟩,h2,⟨t,r3⟩,h3,h4⟩:=h;simp only[cO,dB] at h4;obtain⟨rfl,rfl⟩:=h4;have hp:∀ {x:List Int} {s:ByteArray} {y:List Int},uL x=some (s,y)→∀ z∈y,z∈x:=by
    intro x s y hx z hz;cases x with
    | nil=>cases hx
    | cons a x=>
      simp only[uL] at hx;split at hx
      ·cases hx
      ·simp only[cO,dB] at hx;rw[← hx.2] at hz;exact dh _ (dV hz)
   intro x hx;exact ih h1 x (hp h2 x (hp h3 x hx))
theorem G6 {b r:List Int}{s:ByteArray}(h:uL b=some (s,r)):∀ x∈r,x∈b:=by
 cases b with
 | nil=>cases h
 | cons a b=>
   simp only[uL] at h;split at h
   ·cases h
   ·simp only[cO,dB] at h;intro x hx;rw[← h.2] at hx;exact dh _ (dV hx)
theorem LC {b:List Int}:∀ {k:Nat} {l:List rW} {r:List Int},sM b k=some (l,r)→∀ x∈r,x∈b
 | 0,l,r,h=>by
   simp only[sM,cO,dB] at h;obtain⟨rfl,rfl⟩:=h;exact fun x hx=>hx
 | k+1,l,r,h=>by
   simp only[sM,lY] at h;obtain⟨⟨l1,r1⟩,h1,⟨s,r2⟩,h2,⟨t,r3⟩,h3,h4⟩:=h;simp only[cO,dB] at h4;obtain⟨rfl,rfl⟩:=h4;exact fun x hx=>LC h1 x (G6 h2 x (G6 h3 x hx))
theorem NA (b:List Int):(∀ x∈(rR b).2.1,x∈b)∧(rR b).2.1.length≤b.length:=by
 cases b with
 | nil=>simp[rR]
 | cons a r=>
   simp only[rR];split
   ·simp
   ·rename_i p hp;obtain⟨l,q⟩:=p;split
    ·exact⟨fun x hx=>dh _ (LC hp x hx),by have:=(yY hp).2;simp;omega⟩
    ·simp
theorem xM {a b:List Int}(h:okB b=true)(hs:∀ x∈a,x∈b):okB a=true:=rT.2 fun x hx=>rT.1 h x (hs x hx)
def vC (w:World)(b:List Int)(e:Ending)(w':World):Prop:=∃ v1 v2:Value,e = .returned (.tuple #[v1,v2,.int .i64 (rR b).2.2])∧Kd.R wE 68 w' w.heap.size (fun _=>True) v1 (rR b).1∧Kd.R (Kd.int .u8) 5 w' w.heap.size (fun _=>True) v2 (rR b).2.1∧Below w.heap.size w w'
theorem vC.bad {w w':World}{b:List Int}{q:Int}(h:rR b=([],[],q))(hb:Below w.heap.size w w'):vC w b (.returned (.tuple #[.slice none 0 0,.slice none 0 0,.int .i64 q])) w':=by
 refine⟨_,_,by rw[h],?_,?_,hb⟩
 ·rw[h];exact Kd.ug _ _ _ _ _
 ·rw[h];exact Kd.ug _ _ _ _ _
theorem vC.nil {w w':World}{b:List Int}(h:b.length=0)(hb:Below w.heap.size w w'):vC w b (.returned (.tuple #[.slice none 0 0,.slice none 0 0,.int .i64 3])) w' :=
 vC.bad (by rw[dG h];rfl) hb
theorem F6 {b:List Int}(h:∀ x∈b,0≤x∧x<256)(h0:0<b.length):∃ n:Nat,rd b 0=(n:Int)∧n<256:=by
 have:=h _ (Kz b 0 h0);rw[show ((0:Nat):Int)=0 from rfl] at this;exact⟨(rd b 0).toNat,by omega,by omega⟩
theorem cell0 {w:World}{A:Option Addr}{xs:List Int}(h:Kd.C (Kd.int .u8) w A xs.length xs)(h0:0<xs.length):∃ ad,A=some ad∧w.cell? ad=some (.int .u8 (rd xs 0)):=by
 obtain⟨ad,cb,rfl,_,hKb,hcb⟩:=Kd.Bh h (0:Int) 0 (by omega) (by omega);refine⟨ad,rfl,?_⟩;have:=hcb 0 (.int .u8 (rd xs 0)) (by rw[show cb=[Value.int .u8 (rd xs 0)] from hKb];rfl)
 simpa [Addr.add] using this
theorem set_mid (l:List rW)(d:Nat)(x y:rW)(k:Nat)(hk:l.length=k):(l++x::List.replicate d z68).set ((k:Int)).toNat y=l++y::List.replicate d z68:=by
 rw[bf,← hk,jE _ _ (aD _),Nat.sub_self];rfl
theorem TJ (l:List rW)(d:Nat)(x:rW)(k:Nat)(hk:l.length=k):qM (l++x::List.replicate d z68) (k:Int)=x:=by
 subst hk;simp[qM,bn]
theorem zu {α:Type}{d:Kd α}{e base n cap g:Nat}{ok:Nat→Prop}{w:World}{xs:List α}(h:Kd.R d e w base ok (.slice (some ⟨g,0,none⟩) n cap) xs)(i:Nat):w.frozen? ⟨g,i,none⟩=false:=by
 obtain⟨cells,hc⟩:=Kd.JO h g (by simp[Value.ownBlock]);exact pE hc i
theorem Pk {W wS:World}{base g k:Nat}{ok:Nat→Prop}{u v:Value}{xs:List rW}(j:Nat)(hs:(W.setCell ⟨g,k*2+j,none⟩ u).drew=wS)(h:Kd.R wE 68 (W.drew.setCells g ((k:Int).toNat*wE.sz+j) [u]) base ok v xs):Kd.R wE 68 wS base ok v xs:=by
 subst hs;rw[bf] at h;exact h
theorem Wn {α:Type}{d:Kd α}{e base:Nat}{w1 w2:World}{v:Value}{xs:List α}{o:Obj}(h:Kd.R d e w1 base (fun _=>True) v xs)(hg:(w1.alloc o).grownBy w2 (some w1.heap.size)):Kd.R d e w2 base (fun _=>True) v xs:=
 Kd.sD (Kd.JM (Kd.qO (Kd.vD h) (o8 (bq _ _) o)) hg (fun k hk he=>by injection he with he;have:=hk.2.2.1;omega)) (fun _ _=>dD)
theorem rR.c (A:Option Addr)(c n:Nat)(b:List Int)(w:World)(hn:b.length=n)(hr:Kd.C (Kd.int .u8) w A n b)(hc:n≤c)(hok:okB b=true)(hlen:n≤1000000) :
 Calls Tryz.prog 132 #[.slice A n c] w (vC w b):=by
 subst hn
 by_cases h0:b.length=0
 ·have HE:=Yu (fun W=>vC.nil (w:=w) (w':=W) (b:=b) h0);have h1:((b.length:Int)==0)=true:=beq_iff_eq.2 (by omega);clear h0 hr hc hok hlen
  go_enter Tryz.func132,Tryz.ntmps132
  go_wp2;refine bY (kR rfl _ _ _) rfl ?_;exact HE.o _ (bq _ _)
 ·have hp:0<b.length:=by omega
  have h1:((b.length:Int)==0)=false:=beq_eq_false_iff_ne.2 (by omega);obtain⟨n,hn,aj9⟩:=F6 (rT.1 hok) hp;obtain⟨A1,c1,r0,HR0,HC0,hc1,hcut⟩:=Wx A c b 1 hp hc;have aap:=hcut 1 rfl;have HRB:=Yu (HC0.o w hr);have HBY:oZ (∀ x∈r0,0≤x∧x<256):=⟨fun x hx=>rT.1 hok x (by rw[HR0.o] at hx;exact dV hx)⟩;have HRL:oZ (r0.length≤1000000):=⟨by rw[HR0.o,bB];omega⟩;have hml:=fun W=>QJ .u8 n (by omega) W
  have HSH:oZ (sM r0 n=none→rR b=([],[],3)):=⟨fun h=>LD hp hn (by rw[← HR0.o];exact h)⟩;have HFO:oZ (∀ l r',sM r0 n=some (l,r')→rF l=false→rR b=([],[],5)):=⟨fun l r' h hc=>Nz hp hn (by rw[← HR0.o];exact h) hc⟩;have HGO:oZ (∀ l r',sM r0 n=some (l,r')→rF l=true→rR b=(l,r',0)):=⟨fun l r' h hc=>Sj hp hn (by rw[← HR0.o];exact h) hc⟩;have hl1:(0:Int)<(b.length:Int):=by omega
  obtain⟨ad,rfl,hcell⟩:=cell0 hr hp;rw[hn] at hcell;have HCL:=Yu hc1;clear hcut h0 hok hn hlen HC0 HR0 hr hc hc1
  go_enter Tryz.func132,Tryz.ntmps132
  go_wp2;have HM:=Yu (UG w w.heap.size n (aD _) (by omega));have HB0:=Yu (o8 (bq w.heap.size w) (.cells (madeCells (Value.agg #[.string ⟨#[]⟩,.string ⟨#[]⟩]).cells (n*2)) 68))
  go_loopw [0,21] (fun s i wr=>∃ (k:Nat) (A':Option Addr) (c':Nat) (r:List Int) (l:List rW),k≤n∧i = .int .i64 k∧s = .slice A' r.length c'∧oZ (sM r0 k=some (l,r))∧oZ (r.length≤c')∧oZ (Kd.C (Kd.int .u8) w A' r.length r)∧oZ (Kd.R wE 68 wr w.heap.size (fun _=>True) (.slice (some ⟨w.heap.size,0,none⟩) n n) (l++List.replicate (n-k) z68))∧oZ (Below w.heap.size w wr)) (fun _ i _=>n-(intOf i).toNat)
  case atStart=>exact⟨0,A1,c1,r0,[],bV _,rfl,rfl,⟨rfl⟩,HCL,HRB,HM,HB0⟩
  case round=>
   clear HM HB0;obtain⟨k,A',c',r,l,hk,rfl,rfl,HD,HCC,HCR,HV,HB⟩:=hrel;have hlk:=(yY HD.o).1;have ahl:oZ (r.length≤1000000):=⟨by have:=(yY HD.o).2;have:=HRL.o;omega⟩
   by_cases hlt:k<n
   ·have HLK:=Yu hlk;have HKN:=Yu hlt;have hki:(k:Int)<(n:Int):=by omega
    have hk0:(0:Int)≤(k:Int):=by omega
    obtain⟨d,hd⟩:∃ d,n-k=d+1:=⟨n-k-1,by omega⟩;have HDD:oZ (n-(k+1)=d):=⟨by omega⟩;rw[hd,List.replicate_succ] at HV;have HBX:=Yu (fun x hx=>HBY.o x (Qc HD.o x hx));have HST:=Yu (fun (h:sM r0 (k+1)=none)=>HSH.o (Nw hlt h));clear hlk hd hlt
    go_wp2_with fail
    go_quiet (fail)
    generalize hwq:wr.drewN nq=wq;have HVq:oZ (Kd.R wE 68 wq w.heap.size (fun _=>True) (.slice (some ⟨w.heap.size,0,none⟩) n n) (l++z68::List.replicate d z68)):=⟨hwq ▸ HV.o⟩;have HBq:oZ (Below w.heap.size w wq):=⟨hwq ▸ pz HB.o _⟩;clear hwq HV HB
    go_wp2_with fail
    have hi0:=fun W=>Fh (P:=Tryz.prog) 198 197 Tryz.underlying198 (fun W=>by kernel_rfl) (fun W=>by kernel_rfl) (.pointer (some ⟨w.heap.size,k*2,none⟩)) (.pointer (some ⟨w.heap.size,k*2+1,none⟩)) 0 _ (.inl ⟨rfl,rfl⟩) W
    have hi1:=fun W=>Fh (P:=Tryz.prog) 198 197 Tryz.underlying198 (fun W=>by kernel_rfl) (fun W=>by kernel_rfl) (.pointer (some ⟨w.heap.size,k*2,none⟩)) (.pointer (some ⟨w.heap.size,k*2+1,none⟩)) 1 _ (.inr ⟨rfl,rfl⟩) W
    refine wp_loop_rounds 3 ?_;rw[jg]
    by_cases ha1:r.length=0
    ·have HE:oZ (rR b=([],[],3)):=⟨HST.o (Gd HD.o (G7 ha1))⟩;have e1:((r.length:Int)==0)=true:=beq_iff_eq.2 (by omega);clear ha1;go_wp2;refine bY (kR rfl _ _ _) rfl ?_;exact vC.bad HE.o HBq.o
    ·have e1:((r.length:Int)==0)=false:=beq_eq_false_iff_ne.2 (by omega);have hp1:0<r.length:=by omega
     obtain⟨m1,hm1,aiZ⟩:=F6 HBX.o hp1;obtain⟨ad1,hA1,ahm⟩:=cell0 (Kd.pI HCR.o HBq.o) hp1;rw[hm1] at ahm;have hl1:(0:Int)<(r.length:Int):=by omega
     have aku:=ahl.o
     by_cases hs1:(r.length:Int)-1<(m1:Int)
     ·have HE:oZ (rR b=([],[],3)):=⟨HST.o (Gd HD.o (CZ hp1 (by rw[hm1];omega) (by rw[hm1];exact hs1)))⟩;subst hA1;clear ha1 hp1 hm1;go_wp2;refine bY (kR rfl _ _ _) rfl ?_;exact vC.bad HE.o HBq.o
     ·have hps:=Jr hp1 hm1 (by omega);obtain⟨AM1,cM1,rM1,ahn,aho,ai0,afU⟩:=U8 A' c' r 1 (1+m1) (by omega) (by omega) HCC.o;obtain⟨AX1,cX1,rX1,afm,ahp,ahq,aap⟩:=Wx A' c' r (1+m1) (by omega) HCC.o;rw[← ahn.o,← afm.o] at hps;have agv:=Yu hps;have agw:=fun W=>afU 1 (1+(m1:Int)) rfl (by omega) W
      have agx:=fun W=>aap (1+(m1:Int)) (by omega) W
      have ai1:=Yu (fun W (hb:Below w.heap.size w W)=>Kd.Ce (P:=Tryz.prog) (A:=AM1) (c:=cM1) Tryz.underlying24 Tryz.underlying5 Tryz.underlying9 (aho.o W (Kd.pI HCR.o hb)));have aeD:=Yu (ahp.o w HCR.o);have afV:=Yu ahq;have afW:oZ (∀ x∈rX1,0≤x∧x<256):=⟨fun x hx=>HBX.o x (by rw[afm.o] at hx;exact dV hx)⟩;have ahr:oZ (rX1.length≤1000000):=⟨by rw[afm.o,bB];omega⟩;have hw1:IntKind.i64.wrap (1+(m1:Int))=1+(m1:Int):=by rw[bI];omega
      have akv:decide ((r.length:Int)-1<(m1:Int))=false:=aN hs1;clear hps afU aap aho ahn afm ahp ahq ai0 ha1 hp1 hm1 hs1;subst hA1
      go_wp2_with fail
      have Zw:=wu (Kd.pR HVq.o).2.2 (k:Int) (by omega) (by rw[bg,bC,HLK.o];omega);rw[TJ _ _ _ _ HLK.o] at Zw;obtain⟨akw,afX,q01,q11⟩:=Zw;obtain rfl:=bE afX;rw[bf,add_plain] at q01 q11;have ai2:=zu HVq.o 0;have ai3:=zu HVq.o (k*2);have ai4:=Yu q01;have ai5:=Yu q11;have ahs:=Yu (Kd.VJ (i:=(k:Int)) (j:=0) (x':=(⟨strOfNums rM1,⟨#[]⟩⟩:rW)) (seg:=[.string (strOfNums rM1)]) (c:=[.string ⟨#[]⟩,.string ⟨#[]⟩]) (okp:=fun _=>False) (W:=wq.drew) (show Kd.R _ _ wq.drew _ _ _ _ from HVq.o) hk0 hki rfl (by intro j u hj;rw[bf];match j,hj with | 0,hj=>exact (bE hj) ▸ ai4.o | 1,hj=>exact (bE hj) ▸ ai5.o | z+2,hj=>simp at hj) (by show 0+1≤2;decide) (Fp _ _ _ (⟨strOfNums rM1,⟨#[]⟩⟩:rW)) (fun _ hk=>hk.elim));have ai6:=ai1.o wq.drew (pF HBq.o);clear afX ai2
      go_wp2_with fail
      go_region
      go_wp2_with fail
      generalize agy:(World.setCell wq ⟨w.heap.size,k*2,none⟩ (.string (strOfNums rM1))).drew=wS1;have aeE:=Yu (Pk 0 agy ahs.o.1);have aeF:oZ (Below w.heap.size w wS1):=⟨agy ▸ pF (HBq.o.setCell (p:=⟨w.heap.size,k*2,none⟩) (aD _) _)⟩;rw[set_mid _ _ _ _ _ HLK.o] at aeE;clear agy ai6 q01 q11 ai3 ahs agw agx ahm;rw[jg]
      by_cases ha2:rX1.length=0
      ·have HE:oZ (rR b=([],[],3)):=⟨HST.o (Gf HD.o agv.o (G7 ha2))⟩;have e1:((rX1.length:Int)==0)=true:=beq_iff_eq.2 (by omega);clear ha2;go_wp2;refine bY (kR rfl _ _ _) rfl ?_;exact vC.bad HE.o aeF.o
      ·have e1:((rX1.length:Int)==0)=false:=beq_eq_false_iff_ne.2 (by omega);have hp2:0<rX1.length:=by omega
       obtain⟨m2,hm2,ai7⟩:=F6 afW.o hp2;obtain⟨ad2,hA2,aht⟩:=cell0 (Kd.pI aeD.o aeF.o) hp2;rw[hm2] at aht;have hl2:(0:Int)<(rX1.length:Int):=by omega
       have hrl2:=ahr.o
       by_cases hs2:(rX1.length:Int)-1<(m2:Int)
       ·have HE:oZ (rR b=([],[],3)):=⟨HST.o (Gf HD.o agv.o (CZ hp2 (by rw[hm2];omega) (by rw[hm2];exact hs2)))⟩;subst hA2;clear ha2 hp2 hm2;go_wp2;refine bY (kR rfl _ _ _) rfl ?_;exact vC.bad HE.o aeF.o
       ·have hps:=Jr hp2 hm2 (by omega);obtain⟨AM2,cM2,rM2,ahu,ahv,ai8,afY⟩:=U8 AX1 cX1 rX1 1 (1+m2) (by omega) (by omega) afV.o;obtain⟨AX2,cX2,rX2,afn,ahw,ahx,afZ⟩:=Wx AX1 cX1 rX1 (1+m2) (by omega) afV.o;rw[← ahu.o,← afn.o] at hps;have ai9:=Yu hps;have agz:=fun W=>afY 1 (1+(m2:Int)) rfl (by omega) W
        have agA:=fun W=>afZ (1+(m2:Int)) (by omega) W
        have aja:=Yu (fun W (hb:Below w.heap.size w W)=>Kd.Ce (P:=Tryz.prog) (A:=AM2) (c:=cM2) Tryz.underlying24 Tryz.underlying5 Tryz.underlying9 (ahv.o W (Kd.pI aeD.o hb)));have ahy:=Yu (ahw.o w aeD.o);have ahz:=Yu ahx;have akb:oZ (∀ x∈rX2,0≤x∧x<256):=⟨fun x hx=>afW.o x (by rw[afn.o] at hx;exact dV hx)⟩;have akc:oZ (rX2.length≤1000000):=⟨by rw[afn.o,bB];omega⟩;have hw2:IntKind.i64.wrap (1+(m2:Int))=1+(m2:Int):=by rw[bI];omega
        have akx:decide ((rX1.length:Int)-1<(m2:Int))=false:=aN hs2;clear hps afY afZ ahv ahu afn ahw ahx ai8 ha2 hp2 hm2 hs2;subst hA2
        go_wp2_with fail
        have aeG:=wu (Kd.pR aeE.o).2.2 (k:Int) (by omega) (by rw[bg,bC,HLK.o];omega);rw[TJ _ _ _ _ HLK.o] at aeG;obtain⟨aky,af0,q02,q12⟩:=aeG;obtain rfl:=bE af0;rw[bf,add_plain] at q02 q12;have ajb:=zu aeE.o 0;have ajc:=zu aeE.o (k*2+1);have ajd:=Yu q02;have aje:=Yu q12;have ahA:=Yu (Kd.VJ (i:=(k:Int)) (j:=1) (x':=(⟨strOfNums rM1,strOfNums rM2⟩:rW)) (seg:=[.string (strOfNums rM2)]) (c:=[.string (strOfNums rM1),.string ⟨#[]⟩]) (okp:=fun _=>False) (W:=wS1.drew) (show Kd.R _ _ wS1.drew _ _ _ _ from aeE.o) hk0 hki rfl (by intro j u hj;rw[bf];match j,hj with | 0,hj=>exact (bE hj) ▸ ajd.o | 1,hj=>exact (bE hj) ▸ aje.o | z+2,hj=>simp at hj) (by show 1+1≤2;decide) (Fp _ _ _ (⟨strOfNums rM1,strOfNums rM2⟩:rW)) (fun _ hk=>hk.elim));have ajf:=aja.o wS1.drew (pF aeF.o);clear af0 ajb
        go_wp2_with fail
        go_region
        go_wp2_with fail
        generalize agB:(World.setCell wS1 ⟨w.heap.size,k*2+1,none⟩ (.string (strOfNums rM2))).drew=wS2;have ahB:=Yu (Pk 1 agB ahA.o.1);have ajg:oZ (Below w.heap.size w wS2):=⟨agB ▸ pF (aeF.o.setCell (p:=⟨w.heap.size,k*2+1,none⟩) (aD _) _)⟩;rw[set_mid _ _ _ _ _ HLK.o] at ahB;clear agB ajf q02 q12 ajc ahA agz agA aht;rw[jg];go_wp2
        go_roundw
        case rel=>exact⟨k+1,AX2,cX2,rX2,l++[(⟨strOfNums rM1,strOfNums rM2⟩:rW)],by omega,by go_num,rfl,⟨Ny HD.o agv.o ai9.o⟩,ahz,ahy,⟨by rw[HDD.o,bH];exact ahB.o⟩,ajg⟩
        case measure=>simp[intOf];omega
   ·obtain rfl:k=n:=by omega
    rw[Nat.sub_self,List.replicate_zero,fq] at HV;cases hcan:rF l with
    | false=>
      have HE:=Yu (HFO.o l r HD.o hcan);have HC:oZ (∀ c,l.length≤c→Calls Tryz.prog 87 #[.slice (some ⟨w.heap.size,0,none⟩) k c] wr fun e w'=>e = .returned (.bool false)∧Below wr.heap.size wr w'):=⟨fun c hc=>hcan ▸ rF.c _ c k l wr hlk (hlk ▸ (Kd.pR HV.o).2.2) (hlk ▸ hc)⟩;clear hcan
      go_wp2_with (first|(go_at_call 87;(with_reducible refine (HC.o _ (Nat.le_of_eq hlk)).mono ?_);rintro e w1 ⟨rfl,hb⟩;have HB1:=Yu (o9 HB.o hb);clear hb))
      refine bY (kR rfl _ _ _) rfl ?_;exact vC.bad HE.o HB1.o
    | true=>
      have HE:=Yu (HGO.o l r HD.o hcan);have HC:oZ (∀ c,l.length≤c→Calls Tryz.prog 87 #[.slice (some ⟨w.heap.size,0,none⟩) k c] wr fun e w'=>e = .returned (.bool true)∧Below wr.heap.size wr w'):=⟨fun c hc=>hcan ▸ rF.c _ c k l wr hlk (hlk ▸ (Kd.pR HV.o).2.2) (hlk ▸ hc)⟩;clear hcan
      go_wp2_with (first|(go_at_call 87;(with_reducible refine (HC.o _ (Nat.le_of_eq hlk)).mono ?_);rintro e w1 ⟨rfl,hb⟩;have HB1:=Yu (o9 HB.o hb);have HV1:=Yu (Kd.qO HV.o hb);have HE1:=Yu (xH (Kd.int .u8) 5 w.heap.size w1 (fun _=>True) (o9 HB.o hb).size dD);clear hb)|((with_reducible refine qK (N:=71) rfl ?_);go_must (refine Kd.xG (Value.int .u8) 0 (h1:=fun _=>rfl) (w0:=w) w.heap.size rfl (.tmp 69) (.tmp 70) 24 5 (.int .u8 0) 1 rfl Tryz.underlying24 uS rfl (by decide) _ [] r A' r.length c' (fun _=>True) rfl rfl (fun _ _=>dD) HE1.o (Kd.pI HCR.o (o8 HB1.o _)) (o8 HB1.o _) ?hb ?hl ?_;(case hb=>exact (o8 HB1.o _).size);(case hl=>(have:=ahl.o;simp;omega));intro v1 w2 hR1 hB1 hg_ ho_;rw[dL] at hR1;have HR2:=Yu hR1;have HB2:=Yu hB1;have HV2:=Yu (Wn HV1.o hg_);clear hR1 hB1 hg_ ho_)))
      refine bY (kR rfl _ _ _) rfl ?_;refine⟨_,_,by rw[HE.o];rfl,?_,?_,HB2.o⟩
      ·rw[HE.o];exact HV2.o
      ·rw[HE.o];exact HR2.o
theorem add_block (a:Addr)(k:Nat):(a.add k).block=a.block:=by unfold Addr.add;split<;>rfl
theorem Sd (A:Option Addr)(c:Nat)(xs:List Int)(m:Nat)(hm:m≤xs.length)(hc:xs.length≤c) :
 ∃ (A':Option Addr) (c':Nat) (r:List Int),oZ (r=xs.drop m)∧oZ (∀ w:World,Kd.C (Kd.int .u8) w A xs.length xs→Kd.C (Kd.int .u8) w A' r.length r)∧r.length≤c'∧oZ (∀ a',A'=some a'→∃ a,A=some a∧a'.block=a.block) ∧
   ∀ i:Int,i=(m:Int)→∀ W:World,(Instr.slice 24 (.slice A xs.length c) (some (.int .i64 i)) none none).run Tryz.prog W = .ok (.slice A' r.length c') W:=by
 obtain⟨i0,hi,hsz⟩:=Kj;refine⟨if c=m then A else A.map (·.add (m*(Kd.int .u8).sz)),c-m,xs.drop m,⟨rfl⟩,⟨fun w h=>Kd.Dp h hm hc⟩,by rw[bB];omega,⟨fun a' h=>?_⟩,fun i hi' W=>?_⟩
 ·split at h
  ·exact⟨a',h,rfl⟩
  ·obtain⟨a,ha,rfl⟩:=Option.map_eq_some_iff.1 h;exact⟨a,ha,add_block a _⟩
 ·subst hi';have hu:=Tryz.underlying24;have hel:Tryz.prog.elem 24=5:=by simp[Program.elem,hu]
  have hu':Tryz.prog.underlying 24=some (.slice (Tryz.prog.elem 24)):=by rw[hel];exact hu
  rw[oC W 24 A xs.length c hu' .i64 (m:Int) (by omega) (by omega),hel];simp only[sizeOf,typeInfo,jo,hi,sliced,Result.andThen,hsz,bf,bB];cases A<;>simp[go_sem,hi,hsz,Kd.int,Kd.scalar]
end Go.Proofs.Y.PA
