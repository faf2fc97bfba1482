/- Of the law rZIQDumpBack. -/
import Derived.Test.YtcgbgifbajdhpaaGreatDoorZI15
import Derived.Test.YtcgbgifbajdhpaaGreatDoorZI11
import Derived.Test.YtcgbgifbajdhpaaGreatDoorZI17
import Derived.Test.YtcgbgifbajdhpaaGreatDoorZI14
set_option linter.unusedVariables false
set_option linter.unusedSimpArgs false
set_option maxHeartbeats 8000000
set_option maxRecDepth 100000
namespace Go
abbrev ah:=@List.setIfInBounds_toArray
abbrev ay:=@List.set_cons_succ
abbrev aI:=@List.set_cons_zero
abbrev jl:=@Bool.true_and
abbrev kI:=@Nat.lt_trichotomy
abbrev l9:=@List.range_succ_eq_map
abbrev ny:=@Nat.succ_eq_add_one
abbrev oL:=@UInt8.lt_iff_toNat_lt
abbrev oM:=@Bool.and_eq_false_iff
abbrev oW:=@List.all_map
end Go
namespace Go.Proofs.Y.PA
open Go.RowKit Go.Proofs.Y.G Go.Proofs.YW.o7 Go.Proofs.YW.pJ Go.Proofs.YW.pO
theorem Ym:∀ (a b:List UInt8),Op.bytesLess a b = !(Op.bytesLess b a||b==a)
 | [],[]=>by simp[Op.bytesLess]
 | [],b::br=>by simp[Op.bytesLess]
 | a::ar,[]=>by simp[Op.bytesLess]
 | a::ar,b::br=>by
   have ih:=Ym ar br;simp only[Op.bytesLess,ih];have hab:(a<b)=(a.toNat<b.toNat):=propext oL;have hba:(b<a)=(b.toNat<a.toNat):=propext oL;rcases kI a.toNat b.toNat with h | h | h
   ·have h2:a≠b:=fun e=>by rw[e] at h;omega
    have h1:¬ b<a:=by rw[hba];omega
    have h3:a<b:=by rw[hab];exact h
    simp[h3,h1,h2,jJ h2]
   ·obtain rfl:a=b:=UInt8.toNat_inj.1 h;have h1:¬ a<a:=by rw[hab];omega
    simp[h1]
   ·have h2:b≠a:=fun e=>by rw[e] at h;omega
    have h1:¬ a<b:=by rw[hab];omega
    have h3:b<a:=by rw[hba];exact h
    simp[h3,h1,h2,jJ h2]
def less (a b:ByteArray):Bool:=Op.bytesLess a.toList b.toList
def yE (l:List rW)(k:Nat):Bool:=uo (qM l (k:Int)).f0&&tZ (qM l (k:Int)).f1&&(decide (k=0)||less (qM l ((k-1:Nat):Int)).f0 (qM l (k:Int)).f0)
def rF (l:List rW):Bool:=decide (1≤l.length)&&decide (l.length≤8)&&(List.range l.length).all (yE l)
def Jl (l:List rW):Nat→ByteArray
 | 0=>⟨#[]⟩
 | k+1=>(qM l (k:Int)).f0
theorem BL {s:ByteArray}(h:uo s=true):1≤s.size∧s.size≤24:=by
 simp only[uo,dx,gJ] at h;exact⟨h.1.1.1,h.1.1.2⟩
theorem EK {s:ByteArray}(h:tZ s=true):1≤s.size∧s.size≤40:=by
 simp only[tZ,dx,gJ] at h;exact⟨h.1.1,h.1.2⟩
theorem Oy (s:ByteArray):s.toList.length=s.size:=by rw[jd];simp
theorem Qu {l:List rW}{k:Nat}(h1:uo (qM l (k:Int)).f0=true)(h2:tZ (qM l (k:Int)).f1=true) :
 yE l k = !(Op.bytesLess (qM l (k:Int)).f0.toList (Jl l k).toList||(qM l (k:Int)).f0.toList==(Jl l k).toList):=by
 rw[yE,h1,h2];cases k with
 | zero=>
   have hz:=(BL h1).1;rw[← Oy] at hz;have e:(Jl l 0).toList=[]:=by show (⟨#[]⟩:ByteArray).toList=[];rw[jd]
   rw[e];generalize (qM l ((0:Nat):Int)).f0.toList=x at hz;cases x with
   | nil=>simp at hz
   | cons a x=>simp[Op.bytesLess]
 | succ k=>
   rw[← Ym];simp[less,Jl]
theorem Tm {l:List rW}{k:Nat}(h1:uo (qM l ((k+1:Nat):Int)).f0=true)(h2:tZ (qM l ((k+1:Nat):Int)).f1=true) :
 yE l (k+1)=Op.bytesLess (qM l (k:Int)).f0.toList (qM l ((k+1:Nat):Int)).f0.toList:=by
 rw[yE,h1,h2];simp[less]
theorem Qv {l:List rW}(h1:uo (qM l ((0:Nat):Int)).f0=true)(h2:tZ (qM l ((0:Nat):Int)).f1=true):yE l 0=true:=by
 rw[yE,h1,h2];rfl
theorem DY {l:List rW}{k:Nat}(h1:uo (qM l (k:Int)).f0=false):yE l k=false:=by rw[yE,h1];rfl
theorem BO {l:List rW}{k:Nat}(h1:tZ (qM l (k:Int)).f1=false):yE l k=false:=by rw[yE,h1,oK];rfl
theorem Lg {l:List rW}{k:Nat}(hk:k<l.length)(h:yE l k=false):rF l=false:=by
 rw[rF,oM];right;rw[List.all_eq_false];exact⟨k,List.mem_range.2 hk,by rw[h];simp⟩
theorem OL {l:List rW}(h0:1≤l.length)(h8:l.length≤8)(h:∀ j,j<l.length→yE l j=true):rF l=true:=by
 rw[rF,aM h0,aM h8];simp only[jl,iq,jL];exact h
theorem Lh {l:List rW}(h:¬ (1≤l.length∧l.length≤8)):rF l=false:=by
 rw[rF]
 by_cases h1:1≤l.length
 ·rw[aN (show ¬ l.length≤8 from fun h2=>h ⟨h1,h2⟩),oK];rfl
 ·rw[aN h1];rfl
theorem uQ {l:List rW}(h:rF l=true):1≤l.length∧l.length≤8∧∀ j,j<l.length→yE l j=true:=by
 simp only[rF,dx,gJ,iq,jL] at h;exact⟨h.1.1,h.1.2,h.2⟩
theorem JH {l:List rW}{k:Nat}(h:∀ j,j<k→yE l j=true)(hk:yE l k=true):∀ j,j<k+1→yE l j=true:=fun j hj=>by
 rcases eH j k with h1 | h1
 ·exact h j h1
 ·obtain rfl:j=k:=by omega
  exact hk
def Qp (c:Int):Bool:=(decide (97≤c)&&decide (c≤122))||(decide (65≤c)&&decide (c≤90))||decide (c=95)
theorem IB:∀ n:Fin 256,zn ((n.1:Nat):Int)=Qp ((n.1:Nat):Int):=by decide +kernel
theorem Jm (s:ByteArray)(i:Int):zn (bt s i)=Qp (bt s i):=by
 obtain⟨h0,h1⟩:=Lb s i;obtain⟨n,hn⟩:=dA h0;rw[hn];exact IB ⟨n,by omega⟩
def VX (s:ByteArray)(j:Nat):Bool:=Qp (bt s (j:Int))||(decide (j≠0)&&EM (bt s (j:Int)))
theorem Og (s:ByteArray)(i k:Nat)(hi:i<s.size)(hs:s.size≤140737488355328):qj.l0 (k+1) s (i:Int)=if VX s i=true then qj.l0 k s ((i+1:Nat):Int) else some false:=by
 have e:wrap64 ((i:Int)+1)=((i+1:Nat):Int):=by rw[yM (by omega) (by omega)];omega
 rw[qj.l0,e,ak (by omega),ak (by omega)];have hr:=Lb s (i:Int);unfold VX Qp EM;generalize bt s (i:Int)=c at hr;generalize qj.l0 k s ((i+1:Nat):Int)=z
 by_cases hi0:i=0
 ·subst hi0
  repeat' split
  all_goals first | rfl | (exfalso;simp at *;done)|(exfalso;simp at *;omega)
 ·repeat' split
  all_goals first | rfl | (exfalso;simp[hi0] at *;done)|(exfalso;simp[hi0] at *;omega)
theorem Hr (s:ByteArray)(hs:s.size≤140737488355328):∀ d i k,i+d=s.size→d<k→qj.l0 k s (i:Int)=some ((List.range d).all (fun j=>VX s (i+j))&&(decide (1≤s.size)&&decide (s.size≤24)))
 | 0,i,k+1,h,hk=>by
   rw[qj.l0,aK (by omega)]
   by_cases h1:(s.size:Int)≥1
   ·rw[ak h1,aM (show 1≤s.size by omega)];simp;omega
   ·rw[aK h1,aN (show ¬ 1≤s.size by omega)];simp
 | d+1,i,k+1,h,hk=>by
   rw[Og s i k (by omega) hs,l9,mo,oW];cases ho:VX s i with
   | false=>rw[aK (by simp)];simp[ho]
   | true=>
     rw[ak rfl,Hr s hs d (i+1) k (by omega) (by omega)];simp only[iB,ho,jl];congr 3
     funext j
     simp only[Function.comp,ny,show i+1+j=i+(j+1) by omega]
theorem PN (s:ByteArray)(p:Int→Bool):(bytesOf s).any p=(List.range s.size).any (fun j=>p (bt s (j:Int))):=by
 rw[Bool.eq_iff_iff,nW,nW];constructor
 ·rintro⟨x,hx,hp⟩;obtain⟨j,hj,rfl⟩:=List.getElem_of_mem hx;have hj':j<s.size:=by rw[← bytesOf_length];exact hj
  refine⟨j,List.mem_range.2 hj',?_⟩;rw[← Hg]
  simpa [rd,bn,aQ hj] using hp
 ·rintro⟨j,hj,hp⟩;have hj':j<(bytesOf s).length:=by rw[bytesOf_length];exact List.mem_range.1 hj
  refine⟨_,eF hj',?_⟩;rw[← Hg] at hp
  simpa [rd,bn,aQ hj'] using hp
theorem TT (s:ByteArray)(hs:s.size≤140737488355328)(k:Nat)(hk:s.size<k):qj.f k s=some (uo s):=by
 unfold qj.f;have:=Hr s hs s.size 0 k (by omega) hk;rw[show ((0:Nat):Int)=0 from rfl] at this;rw[this];congr 1
 by_cases hz:1≤s.size∧s.size≤24
 ·rw[uo,aM hz.1,aM hz.2];simp only[Bool.and_true,jl,dX];rw[PN,Jm,Bool.eq_iff_iff];simp only[iq,jL,dx,kE,List.any_eq_false,zF,Bool.not_eq_false'];have hb:∀ j:Nat,zn (bt s (j:Int))=Qp (bt s (j:Int)):=fun j=>Jm s j
  constructor
  ·intro h;refine⟨?_,fun j hj=>?_⟩
   ·have:=h 0 (by omega)
    simpa [VX] using this
   ·have:=h j hj;rw[hb j];simp only[VX,iZ,dx] at this;rcases this with h1 | h1
    ·simp[h1]
    ·simp[h1.2]
  ·rintro⟨h0,h⟩ j hj
   by_cases hj0:j=0
   ·subst hj0;simp[VX]
    simpa using h0
   ·have:=h j hj;rw[hb j] at this;simp only[VX,iZ,dx,gJ];cases h1:Qp (bt s (j:Int)) with
    | true=>simp
    | false=>
      right;refine⟨hj0,?_⟩
      simpa [h1] using this
 ·rw[uo];have:(decide (1≤s.size)&&decide (s.size≤24))=false:=by
   rw[oM]
   by_cases h1:1≤s.size
   ·exact .inr (aN (fun h2=>hz ⟨h1,h2⟩))
   ·exact .inl (aN h1)
  rw[this];simp
theorem Ph.c (s:ByteArray)(b:Bool)(h:uo s=b)(hs:s.size≤140737488355328)(w:World):Calls Tryz.prog 99 #[.string s] w fun e w'=>e = .returned (.bool b)∧Below w.heap.size w w' :=
 (qj.c (s.size+1) s b w (by rw[TT s hs _ (by omega),h])).mono fun e w' ⟨he,hd⟩=>⟨he,hd.below⟩
theorem uo.qP (s:ByteArray)(b:Bool)(h:uo s=b)(w:World):Calls Tryz.prog 121 #[.string s] w fun e w'=>e = .returned (.bool b)∧Below w.heap.size w w':=h ▸ uo.c s w
theorem tZ.qP (s:ByteArray)(b:Bool)(h:tZ s=b)(w:World):Calls Tryz.prog 122 #[.string s] w fun e w'=>e = .returned (.bool b)∧Below w.heap.size w w':=h ▸ tZ.c s w
theorem rF.c (A:Option Addr)(c n:Nat)(l:List rW)(w:World)(hn:l.length=n)(hr:Kd.C wE w A n l)(hc:n≤c) :
 Calls Tryz.prog 87 #[.slice A n c] w fun e w'=>e = .returned (.bool (rF l))∧Below w.heap.size w w':=by
 subst hn
 by_cases hlen:1≤l.length∧l.length≤8
 ·have h0:((l.length:Int)==0)=false:=beq_eq_false_iff_ne.2 (by omega);have h8:decide ((8:Int)<(l.length:Int))=false:=aN (by omega);have HR:=Yu hr;have HL:=Yu hlen;have hl8:=hlen.2;clear hr hc hlen
  go_enter Tryz.func87,Tryz.ntmps87
  go_wp2
  go_loopw [3,16] (fun p i wr=>∃ (k:Nat) (q:ByteArray),k≤l.length∧i = .int .i64 k∧p = .string q∧oZ (q=Jl l k)∧oZ (∀ j,j<k→yE l j=true)∧oZ (Below w.heap.size w wr)) (fun _ i _=>l.length-(intOf i).toNat)
  case atStart=>exact⟨0,_,bV _,rfl,rfl,⟨rfl⟩,⟨fun j hj=>by omega⟩,⟨bq _ _⟩⟩
  case round=>
   obtain⟨k,q,hk,rfl,rfl,HQ,HO,HB⟩:=hrel
   by_cases hlt:k<l.length
   ·obtain⟨ad,rfl,c0,c1⟩:=wu (Kd.pI HR.o HB.o) (k:Int) (by omega) (by omega);rw[bf] at c0 c1;have HBAD:=Yu (fun h=>Lg (l:=l) (k:=k) hlt h);have HN:=Yu (fun h=>DY (l:=l) (k:=k) h);have HV:=Yu (fun h=>BO (l:=l) (k:=k) h);have HA:=Yu (fun h1 h2=>Qu (l:=l) (k:=k) h1 h2);have HS:=Yu (fun h=>JH (l:=l) (k:=k) HO.o h);have HX:oZ ((qM l (k:Int)).f0=Jl l (k+1)):=⟨rfl⟩;generalize qM l (k:Int)=x at c0 c1 HN HV HA HX;rw[← HQ.o] at HA;have HB0:=Yu (o8 HB.o (.cells #[.string x.f0,.string x.f1] 68 (0,0)));have HBK:=Yu (qG wr (.cells #[.string x.f0,.string x.f1] 68 (0,0)));cases h1:uo x.f0 with
    | false=>
      have HF:oZ (rF l=false):=⟨HBAD.o (HN.o h1)⟩;have C1:=Yu (uo.qP x.f0 false h1);clear h1
      go_wp2_with (first|(go_at_call 121;(with_reducible refine (C1.o _).mono ?_);rintro e w1 ⟨rfl,hb⟩;have HB1:=Yu (o9 HB0.o hb);clear hb))
      go_ret;exact⟨by rw[HF.o];rfl,HB1.o⟩
    | true=>
      have C1:=Yu (uo.qP x.f0 true h1);cases h2:tZ x.f1 with
      | false=>
        have HF:oZ (rF l=false):=⟨HBAD.o (HV.o h2)⟩;have C2:=Yu (tZ.qP x.f1 false h2);clear h1 h2
        go_wp2_with (first|(go_at_call 121;(with_reducible refine (C1.o _).mono ?_);rintro e w1 ⟨rfl,hb⟩;have HB1:=Yu (o9 HB0.o hb);have Y0:=Yu (pG HBK.o hb);have b1:=(pq Y0.o 1).trans rfl;clear hb)|(go_at_call 122;(with_reducible refine (C2.o _).mono ?_);rintro e w2 ⟨rfl,hb⟩;have HB2:=Yu (o9 HB1.o hb);clear hb))
        go_ret;exact⟨by rw[HF.o];rfl,HB2.o⟩
      | true=>
        have C2:=Yu (tZ.qP x.f1 true h2);have HOK:=HA.o h1 h2;clear h1 h2;cases d1:Op.bytesLess x.f0.toList q.toList with
        | true=>
          have HF:oZ (rF l=false):=⟨HBAD.o (by rw[HOK,d1];rfl)⟩;clear HOK
          go_wp2_with (first|(go_at_call 121;(with_reducible refine (C1.o _).mono ?_);rintro e w1 ⟨rfl,hb⟩;have HB1:=Yu (o9 HB0.o hb);have Y0:=Yu (pG HBK.o hb);have b1:=(pq Y0.o 1).trans rfl;clear hb)|(go_at_call 122;(with_reducible refine (C2.o _).mono ?_);rintro e w2 ⟨rfl,hb⟩;have HB2:=Yu (o9 HB1.o hb);have Z4:=Yu (pG Y0.o hb);have b2:=(pq Z4.o 0).trans rfl;clear hb))
          go_ret;exact⟨by rw[HF.o];rfl,HB2.o⟩
        | false=>
          cases d2:x.f0.toList==q.toList with
          | true=>
            have HF:oZ (rF l=false):=⟨HBAD.o (by rw[HOK,d1,d2];rfl)⟩;clear HOK
            go_wp2_with (first|(go_at_call 121;(with_reducible refine (C1.o _).mono ?_);rintro e w1 ⟨rfl,hb⟩;have HB1:=Yu (o9 HB0.o hb);have Y0:=Yu (pG HBK.o hb);have b1:=(pq Y0.o 1).trans rfl;clear hb)|(go_at_call 122;(with_reducible refine (C2.o _).mono ?_);rintro e w2 ⟨rfl,hb⟩;have HB2:=Yu (o9 HB1.o hb);have Z4:=Yu (pG Y0.o hb);have b2:=(pq Z4.o 0).trans rfl;clear hb))
            go_ret;exact⟨by rw[HF.o];rfl,HB2.o⟩
          | false=>
            have HG:=Yu (HS.o (by rw[HOK,d1,d2];rfl));clear HOK
            go_wp2_with (first|(go_at_call 121;(with_reducible refine (C1.o _).mono ?_);rintro e w1 ⟨rfl,hb⟩;have HB1:=Yu (o9 HB0.o hb);have Y0:=Yu (pG HBK.o hb);have b1:=(pq Y0.o 1).trans rfl;clear hb)|(go_at_call 122;(with_reducible refine (C2.o _).mono ?_);rintro e w2 ⟨rfl,hb⟩;have HB2:=Yu (o9 HB1.o hb);have Z4:=Yu (pG Y0.o hb);have b2:=(pq Z4.o 0).trans rfl;clear hb))
            go_roundw
            case rel=>exact⟨k+1,x.f0,by omega,by go_num,rfl,HX,HG,HB2⟩
            case measure=>simp[intOf];omega
   ·obtain rfl:k=l.length:=by omega
    have HF:oZ (rF l=true):=⟨OL HL.o.1 HL.o.2 HO.o⟩;go_wp2;go_ret;exact⟨by rw[HF.o];rfl,HB.o⟩
 ·have HF:oZ (rF l=false):=⟨Lh hlen⟩
  by_cases h0:(l.length:Int)=0
  ·have h1:((l.length:Int)==0)=true:=beq_iff_eq.2 h0;clear h0 hlen
   go_enter Tryz.func87,Tryz.ntmps87
   go_wp2;go_ret;exact⟨by rw[HF.o];rfl,bq _ _⟩
  ·have h1:((l.length:Int)==0)=false:=beq_eq_false_iff_ne.2 h0;have h2:decide ((8:Int)<(l.length:Int))=true:=aM (by omega);clear h0 hlen
   go_enter Tryz.func87,Tryz.ntmps87
   go_wp2;go_ret;exact⟨by rw[HF.o];rfl,bq _ _⟩
end Go.Proofs.Y.PA
namespace Go.Proofs.Y.PA
open Go.RowKit Go.Proofs.YW.o7 Go.Proofs.YW.pJ Go.Proofs.YW.pO
attribute [local go_sem] rZ r9 sU sV rX rY sN sO
mutual
def p8.j0:Nat→Int→Int→Bool→List Int→Int→Option (Int × Int)
 | 0,_,_,_,_,_=>none
 | k+1,x1,x2,x11,aac,aax=>if x11=true then (some (0,1)) else (if (wrap64 (aax-x1))<x2 then (some (0,3)) else (p8.l0 k x1 x2 0 aac aax))
def p8.l0:Nat→Int→Int→Int→List Int→Int→Option (Int × Int)
 | 0,_,_,_,_,_=>none
 | k+1,x1,x2,x8,aac,aax=>if x2>0 then (if 0≤(mn (wrap64 (8-(Int.tmod x1 8))) x2) then (if 0≤(wrap64 (Int.tdiv x1 8)) then (if (wrap64 (Int.tdiv x1 8))<(aac.length:Int) then (if 0≤(wrap64 ((wrap64 (8-(Int.tmod x1 8)))-(mn (wrap64 (8-(Int.tmod x1 8))) x2))) then (p8.l0 k (wrap64 (x1+(mn (wrap64 (8-(Int.tmod x1 8))) x2))) (wrap64 (x2-(mn (wrap64 (8-(Int.tmod x1 8))) x2))) (Go.bits .or .u64 (shl .u64 x8 (mn (wrap64 (8-(Int.tmod x1 8))) x2)) (IntKind.u64.wrap (Go.bits .and .u8 (shr .u8 (rd aac (wrap64 (Int.tdiv x1 8))) (wrap64 ((wrap64 (8-(Int.tmod x1 8)))-(mn (wrap64 (8-(Int.tmod x1 8))) x2)))) (((shl .u8 1 (mn (wrap64 (8-(Int.tmod x1 8))) x2))-1) % 256)))) aac aax) else (none)) else (none)) else (none)) else (none)) else (some (x8,0))
end
def p8.f (k:Nat)(Yv:List Int)(Yw:Int)(a1:Int)(a2:Int):Option (Int × Int):=(qX.f Yv Yw).bind fun adZ=>(if adZ=true then (if a2<0 then (p8.j0 k a1 a2 true Yv Yw) else (if a2>64 then (p8.j0 k a1 a2 true Yv Yw) else (if a1<0 then (p8.j0 k a1 a2 true Yv Yw) else (p8.j0 k a1 a2 (decide (a1>Yw)) Yv Yw)))) else (p8.j0 k a1 a2 true Yv Yw))
theorem p8.c (k:Nat)(YB:Option Addr)(YC:Nat)(Yv:List Int)(Yw:Int)(a1:Int)(a2:Int)(r1:Int)(r2:Int)(w:World)(Zm:Kd.C (Kd.int .u8) w YB Yv.length Yv)(Zn:Yv.length≤YC)(h:p8.f k Yv Yw a1 a2=some (r1,r2)) :
 Calls Tryz.prog 156 #[.agg #[.slice YB Yv.length YC,.int .i64 Yw],.int .i64 a1,.int .i64 a2] w fun e w'=>e = .returned (.tuple #[.int .u64 r1,.int .i64 r2])∧Below w.heap.size w w':=by
 have afJ:=Tryz.underlying149;have YT:=Yu Zm;have Y3:=Yu Zn;clear Zm Zn;have HB:=Yu (bq w.heap.size w);have H:((qX.f Yv Yw).bind fun adZ=>(if adZ=true then (if a2<0 then (p8.j0 k a1 a2 true Yv Yw) else (if a2>64 then (p8.j0 k a1 a2 true Yv Yw) else (if a1<0 then (p8.j0 k a1 a2 true Yv Yw) else (p8.j0 k a1 a2 (decide (a1>Yw)) Yv Yw)))) else (p8.j0 k a1 a2 true Yv Yw)))=some (r1,r2):=h;clear h;have HC4:=Yu H;clear H
 go_enter Tryz.func156,Tryz.ntmps156
 go_upto_region 1 with (first|((with_reducible refine qK (N:=3) rfl ?_);refine ru ?hg (N:=3) ?hd (cs := #[.slice YB Yv.length YC,.int .i64 Yw]) (t:=149) ?hr ?_;(case hd=>rfl);(case hg=>rfl);(case hr=>first|(go_simp;done)|(go_simp;rfl));intro YJ hg w5 YI hb;have n0_:=Yu (o9 (by repeat (first|(with_reducible first | exact HB.o | apply o8 | apply pz | apply pF)|exact HB.o)) hb);have n1_:=Yu (YI);have n2_:=Yu ((by rw[hg];exact (pX (by repeat (first|(with_reducible first | exact HB.o | apply o8 | apply pz | apply pF)|exact HB.o))):w.heap.size≤YJ));have n3_:=Yu ((by rw[hg];exact (pX (by repeat (first|(with_reducible first | exact HB.o | apply o8 | apply pz | apply pF)|exact HB.o))):w.heap.size≤YJ));clear HB;have HB:=n0_;have Yz:=n1_;have afP:=n2_;have Y4:=n3_;clear n0_ n1_ n2_ n3_;clear hb YI hg))
 repeat (go_quiet (first|((with_reducible refine qK (N:=3) rfl ?_);refine ru ?hg (N:=3) ?hd (cs := #[.slice YB Yv.length YC,.int .i64 Yw]) (t:=149) ?hr ?_;(case hd=>rfl);(case hg=>rfl);(case hr=>first|(go_simp;done)|(go_simp;rfl));intro YJ hg w5 YI hb;have n0_:=Yu (o9 (by repeat (first|(with_reducible first | exact HB.o | apply o8 | apply pz | apply pF)|exact HB.o)) hb);have n1_:=Yu (YI);have n2_:=Yu ((by rw[hg];exact (pX (by repeat (first|(with_reducible first | exact HB.o | apply o8 | apply pz | apply pF)|exact HB.o))):w.heap.size≤YJ));have n3_:=Yu ((by rw[hg];exact (pX (by repeat (first|(with_reducible first | exact HB.o | apply o8 | apply pz | apply pF)|exact HB.o))):w.heap.size≤YJ));clear HB;have HB:=n0_;have Yz:=n1_;have afP:=n2_;have Y4:=n3_;clear n0_ n1_ n2_ n3_;clear hb YI hg));go_upto_region 1 with (first|((with_reducible refine qK (N:=3) rfl ?_);refine ru ?hg (N:=3) ?hd (cs := #[.slice YB Yv.length YC,.int .i64 Yw]) (t:=149) ?hr ?_;(case hd=>rfl);(case hg=>rfl);(case hr=>first|(go_simp;done)|(go_simp;rfl));intro YJ hg w5 YI hb;have n0_:=Yu (o9 (by repeat (first|(with_reducible first | exact HB.o | apply o8 | apply pz | apply pF)|exact HB.o)) hb);have n1_:=Yu (YI);have n2_:=Yu ((by rw[hg];exact (pX (by repeat (first|(with_reducible first | exact HB.o | apply o8 | apply pz | apply pF)|exact HB.o))):w.heap.size≤YJ));have n3_:=Yu ((by rw[hg];exact (pX (by repeat (first|(with_reducible first | exact HB.o | apply o8 | apply pz | apply pF)|exact HB.o))):w.heap.size≤YJ));clear HB;have HB:=n0_;have Yz:=n1_;have afP:=n2_;have Y4:=n3_;clear n0_ n1_ n2_ n3_;clear hb YI hg)))
 (try simp only[Act.put,ah,aI,ay])
 go_cut [11] (fun v11 wc=>∃ (kq:Nat) (adG:Bool),v11 = .bool adG∧oZ (p8.j0 kq a1 a2 adG Yv Yw=some (r1,r2))∧oZ (kq≤k)∧oZ (wc.heap[YJ]? = some (.cells #[(.slice YB Yv.length YC),.int .i64 Yw] 149 (0,0)))∧oZ (Below w.heap.size w wc))
 case first=>
  have H:=HC4.o;clear HC4;replace H:=Option.bind_eq_some_iff.mp H;obtain⟨adZ,A60,H⟩:=H;replace H:(if adZ=true then (if a2<0 then (p8.j0 k a1 a2 true Yv Yw) else (if a2>64 then (p8.j0 k a1 a2 true Yv Yw) else (if a1<0 then (p8.j0 k a1 a2 true Yv Yw) else (p8.j0 k a1 a2 (decide (a1>Yw)) Yv Yw)))) else (p8.j0 k a1 a2 true Yv Yw))=some (r1,r2):=H;have A6:=Yu A60;clear A60
  by_cases c7:adZ=true
  ·subst c7;have H1:(if a2<0 then (p8.j0 k a1 a2 true Yv Yw) else (if a2>64 then (p8.j0 k a1 a2 true Yv Yw) else (if a1<0 then (p8.j0 k a1 a2 true Yv Yw) else (p8.j0 k a1 a2 (decide (a1>Yw)) Yv Yw))))=some (r1,r2):=by rw[ak rfl] at H;exact H
   clear H;have H:=H1;clear H1
   by_cases c8:a2<0
   ·rw[ak c8] at H;have ZF:decide (a2<0)=true:=aM c8;clear c8
    (first | rw[ZF] | (simp only[rH,tu];rw[ZF])|skip)
    have H':=Yu H;clear H;have aew:w5.cell? ⟨YJ,0,none⟩=some (.slice YB Yv.length YC):=(pq Yz.o 0).trans rfl;have aex:w5.cell? ⟨YJ,1,none⟩=some (.int .i64 Yw):=(pq Yz.o 1).trans rfl;have aey:=pE Yz.o 0;have aez:=pE Yz.o 1
    go_wp2_with (first|(go_at_call 141;(with_reducible refine (qX.c _ _ Yv Yw true _ ?YG ?YH A6.o).mono ?_);(case YG=>repeat (first | exact (Kd.pI YT.o HB.o)|(with_reducible refine Kd.qN ?_ _)|(with_reducible refine Kd.C_drewN ?_ _)|(with_reducible refine Kd.rD ?_)));(case YH=>exact Y3.o);rintro e w10 ⟨rfl,hb⟩;have n0_:=Yu (pG (g:=YJ) (o := .cells #[.slice YB Yv.length YC,.int .i64 Yw] 149 (0,0)) (by (with_reducible repeat (first | refine qh ?_ _ | refine qg ?_ | refine pU ?_ _));exact Yz.o) hb);have n1_:=Yu (o9 (by repeat (first|(with_reducible first | exact HB.o | apply o8 | apply pz | apply pF | refine pW ?_ Y4.o)|exact HB.o)) hb);clear Yz;clear HB;have Yz:=n0_;have HB:=n1_;clear n0_ n1_;(try clear hb);(try clear hb2);(try clear hk);(try clear hi)))
    repeat (go_quiet (first|(go_at_call 141;(with_reducible refine (qX.c _ _ Yv Yw true _ ?YG ?YH A6.o).mono ?_);(case YG=>repeat (first | exact (Kd.pI YT.o HB.o)|(with_reducible refine Kd.qN ?_ _)|(with_reducible refine Kd.C_drewN ?_ _)|(with_reducible refine Kd.rD ?_)));(case YH=>exact Y3.o);rintro e w10 ⟨rfl,hb⟩;have n0_:=Yu (pG (g:=YJ) (o := .cells #[.slice YB Yv.length YC,.int .i64 Yw] 149 (0,0)) (by (with_reducible repeat (first | refine qh ?_ _ | refine qg ?_ | refine pU ?_ _));exact Yz.o) hb);have n1_:=Yu (o9 (by repeat (first|(with_reducible first | exact HB.o | apply o8 | apply pz | apply pF | refine pW ?_ Y4.o)|exact HB.o)) hb);clear Yz;clear HB;have Yz:=n0_;have HB:=n1_;clear n0_ n1_;(try clear hb);(try clear hb2);(try clear hk);(try clear hi)));try go_wp2_with (first|(go_at_call 141;(with_reducible refine (qX.c _ _ Yv Yw true _ ?YG ?YH A6.o).mono ?_);(case YG=>repeat (first | exact (Kd.pI YT.o HB.o)|(with_reducible refine Kd.qN ?_ _)|(with_reducible refine Kd.C_drewN ?_ _)|(with_reducible refine Kd.rD ?_)));(case YH=>exact Y3.o);rintro e w10 ⟨rfl,hb⟩;have n0_:=Yu (pG (g:=YJ) (o := .cells #[.slice YB Yv.length YC,.int .i64 Yw] 149 (0,0)) (by (with_reducible repeat (first | refine qh ?_ _ | refine qg ?_ | refine pU ?_ _));exact Yz.o) hb);have n1_:=Yu (o9 (by repeat (first|(with_reducible first | exact HB.o | apply o8 | apply pz | apply pF | refine pW ?_ Y4.o)|exact HB.o)) hb);clear Yz;clear HB;have Yz:=n0_;have HB:=n1_;clear n0_ n1_;(try clear hb);(try clear hb2);(try clear hk);(try clear hi))))
    go_meet
    case rel=>exact⟨_,(true),(by first | rfl | (simp;done)|(simp[*];done)),H',⟨by first | omega | exact aD _⟩,⟨by (with_reducible repeat (first | refine qh ?_ _ | refine qg ?_ | refine pU ?_ _));exact Yz.o⟩,⟨by repeat (first|(with_reducible first | exact HB.o | apply o8 | apply pz | apply pF | refine pW ?_ Y4.o)|exact HB.o)⟩⟩
   ·rw[aK c8] at H;have ZF:decide (a2<0)=false:=aN c8;clear c8
    (first | rw[ZF] | (simp only[rH,tu];rw[ZF])|skip)
    by_cases c11:a2>64
    ·rw[ak c11] at H;have Z9:decide (64<a2)=true:=aM c11;clear c11;have H':=Yu H;clear H;have ZU:w5.cell? ⟨YJ,0,none⟩=some (.slice YB Yv.length YC):=(pq Yz.o 0).trans rfl;have ZV:w5.cell? ⟨YJ,1,none⟩=some (.int .i64 Yw):=(pq Yz.o 1).trans rfl;have ZW:=pE Yz.o 0;have ZX:=pE Yz.o 1
     go_wp2_with (first|(go_at_call 141;(with_reducible refine (qX.c _ _ Yv Yw true _ ?YG ?YH A6.o).mono ?_);(case YG=>repeat (first | exact (Kd.pI YT.o HB.o)|(with_reducible refine Kd.qN ?_ _)|(with_reducible refine Kd.C_drewN ?_ _)|(with_reducible refine Kd.rD ?_)));(case YH=>exact Y3.o);rintro e w13 ⟨rfl,hb⟩;have n0_:=Yu (pG (g:=YJ) (o := .cells #[.slice YB Yv.length YC,.int .i64 Yw] 149 (0,0)) (by (with_reducible repeat (first | refine qh ?_ _ | refine qg ?_ | refine pU ?_ _));exact Yz.o) hb);have n1_:=Yu (o9 (by repeat (first|(with_reducible first | exact HB.o | apply o8 | apply pz | apply pF | refine pW ?_ Y4.o)|exact HB.o)) hb);clear Yz;clear HB;have Yz:=n0_;have HB:=n1_;clear n0_ n1_;(try clear hb);(try clear hb2);(try clear hk);(try clear hi)))
     repeat (go_quiet (first|(go_at_call 141;(with_reducible refine (qX.c _ _ Yv Yw true _ ?YG ?YH A6.o).mono ?_);(case YG=>repeat (first | exact (Kd.pI YT.o HB.o)|(with_reducible refine Kd.qN ?_ _)|(with_reducible refine Kd.C_drewN ?_ _)|(with_reducible refine Kd.rD ?_)));(case YH=>exact Y3.o);rintro e w13 ⟨rfl,hb⟩;have n0_:=Yu (pG (g:=YJ) (o := .cells #[.slice YB Yv.length YC,.int .i64 Yw] 149 (0,0)) (by (with_reducible repeat (first | refine qh ?_ _ | refine qg ?_ | refine pU ?_ _));exact Yz.o) hb);have n1_:=Yu (o9 (by repeat (first|(with_reducible first | exact HB.o | apply o8 | apply pz | apply pF | refine pW ?_ Y4.o)|exact HB.o)) hb);clear Yz;clear HB;have Yz:=n0_;have HB:=n1_;clear n0_ n1_;(try clear hb);(try clear hb2);(try clear hk);(try clear hi)));try go_wp2_with (first|(go_at_call 141;(with_reducible refine (qX.c _ _ Yv Yw true _ ?YG ?YH A6.o).mono ?_);(case YG=>repeat (first | exact (Kd.pI YT.o HB.o)|(with_reducible refine Kd.qN ?_ _)|(with_reducible refine Kd.C_drewN ?_ _)|(with_reducible refine Kd.rD ?_)));(case YH=>exact Y3.o);rintro e w13 ⟨rfl,hb⟩;have n0_:=Yu (pG (g:=YJ) (o := .cells #[.slice YB Yv.length YC,.int .i64 Yw] 149 (0,0)) (by (with_reducible repeat (first | refine qh ?_ _ | refine qg ?_ | refine pU ?_ _));exact Yz.o) hb);have n1_:=Yu (o9 (by repeat (first|(with_reducible first | exact HB.o | apply o8 | apply pz | apply pF | refine pW ?_ Y4.o)|exact HB.o)) hb);clear Yz;clear HB;have Yz:=n0_;have HB:=n1_;clear n0_ n1_;(try clear hb);(try clear hb2);(try clear hk);(try clear hi))))
     go_meet
     case rel=>exact⟨_,(true),(by first | rfl | (simp;done)|(simp[*];done)),H',⟨by first | omega | exact aD _⟩,⟨by (with_reducible repeat (first | refine qh ?_ _ | refine qg ?_ | refine pU ?_ _));exact Yz.o⟩,⟨by repeat (first|(with_reducible first | exact HB.o | apply o8 | apply pz | apply pF | refine pW ?_ Y4.o)|exact HB.o)⟩⟩
    ·rw[aK c11] at H;have Z9:decide (64<a2)=false:=aN c11;clear c11
     by_cases c14:a1<0
     ·rw[ak c14] at H;have acY:decide (a1<0)=true:=aM c14;clear c14;have H':=Yu H;clear H;have adH:w5.cell? ⟨YJ,0,none⟩=some (.slice YB Yv.length YC):=(pq Yz.o 0).trans rfl;have adI:w5.cell? ⟨YJ,1,none⟩=some (.int .i64 Yw):=(pq Yz.o 1).trans rfl;have adJ:=pE Yz.o 0;have adK:=pE Yz.o 1
      go_wp2_with (first|(go_at_call 141;(with_reducible refine (qX.c _ _ Yv Yw true _ ?YG ?YH A6.o).mono ?_);(case YG=>repeat (first | exact (Kd.pI YT.o HB.o)|(with_reducible refine Kd.qN ?_ _)|(with_reducible refine Kd.C_drewN ?_ _)|(with_reducible refine Kd.rD ?_)));(case YH=>exact Y3.o);rintro e w16 ⟨rfl,hb⟩;have n0_:=Yu (pG (g:=YJ) (o := .cells #[.slice YB Yv.length YC,.int .i64 Yw] 149 (0,0)) (by (with_reducible repeat (first | refine qh ?_ _ | refine qg ?_ | refine pU ?_ _));exact Yz.o) hb);have n1_:=Yu (o9 (by repeat (first|(with_reducible first | exact HB.o | apply o8 | apply pz | apply pF | refine pW ?_ Y4.o)|exact HB.o)) hb);clear Yz;clear HB;have Yz:=n0_;have HB:=n1_;clear n0_ n1_;(try clear hb);(try clear hb2);(try clear hk);(try clear hi)))
      repeat (go_quiet (first|(go_at_call 141;(with_reducible refine (qX.c _ _ Yv Yw true _ ?YG ?YH A6.o).mono ?_);(case YG=>repeat (first | exact (Kd.pI YT.o HB.o)|(with_reducible refine Kd.qN ?_ _)|(with_reducible refine Kd.C_drewN ?_ _)|(with_reducible refine Kd.rD ?_)));(case YH=>exact Y3.o);rintro e w16 ⟨rfl,hb⟩;have n0_:=Yu (pG (g:=YJ) (o := .cells #[.slice YB Yv.length YC,.int .i64 Yw] 149 (0,0)) (by (with_reducible repeat (first | refine qh ?_ _ | refine qg ?_ | refine pU ?_ _));exact Yz.o) hb);have n1_:=Yu (o9 (by repeat (first|(with_reducible first | exact HB.o | apply o8 | apply pz | apply pF | refine pW ?_ Y4.o)|exact HB.o)) hb);clear Yz;clear HB;have Yz:=n0_;have HB:=n1_;clear n0_ n1_;(try clear hb);(try clear hb2);(try clear hk);(try clear hi)));try go_wp2_with (first|(go_at_call 141;(with_reducible refine (qX.c _ _ Yv Yw true _ ?YG ?YH A6.o).mono ?_);(case YG=>repeat (first | exact (Kd.pI YT.o HB.o)|(with_reducible refine Kd.qN ?_ _)|(with_reducible refine Kd.C_drewN ?_ _)|(with_reducible refine Kd.rD ?_)));(case YH=>exact Y3.o);rintro e w16 ⟨rfl,hb⟩;have n0_:=Yu (pG (g:=YJ) (o := .cells #[.slice YB Yv.length YC,.int .i64 Yw] 149 (0,0)) (by (with_reducible repeat (first | refine qh ?_ _ | refine qg ?_ | refine pU ?_ _));exact Yz.o) hb);have n1_:=Yu (o9 (by repeat (first|(with_reducible first | exact HB.o | apply o8 | apply pz | apply pF | refine pW ?_ Y4.o)|exact HB.o)) hb);clear Yz;clear HB;have Yz:=n0_;have HB:=n1_;clear n0_ n1_;(try clear hb);(try clear hb2);(try clear hk);(try clear hi))))
      go_meet
      case rel=>exact⟨_,(true),(by first | rfl | (simp;done)|(simp[*];done)),H',⟨by first | omega | exact aD _⟩,⟨by (with_reducible repeat (first | refine qh ?_ _ | refine qg ?_ | refine pU ?_ _));exact Yz.o⟩,⟨by repeat (first|(with_reducible first | exact HB.o | apply o8 | apply pz | apply pF | refine pW ?_ Y4.o)|exact HB.o)⟩⟩
     ·rw[aK c14] at H;have acY:decide (a1<0)=false:=aN c14;clear c14;have H':=Yu H;clear H;have adL:w5.cell? ⟨YJ,0,none⟩=some (.slice YB Yv.length YC):=(pq Yz.o 0).trans rfl;have adM:w5.cell? ⟨YJ,1,none⟩=some (.int .i64 Yw):=(pq Yz.o 1).trans rfl;have adN:=pE Yz.o 0;have adO:=pE Yz.o 1
      go_wp2_with (first|(go_at_call 141;(with_reducible refine (qX.c _ _ Yv Yw true _ ?YG ?YH A6.o).mono ?_);(case YG=>repeat (first | exact (Kd.pI YT.o HB.o)|(with_reducible refine Kd.qN ?_ _)|(with_reducible refine Kd.C_drewN ?_ _)|(with_reducible refine Kd.rD ?_)));(case YH=>exact Y3.o);rintro e w18 ⟨rfl,hb⟩;have n0_:=Yu (pG (g:=YJ) (o := .cells #[.slice YB Yv.length YC,.int .i64 Yw] 149 (0,0)) (by (with_reducible repeat (first | refine qh ?_ _ | refine qg ?_ | refine pU ?_ _));exact Yz.o) hb);have n1_:=Yu (o9 (by repeat (first|(with_reducible first | exact HB.o | apply o8 | apply pz | apply pF | refine pW ?_ Y4.o)|exact HB.o)) hb);clear Yz;clear HB;have Yz:=n0_;have HB:=n1_;clear n0_ n1_;(try clear hb);(try clear hb2);(try clear hk);(try clear hi);have aay:w18.cell? ⟨YJ,0,none⟩=some (.slice YB Yv.length YC):=(pq Yz.o 0).trans rfl;have aaz:w18.cell? ⟨YJ,1,none⟩=some (.int .i64 Yw):=(pq Yz.o 1).trans rfl;have aaA:=pE Yz.o 0;have aaB:=pE Yz.o 1))
      repeat (go_quiet (first|(go_at_call 141;(with_reducible refine (qX.c _ _ Yv Yw true _ ?YG ?YH A6.o).mono ?_);(case YG=>repeat (first | exact (Kd.pI YT.o HB.o)|(with_reducible refine Kd.qN ?_ _)|(with_reducible refine Kd.C_drewN ?_ _)|(with_reducible refine Kd.rD ?_)));(case YH=>exact Y3.o);rintro e w18 ⟨rfl,hb⟩;have n0_:=Yu (pG (g:=YJ) (o := .cells #[.slice YB Yv.length YC,.int .i64 Yw] 149 (0,0)) (by (with_reducible repeat (first | refine qh ?_ _ | refine qg ?_ | refine pU ?_ _));exact Yz.o) hb);have n1_:=Yu (o9 (by repeat (first|(with_reducible first | exact HB.o | apply o8 | apply pz | apply pF | refine pW ?_ Y4.o)|exact HB.o)) hb);clear Yz;clear HB;have Yz:=n0_;have HB:=n1_;clear n0_ n1_;(try clear hb);(try clear hb2);(try clear hk);(try clear hi);have aay:w18.cell? ⟨YJ,0,none⟩=some (.slice YB Yv.length YC):=(pq Yz.o 0).trans rfl;have aaz:w18.cell? ⟨YJ,1,none⟩=some (.int .i64 Yw):=(pq Yz.o 1).trans rfl;have aaA:=pE Yz.o 0;have aaB:=pE Yz.o 1));try go_wp2_with (first|(go_at_call 141;(with_reducible refine (qX.c _ _ Yv Yw true _ ?YG ?YH A6.o).mono ?_);(case YG=>repeat (first | exact (Kd.pI YT.o HB.o)|(with_reducible refine Kd.qN ?_ _)|(with_reducible refine Kd.C_drewN ?_ _)|(with_reducible refine Kd.rD ?_)));(case YH=>exact Y3.o);rintro e w18 ⟨rfl,hb⟩;have n0_:=Yu (pG (g:=YJ) (o := .cells #[.slice YB Yv.length YC,.int .i64 Yw] 149 (0,0)) (by (with_reducible repeat (first | refine qh ?_ _ | refine qg ?_ | refine pU ?_ _));exact Yz.o) hb);have n1_:=Yu (o9 (by repeat (first|(with_reducible first | exact HB.o | apply o8 | apply pz | apply pF | refine pW ?_ Y4.o)|exact HB.o)) hb);clear Yz;clear HB;have Yz:=n0_;have HB:=n1_;clear n0_ n1_;(try clear hb);(try clear hb2);(try clear hk);(try clear hi);have aay:w18.cell? ⟨YJ,0,none⟩=some (.slice YB Yv.length YC):=(pq Yz.o 0).trans rfl;have aaz:w18.cell? ⟨YJ,1,none⟩=some (.int .i64 Yw):=(pq Yz.o 1).trans rfl;have aaA:=pE Yz.o 0;have aaB:=pE Yz.o 1)))
      go_meet
      case rel=>exact⟨_,(decide (a1>Yw)),(by first | rfl | (simp;done)|(simp[*];done)),H',⟨by first | omega | exact aD _⟩,⟨by (with_reducible repeat (first | refine qh ?_ _ | refine qg ?_ | refine pU ?_ _));exact Yz.o⟩,⟨by repeat (first|(with_reducible first | exact HB.o | apply o8 | apply pz | apply pF | refine pW ?_ Y4.o)|exact HB.o)⟩⟩
  ·replace c7:=Bool.eq_false_iff.mpr c7;subst c7;have H1:(p8.j0 k a1 a2 true Yv Yw)=some (r1,r2):=by rw[aK (show ¬ (false=true) by decide)] at H;exact H
   clear H;have H:=H1;clear H1;have H':=Yu H;clear H;have acK:w5.cell? ⟨YJ,0,none⟩=some (.slice YB Yv.length YC):=(pq Yz.o 0).trans rfl;have acL:w5.cell? ⟨YJ,1,none⟩=some (.int .i64 Yw):=(pq Yz.o 1).trans rfl;have acM:=pE Yz.o 0;have acN:=pE Yz.o 1
   go_wp2_with (first|(go_at_call 141;(with_reducible refine (qX.c _ _ Yv Yw false _ ?YG ?YH A6.o).mono ?_);(case YG=>repeat (first | exact (Kd.pI YT.o HB.o)|(with_reducible refine Kd.qN ?_ _)|(with_reducible refine Kd.C_drewN ?_ _)|(with_reducible refine Kd.rD ?_)));(case YH=>exact Y3.o);rintro e w21 ⟨rfl,hb⟩;have n0_:=Yu (pG (g:=YJ) (o := .cells #[.slice YB Yv.length YC,.int .i64 Yw] 149 (0,0)) (by (with_reducible repeat (first | refine qh ?_ _ | refine qg ?_ | refine pU ?_ _));exact Yz.o) hb);have n1_:=Yu (o9 (by repeat (first|(with_reducible first | exact HB.o | apply o8 | apply pz | apply pF | refine pW ?_ Y4.o)|exact HB.o)) hb);clear Yz;clear HB;have Yz:=n0_;have HB:=n1_;clear n0_ n1_;(try clear hb);(try clear hb2);(try clear hk);(try clear hi)))
   repeat (go_quiet (first|(go_at_call 141;(with_reducible refine (qX.c _ _ Yv Yw false _ ?YG ?YH A6.o).mono ?_);(case YG=>repeat (first | exact (Kd.pI YT.o HB.o)|(with_reducible refine Kd.qN ?_ _)|(with_reducible refine Kd.C_drewN ?_ _)|(with_reducible refine Kd.rD ?_)));(case YH=>exact Y3.o);rintro e w21 ⟨rfl,hb⟩;have n0_:=Yu (pG (g:=YJ) (o := .cells #[.slice YB Yv.length YC,.int .i64 Yw] 149 (0,0)) (by (with_reducible repeat (first | refine qh ?_ _ | refine qg ?_ | refine pU ?_ _));exact Yz.o) hb);have n1_:=Yu (o9 (by repeat (first|(with_reducible first | exact HB.o | apply o8 | apply pz | apply pF | refine pW ?_ Y4.o)|exact HB.o)) hb);clear Yz;clear HB;have Yz:=n0_;have HB:=n1_;clear n0_ n1_;(try clear hb);(try clear hb2);(try clear hk);(try clear hi)));try go_wp2_with (first|(go_at_call 141;(with_reducible refine (qX.c _ _ Yv Yw false _ ?YG ?YH A6.o).mono ?_);(case YG=>repeat (first | exact (Kd.pI YT.o HB.o)|(with_reducible refine Kd.qN ?_ _)|(with_reducible refine Kd.C_drewN ?_ _)|(with_reducible refine Kd.rD ?_)));(case YH=>exact Y3.o);rintro e w21 ⟨rfl,hb⟩;have n0_:=Yu (pG (g:=YJ) (o := .cells #[.slice YB Yv.length YC,.int .i64 Yw] 149 (0,0)) (by (with_reducible repeat (first | refine qh ?_ _ | refine qg ?_ | refine pU ?_ _));exact Yz.o) hb);have n1_:=Yu (o9 (by repeat (first|(with_reducible first | exact HB.o | apply o8 | apply pz | apply pF | refine pW ?_ Y4.o)|exact HB.o)) hb);clear Yz;clear HB;have Yz:=n0_;have HB:=n1_;clear n0_ n1_;(try clear hb);(try clear hb2);(try clear hk);(try clear hi))))
   go_meet
   case rel=>exact⟨_,(true),(by first | rfl | (simp;done)|(simp[*];done)),H',⟨by first | omega | exact aD _⟩,⟨by (with_reducible repeat (first | refine qh ?_ _ | refine qg ?_ | refine pU ?_ _));exact Yz.o⟩,⟨by repeat (first|(with_reducible first | exact HB.o | apply o8 | apply pz | apply pF | refine pW ?_ Y4.o)|exact HB.o)⟩⟩
 case rest=>
  clear HC4
  try clear c1
  try clear p2
  try clear c7
  try clear c8
  try clear ZF
  try clear c11
  try clear Z9
  try clear c14
  try clear acY
  try clear c15
  try clear ZU
  try clear ZV
  try clear adH
  try clear adI
  try clear adL
  try clear adM
  try clear aay
  try clear aaz
  try clear acK
  try clear acL
  try clear aew
  try clear aex
  try clear ZW
  try clear ZX
  try clear adJ
  try clear adK
  try clear adN
  try clear adO
  try clear aaA
  try clear aaB
  try clear acM
  try clear acN
  try clear aey
  try clear aez
  obtain⟨kq,adG,rfl,HA,HJ3,Yz,HB⟩:=hcut;cases kq with
  | zero=>exact absurd HA.o (by simp[p8.j0])
  | succ kj3=>
    have H:=HA.o;clear HA;simp only[p8.j0] at H
    by_cases c22:adG=true
    ·subst c22;have H1:(some (0,1))=some (r1,r2):=by rw[ak rfl] at H;exact H
     clear H;have H:=H1;clear H1;simp only[cO,dB] at H;obtain⟨rfl,rfl⟩:=H;go_wp2
     repeat (go_quiet (fail);try go_wp2)
     go_ret2
     exact⟨by first | rfl | (simp[qw,qx]<;>rfl)|(simp[*,qw,qx]<;>rfl),by repeat (first|(with_reducible first | exact HB.o | apply o8 | apply pz | apply pF | refine pW ?_ Y4.o)|exact HB.o)⟩
    ·replace c22:=Bool.eq_false_iff.mpr c22;subst c22;have H1:(if (wrap64 (Yw-a1))<a2 then (some (0,3)) else (p8.l0 kj3 a1 a2 0 Yv Yw))=some (r1,r2):=by rw[aK (show ¬ (false=true) by decide)] at H;exact H
     clear H;have H:=H1;clear H1
     by_cases c23:(wrap64 (Yw-a1))<a2
     ·rw[ak c23] at H;have adF:decide ((wrap64 (Yw-a1))<a2)=true:=aM c23;clear c23;simp only[cO,dB] at H;obtain⟨rfl,rfl⟩:=H;have afd:wc.cell? ⟨YJ,0,none⟩=some (.slice YB Yv.length YC):=(pq Yz.o 0).trans rfl;have afe:wc.cell? ⟨YJ,1,none⟩=some (.int .i64 Yw):=(pq Yz.o 1).trans rfl;have aff:=pE Yz.o 0;have afg:=pE Yz.o 1;go_wp2
      repeat (go_quiet (fail);try go_wp2)
      go_ret2
      exact⟨by first | rfl | (simp[qw,qx]<;>rfl)|(simp[*,qw,qx]<;>rfl),by repeat (first|(with_reducible first | exact HB.o | apply o8 | apply pz | apply pF | refine pW ?_ Y4.o)|exact HB.o)⟩
     ·rw[aK c23] at H;have adF:decide ((wrap64 (Yw-a1))<a2)=false:=aN c23;clear c23;have H':=Yu H;clear H;have acO:wc.cell? ⟨YJ,0,none⟩=some (.slice YB Yv.length YC):=(pq Yz.o 0).trans rfl;have acP:wc.cell? ⟨YJ,1,none⟩=some (.int .i64 Yw):=(pq Yz.o 1).trans rfl;have acQ:=pE Yz.o 0;have acR:=pE Yz.o 1;go_wp2
      repeat (go_quiet (fail);try go_wp2)
      go_loopg [1,2,8] kj3 (fun kq v1 v2 v8 w'=>∃ (Y1:Int) (Z5:Int) (ado:Int),v1 = .int .i64 Y1∧v2 = .int .i64 Z5∧v8 = .int .u64 ado∧oZ (p8.l0 kq Y1 Z5 ado Yv Yw=some (r1,r2))∧oZ (kq≤kj3)∧oZ (w'.heap[YJ]? = some (.cells #[(.slice YB Yv.length YC),.int .i64 Yw] 149 (0,0)))∧oZ (Below w.heap.size w w'))
      case atStart=>exact⟨(a1),(a2),(0),(by first | rfl | (simp;done)|(simp[*];done)),(by first | rfl | (simp;done)|(simp[*];done)),(by first | rfl | (simp;done)|(simp[*];done)),H',⟨aD _⟩,⟨by (with_reducible repeat (first | refine qh ?_ _ | refine qg ?_ | refine pU ?_ _));exact Yz.o⟩,⟨by repeat (first|(with_reducible first | exact HB.o | apply o8 | apply pz | apply pF | refine pW ?_ Y4.o)|exact HB.o)⟩⟩
      case round=>
       clear H'
       try clear c1
       try clear c2
       try clear p2
       try clear p6
       try clear c7
       try clear c8
       try clear ZF
       try clear c11
       try clear Z9
       try clear c14
       try clear acY
       try clear c15
       try clear c22
       try clear c23
       try clear adF
       try clear ZU
       try clear ZV
       try clear adH
       try clear adI
       try clear adL
       try clear adM
       try clear aay
       try clear aaz
       try clear acK
       try clear acL
       try clear afd
       try clear afe
       try clear acO
       try clear acP
       try clear aew
       try clear aex
       try clear ZW
       try clear ZX
       try clear adJ
       try clear adK
       try clear adN
       try clear adO
       try clear aaA
       try clear aaB
       try clear acM
       try clear acN
       try clear aff
       try clear afg
       try clear acQ
       try clear acR
       try clear aey
       try clear aez
       try clear p2
       obtain⟨Y1,Z5,ado,rfl,rfl,rfl,HA,HK2,Yz,HB⟩:=hrel;cases gk with
       | zero=>exact absurd HA.o (by simp[p8.l0])
       | succ k2=>
         have H:=HA.o;clear HA;simp only[p8.l0] at H
         by_cases c26:Z5>0
         ·rw[ak c26] at H;have aev:decide (0<Z5)=true:=aM c26;clear c26;obtain⟨Y2,acZ⟩:∃ j_:Int,(mn (wrap64 (8-(Int.tmod Y1 8))) Z5)=j_:=⟨_,rfl⟩;replace H:(if 0≤(Y2) then (if 0≤(wrap64 (Int.tdiv Y1 8)) then (if (wrap64 (Int.tdiv Y1 8))<(Yv.length:Int) then (if 0≤(wrap64 ((wrap64 (8-(Int.tmod Y1 8)))-(Y2))) then (p8.l0 k2 (wrap64 (Y1+(Y2))) (wrap64 (Z5-(Y2))) (Go.bits .or .u64 (shl .u64 ado (Y2)) (IntKind.u64.wrap (Go.bits .and .u8 (shr .u8 (rd Yv (wrap64 (Int.tdiv Y1 8))) (wrap64 ((wrap64 (8-(Int.tmod Y1 8)))-(Y2)))) (((shl .u8 1 (Y2))-1) % 256)))) Yv Yw) else (none)) else (none)) else (none)) else (none))=some (r1,r2):=by first|(rw[acZ] at H;exact H)|(simp only[acZ] at H ⊢;exact H)
          have aiJ:(if Z5<(wrap64 (8-(Int.tmod Y1 8))) then Z5 else (wrap64 (8-(Int.tmod Y1 8))))=Y2:=acZ
          by_cases c28:0≤(Y2)
          ·rw[ak c28] at H;have aj0:=bR c28;have aj1:decide (0≤(Y2))=true:=aM c28;clear c28;obtain⟨ac0,ac1⟩:∃ j_:Int,(shl .u64 ado (Y2))=j_:=⟨_,rfl⟩;replace H:(if 0≤(wrap64 (Int.tdiv Y1 8)) then (if (wrap64 (Int.tdiv Y1 8))<(Yv.length:Int) then (if 0≤(wrap64 ((wrap64 (8-(Int.tmod Y1 8)))-(Y2))) then (p8.l0 k2 (wrap64 (Y1+(Y2))) (wrap64 (Z5-(Y2))) (Go.bits .or .u64 (ac0) (IntKind.u64.wrap (Go.bits .and .u8 (shr .u8 (rd Yv (wrap64 (Int.tdiv Y1 8))) (wrap64 ((wrap64 (8-(Int.tmod Y1 8)))-(Y2)))) (((shl .u8 1 (Y2))-1) % 256)))) Yv Yw) else (none)) else (none)) else (none))=some (r1,r2):=by first|(rw[ac1] at H;exact H)|(simp only[ac1] at H ⊢;exact H)
           have aiK:(IntKind.u64.wrap (ado*2 ^ min (Y2).toNat 64))=ac0:=ac1;have aiL:(Y2)≤64→(IntKind.u64.wrap (ado*2 ^ (Y2).toNat))=ac0:=wO ac1;obtain⟨Z7,aeA⟩:∃ j_:Int,(wrap64 (Int.tdiv Y1 8))=j_:=⟨_,rfl⟩;replace H:(if 0≤(Z7) then (if (Z7)<(Yv.length:Int) then (if 0≤(wrap64 ((wrap64 (8-(Int.tmod Y1 8)))-(Y2))) then (p8.l0 k2 (wrap64 (Y1+(Y2))) (wrap64 (Z5-(Y2))) (Go.bits .or .u64 (ac0) (IntKind.u64.wrap (Go.bits .and .u8 (shr .u8 (rd Yv (Z7)) (wrap64 ((wrap64 (8-(Int.tmod Y1 8)))-(Y2)))) (((shl .u8 1 (Y2))-1) % 256)))) Yv Yw) else (none)) else (none)) else (none))=some (r1,r2):=by first|(rw[aeA] at H;exact H)|(simp only[aeA] at H ⊢;exact H)
           have aiM:(IntKind.i64.wrap (Int.tdiv Y1 8))=Z7:=(rH _).trans aeA
           by_cases c31:0≤(Z7)
           ·rw[ak c31] at H;have aj2:decide (0≤(Z7))=true:=aM c31;clear c31
            by_cases c32:(Z7)<(Yv.length:Int)
            ·rw[ak c32] at H;have aha:decide ((Z7)<(Yv.length:Int))=true:=aM c32;clear c32;obtain⟨ZG,ZE⟩:∃ j_:Int,(wrap64 ((wrap64 (8-(Int.tmod Y1 8)))-(Y2)))=j_:=⟨_,rfl⟩;replace H:(if 0≤(ZG) then (p8.l0 k2 (wrap64 (Y1+(Y2))) (wrap64 (Z5-(Y2))) (Go.bits .or .u64 (ac0) (IntKind.u64.wrap (Go.bits .and .u8 (shr .u8 (rd Yv (Z7)) (ZG)) (((shl .u8 1 (Y2))-1) % 256)))) Yv Yw) else (none))=some (r1,r2):=by first|(rw[ZE] at H;exact H)|(simp only[ZE] at H ⊢;exact H)
             have aiN:(IntKind.i64.wrap ((wrap64 (8-(Int.tmod Y1 8)))-(Y2)))=ZG:=(rH _).trans ZE
             by_cases c34:0≤(ZG)
             ·rw[ak c34] at H;have ahb:=bR c34;have aj3:decide (0≤(ZG))=true:=aM c34;clear c34;obtain⟨Z8,Zh⟩:∃ j_:Int,(shr .u8 (rd Yv (Z7)) (ZG))=j_:=⟨_,rfl⟩;replace H:(p8.l0 k2 (wrap64 (Y1+(Y2))) (wrap64 (Z5-(Y2))) (Go.bits .or .u64 (ac0) (IntKind.u64.wrap (Go.bits .and .u8 (Z8) (((shl .u8 1 (Y2))-1) % 256)))) Yv Yw)=some (r1,r2):=by first|(rw[Zh] at H;exact H)|(simp only[Zh] at H ⊢;exact H)
              have agh:((rd Yv (Z7)) / 2 ^ min (ZG).toNat 8)=Z8:=Zh;have agi:(ZG)≤8→((rd Yv (Z7)) / 2 ^ (ZG).toNat)=Z8:=Ed Zh;have aj4:=bR (aV (by assumption):0≤(Y2));obtain⟨ad3,ac2⟩:∃ j_:Int,(shl .u8 1 (Y2))=j_:=⟨_,rfl⟩;replace H:(p8.l0 k2 (wrap64 (Y1+(Y2))) (wrap64 (Z5-(Y2))) (Go.bits .or .u64 (ac0) (IntKind.u64.wrap (Go.bits .and .u8 (Z8) (((ad3)-1) % 256)))) Yv Yw)=some (r1,r2):=by first|(rw[ac2] at H;exact H)|(simp only[ac2] at H ⊢;exact H)
              have agj:(IntKind.u8.wrap (1*2 ^ min (Y2).toNat 8))=ad3:=ac2;have agk:(Y2)≤8→(IntKind.u8.wrap (1*2 ^ (Y2).toNat))=ad3:=wO ac2;have aiO:(IntKind.u8.wrap (2 ^ min (Y2).toNat 8))=ad3:=by have h_:=agj;rw[kg] at h_;exact h_
              have aiP:(Y2)≤8→(IntKind.u8.wrap (2 ^ (Y2).toNat))=ad3:=fun adn=>by have h_:=agk adn;rw[kg] at h_;exact h_
              have H':=Yu H;clear H;have afh:wr.cell? ⟨YJ,0,none⟩=some (.slice YB Yv.length YC):=(pq Yz.o 0).trans rfl;have afi:wr.cell? ⟨YJ,1,none⟩=some (.int .i64 Yw):=(pq Yz.o 1).trans rfl;have afj:=pE Yz.o 0;have afk:=pE Yz.o 1;have agl:0≤((Z7):Int):=aV (by assumption);have agm:(Z7)<(Yv.length:Int):=aV (by assumption);obtain⟨aj5,aiQ,acS⟩:=Kd.Du YT.o (Z7) agl agm;cases aiQ;replace acS:=(HB.o.cell (gV w _ acS)).trans acS;replace agl:=bR agl;replace agm:=bR agm;go_wp2
              repeat (go_quiet (fail);try go_wp2)
              go_roundg k2
              case measure=>have:=HJ3.o;have:=HK2.o;omega
              case rel=>exact⟨(wrap64 (Y1+(Y2))),(wrap64 (Z5-(Y2))),(Go.bits .or .u64 (ac0) (IntKind.u64.wrap (Go.bits .and .u8 (Z8) (((ad3)-1) % 256)))),(by first | rfl | (simp;done)|(simp only[← acZ]<;>(first | rfl | simp))|(simp[*];done)),(by first | rfl | (simp;done)|(simp only[← acZ]<;>(first | rfl | simp))|(simp[*];done)),(by first | rfl | (simp;done)|(simp only[← ac1,← Zh,← ac2]<;>(first | rfl | simp))|(simp[*];done)),H',⟨by have:=HJ3.o;have:=HK2.o;omega⟩,⟨by (with_reducible repeat (first | refine qh ?_ _ | refine qg ?_ | refine pU ?_ _));exact Yz.o⟩,⟨by repeat (first|(with_reducible first | exact HB.o | apply o8 | apply pz | apply pF | refine pW ?_ Y4.o)|exact HB.o)⟩⟩
             ·rw[aK c34] at H;exact absurd H (by simp)
            ·rw[aK c32] at H;exact absurd H (by simp)
           ·rw[aK c31] at H;exact absurd H (by simp)
          ·rw[aK c28] at H;exact absurd H (by simp)
         ·rw[aK c26] at H;have aev:decide (0<Z5)=false:=aN c26;clear c26;simp only[cO,dB] at H;obtain⟨rfl,rfl⟩:=H;go_wp2
          repeat (go_quiet (fail);try go_wp2)
          go_ret2
          exact⟨by first | rfl | (simp[qw,qx]<;>rfl)|(simp[*,qw,qx]<;>rfl),by repeat (first|(with_reducible first | exact HB.o | apply o8 | apply pz | apply pF | refine pW ?_ Y4.o)|exact HB.o)⟩
end Go.Proofs.Y.PA
