/- Of the law rZIQDumpBack. -/
import Derived.Test.YtcgbgifbajdhpaaGreatDoorZI7
set_option linter.unusedVariables false
set_option linter.unusedSimpArgs false
set_option maxHeartbeats 1000000
set_option maxRecDepth 100000
namespace Go
abbrev gY:=@List.map_append
abbrev oK:=@Bool.and_false
end Go
namespace Go.Proofs.Y.PA
open Go.RowKit Go.Proofs.Y.G Go.Proofs.YW.o7 Go.Proofs.YW.pJ Go.Proofs.YW.pO
theorem KM.c (r:Int)(w:World):Calls Tryz.prog 140 #[.int .i32 r] w fun e w'=>e = .returned (.bool (KM r))∧w'=w:=by
 by_cases h1:32≤r
 ·cases h2:(r==127) with
  | true=>
    have HV:oZ (KM r=false):=⟨by rw[KM,aM (beq_iff_eq.1 h2)];simp⟩;have h2':(r != 127)=false:=bne_eq_false_iff_eq.2 (beq_iff_eq.1 h2)
    go_enter Tryz.func140,Tryz.ntmps140
    go_wp2;go_ret;exact⟨by rw[HV.o];rfl,rfl⟩
  | false=>
    have h2':(r != 127)=true:=bne_iff_ne.2 (beq_eq_false_iff_ne.1 h2);have HV:oZ (KM r=(r != 65533)):=⟨by
     rw[KM,aM h1,aN (beq_eq_false_iff_ne.1 h2)]
     by_cases h3:r=65533
     ·rw[aM h3,bne_eq_false_iff_eq.2 h3];rfl
     ·rw[aN h3,bne_iff_ne.2 h3];rfl⟩
    go_enter Tryz.func140,Tryz.ntmps140
    go_wp2;go_ret;exact⟨by rw[HV.o];rfl,rfl⟩
 ·have HV:oZ (KM r=false):=⟨by rw[KM,aN h1];rfl⟩
  go_enter Tryz.func140,Tryz.ntmps140
  go_wp2;go_ret;exact⟨by rw[HV.o];rfl,rfl⟩
theorem Vp (s:ByteArray):(!s.toList.isEmpty)=decide (1≤s.size):=by
 have h:s.toList.length=s.size:=by rw[jd];simp
 generalize s.toList=l at h;rw[← h];cases l with
 | nil=>rfl
 | cons a l=>rw[aM (by simp)];rfl
def tZ (s:ByteArray):Bool:=decide (1≤s.size)&&decide (s.size≤40)&&vK s
theorem tZ.c (s:ByteArray)(w:World):Calls Tryz.prog 122 #[.string s] w fun e w'=>e = .returned (.bool (tZ s))∧Below w.heap.size w w':=by
 go_enter Tryz.func122,Tryz.ntmps122
 go_wp2
 go_loopw [] (fun w'=>∃ (pos b:Nat),w'=w.iter s pos∧oZ (vK s=ET s b pos)∧s.size≤pos+b) (fun w'=>s.size-w'.iterPos w.heap.size)
 case atStart=>exact⟨0,s.size,rfl,⟨rfl⟩,by omega⟩
 case round=>
  obtain⟨pos,b,rfl,HC,hb⟩:=hrel
  by_cases hp:pos<s.size
  ·have hnx:∀ ty,(Instr.next (.pointer (some ⟨w.heap.size,0,none⟩)) true ty).run Tryz.prog (w.iter s pos)=_:=fun ty=>run_next_any w s pos ty hp
   have hwd:=width_pos s pos hp;cases b with
   | zero=>omega
   | succ b=>
     have HS:oZ (vK s=(KM ((Utf8.decode s pos).1:Int)&&ET s b (pos+(Utf8.decode s pos).2))):=⟨by rw[HC.o,ET,ak hp]⟩;generalize (((Utf8.decode s pos).1:Nat):Int)=r at hnx HS;have HB:=Yu (vS w s (pos+(Utf8.decode s pos).2));cases hr:KM r with
     | false=>
       have ae4:oZ (∀ W,Calls Tryz.prog 140 #[.int .i32 r] W fun e w'=>e = .returned (.bool false)∧w'=W):=⟨fun W=>hr ▸ KM.c r W⟩;have HF:oZ (vK s=false):=⟨by rw[HS.o,hr];rfl⟩;clear hr
       go_wp2_with (first|(go_at_call 140;(with_reducible refine (ae4.o _).mono ?_);rintro e w1 ⟨rfl,rfl⟩))
       go_ret;exact⟨by rw[tZ,HF.o,oK];rfl,HB.o⟩
     | true=>
       have af9:oZ (∀ W,Calls Tryz.prog 140 #[.int .i32 r] W fun e w'=>e = .returned (.bool true)∧w'=W):=⟨fun W=>hr ▸ KM.c r W⟩;have HF:oZ (vK s=ET s b (pos+(Utf8.decode s pos).2)):=⟨by rw[HS.o,hr];rfl⟩;clear hr
       go_wp2_with (first|(go_at_call 140;(with_reducible refine (af9.o _).mono ?_);rintro e w1 ⟨rfl,rfl⟩))
       refine⟨⟨pos+(Utf8.decode s pos).2,b,rfl,HF,by omega⟩,?_⟩;simp;omega
  ·have hnx:∀ ty,(Instr.next (.pointer (some ⟨w.heap.size,0,none⟩)) true ty).run Tryz.prog (w.iter s pos)=_:=fun ty=>run_next_end w s pos ty hp
   have HV:oZ (vK s=true):=⟨by rw[HC.o,MB s b pos hp]⟩;have he:=Vp s
   by_cases h1:1≤s.size
   ·rw[aM h1] at he;go_wp2;go_ret;exact⟨by rw[tZ,HV.o,aM h1];simp;omega,vS _ _ _⟩
   ·rw[aN h1] at he;go_wp2;go_ret;exact⟨by rw[tZ,aN h1];rfl,vS _ _ _⟩
end Go.Proofs.Y.PA
namespace Go.Proofs.Y.G
open Go.RowKit Go.Proofs.YW.o7 Go.Proofs.YW.pJ Go.Proofs.YW.pO
structure zD (w:World):Prop where mk::(o:∀ j,j<4→w.cell? ⟨1,j,none⟩=some (.int .u32 (qF.quarter j:Nat)))
theorem zD.below {w w1:World}(h:zD w)(hb:Below w.heap.size w w1):zD w1:=⟨fun j hj=>qm hb (h.o j hj)⟩
def yX.f (s:Int)(l:List Int):Option Int:=if okB l=true∧0≤s∧s<4294967296 then some ((qF.more s.toNat l:Nat):Int) else none
def wT.f (l:List Int):Option Int:=if okB l=true then some ((qF.more 0 l:Nat):Int) else none
theorem Te (l:List Int)(k:Nat)(hk:k<l.length):qF.nat (l.take (k+1))=qF.nat (l.take k)++[(rd l (k:Int)).toNat]:=by
 have e:rd l (k:Int)=l[k]:=by simp[rd,bn,aQ hk]
 rw[cZ hk,e];unfold qF.nat;rw[gY];rfl
theorem TV (r:Nat)(l:List Int)(k:Nat)(hk:k<l.length):qF.run r (qF.nat (l.take (k+1)))=qF.eight (qF.run r (qF.nat (l.take k)) ^^^ (rd l (k:Int)).toNat):=by
 rw[Te l k hk,qF.Oi];rfl
theorem QY {l:List Int}(hl:okB l=true)(k:Nat):∀ x∈l.take k,0≤x∧x<256:=fun x hx=>rT.1 hl x (dO hx)
theorem V5 (a b:Nat)(ha:a<4294967296)(hb:b<4294967296):Go.bits .xor .u32 (a:Int) (b:Int)=((a ^^^ b:Nat):Int):=u32_xor_nat a b ha hb
theorem Hf (j:Nat):qF.quarter j<4294967296:=by unfold qF.quarter;split<;>decide
def Oz:Nat→Nat→Nat
 | 0,r=>r
 | n+1,r=>qF.two (Oz n r)
theorem Xg {r:Nat}(h:r<4294967296):qF.two r<4294967296:=by rw[qF.Um];exact qF.NV (qF.NV h)
theorem Py {r:Nat}(h:r<4294967296):∀ n,Oz n r<4294967296
 | 0=>h
 | n+1=>Xg (Py h n)
theorem X0 (r:Nat):Oz 4 r=qF.eight r:=qF.Sz r
def O4 (n:Int):Int:=Go.bits .xor .u32 4294967295 n
theorem Jj (S:Nat)(h:S<4294967296):O4 (S:Int)=((qF.inv S:Nat):Int):=by
 unfold O4;have:=u32_xor_nat 4294967295 S (by omega) h;rw[qF.inv_def];exact this
theorem IJ (n:Int):Op.unary .xor (.int .u32 n)=pure (.int .u32 (O4 n)):=rfl
attribute [local go_sem high] IJ
theorem yX.c (a0:Int)(A1:Option Addr)(c1:Nat)(l1:List Int)(r:Int)(w:World)(hr1:Kd.C (Kd.int .u8) w A1 l1.length l1)(hc1:l1.length≤c1)(hT:zD w)(h:yX.f a0 l1=some r) :
 Calls Tryz.prog 127 #[.int .u32 a0,.slice A1 l1.length c1] w fun e w'=>e = .returned (.int .u32 r)∧pQ w w':=by
 have HR:=Yu hr1;have hlen:l1.length≤9223372036854775807:=Kd.Xt hr1;clear hr1 hc1;unfold yX.f at h;split at h
 case isFalse=>cases h
 case isTrue hok=>
 obtain rfl:=bE h;clear h;obtain⟨hb,h0,h1⟩:=hok;obtain⟨S,rfl⟩:=dA h0;rw[bf];have hi:=Jj S (by omega);clear h0
 go_enter Tryz.func127,Tryz.ntmps127
 go_wp2;have hl:(qF.inv S)<4294967296:=qF.NR (by omega)
 go_loop [5,12] (fun r i=>∃ k:Nat,k≤l1.length∧i = .int .i64 k∧r = .int .u32 (qF.run (qF.inv S) (qF.nat (l1.take k)):Nat)) (fun _ i=>l1.length-(intOf i).toNat)
 case atStart=>exact⟨0,bV _,rfl,rfl⟩
 case round=>
  obtain⟨k,hk,rfl,rfl⟩:=hrel
  by_cases hlt:k<l1.length
  ·obtain⟨ad,rfl,hc⟩:=Kd.Du HR.o (k:Int) (by omega) (by omega);rw[bf] at hc;have hx:=rT.1 hb _ (Kz l1 k hlt);have HT:=Yu (TV (qF.inv S) l1 k hlt);have hR:=qF.Oj hl (qF.GU (QY hb k));generalize qF.run (qF.inv S) (qF.nat (l1.take k))=R at hR HT ⊢;obtain⟨X,hX⟩:=dA hx.1;rw[hX] at hc hx HT;rw[bf] at HT;clear hX;have hw:IntKind.u32.wrap (X:Int)=(X:Int):=by rw[IntKind.wrap_u32];omega
   have aef:=V5 R X hR (by omega);have hL:R ^^^ X<4294967296:=jC (n:=32) hR (by omega);go_wp2;generalize R ^^^ X=Y at hL HT aef ⊢;clear aef hw hc hx hR
   go_loop [5,20] (fun r i=>∃ j:Nat,j≤4∧i = .int .i64 j∧r = .int .u32 (Oz j Y:Nat)) (fun _ i=>4-(intOf i).toNat)
   case atStart=>exact⟨0,by omega,rfl,rfl⟩
   case round=>
    obtain⟨j,hj,rfl,rfl⟩:=hrel;have hT':=Py hL j
    by_cases hj4:j<4
    ·have HN:oZ (Oz (j+1) Y=qF.two (Oz j Y)):=⟨rfl⟩;generalize Oz j Y=Z at hT' HN ⊢;have hq:=hT.o (Z % 4) (iI _ (by omega));have ha:Go.bits .and .u32 (Z:Int) 3=((Z % 4:Nat):Int):=by
      rw[show (3:Int)=((3:Nat):Int) from rfl,u32_and_nat Z 3 hT' (by omega),nat_mask2]
     have aef:Go.bits .xor .u32 ((Z:Int) / 4) ((qF.quarter (Z % 4):Nat):Int)=((qF.two Z:Nat):Int):=by
      rw[show (Z:Int) / 4=((Z / 4:Nat):Int) from by omega];exact V5 (Z / 4) (qF.quarter (Z % 4)) (by omega) (Hf _)
     generalize qF.two Z=M at aef HN;have hi4:Z % 4<4:=iI _ (by omega);have hq4:=Hf (Z % 4);generalize qF.quarter (Z % 4)=q at hq aef hq4;generalize Z % 4=i at hq ha hi4;have h0:(0:Int)≤(i:Int):=by omega
     have h4:(i:Int)<4:=by omega
     have HH:=Yu hq4;have HZ:=Yu hT';clear hi4 hq4 hT' hL h1 hl hi hj;go_wp2
     go_round
     case rel=>exact⟨j+1,by omega,by go_num,by rw[HN.o]⟩
     case measure=>simp[intOf];omega
    ·obtain rfl:j=4:=by omega
     go_wp2
     go_round
     case rel=>exact⟨k+1,by omega,by go_num,by rw[HT.o,X0]⟩
     case measure=>simp[intOf];omega
  ·obtain rfl:k=l1.length:=by omega
   have hfin:O4 ((qF.run (qF.inv S) (qF.nat l1):Nat):Int)=((qF.more S l1:Nat):Int):=Jj _ (qF.Oj hl (qF.GU (rT.1 hb)));go_wp2;go_ret;exact⟨rfl,pQ.refl _⟩
theorem wT.c (A0:Option Addr)(c0:Nat)(l0:List Int)(r:Int)(w:World)(hr0:Kd.C (Kd.int .u8) w A0 l0.length l0)(hc0:l0.length≤c0)(hT:zD w)(h:wT.f l0=some r) :
 Calls Tryz.prog 96 #[.slice A0 l0.length c0] w fun e w'=>e = .returned (.int .u32 r)∧pQ w w':=by
 have hm:yX.f 0 l0=some r:=by
  unfold wT.f at h;unfold yX.f;split at h
  ·rename_i hb;rw[ak ⟨hb,by omega,by omega⟩];exact h
  ·cases h
 have HR:=Yu hr0;have HM:=Yu hm;have HC:=Yu hc0;clear hr0 hm hc0 h
 go_enter Tryz.func96,Tryz.ntmps96
 go_wp2_with fail
 refine (yX.c _ _ _ _ _ _ HR.o HC.o hT HM.o).mono ?_;rintro e w1 ⟨rfl,⟨n1,rfl⟩⟩;go_wp2;go_ret;exact⟨rfl,⟨n1,rfl⟩⟩
theorem wT.qP {n:Nat}(A0:Option Addr)(c0:Nat)(l0:List Int)(r:Int)(w:World)(hn:l0.length=n)(hr0:Kd.C (Kd.int .u8) w A0 n l0)(hc0:n≤c0)(hT:zD w)(h:wT.f l0=some r) :
 Calls Tryz.prog 96 #[.slice A0 n c0] w fun e w'=>e = .returned (.int .u32 r)∧pQ w w':=by
 subst hn;exact wT.c A0 c0 l0 r w hr0 hc0 hT h
end Go.Proofs.Y.G
