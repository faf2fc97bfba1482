/- Of the law rZIQDumpBack. -/
import Derived.Test.YtcgbgifbajdhpaaGreatDoorZI5
import Derived.Lib.Hide
import Derived.Laws.Cover1
import Derived.WalkSpells
import Derived.Shelf.Spec.TrailingZeros
import Derived.Test.YtcgbgifbajdhpaaGreatDoorZI6
set_option linter.unusedVariables false
set_option linter.unusedSimpArgs false
set_option maxHeartbeats 8000000
set_option maxRecDepth 100000
namespace Go
abbrev aM:=@decide_eq_true
abbrev aN:=@decide_eq_false
abbrev dP:=@List.mem_of_getElem?
abbrev dS:=@Option.bind_some
abbrev eF:=@List.getElem_mem
abbrev gu:=@List.mem_singleton
abbrev gT:=@Int.natCast_nonneg
abbrev iw:=@List.not_mem_nil
abbrev jd:=@Go.ByteArray.toList_eq
abbrev jq:=@Array.size_setIfInBounds
abbrev jy:=@Array.getElem?_setIfInBounds
abbrev kE:=@Bool.not_eq_true'
abbrev kF:=@List.getElem_take
abbrev lJ:=@Nat.pow_succ
abbrev mJ:=@Go.Lib.run_eql_slice_nil
abbrev mO:=@Array.getElem?_setIfInBounds_ne
abbrev nu:=@List.map_congr_left
abbrev nR:=@List.length_range
abbrev nX:=@List.map_map
abbrev oJ:=@List.mem_of_mem_erase
abbrev oP:=@Nat.mul_assoc
end Go
namespace Go.Proofs.Y.PA
open Go.RowKit Go.Proofs.YW.o7 Go.Proofs.YW.pJ Go.Proofs.YW.pO
attribute [local go_sem] rZ r9 sU sV rX rY sN sO
def XG:Option Int→Value
 | none => .nilIface
 | some c => .iface 0 (.int .i64 c)
theorem qw:XG none = .nilIface:=rfl
theorem qx (c:Int):XG (some c) = .iface 0 (.int .i64 c):=rfl
theorem zl:(Tryz.prog.info? 51).map (fun i=>(i.zero,i.size,i.bytes))=some (some (.agg #[(.slice none 0 0),(.slice none 0 0)]),2,48):=by kernel_rfl
theorem NP:(Tryz.prog.info? 68).map (fun i=>(i.zero,i.size,i.bytes))=some (some (.agg #[(.string ⟨#[]⟩),(.string ⟨#[]⟩)]),2,32):=by kernel_rfl
theorem yj:(Tryz.prog.info? 70).map (fun i=>(i.zero,i.size,i.bytes))=some (some (.agg #[(.int .i64 0),(.int .u64 0)]),2,16):=by kernel_rfl
structure rW where
 f0:ByteArray
 f1:ByteArray
def z68:rW:=⟨(⟨#[]⟩:ByteArray),(⟨#[]⟩:ByteArray)⟩
def wE:Kd rW:=Kd.XJ (Kd.pair Kd.string Kd.string) (fun x:rW=>(x.f0,x.f1))
theorem Me {w:World}{x:rW}{cs:List Value}(h:wE.K w x cs):cs=[.string x.f0,.string x.f1]:=by
 obtain⟨_,_,rfl,rfl,rfl⟩:=h;exact rfl
theorem SX (w:World)(x:rW)  : wE.K w x [.string x.f0,.string x.f1]:=⟨[.string x.f0],[.string x.f1],rfl,rfl,rfl⟩
theorem Fp (w:World)(base:Nat)(ok:Nat→Prop)(x:rW)  : wE.M w base ok x [.string x.f0,.string x.f1]:=⟨[.string x.f0],[.string x.f1],rfl,rfl,rfl⟩
def qM (xs:List rW)(i:Int):rW:=xs.getD i.toNat z68
theorem wu {w:World}{A:Option Addr}{n:Nat}{xs:List rW}(h:Kd.C wE w A n xs)(i:Int)(h0:0≤i)(h1:i<n):∃ ad , A=some ad∧w.cell? (ad.add (i.toNat*2))=some (.string (qM xs i).f0)∧w.cell? ⟨(ad.add (i.toNat*2)).block,(ad.add (i.toNat*2)).off+1,none⟩=some (.string (qM xs i).f1):=by
 obtain⟨ad,c,e,_,hK,hc0⟩:=Kd.Bh h z68 i h0 h1;have hc:∀ j u,c[j]? = some u→w.cell? (ad.add (i.toNat*2+j))=some u:=hc0;obtain rfl:=Me hK;exact⟨ad,e,hc 0 _ rfl,by rw[← vF _ _ 1 (by omega)];exact hc 1 _ rfl⟩
structure qC where
 f0:Int
 f1:Int
def z70:qC:=⟨(0:Int),(0:Int)⟩
def vk:Kd qC:=Kd.XJ (Kd.pair (Kd.int .i64) (Kd.int .u64)) (fun x:qC=>(x.f0,x.f1))
theorem Mf {w:World}{x:qC}{cs:List Value}(h:vk.K w x cs):cs=[.int .i64 x.f0,.int .u64 x.f1]:=by
 obtain⟨_,_,rfl,rfl,rfl⟩:=h;exact rfl
theorem Qo {w:World}{base:Nat}{ok:Nat→Prop}{x:qC}{cs:List Value}(h:vk.M w base ok x cs):cs=[.int .i64 x.f0,.int .u64 x.f1]:=by
 obtain⟨_,_,rfl,rfl,rfl⟩:=h;exact rfl
theorem S9 (w:World)(x:qC)  : vk.K w x [.int .i64 x.f0,.int .u64 x.f1]:=⟨[.int .i64 x.f0],[.int .u64 x.f1],rfl,rfl,rfl⟩
theorem Fq (w:World)(base:Nat)(ok:Nat→Prop)(x:qC)  : vk.M w base ok x [.int .i64 x.f0,.int .u64 x.f1]:=⟨[.int .i64 x.f0],[.int .u64 x.f1],rfl,rfl,rfl⟩
def pV (xs:List qC)(i:Int):qC:=xs.getD i.toNat z70
theorem uD {w:World}{A:Option Addr}{n:Nat}{xs:List qC}(h:Kd.C vk w A n xs)(i:Int)(h0:0≤i)(h1:i<n):∃ ad , A=some ad∧w.cell? (ad.add (i.toNat*2))=some (.int .i64 (pV xs i).f0)∧w.cell? ⟨(ad.add (i.toNat*2)).block,(ad.add (i.toNat*2)).off+1,none⟩=some (.int .u64 (pV xs i).f1):=by
 obtain⟨ad,c,e,_,hK,hc0⟩:=Kd.Bh h z70 i h0 h1;have hc:∀ j u,c[j]? = some u→w.cell? (ad.add (i.toNat*2+j))=some u:=hc0;obtain rfl:=Mf hK;exact⟨ad,e,hc 0 _ rfl,by rw[← vF _ _ 1 (by omega)];exact hc 1 _ rfl⟩
structure qJ where
 f0:(List rW)
 f1:(List qC)
def z51:qJ:=⟨([]:List rW),([]:List qC)⟩
def yD:Kd qJ:=Kd.XJ (Kd.pair (Kd.slice 68 wE) (Kd.slice 70 vk)) (fun x:qJ=>(x.f0,x.f1))
theorem CJ {w:World}{x:qJ}{cs:List Value}(h:yD.K w x cs):∃ A0 c0 A1 c1,cs=[.slice A0 x.f0.length c0,.slice A1 x.f1.length c1]∧x.f0.length≤c0∧wE.C w A0 x.f0.length x.f0∧x.f1.length≤c1∧vk.C w A1 x.f1.length x.f1:=by
 obtain⟨_,_,rfl,⟨A0,c0,rfl,l0,g0⟩,⟨A1,c1,rfl,l1,g1⟩⟩:=h;exact⟨A0,c0,A1,c1,rfl,l0,g0,l1,g1⟩
theorem DV (w:World)(x:qJ){A0:Option Addr}{c0:Nat}(l0:x.f0.length≤c0)(g0:wE.C w A0 x.f0.length x.f0){A1:Option Addr}{c1:Nat}(l1:x.f1.length≤c1)(g1:vk.C w A1 x.f1.length x.f1):yD.K w x [.slice A0 x.f0.length c0,.slice A1 x.f1.length c1]:=⟨[.slice A0 x.f0.length c0],[.slice A1 x.f1.length c1],rfl,⟨A0,c0,rfl,l0,g0⟩,⟨A1,c1,rfl,l1,g1⟩⟩
theorem Aw {W:World}{ok:Nat→Prop}{x:qJ}{cs:List Value}(h:Kd.FK yD W ok x cs):∃ A0 c0 A1 c1,cs=[.slice A0 x.f0.length c0,.slice A1 x.f1.length c1]∧x.f0.length≤c0∧Kd.F wE W ok A0 x.f0.length x.f0∧x.f1.length≤c1∧Kd.F vk W ok A1 x.f1.length x.f1:=by
 obtain⟨A0,c0,A1,c1,rfl,l0,_,l1,_⟩:=CJ (Kd.Dq h);exact⟨A0,c0,A1,c1,rfl,l0,(fun W' hW=>by obtain⟨A0_,c0_,A1_,c1_,he,l0_,g0_,l1_,g1_⟩:=CJ (h W' hW);injection (bE (show some (Value.slice A0 x.f0.length c0)=some (Value.slice A0_ x.f0.length c0_) from gG (fun l=>l[0]?) he)) with ha_ _ _;rw[ha_];exact g0_),l1,(fun W' hW=>by obtain⟨A0_,c0_,A1_,c1_,he,l0_,g0_,l1_,g1_⟩:=CJ (h W' hW);injection (bE (show some (Value.slice A1 x.f1.length c1)=some (Value.slice A1_ x.f1.length c1_) from gG (fun l=>l[1]?) he)) with ha_ _ _;rw[ha_];exact g1_)⟩
theorem U5 (W:World)(ok:Nat→Prop)(x:qJ){A0:Option Addr}{c0:Nat}(l0:x.f0.length≤c0)(g0:Kd.F wE W ok A0 x.f0.length x.f0){A1:Option Addr}{c1:Nat}(l1:x.f1.length≤c1)(g1:Kd.F vk W ok A1 x.f1.length x.f1):Kd.FK yD W ok x [.slice A0 x.f0.length c0,.slice A1 x.f1.length c1]:=fun W2 hW=>DV W2 x l0 (g0 W2 hW) l1 (g1 W2 hW)
def pK (xs:List qJ)(i:Int):qJ:=xs.getD i.toNat z51
theorem uY {w:World}{A:Option Addr}{n:Nat}{xs:List qJ}(h:Kd.C yD w A n xs)(i:Int)(h0:0≤i)(h1:i<n):∃ ad A0 c0 A1 c1,A=some ad∧w.cell? (ad.add (i.toNat*2))=some (.slice A0 (pK xs i).f0.length c0)∧w.cell? ⟨(ad.add (i.toNat*2)).block,(ad.add (i.toNat*2)).off+1,none⟩=some (.slice A1 (pK xs i).f1.length c1)∧(pK xs i).f0.length≤c0∧wE.C w A0 (pK xs i).f0.length (pK xs i).f0∧(pK xs i).f1.length≤c1∧vk.C w A1 (pK xs i).f1.length (pK xs i).f1:=by
 obtain⟨ad,c,e,_,hK,hc0⟩:=Kd.Bh h z51 i h0 h1;have hc:∀ j u,c[j]? = some u→w.cell? (ad.add (i.toNat*2+j))=some u:=hc0;obtain⟨A0,c0,A1,c1,rfl,l0,g0,l1,g1⟩:=CJ hK;exact⟨ad,A0,c0,A1,c1,e,hc 0 _ rfl,by rw[← vF _ _ 1 (by omega)];exact hc 1 _ rfl,l0,g0,l1,g1⟩
end Go.Proofs.Y.PA
namespace Go.Proofs.Y.G
open Go.RowKit Go.Proofs.YW.o7 Go.Proofs.YW.pJ Go.Proofs.YW.pO
def sS (N:Nat):Nat→List Int
 | 0=>[]
 | i+1=>((N / 256 ^ i % 256:Nat):Int)::sS N i
theorem qE (N i:Nat):(sS N i).length=i:=by induction i with
 | zero=>rfl
 | succ i ih=>simp[sS,ih]
theorem K7 (N i:Nat):∀ x∈sS N i,0≤x∧x<256:=by induction i with
 | zero=>intro x hx;cases hx
 | succ i ih=>
   intro x hx;rcases List.mem_cons.1 hx with rfl | hx
   ·have:N / 256 ^ i % 256<256:=iI _ (by decide);omega
   ·exact ih x hx
def yA (V:Nat)(l:List Int):Nat:=l.foldl (fun v x=>v*256+x.toNat) V
theorem K8 (V:Nat)(x:Int)(l:List Int):yA V (x::l)=yA (V*256+x.toNat) l:=rfl
theorem OG (N i:Nat):∀ V,yA V (sS N i)=V*256 ^ i+N % 256 ^ i:=by
 induction i with
 | zero=>intro V;simp[yA,sS,Nat.mod_one]
 | succ i ih=>
   intro V;rw[sS,K8,ih,bf,lJ,Nat.mod_mul,iD,oP,fJ 256 (256 ^ i),fJ (N / 256 ^ i % 256)];omega
theorem JX (l:List Int)(hl:∀ x∈l,0≤x∧x<256):∀ V m,V<256 ^ m→yA V l<256 ^ (m+l.length):=by
 induction l with
 | nil=>intro V m h;simpa [yA] using h
 | cons x l ih=>
   intro V m h;have hx:=hl x (bK ..);have:=ih (fun y hy=>hl y (dh _ hy)) (V*256+x.toNat) (m+1) (by rw[lJ];omega);rw[K8,bC];rwa [show m+(l.length+1)=m+1+l.length from by omega]
theorem Xe (d:Nat)(L:List Int)(v:Int):(List.replicate (d+1) (0:Int)++L).set d v=List.replicate d 0++(v::L):=by
 rw[List.replicate_succ',bH,jE _ _ (by simp)];simp
theorem yM {x:Int}(h : -9223372036854775808≤x)(h':x≤9223372036854775807):wrap64 x=x:=by unfold wrap64;omega
theorem Yq (V:Nat)(x:Int)(hV:V<256 ^ 7)(h0:0≤x)(h1:x<256):Go.bits .or .u64 (IntKind.u64.wrap ((V:Int)*256)) (IntKind.u64.wrap x)=((V*256+x.toNat:Nat):Int):=by
 have e1:IntKind.u64.wrap ((V:Int)*256)=((V*256:Nat):Int):=by
  simp[IntKind.wrap,IntKind.bits,IntKind.signed];omega
 have e2:IntKind.u64.wrap x=(x.toNat:Int):=by
  simp[IntKind.wrap,IntKind.bits,IntKind.signed];omega
 rw[e1,e2,u64_or_nat _ _ (by omega) (by omega),nat_join 8 (V*256) x.toNat (by simp) (by omega)]
theorem Vk (l:List Int)(i:Nat)(h:i<l.length):l.drop i=rd l (i:Int)::l.drop (i+1):=by
 rw[fH h];simp[rd,bn,aQ h]
theorem Kz (l:List Int)(i:Nat)(h:i<l.length):rd l (i:Int)∈l:=by
 simp[rd,bn,aQ h]
def wid (a:Int):Nat:=min (max a 0).toNat 8
theorem Xn (a:Int):wid a≤8:=by unfold wid;omega
def okB (l:List Int):Bool:=l.all fun x=>decide (0≤x∧x<256)
theorem rT {l:List Int}:okB l=true↔∀ x∈l,0≤x∧x<256:=by simp[okB]
theorem Xj {n:Int}(h:(Lit.int .u64 n).wf=true):0≤n∧n<18446744073709551616:=by
 have:0≤n∧n≤18446744073709551615:=by simpa [Lit.wf,IntKind.min,IntKind.max,IntKind.signed,IntKind.bits] using h
 omega
theorem SK {n:Int}(h:(Lit.int .i64 n).wf=true) : -9223372036854775808≤n∧n≤9223372036854775807:=by
 simpa [Lit.wf,IntKind.min,IntKind.max,IntKind.signed,IntKind.bits] using h
theorem Vb (N i:Nat):okB (sS N i)=true:=rT.2 (K7 N i)
theorem Qr {α:Type}{d:Kd α}{e base B:Nat}{ok:Nat→Prop}{w:World}{v:Value}{xs:List α}(h:d.R e w base ok v xs)(hb:∃ b,v.ownBlock=some b∧B≤b) :
 ∃ g cap,v = .slice (some ⟨g,0,none⟩) xs.length cap∧B≤g:=by
 obtain⟨inner,ho⟩:=Kd.IV h;obtain⟨b,hb,hB⟩:=hb;rcases ho.2 with ⟨rfl,_⟩ | ⟨g,cap,cur,rfl,_⟩
 ·simp[Value.ownBlock] at hb
 ·have:g=b:=by simpa [Value.ownBlock] using hb
  exact⟨g,cap,rfl,by omega⟩
theorem TN {a b:Bool}(h:a=b):Ending.returned (.bool a) = .returned (.bool b):=by rw[h]
theorem xH {α:Type}(d:Kd α)(e base:Nat)(w:World)(ok:Nat→Prop)(hb:base≤w.heap.size)(hok:ok w.heap.size) :
 d.R e (w.alloc (.cells #[] e)) base ok (.slice (some ⟨w.heap.size,0,none⟩) 0 0) []:=by
 refine⟨fun k hk=>?_,[],⟨by simp,.inr ⟨w.heap.size,0,#[],rfl,hb,kK w _,aD _,by simp[maxLen],by simp,by simp⟩⟩,tq.none _ _⟩;simp only[Value.ownBlock,cO] at hk;rw[← hk];exact hok
theorem uS:(Tryz.prog.info? 5).map (fun i=>(i.zero,i.size,i.bytes))=some (some (.int .u8 0),1,1):=by kernel_rfl
end Go.Proofs.Y.G
namespace Go.Proofs.Y.PA
open Go.RowKit Go.Proofs.Y.G Go.Proofs.YW.o7 Go.Proofs.YW.pJ Go.Proofs.YW.pO
def KM (r:Int):Bool:=decide (32≤r) && !decide (r=127) && !decide (r=65533)
def ET (s:ByteArray):Nat→Nat→Bool
 | 0,_=>true
 | b+1,pos=>if pos<s.size then KM (Utf8.decode s pos).1&&ET s b (pos+(Utf8.decode s pos).2) else true
def vK (s:ByteArray):Bool:=ET s s.size 0
theorem width_pos (s:ByteArray)(pos:Nat)(h:pos<s.size):1≤(Utf8.decode s pos).2:=by
 by_cases ha:(s[pos]'h).toNat<128
 ·rw[decode_ascii s pos h ha];exact aD _
 ·exact (decode_high s pos h (by omega)).2
theorem MB (s:ByteArray)(b pos:Nat)(h:¬ pos<s.size):ET s b pos=true:=by
 cases b with
 | zero=>rfl
 | succ b=>rw[ET,aK h]
theorem vS (w:World)(s:ByteArray)(pos:Nat):Below w.heap.size w (w.iter s pos):=o8 (bq _ _) _
theorem vK.c (s:ByteArray)(w:World):Calls Tryz.prog 128 #[.string s] w fun e w'=>e = .returned (.bool (vK s))∧Below w.heap.size w w':=by
 go_enter Tryz.func128,Tryz.ntmps128
 go_wp2
 go_loopw [] (fun w'=>∃ (pos b:Nat),w'=w.iter s pos∧oZ (vK s=ET s b pos)∧s.size≤pos+b) (fun w'=>s.size-w'.iterPos w.heap.size)
 case atStart=>exact⟨0,s.size,rfl,⟨rfl⟩,by omega⟩
 case round=>
  obtain⟨pos,b,rfl,HC,hb⟩:=hrel
  by_cases hp:pos<s.size
  ·have hnx:∀ ty,(Instr.next (.pointer (some ⟨w.heap.size,0,none⟩)) true ty).run Tryz.prog (w.iter s pos)=_:=fun ty=>run_next_any w s pos ty hp
   have hwd:=width_pos s pos hp;cases b with
   | zero=>omega
   | succ b=>
     have HS:oZ (vK s=(KM ((Utf8.decode s pos).1:Int)&&ET s b (pos+(Utf8.decode s pos).2))):=⟨by rw[HC.o,ET,ak hp]⟩;generalize (((Utf8.decode s pos).1:Nat):Int)=r at hnx HS
     by_cases h1:r<32
     ·have HF:oZ (vK s=false):=⟨by rw[HS.o,KM,aN (by omega)];rfl⟩;go_wp2;go_ret;exact⟨by rw[HF.o];rfl,vS _ _ _⟩
     ·by_cases h2:r=127
      ·have HF:oZ (vK s=false):=⟨by rw[HS.o,KM,aM h2];simp⟩;go_wp2;go_ret;exact⟨by rw[HF.o];rfl,vS _ _ _⟩
      ·by_cases h3:r=65533
       ·have HF:oZ (vK s=false):=⟨by rw[HS.o,KM,aM h3];simp⟩;go_wp2;go_ret;exact⟨by rw[HF.o];rfl,vS _ _ _⟩
       ·have HF:oZ (vK s=ET s b (pos+(Utf8.decode s pos).2)):=⟨by rw[HS.o,KM,aM (by omega),aN h2,aN h3];rfl⟩;have d1:decide (r<32)=false:=aN h1;have d2:(r==127)=false:=beq_eq_false_iff_ne.2 h2;have d3:(r==65533)=false:=beq_eq_false_iff_ne.2 h3;clear h1 h2 h3;go_wp2;refine⟨⟨pos+(Utf8.decode s pos).2,b,rfl,HF,by omega⟩,?_⟩;simp;omega
  ·have hnx:∀ ty,(Instr.next (.pointer (some ⟨w.heap.size,0,none⟩)) true ty).run Tryz.prog (w.iter s pos)=_:=fun ty=>run_next_end w s pos ty hp
   go_wp2;go_ret;exact⟨by rw[HC.o,MB s b pos hp];rfl,vS _ _ _⟩
def tF.f (a:ByteArray):Option Bool:=some (vK a)
theorem tF.c (a0:ByteArray)(r:Bool)(w:World)(h:tF.f a0=some r) :
 Calls Tryz.prog 128 #[.string a0] w fun e w'=>e = .returned (.bool r)∧Below w.heap.size w w':=by
 obtain rfl:=bE h;exact vK.c a0 w
def txt (a b:ByteArray):Int:=if (Op.bytesLess a.toList b.toList)=true then -1 else if (a.toList==b.toList)=true then 0 else 1
theorem texts.c (a b:ByteArray)(w:World):Calls Tryz.prog 86 #[.string a,.string b] w fun e w'=>e = .returned (.int .i64 (txt a b))∧w'=w:=by
 cases h1:Op.bytesLess a.toList b.toList with
 | true=>
   have HV:oZ (txt a b = -1):=⟨by rw[txt,ak h1]⟩
   go_enter Tryz.func86,Tryz.ntmps86
   go_wp2;go_ret;exact⟨by rw[HV.o];rfl,rfl⟩
 | false=>
   cases h2:a.toList==b.toList with
   | true=>
     have HV:oZ (txt a b=0):=⟨by rw[txt,aK (by rw[h1];simp),ak h2]⟩
     go_enter Tryz.func86,Tryz.ntmps86
     go_wp2;go_ret;exact⟨by rw[HV.o];rfl,rfl⟩
   | false=>
     have HV:oZ (txt a b=1):=⟨by rw[txt,aK (by rw[h1];simp),aK (by rw[h2];simp)]⟩
     go_enter Tryz.func86,Tryz.ntmps86
     go_wp2;go_ret;exact⟨by rw[HV.o];rfl,rfl⟩
theorem Ww.c (a b:ByteArray)(w:World):Calls Tryz.prog 104 #[.string a,.string b] w fun e w'=>e = .returned (.int .i64 (txt a b))∧w'=w:=by
 have ha:(a.toList==a.toList)=true:=by simp
 have hb:(b.toList==b.toList)=true:=by simp
 cases h1:Op.bytesLess a.toList b.toList with
 | true=>
   have HV:oZ (txt a b = -1):=⟨by rw[txt,ak h1]⟩
   go_enter Tryz.func104,Tryz.ntmps104
   go_wp2_with (first | go_in)
   go_ret;exact⟨by rw[HV.o];rfl,rfl⟩
 | false=>
   cases h2:a.toList==b.toList with
   | true=>
     have HV:oZ (txt a b=0):=⟨by rw[txt,aK (by rw[h1];simp),ak h2]⟩
     go_enter Tryz.func104,Tryz.ntmps104
     go_wp2_with (first | go_in)
     go_ret;exact⟨by rw[HV.o];rfl,rfl⟩
   | false=>
     have HV:oZ (txt a b=1):=⟨by rw[txt,aK (by rw[h1];simp),aK (by rw[h2];simp)]⟩
     go_enter Tryz.func104,Tryz.ntmps104
     go_wp2_with (first | go_in)
     go_ret;exact⟨by rw[HV.o];rfl,rfl⟩
end Go.Proofs.Y.PA
namespace Go.Proofs.Y.G
open Go.RowKit Go.Proofs.YW.o7 Go.Proofs.YW.pJ Go.Proofs.YW.pO
structure BW (w:World) where
 W:World
 hb:Below w.heap.size w W
instance (w:World):Inhabited (BW w):=⟨⟨w,bq _ _⟩⟩
theorem BW.cell {w:World}{a:Addr}{v:Value}(h:w.cell? a=some v)(p:BW w):p.W.cell? a=some v:=qm p.hb h
theorem qL {P:Program}{id:Nat}{Q:Exit→Act→World→Prop}{a:Act}{w:World}{l:List Oper}(hm:P.follows .mixedOrders=true)(hB:Region.lexB .any l.toArray=true)
 (h:wpQuiet P l.toArray (fun w'=>∃ p:BW w,w'=p.W) (fun a'=>∀ w',(∃ p:BW w,w'=p.W)→Q .normal a' w') l a):(Code.region id l.toArray true).wp P Q a w:=
 wp_region_quiet (C:=fun w'=>∃ p:BW w,w'=p.W) hm hB ⟨⟨w.drew,rM (bq _ _)⟩,rfl⟩ (by simpa using h)
theorem qQ {P:Program}{f:FuncId}{args:Array Value}{w:World}{p:BW w}{v:Value}(h:Calls P f args p.W fun e w'=>e = .returned v∧Below p.W.heap.size p.W w') :
 Calls P f args p.W fun e w''=>e = .returned v∧∃ q:BW w,w''=q.W:=
 h.mono fun _ w'' ⟨he,hb⟩=>⟨he,⟨w'',o9 p.hb hb⟩,rfl⟩
theorem KH {id:Nat}{P:Program}{Q:Exit→Act→World→Prop}{a:Act}{w:World}{l:List Oper}(n:Nat)(hm:P.follows .mixedOrders=true)(hB:Region.lexTailB .any l.toArray n=true)
 (h:∀ W,W=w.drew→wpStill P l.toArray W (fun a'=>wpList P l.toArray Q (l.drop n) a' W) (l.take n) a):(Code.region id l.toArray true).wp P Q a w:=
 wp_region_still_tail n hm hB (h _ rfl)
def bytes_Equal.f (l0 l1:List Int):Option Bool:=if okB l0=true∧okB l1=true then some (decide (l0=l1)) else none
def rz.f (l:List Int):Option (List Int):=if l.length≤140737488355328 then some l else none
theorem II {a b:List Int}(ha:okB a=true)(hb:okB b=true):((strOfNums a).toList==(strOfNums b).toList)=decide (a=b):=by
 have key:∀ l:List Int,okB l=true→(strOfNums l).toList.map (fun x=>(x.toNat:Int))=l:=by
  intro l hl;have hl:=rT.1 hl;rw[show (strOfNums l).toList=l.map fun n=>UInt8.ofNat n.toNat from (jd _).trans (strOfNums_data l),nX];refine (nu fun x hx=>?_).trans (List.map_id l);have:=hl x hx;simp only[Function.comp_apply,UInt8.toNat_ofNat',id];omega
 by_cases h:a=b
 ·subst h;simp
 ·rw[aN h,beq_eq_false_iff_ne];intro he;exact h (by rw[← key a ha,← key b hb,he])
theorem bytes_Equal.c (A0:Option Addr)(c0:Nat)(l0:List Int)(A1:Option Addr)(c1:Nat)(l1:List Int)(r:Bool)(w:World)(hr0:Kd.C (Kd.int .u8) w A0 l0.length l0)(hc0:l0.length≤c0)(hr1:Kd.C (Kd.int .u8) w A1 l1.length l1)(hc1:l1.length≤c1)(h:bytes_Equal.f l0 l1=some r) :
 Calls Tryz.prog 38 #[.slice A0 l0.length c0,.slice A1 l1.length c1] w fun e w'=>e = .returned (.bool r)∧pQ w w':=by
 unfold bytes_Equal.f at h;split at h
 case isFalse=>cases h
 case isTrue hok=>
 obtain rfl:=bE h;clear h;rw[← II hok.1 hok.2];have akg:=Kd.Ce (P:=Tryz.prog) (A:=A0) (c:=c0) Tryz.underlying24 Tryz.underlying5 Tryz.underlying9 hr0;have akh:=Kd.Ce (P:=Tryz.prog) (A:=A1) (c:=c1) Tryz.underlying24 Tryz.underlying5 Tryz.underlying9 hr1;clear hr0 hc0 hr1 hc1 hok
 go_enter Tryz.func38,Tryz.ntmps38
 go_wp2;go_ret;exact⟨rfl,pQ.refl _⟩
theorem rz.c (A0:Option Addr)(c0:Nat)(l0:List Int)(r:List Int)(w:World)(hr0:Kd.C (Kd.int .u8) w A0 l0.length l0)(hc0:l0.length≤c0)(h:rz.f l0=some r) :
 Calls Tryz.prog 142 #[.slice A0 l0.length c0] w fun e w'=>∃ v0_:Value,e = .returned (v0_)∧Kd.R (Kd.int .u8) 5 w' w.heap.size (fun _=>True) v0_ r∧Below w.heap.size w w':=by
 unfold rz.f at h;split at h
 case isFalse=>cases h
 case isTrue hlen=>
 obtain rfl:=bE h;clear h;have HR:=Yu hr0;have HL:=Yu hlen;have hnil:=fun W n c=>mJ (P:=Tryz.prog) W 24 5 A0 n c 0 0 Tryz.underlying24
 clear hr0 hc0 hlen;cases A0 with
 | none=>
   have h0:l0=[]:=by
    rcases fP l0.length with h0 | h0
    ·exact dG h0
    ·obtain⟨ad,e,_⟩:=HR.o.2.2 h0;cases e
   subst h0
   go_enter Tryz.func142,Tryz.ntmps142
   go_wp2;go_ret;exact⟨_,rfl,Kd.ug _ _ _ _ _,bq _ _⟩
 | some ad=>
   go_enter Tryz.func142,Tryz.ntmps142
   have hE:=Yu (xH (Kd.int .u8) 5 w.heap.size w (fun _=>True) (aD _) dD)
   go_wp2_with ((with_reducible refine qK (N:=7) rfl ?_);refine Kd.xG (Value.int .u8) 0 (h1:=fun _=>rfl) w.heap.size rfl (.tmp 5) (.tmp 6) 24 5 (.int .u8 0) 1 rfl Tryz.underlying24 uS rfl (by decide) _ [] l0 (some ad) l0.length c0 (fun _=>True) rfl rfl (fun _ _=>dD) hE.o (Kd.pI HR.o (o8 (bq _ _) _)) (o8 (bq _ _) _) ?hb ?hl ?_;(case hb=>simp);(case hl=>(have:=HL.o;simp;omega));intro v1 w1 hR1 hB1 hg_ ho_;rw[dL] at hR1;have HR1:=Yu hR1;have HB1:=Yu hB1;clear hR1 hB1 hg_ ho_)
   go_ret;exact⟨_,rfl,HR1.o,HB1.o⟩
end Go.Proofs.Y.G
namespace Go.Proofs.Y.PA
open Go.RowKit Go.Proofs.YW.o7 Go.Proofs.YW.pJ Go.Proofs.YW.pO
attribute [local go_sem] rZ r9 sU sV rX rY sN sO
def tJ.f (a0:Int):Option (Int):=if a0=1 then (some 7) else (if a0=2 then (some 12) else (if a0=3 then (some 32) else (if a0=4 then (some 64) else (some 0))))
theorem tJ.c (a0:Int)(r:Int)(w:World)(h:tJ.f a0=some r) :
 Calls Tryz.prog 145 #[.int .i64 a0] w fun e w'=>e = .returned (.int .i64 r)∧pQ w w':=by
 have H:(if a0=1 then (some 7) else (if a0=2 then (some 12) else (if a0=3 then (some 32) else (if a0=4 then (some 64) else (some 0)))))=some r:=h;clear h
 by_cases c2:a0=1
 ·rw[ak c2] at H;have Z6:(a0==1)=true:=beq_iff_eq.mpr c2;have ac7:(a0 != 1)=false:=bne_eq_false_iff_eq.mpr c2;clear c2;obtain rfl:=bE H
  go_enter Tryz.func145,Tryz.ntmps145
  go_wp2;go_ret;exact⟨by first | rfl | (simp;done)|(simp[*];done)|(simp;decide +kernel),by repeat (first | exact pQ.refl _ | apply pQ.step)⟩
 ·rw[aK c2] at H;have Z6:(a0==1)=false:=beq_eq_false_iff_ne.mpr c2;have ac7:(a0 != 1)=true:=bne_iff_ne.mpr c2
  by_cases c3:a0=2
  ·rw[ak c3] at H;have acA:(a0==2)=true:=beq_iff_eq.mpr c3;have adX:(a0 != 2)=false:=bne_eq_false_iff_eq.mpr c3;clear c3;obtain rfl:=bE H
   go_enter Tryz.func145,Tryz.ntmps145
   go_wp2;go_ret;exact⟨by first | rfl | (simp;done)|(simp[*];done)|(simp;decide +kernel),by repeat (first | exact pQ.refl _ | apply pQ.step)⟩
  ·rw[aK c3] at H;have acA:(a0==2)=false:=beq_eq_false_iff_ne.mpr c3;have adX:(a0 != 2)=true:=bne_iff_ne.mpr c3
   by_cases c4:a0=3
   ·rw[ak c4] at H;have aam:(a0==3)=true:=beq_iff_eq.mpr c4;have aiA:(a0 != 3)=false:=bne_eq_false_iff_eq.mpr c4;clear c4;obtain rfl:=bE H
    go_enter Tryz.func145,Tryz.ntmps145
    go_wp2;go_ret;exact⟨by first | rfl | (simp;done)|(simp[*];done)|(simp;decide +kernel),by repeat (first | exact pQ.refl _ | apply pQ.step)⟩
   ·rw[aK c4] at H;have aam:(a0==3)=false:=beq_eq_false_iff_ne.mpr c4;have aiA:(a0 != 3)=true:=bne_iff_ne.mpr c4
    by_cases c5:a0=4
    ·rw[ak c5] at H;have acH:(a0==4)=true:=beq_iff_eq.mpr c5;have aiB:(a0 != 4)=false:=bne_eq_false_iff_eq.mpr c5;clear c5;obtain rfl:=bE H
     go_enter Tryz.func145,Tryz.ntmps145
     go_wp2;go_ret;exact⟨by first | rfl | (simp;done)|(simp[*];done)|(simp;decide +kernel),by repeat (first | exact pQ.refl _ | apply pQ.step)⟩
    ·rw[aK c5] at H;have acH:(a0==4)=false:=beq_eq_false_iff_ne.mpr c5;have aiB:(a0 != 4)=true:=bne_iff_ne.mpr c5;obtain rfl:=bE H
     go_enter Tryz.func145,Tryz.ntmps145
     go_wp2;go_ret;exact⟨by first | rfl | (simp;done)|(simp[*];done)|(simp;decide +kernel),by repeat (first | exact pQ.refl _ | apply pQ.step)⟩
end Go.Proofs.Y.PA
namespace Go.Proofs.Y.PA
open Go.RowKit Go.Proofs.Y.G Go.Proofs.YW.o7 Go.Proofs.YW.pJ Go.Proofs.YW.pO
structure xZ (w:World):Prop where mk::(o:∀ j,j<64→w.cell? ⟨0,j,none⟩=some (.int .u8 (Lib.deBruijn64tab.getD j 0:Nat)))
theorem xZ.below {w w1:World}(h:xZ w)(hb:Below w.heap.size w w1):xZ w1:=⟨fun j hj=>qm hb (h.o j hj)⟩
theorem VD (x k idx:Nat)(w:World)(hx0:((x:Int)==0)=false)
 (key:IntKind.u64.wrap (bits BinOp.and IntKind.u64 (x:Int) (IntKind.u64.wrap (-(x:Int)))*285870213051353865) / 288230376151711744=(idx:Int))
 (hi:idx<64) (hk:k<64) (hcell:w.cell? ⟨0,idx,none⟩=some (.int .u8 k)) :
 Calls Tryz.prog 126 #[.int .u64 x] w fun e w'=>e = .returned (.int .i64 k)∧w'=w:=by
 go_enter Tryz.func126,Tryz.ntmps126
 go_wp2_with (simp only[key])
 go_ret;exact⟨rfl,rfl⟩
theorem tz.c (x:Nat)(hx:x<18446744073709551616)(w:World)(hT:xZ w) :
 Calls Tryz.prog 126 #[.int .u64 x] w fun e w'=>e = .returned (.int .i64 (Lib.ctz 64 x:Nat))∧w'=w:=by
 by_cases hx0:x=0
 ·subst hx0
  go_enter Tryz.func126,Tryz.ntmps126
  go_wp2;go_ret;exact⟨rfl,rfl⟩
 ·obtain⟨hlow,hk⟩:=Lib.lowest_bit 64 x hx0 hx;obtain⟨hi,htab⟩:=Lib.deBruijn64_at _ hk;have hcell:=hT.o _ hi;rw[htab] at hcell;exact VD x _ _ w (by simp;omega) (tz64_key x _ hx hx0 hlow) hi hk hcell
end Go.Proofs.Y.PA
namespace Go.Proofs.Y.G
open Go.RowKit Go.Proofs.YW.o7 Go.Proofs.YW.pJ Go.Proofs.YW.pO
attribute [local go_sem] rZ r9 sU sV
def vQ.f (a0 a1:Int):Option (List Int):=if 0≤a0∧a0<18446744073709551616 then some (sS a0.toNat (wid a1)) else none
theorem vQ.step {N m k:Nat}(hk:k<m):(List.replicate (m-k) (0:Int)++sS N k).set (m-1-k) ((N / 256 ^ k % 256:Nat):Int)=List.replicate (m-(k+1)) 0++sS N (k+1):=by
 obtain⟨d,rfl⟩:∃ d,m=k+1+d:=⟨m-(k+1),by omega⟩;rw[show k+1+d-k=d+1 from by omega,show k+1+d-1-k=d from by omega,show k+1+d-(k+1)=d from by omega,Xe];rfl
theorem Ud (N:Nat)(k:Nat):((N:Int) / 2 ^ (8*k)) % 256=((N / 256 ^ k % 256:Nat):Int):=by
 have h:(2:Int) ^ (8*k)=((256 ^ k:Nat):Int):=by
  rw[Int.pow_mul];simp
 rw[h,← Int.natCast_ediv];rfl
theorem vQ.c (a0 a1:Int)(r:List Int)(w:World)(h:vQ.f a0 a1=some r) :
 Calls Tryz.prog 31 #[.int .u64 a0,.int .i64 a1] w fun e w'=>∃ v0_:Value,e = .returned (v0_)∧Kd.R (Kd.int .u8) 5 w' w.heap.size (fun _=>True) v0_ r∧Below w.heap.size w w':=by
 unfold vQ.f at h;split at h
 case isFalse=>cases h
 case isTrue hN=>
  obtain rfl:=bE h;clear h;obtain⟨N,rfl⟩:=dA hN.1;rw[bf];obtain⟨j,hj⟩:∃ j:Int,(if a1<0 then 0 else a1)=j:=⟨_,rfl⟩;obtain⟨m,hm8,hm,hw⟩:∃ m:Nat,m≤8∧(if 8<j then 8 else j)=(m:Int)∧wid a1=m:=⟨wid a1,Xn _,by unfold wid;split at hj<;>split<;>omega,rfl⟩;rw[hw];clear hw;have hm0:(m:Int)≤8:=by omega
  go_enter Tryz.func31,Tryz.ntmps31
  go_wp2_with ((with_reducible refine qK (N:=10) rfl ?_);refine Kd.Wm (Kd.int .u8) _ 5 rfl (N:=10) rfl 24 _ _ rfl (m:Int) rfl rfl Tryz.underlying24 (.int .u8 0) 1 uS rfl (by decide) (by omega) 0 (ok:=fun _=>True) (okp:=fun _=>True) rfl (fun _ hk=>hk) dD (by omega) (by omega) (bq _ _) (aD _) ?_;intro aki w7 ho8 hb hg_ adx;rw[bf] at ho8;obtain⟨g,c9,e9,hgb⟩:=Qr ho8 adx;rw[kN] at e9;subst e9;have HO:=Yu ho8;have HB:=Yu hb;clear ho8 hb hg_ adx)
  go_loopw [13] (fun i wr=>∃ k:Nat,k≤m∧i = .int .i64 k∧oZ (Kd.R (Kd.int .u8) 5 wr w.heap.size (fun _=>True) (.slice (some ⟨g,0,none⟩) m c9) (List.replicate (m-k) 0++sS N k))∧oZ (Below w.heap.size w wr)) (fun i _=>m-(intOf i).toNat)
  case atStart=>exact⟨0,bV _,rfl,⟨by simpa [sS] using HO.o⟩,HB⟩
  case round=>
   clear HO HB;obtain⟨k,hk,rfl,HO,HB⟩:=hrel
   by_cases hlt:k<m
   ·have e1:((m:Int)-1-(k:Int))=((m-1-k:Nat):Int):=by omega
    obtain⟨hc,hf⟩:=Kd.OE 0 HO.o ((m-1-k:Nat):Int) (by omega) (by omega);have HP:=Yu (Kd.Wo HO.o ((m-1-k:Nat):Int) ((N / 256 ^ k % 256:Nat):Int));rw[bf] at hc hf HP;have HS:=Yu (vQ.step (N:=N) hlt);have HV:=Yu (Ud N k);go_wp2
    go_roundw
    case rel=>
     refine⟨k+1,by omega,by go_num,⟨?_⟩,⟨?_⟩⟩
     ·rw[HV.o,← HS.o];exact HP.o.1
     ·exact pW HB.o (by omega)
    case measure=>simp[intOf];omega
   ·obtain rfl:k=m:=by omega
    go_wp2;go_ret;exact⟨_,rfl,by simpa using HO.o,HB.o⟩
section
variable {P:Program} {ops:Array Oper} {rest:List Oper} {o:Oper} {a:Act} {Q:Exit→Act→World→Prop}
theorem Ci {w0 W:World}(base:Nat)(hgd:o.guard=none)(s x:Operand)(t u e:TypeId)
 (ho:o.op = .call { callee := .builtin .append,args := #[s,x],argTypes := #[t,u] })
 (ht:P.underlying t=some (.slice e)) (hu:P.underlying u=some .string) (hinfo:(P.info? e).map (fun i=>(i.zero,i.size,i.bytes))=some (some (.int .u8 0),1,1))
 (v:Value) (xs:List Int) (y:ByteArray) (hs:a.eval s=v) (hx:a.eval x = .string y)
 (HO:(Kd.int .u8).R e W base (fun _=>True) v xs) (HB:Below base w0 W) (hbase:base≤W.heap.size) (hl:xs.length+y.size≤140737488355328)
 (h:∀ v1 w1,(Kd.int .u8).R e w1 base (fun _=>True) v1 (xs++bytesOf y)→Below base w0 w1→wpList P ops Q rest (a.put o.dst v1) w1) :
 wpList P ops Q (o::rest) a W:=by
 refine D6 base hgd s x t u e ho ht hu hinfo v xs y hs hx (Kd.CX HO) HB hbase hl ?_;intro v1 w1 hown hb hg;exact h v1 w1 (Kd.zL hown (fun _ _=>dD)) hb
theorem Bl {w0 W:World}(base:Nat)(hgd:o.guard=none)(s x:Operand)(t e:TypeId)
 (ho:o.op = .call { callee := .builtin .append,args := #[s,x],argTypes := #[t,t] })
 (ht:P.underlying t=some (.slice e)) (hinfo:(P.info? e).map (fun i=>(i.zero,i.size,i.bytes))=some (some (.int .u8 0),1,1))
 (v:Value) (xs:List Int) (p q:Int) (hpq:p=q) (hs:a.eval s=v) (hx:a.eval x = .slice (some ⟨W.heap.size,0,none⟩) 1 1)
 (HO:(Kd.int .u8).R e W base (fun _=>True) v xs) (HB:Below base w0 W) (hbase:base≤W.heap.size) (hl:xs.length+1≤140737488355328)
 (h:∀ v1 w1,(Kd.int .u8).R e w1 base (fun _=>True) v1 (xs++[q])→Below base w0 w1→wpList P ops Q rest (a.put o.dst v1) w1) :
 wpList P ops Q (o::rest) a (W.alloc (.cells #[.int .u8 p] e)):=by
 subst hpq;refine Kd.zK (Kd.int .u8) (w0:=w0) base hgd s x t e (.int .u8 0) 1 ho ht hinfo rfl (by decide) (by decide) v xs p [.int .u8 p] (fun _=>True) (fun _=>False) hs hx rfl (fun _ hk=>hk.elim) (fun _ _=>dD) HO HB hbase (by omega) ?_;intro v1 w1 hr hb _ _;exact h v1 w1 hr hb
end
end Go.Proofs.Y.G
namespace Go.Proofs.Y.PA
open Go.RowKit Go.Proofs.YW.o7 Go.Proofs.YW.pJ Go.Proofs.YW.pO
attribute [local go_sem] rZ r9 sU sV rX rY sN sO
theorem XE (d:Nat)(w:World)(x0 y0:Int)(x1 y1:Int) :
 (Op.equalIn (d+2) 70 (.agg #[.int .i64 x0,.int .u64 x1]) (.agg #[.int .i64 y0,.int .u64 y1])).run Tryz.prog w = .ok (x0==y0&&(x1==y1)) w:=by
 refine Wz Tryz.underlying70 (by kernel_rfl) ?_;refine Sw (by rfl) (by go_simp;rfl) (by go_simp;rfl) (by go_simp) ?_;exact Sy (by rfl) (by go_simp;rfl) (by go_simp;rfl) (by go_simp)
end Go.Proofs.Y.PA
namespace Go.Proofs.Y.PA
open Go.RowKit Go.Proofs.Y.G Go.Proofs.YW.o7 Go.Proofs.YW.pJ Go.Proofs.YW.pO
theorem Kj:∃ i,Tryz.prog.info? 5=some i∧i.size=1:=by
 obtain⟨i,hi,hz⟩:=Option.map_eq_some_iff.1 uS;simp only[dB] at hz;exact⟨i,hi,hz.2.1⟩
theorem Wx (A:Option Addr)(c:Nat)(xs:List Int)(m:Nat)(hm:m≤xs.length)(hc:xs.length≤c) :
 ∃ (A':Option Addr) (c':Nat) (r:List Int),oZ (r=xs.drop m)∧oZ (∀ w:World,Kd.C (Kd.int .u8) w A xs.length xs→Kd.C (Kd.int .u8) w A' r.length r)∧r.length≤c' ∧
   ∀ i:Int,i=(m:Int)→∀ W:World,(Instr.slice 24 (.slice A xs.length c) (some (.int .i64 i)) none none).run Tryz.prog W = .ok (.slice A' r.length c') W:=by
 obtain⟨i0,hi,hsz⟩:=Kj;refine⟨if c=m then A else A.map (·.add (m*(Kd.int .u8).sz)),c-m,xs.drop m,⟨rfl⟩,⟨fun w h=>Kd.Dp h hm hc⟩,by rw[bB];omega,fun i hi' W=>?_⟩;subst hi';have hu:=Tryz.underlying24;have hel:Tryz.prog.elem 24=5:=by simp[Program.elem,hu]
 have hu':Tryz.prog.underlying 24=some (.slice (Tryz.prog.elem 24)):=by rw[hel];exact hu
 rw[oC W 24 A xs.length c hu' .i64 (m:Int) (gT _) (by omega),hel];have h1:(Kd.int .u8).sz=1:=rfl;simp[sizeOf,typeInfo,hi,hsz,sliced,Result.andThen,h1]
theorem U8 (A:Option Addr)(c:Nat)(xs:List Int)(lo hi:Nat)(h1:lo≤hi)(h2:hi≤xs.length)(hc:xs.length≤c) :
 ∃ (A':Option Addr) (c':Nat) (r:List Int),oZ (r=(xs.take hi).drop lo)∧oZ (∀ w:World,Kd.C (Kd.int .u8) w A xs.length xs→Kd.C (Kd.int .u8) w A' r.length r)∧r.length≤c' ∧
   ∀ i j:Int,i=(lo:Int)→j=(hi:Int)→∀ W:World,(Instr.slice 24 (.slice A xs.length c) (some (.int .i64 i)) (some (.int .i64 j)) none).run Tryz.prog W = .ok (.slice A' r.length c') W:=by
 obtain⟨i0,hi0,hsz⟩:=Kj;refine⟨if c=lo then A else A.map (·.add (lo*(Kd.int .u8).sz)),c-lo,(xs.take hi).drop lo,⟨rfl⟩,⟨fun w h=>Kd.Rh h h1 h2 hc⟩,by rw[bB,bG];omega,fun i j hi' hj' W=>?_⟩;subst hi' hj';have h:=UQ (P:=Tryz.prog) 24 5 .i64 .i64 Tryz.underlying24 hi0 1 hsz A xs.length c (lo:Int) (hi:Int) (by omega) (by omega) (by omega) hc W;rw[h];have h1:(Kd.int .u8).sz=1:=rfl;rw[h1,bB,bG];simp only[bf];rw[dY h2]
theorem QJ (kl:IntKind)(n:Nat)(hn:n≤1000000):∀ W:World,(Instr.makeSlice 46 (.int kl (n:Int)) (.int kl (n:Int))).run Tryz.prog W = .ok (.slice (some ⟨W.heap.size,0,none⟩) n n) (W.alloc (.cells (madeCells (Value.agg #[.string ⟨#[]⟩,.string ⟨#[]⟩]).cells (n*2)) 68)):=by
 intro W;obtain⟨i0,hi,hz⟩:=Option.map_eq_some_iff.1 NP;simp only[dB] at hz;obtain⟨hz0,hz1,hz2⟩:=hz;have hr:=run_make (P:=Tryz.prog) W 46 68 i0 _ Tryz.underlying46 hi hz0 kl kl (n:Int) (n:Int) (by omega) (by omega)
  (by
   have h3:((i0.bytes*n:Nat):Int)≤281474976710656:=by rw[hz2];omega
   rwa [lg] at h3) (by omega)
 simp only[bf] at hr;rw[hz1] at hr;exact hr
theorem UG (W:World)(base n:Nat)(hb:base≤W.heap.size)(hn:n≤1000000):Kd.R wE 68 (W.alloc (.cells (madeCells (Value.agg #[.string ⟨#[]⟩,.string ⟨#[]⟩]).cells (n*2)) 68)) base (fun _=>True) (.slice (some ⟨W.heap.size,0,none⟩) n n) (List.replicate n z68):=by
 have hm:∀ (ok:Nat→Prop),tq (wE.M (W.alloc (.cells (madeCells (Value.agg #[.string ⟨#[]⟩,.string ⟨#[]⟩]).cells (n*2)) 68)) base ok) 2 (List.replicate n z68) (madeCells (Value.agg #[.string ⟨#[]⟩,.string ⟨#[]⟩]).cells (n*2)).toList:=fun ok=>
  Kd.D9 (size:=2) rfl (by decide) (Fp _ _ _ z68) n
 have h2:=nP (base:=base) (e:=68) (size:=2) W (madeCells (Value.agg #[.string ⟨#[]⟩,.string ⟨#[]⟩]).cells (n*2)) n hb (by simp only[maxLen];omega) (by simp[oG]);exact⟨fun _ _=>dD,_,by rw[kN];exact h2,hm _⟩
end Go.Proofs.Y.PA
namespace Go
open Go.RowKit Go.Proofs.YW.o7
section
variable {P:Program} {ops:Array Oper} {Q:Exit→Act→World→Prop}
def uM (a:Act):List Tmp→(Nat→Value)→Act
 | [],_=>a
 | d::ds,y=>uM { a with tmps:=a.tmps.setIfInBounds d (y 0) } ds (fun k=>y (k+1))
def F5 (ops:Array Oper)(listed:Array Bool)(is:List Nat)(j:Nat):Bool:=
 listed.getD j true||is.contains j||((ops[j]?).map fun o=>(o.after.any fun e=>Region.binds .any e && !is.contains e.on && !listed.getD e.on false)||is.all fun i=>o.after.any fun e=>Region.binds .any e&&(e.on==i)).getD true
def VU (ops:Array Oper)(n:Nat)(listed:Array Bool)(is:List Nat):Bool:=
 decide is.Nodup&&(List.range is.length).all (fun k=>match is[k]? with
  | none=>true
  | some i=>decide (i<n) && !listed.getD i true&&(match ops[i]? with
    | none=>false
    | some o=>o.guard.isNone&&o.after.all fun e => !Region.binds .any e||listed.getD e.on false||(is.take k).contains e.on))&&(List.range ops.size).all (F5 ops listed is)
theorem least:∀ l:List Nat,l≠[]→∃ k∈l,∀ j∈l,k≤j
 | [],h=>absurd rfl h
 | [a],_=>⟨a,bK,fun j hj=>by rw[gu] at hj;omega⟩
 | a::b::l,_=>by
   obtain⟨k,hk,hm⟩:=least (b::l) (by simp)
   by_cases h:a≤k
   ·exact⟨a,bK,fun j hj=>(List.mem_cons.1 hj).elim (fun e=>by omega) (fun hj=>bM h (hm j hj))⟩
   ·exact⟨k,dh _ hk,fun j hj=>(List.mem_cons.1 hj).elim (fun e=>by omega) (hm j)⟩
def zo (listed:Array Bool)(is:List Nat):Array Bool:=is.foldl (fun l i=>l.setIfInBounds i true) listed
def Xm (y:Nat→Value)(k:Nat)(v:Value):Nat→Value:=fun j=>if j=k then v else y j
theorem ME:∀ (ds:List Tmp) (a:Act) (y:Nat→Value) (d:Tmp) (v:Value),d ∉ ds→uM { a with tmps:=a.tmps.setIfInBounds d v } ds y={ uM a ds y with tmps:=(uM a ds y).tmps.setIfInBounds d v }
 | [],_,_,_,_,_=>rfl
 | e::ds,a,y,d,v,h=>by
   rw[uM,uM,← ME ds _ _ d v (fun hd=>h (dh _ hd))];congr 2;exact jO _ _ (fun he=>h (he ▸ bK))
theorem MF:∀ (ds:List Tmp) (a:Act) (y:Nat→Value) (k:Nat) (d:Tmp) (v:Value),ds.Nodup→ds[k]? = some d→(uM a ds y).put (some d) v=uM a ds (Xm y k v)
 | [],_,_,_,_,_,_,h=>by simp at h
 | e::ds,a,y,0,d,v,hn,h=>by
   simp only[iW,cO] at h;subst h;rw[uM,uM];have h1:=ME ds { a with tmps:=a.tmps.setIfInBounds e (y 0) } (fun k=>y (k+1)) e v (List.nodup_cons.1 hn).1;simp only[Array.setIfInBounds_setIfInBounds] at h1;exact h1.symm
 | e::ds,a,y,k+1,d,v,hn,h=>by
   rw[uM,uM];have h1:=MF ds { a with tmps:=a.tmps.setIfInBounds e (y 0) } (fun k=>y (k+1)) k d v (List.nodup_cons.1 hn).2 (by simpa using h);rw[h1];congr 1
   funext j
   simp[Xm]
theorem Jt:∀ (ds:List Tmp) (a:Act),∃ y,uM a ds y=a
 | [],a=>⟨fun _=>undef,rfl⟩
 | d::ds,a=>by
   obtain⟨y,hy⟩:=Jt ds a;refine⟨fun k=>match k with | 0=>a.tmps.getD d undef | k+1=>y k,?_⟩;rw[uM];have e:a.tmps.setIfInBounds d (a.tmps.getD d undef)=a.tmps:=by
    apply Array.ext_getElem?;intro i;rw[jy];split
    ·rename_i h;subst h;split
     ·rename_i h2;simp[h2]
     ·rename_i h2;exact (j6 (by omega)).symm
    ·rfl
   show uM { a with tmps:=a.tmps.setIfInBounds d (a.tmps.getD d undef) } ds y=a;rw[e];exact hy
theorem ED:∀ (is:List Nat) (l:Array Bool) (j:Nat) (b:Bool),(zo l is).getD j b=if j∈is∧j<l.size then true else l.getD j b
 | [],l,j,b=>by simp[zo]
 | i::is,l,j,b=>by
   have h:=ED is (l.setIfInBounds i true) j b;rw[jq] at h;show (zo (l.setIfInBounds i true) is).getD j b=_;rw[h]
   by_cases h1:j∈is∧j<l.size
   ·rw[ak h1,ak ⟨dh _ h1.1,h1.2⟩]
   ·rw[aK h1]
    by_cases h2:j=i
    ·subst h2
     by_cases h3:j<l.size
     ·rw[ak ⟨bK,h3⟩];simp[h3]
     ·rw[aK (fun h=>h3 h.2)];simp[h3]
    ·rw[aK (fun h=>(List.mem_cons.1 h.1).elim h2 (fun h4=>h1 ⟨h4,h.2⟩))];simp[mO (jJ h2)]
theorem CQ:∀ (is:List Nat) (l:Array Bool),(zo l is).size=l.size
 | [],_=>rfl
 | i::is,l=>by
   show (zo (l.setIfInBounds i true) is).size=_;rw[CQ is,jq]
open Classical in
theorem qy.many {S:World→Prop}{n f:Nat}{listed:Array Bool}{a:Act}{w:World}(is:List Nat)(ds:List Tmp)(Φ:Nat→Value→World→Prop)
 (hmono:∀ k v W W',Φ k v W→Below W.heap.size W W'→Φ k v W') (hB:VU ops n listed is=true) (hlen:ds.length=is.length) (hnd:ds.Nodup)
 (hS:S w) (agQ:∀ W W',S W→Below W.heap.size W W'→S W')
 (hops:∀ k i d o,is[k]? = some i→ds[k]? = some d→ops[i]? = some o→o.dst=some d∧∀ y W',S W'→Oper.wp P o (uM a ds y) W' (fun a'' W''=>∃ v,a''=(uM a ds y).put (some d) v∧Φ k v W''∧Below W'.heap.size W' W'') Q)
 (h:∀ y W',S W'→(∀ k,k<is.length→Φ k (y k) W')→qy P ops Q S n f (zo listed is) (uM a ds y) W') :
 qy P ops Q S n (is.length+f) listed a w:=fun inv=>by
 unfold VU at hB;rw[dx,dx,gJ,iq,iq] at hB;obtain⟨⟨agR,aiC⟩,hblk'⟩:=hB;have hblk:∀ j,j<ops.size→F5 ops listed is j=true:=fun j hj=>hblk' j (List.mem_range.2 hj)
 have his:∀ k i,is[k]? = some i→i<n∧listed.getD i true=false∧∃ o,ops[i]? = some o∧o.guard=none∧∀ e∈o.after,Region.binds .any e=true→listed.getD e.on false=true∨∃ k',k'<k∧is[k']? = some e.on:=fun k i hk=>by
  have h1:=aiC k (List.mem_range.2 (List.getElem?_eq_some_iff.1 hk).1);simp only[hk] at h1;cases ho:ops[i]? with
  | none=>simp[ho] at h1
  | some o=>
    simp only[ho,dx,gJ,kE] at h1;refine⟨h1.1.1,h1.1.2,o,rfl,by simpa using h1.2.1,fun e he hb=>?_⟩;have h2:=Array.all_eq_true'.1 h1.2.2 e he;simp only[hb,Bool.not_true,Bool.false_or,iZ] at h2;rcases h2 with h2 | h2
    ·exact .inl h2
    ·obtain⟨k',hk',he'⟩:=List.mem_iff_getElem.1 (show e.on∈is.take k by simpa using h2);rw[bG] at hk';rw[kF] at he';exact .inr ⟨k',by omega,by rw[aQ (by omega),he']⟩
 have hlt:∀ i∈is,i<listed.size:=fun i hi=>by
  obtain⟨k,hk,he⟩:=List.mem_iff_getElem.1 hi;obtain⟨_,_,o,ho,_⟩:=his k i (by rw[aQ hk,he]);rw[inv.size];exact (Array.getElem?_eq_some_iff.1 ho).1
 suffices key:∀ (m:Nat) (rem:List Nat) (l':Array Bool) (y:Nat→Value) (W:World),rem.length=m→rem.Nodup→(∀ k∈rem,k<is.length)→l'.size=listed.size →
  (∀ j b,l'.getD j b=if (∃ k,is[k]? = some j∧k ∉ rem) then true else listed.getD j b)→HeadInv .any ops n l'→S W→(∀ k,k<is.length→k ∉ rem→Φ k (y k) W) →
  Eh P .any ops Q S n (V9 P ops Q n) (m+f) l' (uM a ds y) W by
  obtain⟨y,hy⟩:=Jt ds a;have h1:=key is.length (List.range is.length) listed y w (nR ..) (List.nodup_range ..) (fun k hk=>List.mem_range.1 hk) rfl (fun j b=>by
   rw[aK];rintro⟨k,hk,hn⟩;exact hn (List.mem_range.2 (List.getElem?_eq_some_iff.1 hk).1)) inv hS (fun k hk hn=>absurd (List.mem_range.2 hk) hn)
  rwa [hy] at h1
 intro m
 induction m with
 | zero=>
   intro rem l' y W hm _ _ hsz hl' af8 hW hΦ;have hr0:rem=[]:=dG hm;subst hr0;rw[dX];have hl:l'=zo listed is:=by
    apply Array.ext
    ·rw[hsz,CQ]
    ·intro j h1 h2;have h3:=hl' j false;have h4:=ED is listed j false;simp only[kU,iy h1,iy h2,jQ] at h3 h4;rw[h3,h4]
     by_cases hj:j∈is
     ·obtain⟨k,hk,he⟩:=List.mem_iff_getElem.1 hj;rw[ak ⟨k,by rw[aQ hk,he],iw⟩,ak ⟨hj,hlt j hj⟩]
     ·rw[aK (fun ⟨k,hk,_⟩=>hj (dP hk)),aK (fun h=>hj h.1)]
   subst hl;exact h y W hW (fun k hk=>hΦ k hk iw) af8
 | succ m ih=>
   intro rem l' y W hm hnr hrl hsz hl' af8 hW hΦ;have hne:rem≠[]:=fun e=>by rw[e] at hm;cases hm
   obtain⟨k0,hk0,hmin⟩:=least rem hne;have aea:=hrl k0 hk0;have hone:is[k0]∈Region.ready .any ops l':=by
    obtain⟨_,hu,o,ho,_,ha⟩:=his k0 is[k0] (aQ aea);refine mem_ready.2 ⟨?_,o,ho,fun e he hb=>?_⟩
    ·rw[hl' is[k0] true,aK,hu];rintro⟨k',hk',hn'⟩;have:k'=k0:=(List.getElem?_inj (List.getElem?_eq_some_iff.1 hk').1 agR).1 (hk'.trans (aQ aea).symm);exact hn' (this ▸ hk0)
    ·rw[hl' e.on false];split
     ·rfl
     ·rename_i hx;rcases ha e he hb with h1 | ⟨k',hk',h1⟩
      ·exact h1
      ·exact absurd ⟨k',h1,fun hr=>by have:=hmin k' hr;omega⟩ hx
   have agS:∀ j∈Region.ready .any ops l',∃ k∈rem,is[k]? = some j:=fun j hj=>by
    obtain⟨hu,o,ho,ha⟩:=mem_ready.1 hj;have hjs:j<ops.size:=(Array.getElem?_eq_some_iff.1 ho).1;have hb:=hblk j hjs;simp only[F5,ho,lq,jQ,iZ] at hb;rw[hl' j true] at hu;split at hu
    ·cases hu
    ·rename_i hnd';rcases hb with (hb | hb)|hb | hb
     ·rw[hu] at hb;cases hb
     ·have hj':j∈is:=by simpa using hb
      obtain⟨k,hk,he⟩:=List.mem_iff_getElem.1 hj';have hkj:is[k]? = some j:=by rw[aQ hk,he]
      refine⟨k,?_,hkj⟩;exact Classical.byContradiction fun hn'=>hnd' ⟨k,hkj,hn'⟩
     ·obtain⟨e,he,hc⟩:=Array.any_eq_true'.1 hb;simp only[dx,kE] at hc;have h3:=ha e he hc.1.1;rw[hl' e.on false] at h3;split at h3
      ·rename_i hx;obtain⟨k,hk,_⟩:=hx;have:is.contains e.on=true:=by simpa using dP hk
       rw[this] at hc;exact absurd hc.1.2 (by decide)
      ·rw[hc.2] at h3;cases h3
     ·have h3:=List.all_eq_true.1 hb is[k0] (eF aea);obtain⟨e,he,hc⟩:=Array.any_eq_true'.1 h3;simp only[dx,jH] at hc;have h4:=ha e he hc.1;rw[hc.2,hl' is[k0] false] at h4;split at h4
      ·rename_i hx;obtain⟨k,hk,hn'⟩:=hx;have:k=k0:=(List.getElem?_inj (List.getElem?_eq_some_iff.1 hk).1 agR).1 (hk.trans (aQ aea).symm);exact absurd (this ▸ hk0) hn'
      ·have h6:=getD_both (his k0 is[k0] (aQ aea)).2.1;rw[h6] at h4;cases h4
   rw[show m+1+f=(m+f)+1 by omega];refine⟨fun h0=>?_,fun j hj=>?_⟩
   ·rw[h0] at hone;cases hone
   ·obtain⟨k,hk,hkj⟩:=agS j hj;have hmem:=dP hkj;obtain⟨hjn,_,o,ho,hg,_⟩:=his k j hkj;obtain⟨d,hd⟩:∃ d,ds[k]? = some d:=⟨_,aQ (by have:=hrl k hk;omega)⟩;obtain⟨hdst,hop⟩:=hops k j d o hkj hd ho;refine⟨hjn,?_⟩;unfold wpOp;simp only[ho];rw[ak (by simp[Region.wanted,hg])];refine .inl (Oper.wp_mono (fun a' w' hx=>?_) (hop y W hW));obtain⟨v,rfl,hv,hb⟩:=hx;rw[MF ds a y k d v hnd hd];have hW':=agQ _ _ hW hb;refine⟨hW',ih (rem.erase k) _ _ w' (by rw[List.length_erase_of_mem hk];omega) (hnr.erase k) (fun k' hk'=>hrl k' (oJ hk')) (by rw[jq,hsz]) (fun j' b=>?_) (af8.set hj hjn) hW' (fun k' hk' hn'=>?_)⟩
    ·by_cases hjj:j'=j
     ·subst hjj;rw[ak ⟨k,hkj,fun hx=>by rw[hnr.mem_erase_iff] at hx;exact hx.1 rfl⟩];have:j'<l'.size:=by rw[hsz];exact hlt j' hmem
      simp[this]
     ·have h1:(l'.setIfInBounds j true).getD j' b=l'.getD j' b:=by simp[mO (jJ hjj)]
      rw[h1,hl' j' b]
      by_cases h2:∃ k,is[k]? = some j'∧k ∉ rem
      ·obtain⟨k2,hk2,hn2⟩:=h2;rw[ak ⟨k2,hk2,hn2⟩,ak ⟨k2,hk2,fun hx=>hn2 (oJ hx)⟩]
      ·rw[aK h2,aK];rintro⟨k2,hk2,hn2⟩;refine h2 ⟨k2,hk2,fun hx=>hn2 ?_⟩;rw[hnr.mem_erase_iff];refine⟨fun he=>hjj ?_,hx⟩;subst he;rw[hkj] at hk2;injection hk2 with hk2
       exact hk2.symm
    ·unfold Xm
     by_cases he:k'=k
     ·subst he;rw[ak rfl];exact hv
     ·rw[aK he];refine hmono _ _ _ _ (hΦ k' hk' (fun hx=>hn' ?_)) hb;rw[hnr.mem_erase_iff];exact⟨he,hx⟩
theorem xR {id:Nat}{a:Act}{w:World}(hm:P.follows .mixedOrders=true)
 (h:wpAny P .any ops (fun e a w=>e = .normal∧Q .normal a w) ops.size (Array.replicate ops.size false) a w.drew):(Code.region id ops true).wp P Q a w:=
 wp_mono (Q:=fun e a w=>e = .normal∧Q .normal a w) (wp_region_any hm h) (fun e a w he=>by obtain⟨h1,h2⟩:=he;subst h1;exact h2)
theorem Tk {c A B:Prop}[Decidable c](hc:c)(h:if c then A else B):A:=by rwa [ak hc] at h
end
end Go
namespace Go.Proofs.Y.PA
open Go.RowKit Go.Proofs.YW.o7 Go.Proofs.YW.pJ Go.Proofs.YW.pO
attribute [local go_sem] rZ r9 sU sV rX rY sN sO
def uE.f  : Option (List Int):=some (([208,215]:List Int))
theorem uE.c  (r:List Int)(w:World)(h:uE.f  = some r) :
 Calls Tryz.prog 95 #[] w fun e w'=>∃ v0_:Value,e = .returned (v0_)∧Kd.R (Kd.int .u8) 5 w' w.heap.size (fun _=>True) v0_ r∧Below w.heap.size w w':=by
 have HB:=Yu (bq w.heap.size w);have H:(some (([208,215]:List Int)))=some r:=h;clear h;obtain⟨aiD,acW⟩:∃ y_:List Int,y_=(([208,215]:List Int)):=⟨_,rfl⟩;replace H:(some aiD)=some r:=by first|(rw[acW];with_reducible exact H)|(have H2_:=(dS _ _).symm.trans H;rw[acW];with_reducible exact H2_)|(have H2_:=(dS _ _).symm.trans H;with_reducible exact H2_)|with_reducible exact H | (rw[acW];exact H)|exact H
 have afH:=Yu acW;clear acW;obtain rfl:=bE H
 go_enter Tryz.func95,Tryz.ntmps95
 go_wp2_with (first|((with_reducible refine qK (N:=1) rfl ?_);refine Kd.VH (Kd.int .u8) _ 5 ?hg (N:=1) ?hd (xs:=([208,215]:List Int)) (inner:=[.int .u8 208,.int .u8 215]) (ok:=fun _=>True) (okp:=fun _=>True) ?hr ?hp (fun _ hk=>hk) dD (bq _ _) (aD _) (by simp) ?_;(case hd=>rfl);(case hg=>rfl);(case hr=>first|(go_simp;done)|(go_simp;rfl));(case hp=>exact (tq.one (show Kd.M (Kd.int .u8) _ _ _ 208 [.int .u8 208] from rfl) (tq.one (show Kd.M (Kd.int .u8) _ _ _ 215 [.int .u8 215] from rfl) (tq.none _ _))));intro v162 w1 ho2 hb hg_ adx;clear hg_ adx;(first | rw[← afH.o] at ho2 | (simp only[Int.reduceToNat] at ho2;rw[← afH.o] at ho2));have n0_:=Yu (Kd.sj ho2 (pX (by repeat (first|(with_reducible first | exact HB.o | apply o8 | apply pz | apply pF)|exact HB.o))));have n1_:=Yu (o9 (by repeat (first|(with_reducible first | exact HB.o | apply o8 | apply pz | apply pF)|exact HB.o)) hb);clear HB;have agT:=n0_;have HB:=n1_;clear n0_ n1_;clear hb ho2))
 go_ret;exact⟨_,by first | rfl | (simp[qw,qx]<;>rfl)|(simp[*,qw,qx]<;>rfl),by (with_reducible repeat (first | apply Kd.vO | apply Kd.Aj | apply Kd.FR));exact agT.o,by repeat (first|(with_reducible first | exact HB.o | apply o8 | apply pz | apply pF)|exact HB.o)⟩
end Go.Proofs.Y.PA
