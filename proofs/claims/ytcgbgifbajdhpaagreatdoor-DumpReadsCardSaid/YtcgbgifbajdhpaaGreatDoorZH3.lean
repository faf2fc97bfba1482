/- Of the law ZHQDumpReads. -/
import Derived.Test.YtcgbgifbajdhpaaGreatDoorProg
import Derived.Test.YtcgbgifbajdhpaaGreatDoorZH2
import Derived.Lib.Hide
import Derived.Laws.Cover1
import Derived.StillTailTactics
import Derived.WalkSpells
import Derived.Shelf.Spec.TrailingZeros
import Derived.OrdersIn
import Derived.RangeFuncCalls
import Derived.RangeFuncKeeps
set_option linter.unusedVariables false
set_option linter.unusedSimpArgs false
set_option maxHeartbeats 8000000
set_option maxRecDepth 100000
namespace Go
abbrev aC:=@decide_eq_true
abbrev aD:=@decide_eq_false
abbrev cZ:=@Option.bind_some
abbrev dH:=@Nat.pow_le_pow_right
abbrev dI:=@List.mem_of_getElem?
abbrev dK:=@Nat.zero_add
abbrev dL:=@List.getElem_mem
abbrev eZ:=@Int.natCast_nonneg
abbrev fu:=@List.mem_singleton
abbrev fM:=@decide_eq_true_eq
abbrev gD:=@Nat.mod_two_eq_zero_or_one
abbrev gY:=@List.not_mem_nil
abbrev iK:=@Go.ByteArray.toList_eq
abbrev iU:=@List.all_eq_true
abbrev iW:=@Nat.xor_lt_two_pow
abbrev iY:=@Array.size_setIfInBounds
abbrev jg:=@Array.getElem?_setIfInBounds
abbrev jk:=@Nat.pow_succ
abbrev jv:=@List.foldl_append
abbrev jw:=@Bool.not_eq_true'
abbrev jC:=@Option.getD_some
abbrev j3:=@List.getElem_take
abbrev lY:=@Go.Lib.run_eql_slice_nil
abbrev l7:=@Array.getElem?_setIfInBounds_ne
abbrev mI:=@List.map_congr_left
abbrev mU:=@Array.getD_eq_getD_getElem?
abbrev mZ:=@Nat.mul_assoc
abbrev nV:=@Option.map_some
abbrev oq:=@Array.mem_of_getElem?
abbrev ou:=@List.mem_of_mem_erase
abbrev oL:=@if_true
end Go
namespace Go.Proofs.Y.PA
open Go.RowKit Go.Proofs.YW.oO Go.Proofs.YW.pq Go.Proofs.YW.pz
attribute [local go_sem] sV sZ uE uF sW tq uj um
def Yg:Option Int→Value
 | none => .nilIface
 | some c => .iface 0 (.int .i64 c)
theorem pQ:Yg none = .nilIface:=rfl
theorem pR (c:Int):Yg (some c) = .iface 0 (.int .i64 c):=rfl
theorem Bz:(Tryz.prog.info? 51).map (fun i=>(i.zero,i.size,i.bytes))=some (some (.agg #[(.slice none 0 0),(.slice none 0 0)]),2,48):=by kernel_rfl
theorem KN:(Tryz.prog.info? 68).map (fun i=>(i.zero,i.size,i.bytes))=some (some (.agg #[(.string ⟨#[]⟩),(.string ⟨#[]⟩)]),2,32):=by kernel_rfl
theorem ze:(Tryz.prog.info? 70).map (fun i=>(i.zero,i.size,i.bytes))=some (some (.agg #[(.int .i64 0),(.int .u64 0)]),2,16):=by kernel_rfl
structure tQ where
 f0:ByteArray
 f1:ByteArray
def z68:tQ:=⟨(⟨#[]⟩:ByteArray),(⟨#[]⟩:ByteArray)⟩
def xU:Kd tQ:=Kd.Yj (Kd.pair Kd.string Kd.string) (fun x:tQ=>(x.f0,x.f1))
theorem MV {w:World}{x:tQ}{cs:List Value}(h:xU.K w x cs):cs=[.string x.f0,.string x.f1]:=by
 obtain⟨_,_,rfl,rfl,rfl⟩:=h;exact rfl
theorem Xv (w:World)(x:tQ)  : xU.K w x [.string x.f0,.string x.f1]:=⟨[.string x.f0],[.string x.f1],rfl,rfl,rfl⟩
theorem Em (w:World)(base:Nat)(ok:Nat→Prop)(x:tQ)  : xU.M w base ok x [.string x.f0,.string x.f1]:=⟨[.string x.f0],[.string x.f1],rfl,rfl,rfl⟩
def qN (xs:List tQ)(i:Int):tQ:=xs.getD i.toNat z68
theorem xu {w:World}{A:Option Addr}{n:Nat}{xs:List tQ}(h:Kd.C xU w A n xs)(i:Int)(h0:0≤i)(h1:i<n):∃ ad , A=some ad∧w.cell? (ad.add (i.toNat*2))=some (.string (qN xs i).f0)∧w.cell? ⟨(ad.add (i.toNat*2)).block,(ad.add (i.toNat*2)).off+1,none⟩=some (.string (qN xs i).f1):=by
 obtain⟨ad,c,e,_,hK,hc0⟩:=Kd.CQ h z68 i h0 h1;have hc:∀ j u,c[j]? = some u→w.cell? (ad.add (i.toNat*2+j))=some u:=hc0;obtain rfl:=MV hK;exact⟨ad,e,hc 0 _ rfl,by rw[← xX _ _ 1 (by omega)];exact hc 1 _ rfl⟩
structure qG where
 f0:Int
 f1:Int
def z70:qG:=⟨(0:Int),(0:Int)⟩
def vX:Kd qG:=Kd.Yj (Kd.pair (Kd.int .i64) (Kd.int .u64)) (fun x:qG=>(x.f0,x.f1))
theorem MW {w:World}{x:qG}{cs:List Value}(h:vX.K w x cs):cs=[.int .i64 x.f0,.int .u64 x.f1]:=by
 obtain⟨_,_,rfl,rfl,rfl⟩:=h;exact rfl
theorem Q5 {w:World}{base:Nat}{ok:Nat→Prop}{x:qG}{cs:List Value}(h:vX.M w base ok x cs):cs=[.int .i64 x.f0,.int .u64 x.f1]:=by
 obtain⟨_,_,rfl,rfl,rfl⟩:=h;exact rfl
theorem Xw (w:World)(x:qG)  : vX.K w x [.int .i64 x.f0,.int .u64 x.f1]:=⟨[.int .i64 x.f0],[.int .u64 x.f1],rfl,rfl,rfl⟩
theorem En (w:World)(base:Nat)(ok:Nat→Prop)(x:qG)  : vX.M w base ok x [.int .i64 x.f0,.int .u64 x.f1]:=⟨[.int .i64 x.f0],[.int .u64 x.f1],rfl,rfl,rfl⟩
def pI (xs:List qG)(i:Int):qG:=xs.getD i.toNat z70
theorem tY {w:World}{A:Option Addr}{n:Nat}{xs:List qG}(h:Kd.C vX w A n xs)(i:Int)(h0:0≤i)(h1:i<n):∃ ad , A=some ad∧w.cell? (ad.add (i.toNat*2))=some (.int .i64 (pI xs i).f0)∧w.cell? ⟨(ad.add (i.toNat*2)).block,(ad.add (i.toNat*2)).off+1,none⟩=some (.int .u64 (pI xs i).f1):=by
 obtain⟨ad,c,e,_,hK,hc0⟩:=Kd.CQ h z70 i h0 h1;have hc:∀ j u,c[j]? = some u→w.cell? (ad.add (i.toNat*2+j))=some u:=hc0;obtain rfl:=MW hK;exact⟨ad,e,hc 0 _ rfl,by rw[← xX _ _ 1 (by omega)];exact hc 1 _ rfl⟩
structure ru where
 f0:(List tQ)
 f1:(List qG)
def z51:ru:=⟨([]:List tQ),([]:List qG)⟩
def Bc:Kd ru:=Kd.Yj (Kd.pair (Kd.slice 68 xU) (Kd.slice 70 vX)) (fun x:ru=>(x.f0,x.f1))
theorem TP {w:World}{x:ru}{cs:List Value}(h:Bc.K w x cs):∃ A0 c0 A1 c1,cs=[.slice A0 x.f0.length c0,.slice A1 x.f1.length c1]∧x.f0.length≤c0∧xU.C w A0 x.f0.length x.f0∧x.f1.length≤c1∧vX.C w A1 x.f1.length x.f1:=by
 obtain⟨_,_,rfl,⟨A0,c0,rfl,l0,g0⟩,⟨A1,c1,rfl,l1,g1⟩⟩:=h;exact⟨A0,c0,A1,c1,rfl,l0,g0,l1,g1⟩
theorem KS (w:World)(x:ru){A0:Option Addr}{c0:Nat}(l0:x.f0.length≤c0)(g0:xU.C w A0 x.f0.length x.f0){A1:Option Addr}{c1:Nat}(l1:x.f1.length≤c1)(g1:vX.C w A1 x.f1.length x.f1):Bc.K w x [.slice A0 x.f0.length c0,.slice A1 x.f1.length c1]:=⟨[.slice A0 x.f0.length c0],[.slice A1 x.f1.length c1],rfl,⟨A0,c0,rfl,l0,g0⟩,⟨A1,c1,rfl,l1,g1⟩⟩
theorem VH (W:World)(ok:Nat→Prop)(x:ru){A0:Option Addr}{c0:Nat}(l0:x.f0.length≤c0)(g0:Kd.F xU W ok A0 x.f0.length x.f0){A1:Option Addr}{c1:Nat}(l1:x.f1.length≤c1)(g1:Kd.F vX W ok A1 x.f1.length x.f1):Kd.FK Bc W ok x [.slice A0 x.f0.length c0,.slice A1 x.f1.length c1]:=fun W2 hW=>KS W2 x l0 (g0 W2 hW) l1 (g1 W2 hW)
def qc (xs:List ru)(i:Int):ru:=xs.getD i.toNat z51
theorem wL {w:World}{A:Option Addr}{n:Nat}{xs:List ru}(h:Kd.C Bc w A n xs)(i:Int)(h0:0≤i)(h1:i<n):∃ ad A0 c0 A1 c1,A=some ad∧w.cell? (ad.add (i.toNat*2))=some (.slice A0 (qc xs i).f0.length c0)∧w.cell? ⟨(ad.add (i.toNat*2)).block,(ad.add (i.toNat*2)).off+1,none⟩=some (.slice A1 (qc xs i).f1.length c1)∧(qc xs i).f0.length≤c0∧xU.C w A0 (qc xs i).f0.length (qc xs i).f0∧(qc xs i).f1.length≤c1∧vX.C w A1 (qc xs i).f1.length (qc xs i).f1:=by
 obtain⟨ad,c,e,_,hK,hc0⟩:=Kd.CQ h z51 i h0 h1;have hc:∀ j u,c[j]? = some u→w.cell? (ad.add (i.toNat*2+j))=some u:=hc0;obtain⟨A0,c0,A1,c1,rfl,l0,g0,l1,g1⟩:=TP hK;exact⟨ad,A0,c0,A1,c1,e,hc 0 _ rfl,by rw[← xX _ _ 1 (by omega)];exact hc 1 _ rfl,l0,g0,l1,g1⟩
end Go.Proofs.Y.PA
namespace Go.Proofs.Y.G
open Go.RowKit Go.Proofs.YW.oO Go.Proofs.YW.pq Go.Proofs.YW.pz
def rD (N:Nat):Nat→List Int
 | 0=>[]
 | i+1=>((N / 256 ^ i % 256:Nat):Int)::rD N i
theorem pY (N i:Nat):(rD N i).length=i:=by induction i with
 | zero=>rfl
 | succ i ih=>simp[rD,ih]
theorem LW (N i:Nat):∀ x∈rD N i,0≤x∧x<256:=by induction i with
 | zero=>intro x hx;cases hx
 | succ i ih=>
   intro x hx;rcases List.mem_cons.1 hx with rfl | hx
   ·have:N / 256 ^ i % 256<256:=gG _ (by decide);omega
   ·exact ih x hx
def wI (V:Nat)(l:List Int):Nat:=l.foldl (fun v x=>v*256+x.toNat) V
theorem Bn (V:Nat)(x:Int)(l:List Int):wI V (x::l)=wI (V*256+x.toNat) l:=rfl
theorem Pw (N i:Nat):∀ V,wI V (rD N i)=V*256 ^ i+N % 256 ^ i:=by
 induction i with
 | zero=>intro V;simp[wI,rD,Nat.mod_one]
 | succ i ih=>
   intro V;rw[rD,Bn,ih,aG,jk,Nat.mod_mul,gI,mZ,dX 256 (256 ^ i),dX (N / 256 ^ i % 256)];omega
theorem Ul (i:Nat):0<256 ^ i:=Nat.pow_pos (by decide)
theorem Aa (l:List Int)(hl:∀ x∈l,0≤x∧x<256):∀ V m,V<256 ^ m→wI V l<256 ^ (m+l.length):=by
 induction l with
 | nil=>intro V m h;simpa [wI] using h
 | cons x l ih=>
   intro V m h;have hx:=hl x (cO ..);have:=ih (fun y hy=>hl y (dh _ hy)) (V*256+x.toNat) (m+1) (by rw[jk];omega);rw[Bn,bq];rwa [show m+(l.length+1)=m+1+l.length from by omega]
theorem XP (d:Nat)(L:List Int)(v:Int):(List.replicate (d+1) (0:Int)++L).set d v=List.replicate d 0++(v::L):=by
 rw[List.replicate_succ',bC,iV _ _ (by simp)];simp
theorem wK {x:Int}(h : -9223372036854775808≤x)(h':x≤9223372036854775807):wrap64 x=x:=by unfold wrap64;omega
theorem Y6 (V:Nat)(x:Int)(hV:V<256 ^ 7)(h0:0≤x)(h1:x<256):Go.bits .or .u64 (IntKind.u64.wrap ((V:Int)*256)) (IntKind.u64.wrap x)=((V*256+x.toNat:Nat):Int):=by
 have e1:IntKind.u64.wrap ((V:Int)*256)=((V*256:Nat):Int):=by
  simp[IntKind.wrap,IntKind.bits,IntKind.signed];omega
 have e2:IntKind.u64.wrap x=(x.toNat:Int):=by
  simp[IntKind.wrap,IntKind.bits,IntKind.signed];omega
 rw[e1,e2,u64_or_nat _ _ (by omega) (by omega),nat_join 8 (V*256) x.toNat (by simp) (by omega)]
theorem VY (l:List Int)(i:Nat)(h:i<l.length):l.drop i=rd l (i:Int)::l.drop (i+1):=by
 rw[fP h];simp[rd,aV,aR h]
theorem Fu (l:List Int)(i:Nat)(h:i<l.length):rd l (i:Int)∈l:=by
 simp[rd,aV,aR h]
def wid (a:Int):Nat:=min (max a 0).toNat 8
theorem Va (a:Int):wid a≤8:=by unfold wid;omega
def okB (l:List Int):Bool:=l.all fun x=>decide (0≤x∧x<256)
theorem qV {l:List Int}:okB l=true↔∀ x∈l,0≤x∧x<256:=by simp[okB]
theorem Xq {n:Int}(h:(Lit.int .i64 n).wf=true) : -9223372036854775808≤n∧n≤9223372036854775807:=by
 simpa [Lit.wf,IntKind.min,IntKind.max,IntKind.signed,IntKind.bits] using h
theorem P7 (N i:Nat):okB (rD N i)=true:=qV.2 (LW N i)
theorem JI {α:Type}{d:Kd α}{e base B:Nat}{ok:Nat→Prop}{w:World}{v:Value}{xs:List α}(h:d.R e w base ok v xs)(hb:∃ b,v.ownBlock=some b∧B≤b) :
 ∃ g cap,v = .slice (some ⟨g,0,none⟩) xs.length cap∧B≤g:=by
 obtain⟨inner,ho⟩:=Kd.FL h;obtain⟨b,hb,hB⟩:=hb;rcases ho.2 with ⟨rfl,_⟩ | ⟨g,cap,cur,rfl,_⟩
 ·simp[Value.ownBlock] at hb
 ·have:g=b:=by simpa [Value.ownBlock] using hb
  exact⟨g,cap,rfl,by omega⟩
theorem UG {a b:Bool}(h:a=b):Ending.returned (.bool a) = .returned (.bool b):=by rw[h]
theorem wu {α:Type}(d:Kd α)(e base:Nat)(w:World)(ok:Nat→Prop)(hb:base≤w.heap.size)(hok:ok w.heap.size) :
 d.R e (w.alloc (.cells #[] e)) base ok (.slice (some ⟨w.heap.size,0,none⟩) 0 0) []:=by
 refine⟨fun k hk=>?_,[],⟨by simp,.inr ⟨w.heap.size,0,#[],rfl,hb,kg w _,ay _,by simp[maxLen],by simp,by simp⟩⟩,qP.none _ _⟩;simp only[Value.ownBlock,bF] at hk;rw[← hk];exact hok
theorem rW:(Tryz.prog.info? 5).map (fun i=>(i.zero,i.size,i.bytes))=some (some (.int .u8 0),1,1):=by kernel_rfl
end Go.Proofs.Y.G
namespace Go.Proofs.Y.PA
open Go.RowKit Go.Proofs.Y.G Go.Proofs.YW.oO Go.Proofs.YW.pq Go.Proofs.YW.pz
def txt (a b:ByteArray):Int:=if (Op.bytesLess a.toList b.toList)=true then -1 else if (a.toList==b.toList)=true then 0 else 1
theorem texts.c (a b:ByteArray)(w:World):Calls Tryz.prog 86 #[.string a,.string b] w fun e w'=>e = .returned (.int .i64 (txt a b))∧w'=w:=by
 cases h1:Op.bytesLess a.toList b.toList with
 | true=>
   have HV:oM (txt a b = -1):=⟨by rw[txt,au h1]⟩
   go_enter Tryz.func86,Tryz.ntmps86
   go_wp2;go_ret;exact⟨by rw[HV.o];rfl,rfl⟩
 | false=>
   cases h2:a.toList==b.toList with
   | true=>
     have HV:oM (txt a b=0):=⟨by rw[txt,av (by rw[h1];simp),au h2]⟩
     go_enter Tryz.func86,Tryz.ntmps86
     go_wp2;go_ret;exact⟨by rw[HV.o];rfl,rfl⟩
   | false=>
     have HV:oM (txt a b=1):=⟨by rw[txt,av (by rw[h1];simp),av (by rw[h2];simp)]⟩
     go_enter Tryz.func86,Tryz.ntmps86
     go_wp2;go_ret;exact⟨by rw[HV.o];rfl,rfl⟩
theorem Xi.c (a b:ByteArray)(w:World):Calls Tryz.prog 104 #[.string a,.string b] w fun e w'=>e = .returned (.int .i64 (txt a b))∧w'=w:=by
 have ha:(a.toList==a.toList)=true:=by simp
 have hb:(b.toList==b.toList)=true:=by simp
 cases h1:Op.bytesLess a.toList b.toList with
 | true=>
   have HV:oM (txt a b = -1):=⟨by rw[txt,au h1]⟩
   go_enter Tryz.func104,Tryz.ntmps104
   go_wp2_with (first | go_in)
   go_ret;exact⟨by rw[HV.o];rfl,rfl⟩
 | false=>
   cases h2:a.toList==b.toList with
   | true=>
     have HV:oM (txt a b=0):=⟨by rw[txt,av (by rw[h1];simp),au h2]⟩
     go_enter Tryz.func104,Tryz.ntmps104
     go_wp2_with (first | go_in)
     go_ret;exact⟨by rw[HV.o];rfl,rfl⟩
   | false=>
     have HV:oM (txt a b=1):=⟨by rw[txt,av (by rw[h1];simp),av (by rw[h2];simp)]⟩
     go_enter Tryz.func104,Tryz.ntmps104
     go_wp2_with (first | go_in)
     go_ret;exact⟨by rw[HV.o];rfl,rfl⟩
end Go.Proofs.Y.PA
namespace Go.Proofs.Y.G
open Go.RowKit Go.Proofs.YW.oO Go.Proofs.YW.pq Go.Proofs.YW.pz
structure BW (w:World) where
 W:World
 hb:Below w.heap.size w W
instance (w:World):Inhabited (BW w):=⟨⟨w,aU _ _⟩⟩
theorem BW.cell {w:World}{a:Addr}{v:Value}(h:w.cell? a=some v)(p:BW w):p.W.cell? a=some v:=pW p.hb h
theorem qD {P:Program}{id:Nat}{Q:Exit→Act→World→Prop}{a:Act}{w:World}{l:List Oper}(hm:P.follows .mixedOrders=true)(hB:Region.lexB .any l.toArray=true)
 (h:wpQuiet P l.toArray (fun w'=>∃ p:BW w,w'=p.W) (fun a'=>∀ w',(∃ p:BW w,w'=p.W)→Q .normal a' w') l a):(Code.region id l.toArray true).wp P Q a w:=
 wp_region_quiet (C:=fun w'=>∃ p:BW w,w'=p.W) hm hB ⟨⟨w.drew,q9 (aU _ _)⟩,rfl⟩ (by simpa using h)
theorem qU {P:Program}{f:FuncId}{args:Array Value}{w:World}{p:BW w}{v:Value}(h:Calls P f args p.W fun e w'=>e = .returned v∧Below p.W.heap.size p.W w') :
 Calls P f args p.W fun e w''=>e = .returned v∧∃ q:BW w,w''=q.W:=
 h.mono fun _ w'' ⟨he,hb⟩=>⟨he,⟨w'',oP p.hb hb⟩,rfl⟩
theorem Lp {id:Nat}{P:Program}{Q:Exit→Act→World→Prop}{a:Act}{w:World}{l:List Oper}(n:Nat)(hm:P.follows .mixedOrders=true)(hB:Region.lexTailB .any l.toArray n=true)
 (h:∀ W,W=w.drew→wpStill P l.toArray W (fun a'=>wpList P l.toArray Q (l.drop n) a' W) (l.take n) a):(Code.region id l.toArray true).wp P Q a w:=
 wp_region_still_tail n hm hB (h _ rfl)
def bytes_Equal.f (l0 l1:List Int):Option Bool:=if okB l0=true∧okB l1=true then some (decide (l0=l1)) else none
def rE.f (l:List Int):Option (List Int):=if l.length≤140737488355328 then some l else none
theorem wU {a b:List Int}(ha:okB a=true)(hb:okB b=true):((strOfNums a).toList==(strOfNums b).toList)=decide (a=b):=by
 have key:∀ l:List Int,okB l=true→(strOfNums l).toList.map (fun x=>(x.toNat:Int))=l:=by
  intro l hl;have hl:=qV.1 hl;rw[show (strOfNums l).toList=l.map fun n=>UInt8.ofNat n.toNat from (iK _).trans (strOfNums_data l),List.map_map];refine (mI fun x hx=>?_).trans (List.map_id l);have:=hl x hx;simp only[Function.comp_apply,UInt8.toNat_ofNat',id];omega
 by_cases h:a=b
 ·subst h;simp
 ·rw[aD h,beq_eq_false_iff_ne];intro he;exact h (by rw[← key a ha,← key b hb,he])
theorem bytes_Equal.c (A0:Option Addr)(c0:Nat)(l0:List Int)(A1:Option Addr)(c1:Nat)(l1:List Int)(r:Bool)(w:World)(hr0:Kd.C (Kd.int .u8) w A0 l0.length l0)(hc0:l0.length≤c0)(hr1:Kd.C (Kd.int .u8) w A1 l1.length l1)(hc1:l1.length≤c1)(h:bytes_Equal.f l0 l1=some r) :
 Calls Tryz.prog 38 #[.slice A0 l0.length c0,.slice A1 l1.length c1] w fun e w'=>e = .returned (.bool r)∧pJ w w':=by
 unfold bytes_Equal.f at h;split at h
 case isFalse=>cases h
 case isTrue hok=>
 obtain rfl:=bB h;clear h;rw[← wU hok.1 hok.2];have ai6:=Kd.vJ (P:=Tryz.prog) (A:=A0) (c:=c0) Tryz.underlying24 Tryz.underlying5 Tryz.underlying9 hr0;have ai7:=Kd.vJ (P:=Tryz.prog) (A:=A1) (c:=c1) Tryz.underlying24 Tryz.underlying5 Tryz.underlying9 hr1;clear hr0 hc0 hr1 hc1 hok
 go_enter Tryz.func38,Tryz.ntmps38
 go_wp2;go_ret;exact⟨rfl,pJ.refl _⟩
theorem rE.c (A0:Option Addr)(c0:Nat)(l0:List Int)(r:List Int)(w:World)(hr0:Kd.C (Kd.int .u8) w A0 l0.length l0)(hc0:l0.length≤c0)(h:rE.f l0=some r) :
 Calls Tryz.prog 142 #[.slice A0 l0.length c0] w fun e w'=>∃ v0_:Value,e = .returned (v0_)∧Kd.R (Kd.int .u8) 5 w' w.heap.size (fun _=>True) v0_ r∧Below w.heap.size w w':=by
 unfold rE.f at h;split at h
 case isFalse=>cases h
 case isTrue hlen=>
 obtain rfl:=bB h;clear h;have HR:=Y7 hr0;have HL:=Y7 hlen;have hnil:=fun W n c=>lY (P:=Tryz.prog) W 24 5 A0 n c 0 0 Tryz.underlying24
 clear hr0 hc0 hlen;cases A0 with
 | none=>
   have h0:l0=[]:=by
    rcases dW l0.length with h0 | h0
    ·exact dx h0
    ·obtain⟨ad,e,_⟩:=HR.o.2.2 h0;cases e
   subst h0
   go_enter Tryz.func142,Tryz.ntmps142
   go_wp2;go_ret;exact⟨_,rfl,Kd.tJ _ _ _ _ _,aU _ _⟩
 | some ad=>
   go_enter Tryz.func142,Tryz.ntmps142
   have hE:=Y7 (wu (Kd.int .u8) 5 w.heap.size w (fun _=>True) (ay _) bE)
   go_wp2_with ((with_reducible refine qm (N:=7) rfl ?_);refine Kd.uX (Value.int .u8) 0 (h1:=fun _=>rfl) w.heap.size rfl (.tmp 5) (.tmp 6) 24 5 (.int .u8 0) 1 rfl Tryz.underlying24 rW rfl (by decide) _ [] l0 (some ad) l0.length c0 (fun _=>True) rfl rfl (fun _ _=>bE) hE.o (Kd.o9 HR.o (oN (aU _ _) _)) (oN (aU _ _) _) ?hb ?hl ?_;(case hb=>simp);(case hl=>(have:=HL.o;simp;omega));intro v1 w1 hR1 hB1 hg_ ho_;rw[cB] at hR1;have HR1:=Y7 hR1;have HB1:=Y7 hB1;clear hR1 hB1 hg_ ho_)
   go_ret;exact⟨_,rfl,HR1.o,HB1.o⟩
end Go.Proofs.Y.G
namespace Go.Proofs.Y.PA
open Go.RowKit Go.Proofs.YW.oO Go.Proofs.YW.pq Go.Proofs.YW.pz
attribute [local go_sem] sV sZ uE uF sW tq uj um
mutual
def qb.j0:Nat→Int→Int→Bool→Option (Int)
 | 0,_,_,_=>none
 | k+1,x0,x3,x7=>if x7=true then (some (wrap64 ((wrap64 ((wrap64 (x3-1))-1))-1))) else (if x0≥(-2048) then (qb.j1 k x0 x3 (decide (x0<2048))) else (qb.j1 k x0 x3 false))
def qb.j1:Nat→Int→Int→Bool→Option (Int)
 | 0,_,_,_=>none
 | k+1,x0,x3,x14=>if x14=true then (some (wrap64 ((wrap64 (x3-1))-1))) else (if x0≥(-2147483648) then (if x0<2147483648 then (some (wrap64 (x3-1))) else (some x3)) else (some x3))
end
def qb.f (k:Nat)(a0:Int):Option (Int):=if a0=0 then (some 0) else (if a0≥(-64) then (qb.j0 k a0 4 (decide (a0<64))) else (qb.j0 k a0 4 false))
theorem qb.TV:∀ k,(∀ y0 y1 y2,Bb (qb.j0 k y0 y1 y2) (qb.j0 (k+1) y0 y1 y2))∧(∀ y0 y1 y2,Bb (qb.j1 k y0 y1 y2) (qb.j1 (k+1) y0 y1 y2))
 | 0=>⟨fun _ _ _ r h=>by simp[qb.j0] at h,fun _ _ _ r h=>by simp[qb.j1] at h⟩
 | k+1=>by
   obtain⟨ih0,ih1⟩:=qb.TV k;refine⟨?_,?_⟩
   ·intro y0 y1 y2;unfold qb.j0
    repeat' first
    | (with_reducible exact ih0 _ _ _)
    | (with_reducible exact ih1 _ _ _)
    | (with_reducible exact Bb.refl _)
    | (with_reducible exact Bb.none _)
    | (with_reducible refine Bb.ite ?_ ?_)
    | (with_reducible refine Bb.bind ?_ (fun _=>?_))
    | exact ih0 _ _ _
    | exact ih1 _ _ _
    | exact Bb.none _
    | refine Bb.ite ?_ ?_
    | refine Bb.bind ?_ (fun _=>?_)
   ·intro y0 y1 y2;unfold qb.j1
    repeat' first
    | (with_reducible exact ih0 _ _ _)
    | (with_reducible exact ih1 _ _ _)
    | (with_reducible exact Bb.refl _)
    | (with_reducible exact Bb.none _)
    | (with_reducible refine Bb.ite ?_ ?_)
    | (with_reducible refine Bb.bind ?_ (fun _=>?_))
    | exact ih0 _ _ _
    | exact ih1 _ _ _
    | exact Bb.none _
    | refine Bb.ite ?_ ?_
    | refine Bb.bind ?_ (fun _=>?_)
theorem qb.mono:∀ a0 k,Bb (qb.f k a0) (qb.f (k+1) a0):=by
 intro a0 k;obtain⟨ih0,ih1⟩:=qb.TV k;unfold qb.f
 repeat' first
  | (with_reducible exact ih0 _ _ _)
  | (with_reducible exact ih1 _ _ _)
  | (with_reducible exact Bb.refl _)
  | (with_reducible exact Bb.none _)
  | (with_reducible refine Bb.ite ?_ ?_)
  | (with_reducible refine Bb.bind ?_ (fun _=>?_))
  | exact ih0 _ _ _
  | exact ih1 _ _ _
  | exact Bb.none _
  | refine Bb.ite ?_ ?_
  | refine Bb.bind ?_ (fun _=>?_)
theorem qb.c (k:Nat)(a0:Int)(r:Int)(w:World)(h:qb.f k a0=some r) :
 Calls Tryz.prog 144 #[.int .i64 a0] w fun e w'=>e = .returned (.int .i64 r)∧pJ w w':=by
 have H:(if a0=0 then (some 0) else (if a0≥(-64) then (qb.j0 k a0 4 (decide (a0<64))) else (qb.j0 k a0 4 false)))=some r:=h;clear h
 by_cases c2:a0=0
 ·rw[au c2] at H;have aav:(a0==0)=true:=beq_iff_eq.mpr c2;have aeg:(a0 != 0)=false:=bne_eq_false_iff_eq.mpr c2;clear c2;obtain rfl:=bB H
  go_enter Tryz.func144,Tryz.ntmps144
  go_wp2;go_ret;exact⟨by first | rfl | (simp;done)|(simp[*];done)|(simp;decide +kernel),by repeat (first | exact pJ.refl _ | apply pJ.step)⟩
 ·rw[av c2] at H;have aav:(a0==0)=false:=beq_eq_false_iff_ne.mpr c2;have aeg:(a0 != 0)=true:=bne_iff_ne.mpr c2;have HC3:=Y7 H;clear H
  go_enter Tryz.func144,Tryz.ntmps144
  go_upto_region 3 with (fail)
  go_cut [7] (fun v7 wc=>∃ (kq:Nat) (aaK:Bool),v7 = .bool aaK∧oM (qb.j0 kq a0 4 aaK=some r)∧oM (kq≤k)∧pJ w wc)
  case first=>
   have H:=HC3.o;clear HC3
   by_cases c4:a0≥(-64)
   ·rw[au c4] at H;have aaw:decide ((-64)≤a0)=true:=aC c4;clear c4
    (first | rw[aaw] | (simp only[q8,xE];rw[aaw])|skip)
    have H':=Y7 H;clear H;go_wp2
    go_meet
    case rel=>exact⟨_,(decide (a0<64)),(by first | rfl | (simp;done)|(simp[*];done)),H',⟨by first | omega | exact ay _⟩,by repeat (first | exact pJ.refl _ | apply pJ.step)⟩
   ·rw[av c4] at H;have aaw:decide ((-64)≤a0)=false:=aD c4;clear c4
    (first | rw[aaw] | (simp only[q8,xE];rw[aaw])|skip)
    have H':=Y7 H;clear H;go_wp2
    go_meet
    case rel=>exact⟨_,(false),(by first | rfl | (simp;done)|(simp[*];done)),H',⟨by first | omega | exact ay _⟩,by repeat (first | exact pJ.refl _ | apply pJ.step)⟩
  case rest=>
   clear HC3
   try clear c1
   try clear c2
   try clear aav
   try clear aeg
   try clear p2
   try clear c4
   try clear aaw
   obtain⟨kq,aaK,rfl,HA,HJ2,⟨mc2,rfl⟩⟩:=hcut;cases kq with
   | zero=>exact absurd HA.o (by simp[qb.j0])
   | succ kj2=>
     have H:=HA.o;clear HA;simp only[qb.j0] at H
     by_cases c5:aaK=true
     ·subst c5;have H1:(some (wrap64 ((wrap64 ((wrap64 (4-1))-1))-1)))=some r:=by rw[au rfl] at H;exact H
      clear H;have H:=H1;clear H1;obtain rfl:=bB H;go_wp2;go_ret;exact⟨by first | rfl | (simp;done)|(simp[*];done)|(simp;decide +kernel),by repeat (first | exact pJ.refl _ | apply pJ.step)⟩
     ·replace c5:=Bool.eq_false_iff.mpr c5;subst c5;have H1:(if a0≥(-2048) then (qb.j1 kj2 a0 4 (decide (a0<2048))) else (qb.j1 kj2 a0 4 false))=some r:=by rw[av (show ¬ (false=true) by decide)] at H;exact H
      clear H;have H:=H1;clear H1;have HC6:=Y7 H;clear H
      go_upto_region 4 with (fail)
      go_cut [14] (fun v14 wc=>∃ (kq:Nat) (aeY:Bool),v14 = .bool aeY∧oM (qb.j1 kq a0 4 aeY=some r)∧oM (kq≤kj2)∧pJ w wc)
      case first=>
       have H:=HC6.o;clear HC6
       by_cases c7:a0≥(-2048)
       ·rw[au c7] at H;have ZV:decide ((-2048)≤a0)=true:=aC c7;clear c7
        (first | rw[ZV] | (simp only[q8,xE];rw[ZV])|skip)
        have H':=Y7 H;clear H;go_wp2
        go_meet
        case rel=>exact⟨_,(decide (a0<2048)),(by first | rfl | (simp;done)|(simp[*];done)),H',⟨by have:=HJ2.o;first | omega | exact ay _⟩,by repeat (first | exact pJ.refl _ | apply pJ.step)⟩
       ·rw[av c7] at H;have ZV:decide ((-2048)≤a0)=false:=aD c7;clear c7
        (first | rw[ZV] | (simp only[q8,xE];rw[ZV])|skip)
        have H':=Y7 H;clear H;go_wp2
        go_meet
        case rel=>exact⟨_,(false),(by first | rfl | (simp;done)|(simp[*];done)),H',⟨by have:=HJ2.o;first | omega | exact ay _⟩,by repeat (first | exact pJ.refl _ | apply pJ.step)⟩
      case rest=>
       clear HC6
       try clear c1
       try clear c2
       try clear aav
       try clear aeg
       try clear p2
       try clear c4
       try clear aaw
       try clear c5
       try clear p6
       try clear c7
       try clear ZV
       try clear p2
       obtain⟨kq,aeY,rfl,HA,HJ5,⟨mc5,rfl⟩⟩:=hcut;cases kq with
       | zero=>exact absurd HA.o (by simp[qb.j1])
       | succ kj5=>
         have H:=HA.o;clear HA;simp only[qb.j1] at H
         by_cases c8:aeY=true
         ·subst c8;have H1:(some (wrap64 ((wrap64 (4-1))-1)))=some r:=by rw[au rfl] at H;exact H
          clear H;have H:=H1;clear H1;obtain rfl:=bB H;go_wp2;go_ret;exact⟨by first | rfl | (simp;done)|(simp[*];done)|(simp;decide +kernel),by repeat (first | exact pJ.refl _ | apply pJ.step)⟩
         ·replace c8:=Bool.eq_false_iff.mpr c8;subst c8;have H1:(if a0≥(-2147483648) then (if a0<2147483648 then (some (wrap64 (4-1))) else (some 4)) else (some 4))=some r:=by rw[av (show ¬ (false=true) by decide)] at H;exact H
          clear H;have H:=H1;clear H1
          by_cases c9:a0≥(-2147483648)
          ·rw[au c9] at H;have aeh:decide ((-2147483648)≤a0)=true:=aC c9;clear c9
           by_cases c10:a0<2147483648
           ·rw[au c10] at H;have adB:decide (a0<2147483648)=true:=aC c10;clear c10;obtain rfl:=bB H;go_wp2;go_ret;exact⟨by first | rfl | (simp;done)|(simp[*];done)|(simp;decide +kernel),by repeat (first | exact pJ.refl _ | apply pJ.step)⟩
           ·rw[av c10] at H;have adB:decide (a0<2147483648)=false:=aD c10;clear c10;obtain rfl:=bB H;go_wp2;go_ret;exact⟨by first | rfl | (simp;done)|(simp[*];done)|(simp;decide +kernel),by repeat (first | exact pJ.refl _ | apply pJ.step)⟩
          ·rw[av c9] at H;have aeh:decide ((-2147483648)≤a0)=false:=aD c9;clear c9;obtain rfl:=bB H;go_wp2;go_ret;exact⟨by first | rfl | (simp;done)|(simp[*];done)|(simp;decide +kernel),by repeat (first | exact pJ.refl _ | apply pJ.step)⟩
attribute [local go_sem] sV sZ uE uF sW tq uj um
def uH.f (a0:Int):Option (Int):=if a0=1 then (some 7) else (if a0=2 then (some 12) else (if a0=3 then (some 32) else (if a0=4 then (some 64) else (some 0))))
theorem uH.c (a0:Int)(r:Int)(w:World)(h:uH.f a0=some r) :
 Calls Tryz.prog 145 #[.int .i64 a0] w fun e w'=>e = .returned (.int .i64 r)∧pJ w w':=by
 have H:(if a0=1 then (some 7) else (if a0=2 then (some 12) else (if a0=3 then (some 32) else (if a0=4 then (some 64) else (some 0)))))=some r:=h;clear h
 by_cases c2:a0=1
 ·rw[au c2] at H;have aav:(a0==1)=true:=beq_iff_eq.mpr c2;have aeg:(a0 != 1)=false:=bne_eq_false_iff_eq.mpr c2;clear c2;obtain rfl:=bB H
  go_enter Tryz.func145,Tryz.ntmps145
  go_wp2;go_ret;exact⟨by first | rfl | (simp;done)|(simp[*];done)|(simp;decide +kernel),by repeat (first | exact pJ.refl _ | apply pJ.step)⟩
 ·rw[av c2] at H;have aav:(a0==1)=false:=beq_eq_false_iff_ne.mpr c2;have aeg:(a0 != 1)=true:=bne_iff_ne.mpr c2
  by_cases c3:a0=2
  ·rw[au c3] at H;have aax:(a0==2)=true:=beq_iff_eq.mpr c3;have abx:(a0 != 2)=false:=bne_eq_false_iff_eq.mpr c3;clear c3;obtain rfl:=bB H
   go_enter Tryz.func145,Tryz.ntmps145
   go_wp2;go_ret;exact⟨by first | rfl | (simp;done)|(simp[*];done)|(simp;decide +kernel),by repeat (first | exact pJ.refl _ | apply pJ.step)⟩
  ·rw[av c3] at H;have aax:(a0==2)=false:=beq_eq_false_iff_ne.mpr c3;have abx:(a0 != 2)=true:=bne_iff_ne.mpr c3
   by_cases c4:a0=3
   ·rw[au c4] at H;have aaw:(a0==3)=true:=beq_iff_eq.mpr c4;have aia:(a0 != 3)=false:=bne_eq_false_iff_eq.mpr c4;clear c4;obtain rfl:=bB H
    go_enter Tryz.func145,Tryz.ntmps145
    go_wp2;go_ret;exact⟨by first | rfl | (simp;done)|(simp[*];done)|(simp;decide +kernel),by repeat (first | exact pJ.refl _ | apply pJ.step)⟩
   ·rw[av c4] at H;have aaw:(a0==3)=false:=beq_eq_false_iff_ne.mpr c4;have aia:(a0 != 3)=true:=bne_iff_ne.mpr c4
    by_cases c5:a0=4
    ·rw[au c5] at H;have adJ:(a0==4)=true:=beq_iff_eq.mpr c5;have ak9:(a0 != 4)=false:=bne_eq_false_iff_eq.mpr c5;clear c5;obtain rfl:=bB H
     go_enter Tryz.func145,Tryz.ntmps145
     go_wp2;go_ret;exact⟨by first | rfl | (simp;done)|(simp[*];done)|(simp;decide +kernel),by repeat (first | exact pJ.refl _ | apply pJ.step)⟩
    ·rw[av c5] at H;have adJ:(a0==4)=false:=beq_eq_false_iff_ne.mpr c5;have ak9:(a0 != 4)=true:=bne_iff_ne.mpr c5;obtain rfl:=bB H
     go_enter Tryz.func145,Tryz.ntmps145
     go_wp2;go_ret;exact⟨by first | rfl | (simp;done)|(simp[*];done)|(simp;decide +kernel),by repeat (first | exact pJ.refl _ | apply pJ.step)⟩
end Go.Proofs.Y.PA
namespace Go.Proofs.Y.PA
open Go.RowKit Go.Proofs.Y.G Go.Proofs.YW.oO Go.Proofs.YW.pq Go.Proofs.YW.pz
structure yN (w:World):Prop where mk::(o:∀ j,j<64→w.cell? ⟨0,j,none⟩=some (.int .u8 (Lib.deBruijn64tab.getD j 0:Nat)))
theorem yN.below {w w1:World}(h:yN w)(hb:Below w.heap.size w w1):yN w1:=⟨fun j hj=>pW hb (h.o j hj)⟩
theorem Wo (x k idx:Nat)(w:World)(hx0:((x:Int)==0)=false)
 (key:IntKind.u64.wrap (bits BinOp.and IntKind.u64 (x:Int) (IntKind.u64.wrap (-(x:Int)))*285870213051353865) / 288230376151711744=(idx:Int))
 (hi:idx<64) (hk:k<64) (hcell:w.cell? ⟨0,idx,none⟩=some (.int .u8 k)) :
 Calls Tryz.prog 126 #[.int .u64 x] w fun e w'=>e = .returned (.int .i64 k)∧w'=w:=by
 go_enter Tryz.func126,Tryz.ntmps126
 go_wp2_with (simp only[key])
 go_ret;exact⟨rfl,rfl⟩
theorem tz.c (x:Nat)(hx:x<18446744073709551616)(w:World)(hT:yN w) :
 Calls Tryz.prog 126 #[.int .u64 x] w fun e w'=>e = .returned (.int .i64 (Lib.ctz 64 x:Nat))∧w'=w:=by
 by_cases hx0:x=0
 ·subst hx0
  go_enter Tryz.func126,Tryz.ntmps126
  go_wp2;go_ret;exact⟨rfl,rfl⟩
 ·obtain⟨hlow,hk⟩:=Lib.lowest_bit 64 x hx0 hx;obtain⟨hi,htab⟩:=Lib.deBruijn64_at _ hk;have hcell:=hT.o _ hi;rw[htab] at hcell;exact Wo x _ _ w (by simp;omega) (tz64_key x _ hx hx0 hlow) hi hk hcell
end Go.Proofs.Y.PA
namespace Go.Proofs.Y.G
open Go.RowKit Go.Proofs.YW.oO Go.Proofs.YW.pq Go.Proofs.YW.pz
attribute [local go_sem] sV sZ uE uF
def uZ.f (a0 a1:Int):Option (List Int):=if 0≤a0∧a0<18446744073709551616 then some (rD a0.toNat (wid a1)) else none
theorem uZ.step {N m k:Nat}(hk:k<m):(List.replicate (m-k) (0:Int)++rD N k).set (m-1-k) ((N / 256 ^ k % 256:Nat):Int)=List.replicate (m-(k+1)) 0++rD N (k+1):=by
 obtain⟨d,rfl⟩:∃ d,m=k+1+d:=⟨m-(k+1),by omega⟩;rw[show k+1+d-k=d+1 from by omega,show k+1+d-1-k=d from by omega,show k+1+d-(k+1)=d from by omega,XP];rfl
theorem UW (N:Nat)(k:Nat):((N:Int) / 2 ^ (8*k)) % 256=((N / 256 ^ k % 256:Nat):Int):=by
 have h:(2:Int) ^ (8*k)=((256 ^ k:Nat):Int):=by
  rw[Int.pow_mul];simp
 rw[h,← Int.natCast_ediv];rfl
theorem uZ.c (a0 a1:Int)(r:List Int)(w:World)(h:uZ.f a0 a1=some r) :
 Calls Tryz.prog 31 #[.int .u64 a0,.int .i64 a1] w fun e w'=>∃ v0_:Value,e = .returned (v0_)∧Kd.R (Kd.int .u8) 5 w' w.heap.size (fun _=>True) v0_ r∧Below w.heap.size w w':=by
 unfold uZ.f at h;split at h
 case isFalse=>cases h
 case isTrue hN=>
  obtain rfl:=bB h;clear h;obtain⟨N,rfl⟩:=bO hN.1;rw[aG];obtain⟨j,hj⟩:∃ j:Int,(if a1<0 then 0 else a1)=j:=⟨_,rfl⟩;obtain⟨m,hm8,hm,hw⟩:∃ m:Nat,m≤8∧(if 8<j then 8 else j)=(m:Int)∧wid a1=m:=⟨wid a1,Va _,by unfold wid;split at hj<;>split<;>omega,rfl⟩;rw[hw];clear hw;have hm0:(m:Int)≤8:=by omega
  go_enter Tryz.func31,Tryz.ntmps31
  go_wp2_with ((with_reducible refine qm (N:=10) rfl ?_);refine Kd.Sj (Kd.int .u8) _ 5 rfl (N:=10) rfl 24 _ _ rfl (m:Int) rfl rfl Tryz.underlying24 (.int .u8 0) 1 rW rfl (by decide) (by omega) 0 (ok:=fun _=>True) (okp:=fun _=>True) rfl (fun _ hk=>hk) bE (by omega) (by omega) (aU _ _) (ay _) ?_;intro ala w7 ho8 hb hg_ ZG;rw[aG] at ho8;obtain⟨g,c9,e9,hgb⟩:=JI ho8 ZG;rw[jo] at e9;subst e9;have HO:=Y7 ho8;have HB:=Y7 hb;clear ho8 hb hg_ ZG)
  go_loopw [13] (fun i wr=>∃ k:Nat,k≤m∧i = .int .i64 k∧oM (Kd.R (Kd.int .u8) 5 wr w.heap.size (fun _=>True) (.slice (some ⟨g,0,none⟩) m c9) (List.replicate (m-k) 0++rD N k))∧oM (Below w.heap.size w wr)) (fun i _=>m-(intOf i).toNat)
  case atStart=>exact⟨0,bP _,rfl,⟨by simpa [rD] using HO.o⟩,HB⟩
  case round=>
   clear HO HB;obtain⟨k,hk,rfl,HO,HB⟩:=hrel
   by_cases hlt:k<m
   ·have e1:((m:Int)-1-(k:Int))=((m-1-k:Nat):Int):=by omega
    obtain⟨hc,hf⟩:=Kd.Gq 0 HO.o ((m-1-k:Nat):Int) (by omega) (by omega);have HP:=Y7 (Kd.N8 HO.o ((m-1-k:Nat):Int) ((N / 256 ^ k % 256:Nat):Int));rw[aG] at hc hf HP;have HS:=Y7 (uZ.step (N:=N) hlt);have HV:=Y7 (UW N k);go_wp2
    go_roundw
    case rel=>
     refine⟨k+1,by omega,by go_num,⟨?_⟩,⟨?_⟩⟩
     ·rw[HV.o,← HS.o];exact HP.o.1
     ·exact pF HB.o (by omega)
    case measure=>simp[intOf];omega
   ·obtain rfl:k=m:=by omega
    go_wp2;go_ret;exact⟨_,rfl,by simpa using HO.o,HB.o⟩
end Go.Proofs.Y.G
namespace Go.Proofs.Y.PA
open Go.RowKit Go.Proofs.Y.G Go.Proofs.YW.oO Go.Proofs.YW.pq Go.Proofs.YW.pz
def Lv (r:Int):Bool:=decide (32≤r) && !decide (r=127) && !decide (r=65533)
def Gj (s:ByteArray):Nat→Nat→Bool
 | 0,_=>true
 | b+1,pos=>if pos<s.size then Lv (Utf8.decode s pos).1&&Gj s b (pos+(Utf8.decode s pos).2) else true
def wN (s:ByteArray):Bool:=Gj s s.size 0
theorem width_pos (s:ByteArray)(pos:Nat)(h:pos<s.size):1≤(Utf8.decode s pos).2:=by
 by_cases ha:(s[pos]'h).toNat<128
 ·rw[decode_ascii s pos h ha];exact ay _
 ·exact (decode_high s pos h (by omega)).2
theorem Nl (s:ByteArray)(b pos:Nat)(h:¬ pos<s.size):Gj s b pos=true:=by
 cases b with
 | zero=>rfl
 | succ b=>rw[Gj,av h]
theorem xw (w:World)(s:ByteArray)(pos:Nat):Below w.heap.size w (w.iter s pos):=oN (aU _ _) _
theorem wN.c (s:ByteArray)(w:World):Calls Tryz.prog 128 #[.string s] w fun e w'=>e = .returned (.bool (wN s))∧Below w.heap.size w w':=by
 go_enter Tryz.func128,Tryz.ntmps128
 go_wp2
 go_loopw [] (fun w'=>∃ (pos b:Nat),w'=w.iter s pos∧oM (wN s=Gj s b pos)∧s.size≤pos+b) (fun w'=>s.size-w'.iterPos w.heap.size)
 case atStart=>exact⟨0,s.size,rfl,⟨rfl⟩,by omega⟩
 case round=>
  obtain⟨pos,b,rfl,HC,hb⟩:=hrel
  by_cases hp:pos<s.size
  ·have hnx:∀ ty,(Instr.next (.pointer (some ⟨w.heap.size,0,none⟩)) true ty).run Tryz.prog (w.iter s pos)=_:=fun ty=>run_next_any w s pos ty hp
   have hwd:=width_pos s pos hp;cases b with
   | zero=>omega
   | succ b=>
     have HS:oM (wN s=(Lv ((Utf8.decode s pos).1:Int)&&Gj s b (pos+(Utf8.decode s pos).2))):=⟨by rw[HC.o,Gj,au hp]⟩;generalize (((Utf8.decode s pos).1:Nat):Int)=r at hnx HS
     by_cases h1:r<32
     ·have HF:oM (wN s=false):=⟨by rw[HS.o,Lv,aD (by omega)];rfl⟩;go_wp2;go_ret;exact⟨by rw[HF.o];rfl,xw _ _ _⟩
     ·by_cases h2:r=127
      ·have HF:oM (wN s=false):=⟨by rw[HS.o,Lv,aC h2];simp⟩;go_wp2;go_ret;exact⟨by rw[HF.o];rfl,xw _ _ _⟩
      ·by_cases h3:r=65533
       ·have HF:oM (wN s=false):=⟨by rw[HS.o,Lv,aC h3];simp⟩;go_wp2;go_ret;exact⟨by rw[HF.o];rfl,xw _ _ _⟩
       ·have HF:oM (wN s=Gj s b (pos+(Utf8.decode s pos).2)):=⟨by rw[HS.o,Lv,aC (by omega),aD h2,aD h3];rfl⟩;have d1:decide (r<32)=false:=aD h1;have d2:(r==127)=false:=beq_eq_false_iff_ne.2 h2;have d3:(r==65533)=false:=beq_eq_false_iff_ne.2 h3;clear h1 h2 h3;go_wp2;refine⟨⟨pos+(Utf8.decode s pos).2,b,rfl,HF,by omega⟩,?_⟩;simp;omega
  ·have hnx:∀ ty,(Instr.next (.pointer (some ⟨w.heap.size,0,none⟩)) true ty).run Tryz.prog (w.iter s pos)=_:=fun ty=>run_next_end w s pos ty hp
   go_wp2;go_ret;exact⟨by rw[HC.o,Nl s b pos hp];rfl,xw _ _ _⟩
def uD.f (a:ByteArray):Option Bool:=some (wN a)
theorem uD.c (a0:ByteArray)(r:Bool)(w:World)(h:uD.f a0=some r) :
 Calls Tryz.prog 128 #[.string a0] w fun e w'=>e = .returned (.bool r)∧Below w.heap.size w w':=by
 obtain rfl:=bB h;exact wN.c a0 w
end Go.Proofs.Y.PA
namespace Go.Proofs.Y.G
open Go.RowKit Go.Proofs.YW.oO Go.Proofs.YW.pq Go.Proofs.YW.pz
section
variable {P:Program} {ops:Array Oper} {rest:List Oper} {o:Oper} {a:Act} {Q:Exit→Act→World→Prop}
theorem DY {w0 W:World}(base:Nat)(hgd:o.guard=none)(s x:Operand)(t u e:TypeId)
 (ho:o.op = .call { callee := .builtin .append,args := #[s,x],argTypes := #[t,u] })
 (ht:P.underlying t=some (.slice e)) (hu:P.underlying u=some .string) (hinfo:(P.info? e).map (fun i=>(i.zero,i.size,i.bytes))=some (some (.int .u8 0),1,1))
 (v:Value) (xs:List Int) (y:ByteArray) (hs:a.eval s=v) (hx:a.eval x = .string y)
 (HO:(Kd.int .u8).R e W base (fun _=>True) v xs) (HB:Below base w0 W) (hbase:base≤W.heap.size) (hl:xs.length+y.size≤140737488355328)
 (h:∀ v1 w1,(Kd.int .u8).R e w1 base (fun _=>True) v1 (xs++bytesOf y)→Below base w0 w1→wpList P ops Q rest (a.put o.dst v1) w1) :
 wpList P ops Q (o::rest) a W:=by
 refine Fp base hgd s x t u e ho ht hu hinfo v xs y hs hx (Kd.BD HO) HB hbase hl ?_;intro v1 w1 hown hb hg;exact h v1 w1 (Kd.y8 hown (fun _ _=>bE)) hb
theorem CS {w0 W:World}(base:Nat)(hgd:o.guard=none)(s x:Operand)(t e:TypeId)
 (ho:o.op = .call { callee := .builtin .append,args := #[s,x],argTypes := #[t,t] })
 (ht:P.underlying t=some (.slice e)) (hinfo:(P.info? e).map (fun i=>(i.zero,i.size,i.bytes))=some (some (.int .u8 0),1,1))
 (v:Value) (xs:List Int) (p q:Int) (hpq:p=q) (hs:a.eval s=v) (hx:a.eval x = .slice (some ⟨W.heap.size,0,none⟩) 1 1)
 (HO:(Kd.int .u8).R e W base (fun _=>True) v xs) (HB:Below base w0 W) (hbase:base≤W.heap.size) (hl:xs.length+1≤140737488355328)
 (h:∀ v1 w1,(Kd.int .u8).R e w1 base (fun _=>True) v1 (xs++[q])→Below base w0 w1→wpList P ops Q rest (a.put o.dst v1) w1) :
 wpList P ops Q (o::rest) a (W.alloc (.cells #[.int .u8 p] e)):=by
 subst hpq;refine Kd.yw (Kd.int .u8) (w0:=w0) base hgd s x t e (.int .u8 0) 1 ho ht hinfo rfl (by decide) (by decide) v xs p [.int .u8 p] (fun _=>True) (fun _=>False) hs hx rfl (fun _ hk=>hk.elim) (fun _ _=>bE) HO HB hbase (by omega) ?_;intro v1 w1 hr hb _ _;exact h v1 w1 hr hb
end
section
variable {P:Program} {ops:Array Oper} {o:Oper} {a:Act} {Q:Exit→Act→World→Prop} {Kc:Act→World→Prop}
theorem Qz {w0 W:World}(base:Nat)(hw:Region.wanted o (yielded ops a.tmps)=true)(s x:Operand)(t e:TypeId)
 (ho:o.op = .call { callee := .builtin .append,args := #[s,x],argTypes := #[t,t] })
 (ht:P.underlying t=some (.slice e)) (hinfo:(P.info? e).map (fun i=>(i.zero,i.size,i.bytes))=some (some (.int .u8 0),1,1))
 (v:Value) (xs:List Int) (g:Nat) (p:Int) (hs:a.eval s=v) (hx:a.eval x = .slice (some ⟨g,0,none⟩) 1 1)
 (HO:(Kd.int .u8).R e W base (fun _=>True) v xs) (hc:W.cell? ⟨g,0,none⟩=some (.int .u8 p)) (HB:Below base w0 W) (hbase:base≤W.heap.size) (hl:xs.length+1≤140737488355328)
 (h:∀ v1 w1,(Kd.int .u8).R e w1 base (fun _=>True) v1 (xs++[p])→Below base w0 w1→W.grownBy w1 v.ownBlock→Kc (a.put o.dst v1) w1) :
 if Region.wanted o (yielded ops a.tmps)=true then Oper.wp P o a W Kc Q else Kc (a.put o.dst undef) W:=by
 refine Kd.qI (Kd.int .u8) (Rr:=fun x cs=>cs=[.int .u8 x]) (w0:=w0) base hw s x t e (.int .u8 0) 1 ho ht hinfo rfl (by decide) (by decide) v xs [p] (some ⟨g,0,none⟩) 1 1 (fun _=>True) (fun _=>False) hs hx HO
  ⟨rfl,by decide,fun _=>⟨_,rfl,fun j q hj=>?_⟩⟩ (fun x cs hx=>hx) (fun _ hk=>hk.elim) (fun _ _=>bE) HB hbase (by omega) ?_
 ·match j,hj with
  | 0,hj=>
    injection hj with hj
    subst hj;refine⟨_,rfl,rfl,fun i u hu=>?_⟩
    match i,hu with
    | 0,hu=>
      injection hu with hu
      subst hu;exact hc
    | n+1,hu=>simp at hu
  | n+1,hj=>simp at hj
 ·intro v1 w1 hr hb hg _;exact h v1 w1 hr hb hg
theorem U0 {w0 W:World}(base:Nat)(hw:Region.wanted o (yielded ops a.tmps)=true)(s x:Operand)(t u e:TypeId)
 (ho:o.op = .call { callee := .builtin .append,args := #[s,x],argTypes := #[t,u] })
 (ht:P.underlying t=some (.slice e)) (hu:P.underlying u=some .string) (hinfo:(P.info? e).map (fun i=>(i.zero,i.size,i.bytes))=some (some (.int .u8 0),1,1))
 (v:Value) (xs:List Int) (y:ByteArray) (hs:a.eval s=v) (hx:a.eval x = .string y)
 (HO:(Kd.int .u8).R e W base (fun _=>True) v xs) (HB:Below base w0 W) (hbase:base≤W.heap.size) (hl:xs.length+y.size≤140737488355328)
 (h:∀ v1 w1,(Kd.int .u8).R e w1 base (fun _=>True) v1 (xs++bytesOf y)→Below base w0 w1→W.grownBy w1 v.ownBlock→Kc (a.put o.dst v1) w1) :
 if Region.wanted o (yielded ops a.tmps)=true then Oper.wp P o a W Kc Q else Kc (a.put o.dst undef) W:=by
 obtain⟨i0,hi,hzz⟩:=Option.map_eq_some_iff.1 hinfo;simp only[bG] at hzz;obtain⟨hz0,hz1,hz2⟩:=hzz;have hown:=Kd.BD HO;obtain⟨v1,w1,hr,h2,h3,_⟩:=Lib.run_append_own_string (P:=P) W base t u o.type e i0 ht hu hi hz0 hz1 hz2 v xs.length (nums .u8 xs) hown y (by simp only[maxLen];omega) hl hbase;have hl2:(xs++bytesOf y).length=xs.length+y.size:=by rw[aT,bytesOf_length]
 have hc:nums .u8 (xs++bytesOf y)=nums .u8 xs++Lib.strCells y:=by
  rw[nums_append];congr 1;simp[nums,bytesOf,Lib.strCells]
 refine Om hw (v:=v1) (w1:=w1) ?_ (h v1 w1 (Kd.y8 (by rw[hl2];show w1.ownsRow base e 1 v1 (xs.length+y.size) (nums .u8 (xs++bytesOf y));rw[hc];exact h2) (fun _ _=>bE)) (HB.grown h3 hbase (wR hown)) h3);unfold execOp;simp only[ho,resolve,invoke,builtin,iL,j6,ig,bR,bS,bZ,hs,hx,hr]
theorem G7 {w0 W0 W:World}(hW:Below W0.heap.size W0 W)(hw:Region.wanted o (yielded ops a.tmps)=true)(s x:Operand)(t e tb:TypeId)(gb:Nat)(cb:Array Value)
 (ho:o.op = .call { callee := .builtin .append,args := #[s,x],argTypes := #[t,t] })
 (ht:P.underlying t=some (.slice e)) (hinfo:(P.info? e).map (fun i=>(i.zero,i.size,i.bytes))=some (some (.int .u8 0),1,1))
 (v:Value) (xs:List Int) (g:Nat) (p:Int) (hs:a.eval s=v) (hx:a.eval x = .slice (some ⟨g,0,none⟩) 1 1)
 (HO:(Kd.int .u8).R e W0 w0.heap.size (fun _=>True) v xs) (HB:Below w0.heap.size w0 W0) (HBK:W0.heap[gb]? = some (.cells cb tb (0,0))) (hne:e≠tb) (hl:xs.length+1≤140737488355328) (hc:W.cell? ⟨g,0,none⟩=some (.int .u8 p))
 (h:∀ v1 w1,(Kd.int .u8).R e w1 w0.heap.size (fun _=>True) v1 (xs++[p])→Below w0.heap.size w0 w1→w1.heap[gb]? = some (.cells cb tb (0,0))→Kc (a.put o.dst v1) w1) :
 if Region.wanted o (yielded ops a.tmps)=true then Oper.wp P o a W Kc Q else Kc (a.put o.dst undef) W:=by
 have HO1:=Kd.qo HO hW;have HB1:=oP HB hW;have HK1:=o7 HBK hW;refine Qz w0.heap.size hw s x t e ho ht hinfo v xs g p hs hx HO1 hc HB1 HB1.size hl ?_;intro v1 w1 hr hb hg;exact h v1 w1 hr hb (qK HK1 hg (Kd.DZ HO1 HK1 hne))
theorem JX {w0 W0 W:World}(hW:Below W0.heap.size W0 W)(hw:Region.wanted o (yielded ops a.tmps)=true)(s x:Operand)(t u e tb:TypeId)(gb:Nat)(cb:Array Value)
 (ho:o.op = .call { callee := .builtin .append,args := #[s,x],argTypes := #[t,u] })
 (ht:P.underlying t=some (.slice e)) (hu:P.underlying u=some .string) (hinfo:(P.info? e).map (fun i=>(i.zero,i.size,i.bytes))=some (some (.int .u8 0),1,1))
 (v:Value) (xs:List Int) (y:ByteArray) (hs:a.eval s=v) (hx:a.eval x = .string y)
 (HO:(Kd.int .u8).R e W0 w0.heap.size (fun _=>True) v xs) (HB:Below w0.heap.size w0 W0) (HBK:W0.heap[gb]? = some (.cells cb tb (0,0))) (hne:e≠tb) (hl:xs.length+y.size≤140737488355328)
 (h:∀ v1 w1,(Kd.int .u8).R e w1 w0.heap.size (fun _=>True) v1 (xs++bytesOf y)→Below w0.heap.size w0 w1→w1.heap[gb]? = some (.cells cb tb (0,0))→Kc (a.put o.dst v1) w1) :
 if Region.wanted o (yielded ops a.tmps)=true then Oper.wp P o a W Kc Q else Kc (a.put o.dst undef) W:=by
 have HO1:=Kd.qo HO hW;have HB1:=oP HB hW;have HK1:=o7 HBK hW;refine U0 w0.heap.size hw s x t u e ho ht hu hinfo v xs y hs hx HO1 HB1 HB1.size hl ?_;intro v1 w1 hr hb hg;exact h v1 w1 hr hb (qK HK1 hg (Kd.DZ HO1 HK1 hne))
end
end Go.Proofs.Y.G
namespace Go
section
variable {P:Program} {ops:Array Oper} {Q:Exit→Act→World→Prop} {md:Region.Mode} {S:World→Prop}
def Fy (P:Program)(md:Region.Mode)(ops:Array Oper)(Q:Exit→Act→World→Prop)(S:World→Prop)(n:Nat)(L:Array Bool→Act→World→Prop):Nat→Array Bool→Act→World→Prop
 | 0,listed,a,w=>L listed a w
 | f+1,listed,a,w=>
   Region.ready md ops listed≠[]∧∀ i∈Region.ready md ops listed,i<n∧wpOp P ops Q i (fun a' w'=>S w'∧Fy P md ops Q S n L f (listed.setIfInBounds i true) a' w') a w
theorem IY {n g:Nat}{L:Array Bool→Act→World→Prop}(hL:∀ listed a w,L listed a w→wpAny P md ops Q g listed a w) :
 ∀ (f:Nat) (listed:Array Bool) (a:Act) (w:World),Fy P md ops Q S n L f listed a w→wpAny P md ops Q (f+g) listed a w
 | 0,listed,a,w,h=>by rw[dK];exact hL _ _ _ h
 | f+1,listed,a,w,h=>by
   rw[show f+1+g=(f+g)+1 by omega];exact⟨fun h0=>absurd h0 h.1,fun i hi=>nU (fun a' w' h'=>IY hL f _ a' w' h'.2) (h.2 i hi).2⟩
theorem Lm {n i:Nat}{oi:Oper}{v:Value}{L:Array Bool→Act→World→Prop}(hi:ops[i]? = some oi)(hsel:∀ (j:Nat) (o:Oper) cs b,ops[j]? = some o→o.op ≠ .select cs b)
 (hs:Region.sinkB md ops n=true) (hc:Region.chainB md ops n=true) (hn:n<ops.size) (hin:i<n) (hQ:∀ c a w,Q (.panic c) (a.put oi.dst v) w→Q (.panic c) a w)
 (hdone:∀ listed a w,L listed a w→∀ j∈Region.ready md ops listed,n≤j) :
 ∀ (f:Nat) (listed:Array Bool) (a:Act) (w:World),HeadInv md ops n listed →
   (∀ j oj,ops[j]? = some oj→j≠i→listed.getD j true=false→(∀ e∈oj.after,Region.binds md e=true→e.on≠i)→oi.apart ops oj=true) →
   i∈Region.ready md ops listed→YieldsIf P ops S oi v a→S w →
   Fy P md ops Q S n L f (listed.setIfInBounds i true) (a.put oi.dst v) w→Fy P md ops Q S n L (f+1) listed a w:=by
 intro f
 induction f with
 | zero=>
   intro listed a w inv _ hr hy hS H;have hun:=(mem_ready.1 hr).1;refine⟨fun h=>(by rw[h] at hr;cases hr),fun j hj=>?_⟩;have hjn:j<n:=by
    rcases dN j n with h | h
    ·exact h
    ·exact absurd hj (tail_waits hs hc hn inv _ i rfl hin hun j h)
   refine⟨hjn,?_⟩
   by_cases hji:j=i
   ·subst hji;exact hy.wpOp hi hS ⟨hS,H⟩
   ·have:=hdone _ _ _ H j (jO hj hji);omega
 | succ f ih=>
   intro listed a w inv hfree hr hy hS H;have hun:=(mem_ready.1 hr).1;refine⟨fun h=>(by rw[h] at hr;cases hr),fun j hj=>?_⟩;have hjn:j<n:=by
    rcases dN j n with h | h
    ·exact h
    ·exact absurd hj (tail_waits hs hc hn inv _ i rfl hin hun j h)
   refine⟨hjn,?_⟩
   by_cases hji:j=i
   ·subst hji;exact hy.wpOp hi hS ⟨hS,H⟩
   ·have h1:=(H.2 j (jO hj hji)).2;obtain⟨hjun,oj,hoj,hall⟩:=mem_ready.1 hj;have hnot:∀ e∈oj.after,Region.binds md e=true→e.on≠i:=fun e he hb heq=>by
     have h1:=hall e he hb;rw[heq,getD_both hun] at h1;cases h1
    have h2:=wpOp_putIf hoj (hfree j oj hoj hji hjun hnot) (fun cs b=>hsel i oi cs b hi) (fun cs b=>hsel j oj cs b hoj) hQ hy h1;have hfree':∀ k ok,ops[k]? = some ok→k≠i→(listed.setIfInBounds j true).getD k true=false →
     (∀ e∈ok.after,Region.binds md e=true→e.on≠i)→oi.apart ops ok=true:=fun k ok hk hki hun hno=>by
     refine hfree k ok hk hki ?_ hno
     by_cases hjk:j=k
     ·subst hjk;exact hjun
     ·rw[mQ true hjk] at hun;exact hun
    refine nU (fun a' w' h3=>⟨h3.2.1,ih (listed.setIfInBounds j true) a' w' (inv.set hj hjn) hfree' (jO hr (jy hji)) h3.1 h3.2.1 ?_⟩) h2;rw[jA _ _ hji];exact h3.2.2
def WV (P:Program)(ops:Array Oper)(Q:Exit→Act→World→Prop)(n:Nat)(listed:Array Bool)(a:Act)(w:World):Prop:=
 Region.seqB .any ops (ops.size-n) n listed=true∧wpList P ops Q (ops.toList.drop n) a w
def qB (P:Program)(ops:Array Oper)(Q:Exit→Act→World→Prop)(S:World→Prop)(n f:Nat)(listed:Array Bool)(a:Act)(w:World):Prop:=
 HeadInv .any ops n listed→Fy P .any ops Q S n (WV P ops Q n) f listed a w
theorem qB.take {n f i:Nat}{oi:Oper}{v:Value}{listed:Array Bool}{a:Act}{w:World}(hi:ops[i]? = some oi)
 (hB:(Region.noSelect ops&&decide (n<ops.size)&&Region.sinkB .any ops n&&Region.chainB .any ops n&&decide (i<n)&&Region.free .any ops listed i&&(Region.ready .any ops listed).contains i)=true)
 (hQ:∀ c a w,Q (.panic c) (a.put oi.dst v) w→Q (.panic c) a w) (hy:YieldsIf P ops S oi v a) (hS:S w)
 (h:qB P ops Q S n f (listed.setIfInBounds i true) (a.put oi.dst v) w):qB P ops Q S n (f+1) listed a w:=fun inv=>by
 simp only[dw,fM] at hB;obtain⟨⟨⟨⟨⟨⟨hsel,hn⟩,hs⟩,hc⟩,hin⟩,hf⟩,hr⟩:=hB;have hr':i∈Region.ready .any ops listed:=by simpa using hr
 exact Lm hi (mg hsel) hs hc hn hin hQ (fun listed' a' w' hL=>seqB_ready hL.1) f listed a w inv (nI hi hf) hr' hy hS (h (inv.set hr' hin))
theorem qB.take' {n f i d:Nat}{oi:Oper}{v:Value}{listed:Array Bool}{a:Act}{w:World}(hi:ops[i]? = some oi)(hd:oi.dst=some d)
 (hB:(Region.noSelect ops&&decide (n<ops.size)&&Region.sinkB .any ops n&&Region.chainB .any ops n&&decide (i<n)&&Region.free .any ops listed i&&(Region.ready .any ops listed).contains i)=true)
 (hQ:∀ c a w,Q (.panic c) (a.put oi.dst v) w→Q (.panic c) a w) (hy:YieldsIf P ops S oi v a) (hS:S w)
 (h:qB P ops Q S n f (listed.setIfInBounds i true) { a with tmps:=a.tmps.setIfInBounds d v } w):qB P ops Q S n (f+1) listed a w:=
 qB.take hi hB hQ hy hS (by rw[hd];exact h)
theorem qB.one {n f i:Nat}{oi:Oper}{listed:Array Bool}{a:Act}{w:World}(hi:ops[i]? = some oi)
 (hB:(decide (Region.ready .any ops listed=[i])&&decide (i<n))=true) (hw:Region.wanted oi (yielded ops a.tmps)=true)
 (h:∀ K:Act→World→Prop,(∀ a' w',S w'→qB P ops Q S n f (listed.setIfInBounds i true) a' w'→K a' w')→Oper.wp P oi a w K Q):qB P ops Q S n (f+1) listed a w:=fun inv=>by
 simp only[dw,fM] at hB;obtain⟨hr,hin⟩:=hB;refine⟨fun h0=>(by rw[hr] at h0;cases h0),fun j hj=>?_⟩;have hji:j=i:=by rw[hr] at hj;simpa using hj
 subst hji;refine⟨hin,?_⟩;refine wpOp_step hi fun K hK=>?_
 rw[au hw];exact h K fun a' w' hS' hG=>hK a' w' ⟨hS',hG (inv.set hj hin)⟩
theorem qB.nil {n:Nat}{listed:Array Bool}{a:Act}{w:World}(hB:Region.seqB .any ops (ops.size-n) n listed=true)(h:wpList P ops Q (ops.toList.drop n) a w):qB P ops Q S n 0 listed a w:=fun _=>⟨hB,h⟩
theorem qB.last {n:Nat}{oi:Oper}{listed:Array Bool}{a:Act}{w:World}(hi:ops[n]? = some oi)(hB:(Region.seqB .any ops (ops.size-n) n listed&&decide (ops.size=n+1))=true)(hw:Region.wanted oi (yielded ops a.tmps)=true)
 (h:∀ K:Act→World→Prop,(∀ a' w',Q .normal a' w'→K a' w')→Oper.wp P oi a w K Q):qB P ops Q S n 0 listed a w:=by
 simp only[dw,fM] at hB;refine qB.nil hB.1 ?_;have hl:ops.toList.drop n=[oi]:=by
  obtain⟨hlt,he⟩:=Array.getElem?_eq_some_iff.1 hi;rw[fP (by simpa using hlt),fE (by simp[hB.2])];simp[he]
 rw[hl];simp only[wpList,au hw];exact .inl (h _ (fun _ _ h=>h))
theorem qB.start {n:Nat}{a:Act}{w:World}(hn:n≤ops.size)(h:qB P ops Q S n n (Array.replicate ops.size false) a w):wpAny P .any ops Q ops.size (Array.replicate ops.size false) a w:=by
 have inv0:HeadInv .any ops n (Array.replicate ops.size false):=
  ⟨by simp,fun j oj _ hl=>(by rw[getD_replicate_false] at hl;cases hl),fun t _ ht=>getD_in (by simpa using ht) (getD_replicate_false _ _)⟩
 have H:=IY (Q:=Q) (g:=ops.size-n) (fun listed a' w' (hL:WV P ops Q n listed a' w')=>by
  have hlen:(ops.toList.drop n).length=ops.size-n:=by simp
  have:=wpAny_of_seq (md := .any) (Q':=Q) (ops.toList.drop n) n listed a' w' (fun j=>by simp[eY]) (by rw[hlen];exact hL.1) hL.2;rwa [hlen] at this) n _ a w (h inv0)
 rwa [Nat.add_sub_cancel' hn] at H
end
section
variable {P:Program} {ops:Array Oper} {Q:Exit→Act→World→Prop} {md:Region.Mode}
theorem IZ (l n:Nat)(hnl:¬ LetsOut Q)(hnd:∀ (j:Nat) (o:Oper) c,ops[j]? = some o→o.op ≠ .defer c){i:Nat}{K K':Act→World→Prop}{a:Act}{w:World}(hK:∀ a w,K a w→K' a w)(h:wpOp P ops Q i K a w):wpOpIn (Fence.wide.inRound l) n P ops Q i K' a w:=by
 unfold wpOp at h;unfold wpOpIn;split
 ·rename_i ho;simp only[ho] at h;exact hK _ _ h
 ·rename_i o ho;simp only[ho] at h;split
  ·rename_i hw;simp only[hw,oL] at h;rcases h with h | ⟨_,h⟩
   ·refine⟨fun _ _=>bE,?_⟩;rw[Oper.semAt_eq _ _ _ (fun c=>hnd i o c ho)];unfold Oper.wp at h;generalize (execOp a.eval o).run P w=r at *;cases r with
    | ok x w'=>
      cases x<;>simp only[Oper.upon] at h<;>simp only[Oper.uponIn]
      case value v=>exact hK _ _ h
      case skip=>exact hK _ _ h
      case defer d=>exact hK _ _ h
      case enter f args=>
       refine⟨fun hd=>by simp[Fence.wide] at hd,(CallsIn.inRound l (callsIn_wide.2 h)).mono fun e w'' he=>?_⟩;cases e with
       | returned u=>exact hK _ _ he
       | panicked c=>exact he
       | outgrown=>exact he
      case row row args=>
       refine⟨fun hd=>by simp[Fence.wide] at hd,?_⟩;intro c cs _;obtain⟨v,w'',hR,hs⟩:=h c cs;exact⟨v,w'',hK _ _ hR,stepsIn_wide.2 hs⟩
    | halt x w'=>cases x<;>simp only[Oper.upon] at h<;>simp only[Oper.uponIn]<;>exact h
   ·exact absurd h hnl
  ·rename_i hw;simp only[hw] at h;exact⟨fun _ _=>bE,hK _ _ h⟩
theorem AY (l n:Nat)(hnl:¬ LetsOut Q)(hnd:∀ (j:Nat) (o:Oper) c,ops[j]? = some o→o.op ≠ .defer c):∀ (fuel:Nat) (listed:Array Bool) (a:Act) (w:World),
 wpAny P md ops Q fuel listed a w→wpAnyIn (Fence.wide.inRound l) n P md ops Q fuel listed a w
 | 0,_,_,_,h=>h
 | fuel+1,_,_,_,h=>⟨h.1,fun i hi=>IZ l n hnl hnd (fun a' w' h'=>AY l n hnl hnd fuel _ a' w' h') (h.2 i hi)⟩
def KV (ops:Array Oper):Bool:=ops.all fun o=>match o.op with | .defer _=>false | _=>true
theorem KW (h:KV ops=true)(j:Nat)(o:Oper)(c:Call)(ho:ops[j]? = some o):o.op ≠ .defer c:=by
 intro hc;have:=Array.all_eq_true'.1 h o (oq ho);rw[hc] at this;cases this
theorem Fz {id:Nat}(l n:Nat){a:Act}{w:World}(hnl:¬ LetsOut Q)(hm:P.follows .mixedOrders=true)(hd:KV ops=true)
 (h:wpAny P .any ops Q ops.size (Array.replicate ops.size false) a w.drew):(Code.region id ops true).wpIn (Fence.wide.inRound l) n P Q a w:=
 wpIn_region_any hm (AY l n hnl (KW hd) _ _ _ _ h)
theorem EK {id:Nat}(l n:Nat){a:Act}{w:World}(hm:P.follows .mixedOrders=true)(hd:KV ops=true)
 (h:wpAny P .any ops (fun e a w=>e = .normal∧Q .normal a w) ops.size (Array.replicate ops.size false) a w.drew):(Code.region id ops true).wpIn (Fence.wide.inRound l) n P Q a w:=
 wpIn_mono (Q:=fun e a w=>e = .normal∧Q .normal a w) (Fz l n (fun hl=>by obtain⟨_,_,h,_⟩:=hl;cases h) hm hd h) (fun e a w he=>by obtain⟨h1,h2⟩:=he;subst h1;exact h2)
end
end Go
namespace Go.Proofs.Y.G
open Go.RowKit Go.Proofs.YW.oO Go.Proofs.YW.pq Go.Proofs.YW.pz
def vI.f (l:List Int):Option (Int × Bool):=if okB l=true then (if 1≤l.length∧l.length≤8 then some ((wI 0 l:Nat),true) else some (0,false)) else none
theorem LX (l:List Int)(k:Nat)(hk:k<l.length):wI 0 (l.take (k+1))=wI 0 (l.take k)*256+(rd l (k:Int)).toNat:=by
 have e:rd l (k:Int)=l[k]:=by simp[rd,aV,aR hk]
 rw[bQ hk,e];unfold wI;rw[jv];rfl
theorem zi {l:List Int}(hl:okB l=true)(k:Nat):wI 0 (l.take k)<256 ^ k:=by
 have h:=Aa (l.take k) (fun x hx=>qV.1 hl x (bT hx)) 0 0 (by simp);refine dA h (dH (by decide) ?_);rw[aW];omega
theorem vI.c (A0:Option Addr)(c0:Nat)(l0:List Int)(r1:Int)(r2:Bool)(w:World)(hr0:Kd.C (Kd.int .u8) w A0 l0.length l0)(hc0:l0.length≤c0)(h:vI.f l0=some (r1,r2)) :
 Calls Tryz.prog 63 #[.slice A0 l0.length c0] w fun e w'=>e = .returned (.tuple #[.int .u64 r1,.bool r2])∧pJ w w':=by
 have HR:=Y7 hr0;clear hr0 hc0;unfold vI.f at h;split at h
 case isFalse=>cases h
 case isTrue hok=>
 by_cases hl:1≤l0.length∧l0.length≤8
 case neg=>
  rw[av hl] at h;simp only[bF,bG] at h;obtain⟨rfl,rfl⟩:=h
  by_cases h0:l0.length=0
  ·have e0:((l0.length:Int)==0)=true:=beq_iff_eq.2 (by omega);clear hl h0
   go_enter Tryz.func63,Tryz.ntmps63
   go_wp2
   go_ret2
   exact⟨rfl,pJ.refl _⟩
  ·have e0:((l0.length:Int)==0)=false:=beq_eq_false_iff_ne.2 (by omega);have e1:decide ((8:Int)<(l0.length:Int))=true:=aC (by omega);clear hl h0
   go_enter Tryz.func63,Tryz.ntmps63
   go_wp2
   go_ret2
   exact⟨rfl,pJ.refl _⟩
 case pos=>
  rw[au hl] at h;simp only[bF,bG] at h;obtain⟨rfl,rfl⟩:=h;have e0:((l0.length:Int)==0)=false:=beq_eq_false_iff_ne.2 (by omega);have e1:decide ((8:Int)<(l0.length:Int))=false:=aD (by omega)
  go_enter Tryz.func63,Tryz.ntmps63
  go_wp2
  go_loop [4,17] (fun n i=>∃ k:Nat,k≤l0.length∧i = .int .i64 k∧n = .int .u64 (wI 0 (l0.take k):Nat)) (fun _ i=>l0.length-(intOf i).toNat)
  case atStart=>exact⟨0,bP _,rfl,rfl⟩
  case round=>
   obtain⟨k,hk,rfl,rfl⟩:=hrel
   by_cases hlt:k<l0.length
   ·obtain⟨ad,rfl,hc⟩:=Kd.vw HR.o (k:Int) (by omega) (by omega);rw[aG] at hc;have hx:=qV.1 hok _ (Fu l0 k hlt);have HT:=Y7 (LX l0 k hlt);have hV:=zi hok k;have h7:wI 0 (l0.take k)<256 ^ 7:=dA hV (dH (by decide) (by omega));have HO:=Y7 (Y6 _ _ h7 hx.1 hx.2);have HV:=Y7 h7;clear hV h7 hx;go_wp2
    go_round
    case rel=>exact⟨k+1,by omega,by go_num,by rw[HT.o,← HO.o]⟩
    case measure=>simp[intOf];omega
   ·obtain rfl:k=l0.length:=by omega
    go_wp2
    go_ret2
    exact⟨rfl,pJ.refl _⟩
end Go.Proofs.Y.G
namespace Go.Proofs.Y.PA
open Go.RowKit Go.Proofs.YW.oO Go.Proofs.YW.pq Go.Proofs.YW.pz
attribute [local go_sem] sV sZ uE uF sW tq uj um
theorem Ye (d:Nat)(w:World)(x0 y0:Int)(x1 y1:Int) :
 (Op.equalIn (d+2) 70 (.agg #[.int .i64 x0,.int .u64 x1]) (.agg #[.int .i64 y0,.int .u64 y1])).run Tryz.prog w = .ok (x0==y0&&(x1==y1)) w:=by
 refine Xl Tryz.underlying70 (by kernel_rfl) ?_;refine Tv (by rfl) (by go_simp;rfl) (by go_simp;rfl) (by go_simp) ?_;exact Tw (by rfl) (by go_simp;rfl) (by go_simp;rfl) (by go_simp)
end Go.Proofs.Y.PA
namespace Go.Proofs.Y.G
namespace qj
def one (r:Nat):Nat:=(r / 2) ^^^ (if r % 2=1 then 2197175160 else 0)
def quarter:Nat→Nat
 | 0=>0 | 1=>1098587580 | 2=>2197175160 | _=>3280807620
def two (r:Nat):Nat:=(r / 4) ^^^ quarter (r % 4)
theorem Vf (a b:Nat):(a ^^^ b) % 2=(a % 2+b % 2) % 2:=by
 have:=Nat.xor_mod_two_pow (a:=a) (b:=b) (n:=1);simp at this;rw[this];rcases gD a with h | h<;>rcases gD b with h' | h'<;>simp[h,h']
theorem Ve (a b:Nat):(a ^^^ b) / 2=a / 2 ^^^ b / 2:=by
 have:=Nat.xor_div_two_pow (a:=a) (b:=b) (n:=1)
 simpa using this
theorem U6 (r:Nat):two r=one (one r):=by
 unfold two one;have h4:r / 2 / 2=r / 4:=by omega
 rcases gD r with h | h
 ·simp only[h];simp only[Nat.xor_zero,reduceIte,show ¬ (0=1) from by omega];rcases gD (r / 2) with h' | h'
  ·have:r % 4=0:=by omega
   simp[h',this,h4,quarter]
  ·have:r % 4=2:=by omega
   simp[h',this,h4,quarter]
 ·simp only[h,reduceIte];rw[Vf,Ve,h4];rcases gD (r / 2) with h' | h'
  ·have:r % 4=1:=by omega
   simp[h',this,quarter]
  ·have:r % 4=3:=by omega
   simp[h',this,quarter,Nat.xor_assoc]
def eight (r:Nat):Nat:=one (one (one (one (one (one (one (one r)))))))
theorem Tx (r:Nat):two (two (two (two r)))=eight r:=by simp[U6,eight]
theorem KZ {r:Nat}(h:r<4294967296):one r<4294967296:=by
 unfold one;have:r / 2<2 ^ 32:=by omega
 split
 ·exact iW (n:=32) this (by decide)
 ·simpa using this
theorem Ti {r:Nat}(h:r<4294967296):eight r<4294967296:=by
 unfold eight;repeat (first | exact h | apply KZ)
def run (r:Nat):List Nat→Nat
 | []=>r
 | x::l=>run (eight (r ^^^ x)) l
theorem OV (r:Nat)(a b:List Nat):run r (a++b)=run (run r a) b:=by
 induction a generalizing r with
 | nil=>rfl
 | cons x a ih=>simp[run,ih]
theorem IC {r:Nat}(h:r<4294967296){l:List Nat}(hl:∀ x∈l,x<256):run r l<4294967296:=by
 induction l generalizing r with
 | nil=>exact h
 | cons x l ih=>
   refine ih (Ti (iW (n:=32) h ?_)) (fun y hy=>hl y (dh _ hy));have:=hl x (cO ..);omega
def ones:Nat:=4294967295
theorem Gx:ones<2 ^ 32:=by decide
def inv (x:Nat):Nat:=ones ^^^ x
theorem inv_def (x:Nat):inv x=ones ^^^ x:=by delta inv;rfl
theorem KR {x:Nat}(h:x<4294967296):inv x<4294967296:=by
 have:=iW (n:=32) (x:=ones) (y:=x) Gx (by omega);rw[inv_def];omega
def nat (l:List Int):List Nat:=l.map Int.toNat
def more (s:Nat)(l:List Int):Nat:=inv (run (inv s) (nat l))
theorem BA {l:List Int}(hl:∀ x∈l,0≤x∧x<256):∀ x∈nat l,x<256:=by
 intro x hx;obtain⟨y,hy,rfl⟩:=List.mem_map.1 hx;have:=hl y hy;omega
theorem VL {s:Nat}(h:s<4294967296){l:List Int}(hl:∀ x∈l,0≤x∧x<256):more s l<4294967296:=KR (IC (KR h) (BA hl))
end qj
end Go.Proofs.Y.G
namespace Go.Proofs.Y.PA
open Go.RowKit Go.Proofs.Y.G Go.Proofs.YW.oO Go.Proofs.YW.pq Go.Proofs.YW.pz
theorem Ic:∃ i,Tryz.prog.info? 5=some i∧i.size=1:=by
 obtain⟨i,hi,hz⟩:=Option.map_eq_some_iff.1 rW;simp only[bG] at hz;exact⟨i,hi,hz.2.1⟩
theorem Tf (A:Option Addr)(c:Nat)(xs:List Int)(m:Nat)(hm:m≤xs.length)(hc:xs.length≤c) :
 ∃ (A':Option Addr) (c':Nat) (r:List Int),oM (r=xs.drop m)∧oM (∀ w:World,Kd.C (Kd.int .u8) w A xs.length xs→Kd.C (Kd.int .u8) w A' r.length r)∧r.length≤c' ∧
   ∀ i:Int,i=(m:Int)→∀ W:World,(Instr.slice 24 (.slice A xs.length c) (some (.int .i64 i)) none none).run Tryz.prog W = .ok (.slice A' r.length c') W:=by
 obtain⟨i0,hi,hsz⟩:=Ic;refine⟨if c=m then A else A.map (·.add (m*(Kd.int .u8).sz)),c-m,xs.drop m,⟨rfl⟩,⟨fun w h=>Kd.Bf h hm hc⟩,by rw[aX];omega,fun i hi' W=>?_⟩;subst hi';have hu:=Tryz.underlying24;have hel:Tryz.prog.elem 24=5:=by simp[Program.elem,hu]
 have hu':Tryz.prog.underlying 24=some (.slice (Tryz.prog.elem 24)):=by rw[hel];exact hu
 rw[mP W 24 A xs.length c hu' .i64 (m:Int) (eZ _) (by omega),hel];have h1:(Kd.int .u8).sz=1:=rfl;simp[sizeOf,typeInfo,hi,hsz,sliced,Result.andThen,h1]
theorem TT (A:Option Addr)(c:Nat)(xs:List Int)(lo hi:Nat)(h1:lo≤hi)(h2:hi≤xs.length)(hc:xs.length≤c) :
 ∃ (A':Option Addr) (c':Nat) (r:List Int),oM (r=(xs.take hi).drop lo)∧oM (∀ w:World,Kd.C (Kd.int .u8) w A xs.length xs→Kd.C (Kd.int .u8) w A' r.length r)∧r.length≤c' ∧
   ∀ i j:Int,i=(lo:Int)→j=(hi:Int)→∀ W:World,(Instr.slice 24 (.slice A xs.length c) (some (.int .i64 i)) (some (.int .i64 j)) none).run Tryz.prog W = .ok (.slice A' r.length c') W:=by
 obtain⟨i0,hi0,hsz⟩:=Ic;refine⟨if c=lo then A else A.map (·.add (lo*(Kd.int .u8).sz)),c-lo,(xs.take hi).drop lo,⟨rfl⟩,⟨fun w h=>Kd.Pm h h1 h2 hc⟩,by rw[aX,aW];omega,fun i j hi' hj' W=>?_⟩;subst hi' hj';have h:=Vx (P:=Tryz.prog) 24 5 .i64 .i64 Tryz.underlying24 hi0 1 hsz A xs.length c (lo:Int) (hi:Int) (by omega) (by omega) (by omega) hc W;rw[h];have h1:(Kd.int .u8).sz=1:=rfl;rw[h1,aX,aW];simp only[aG];rw[dJ h2]
theorem Rw (kl:IntKind)(n:Nat)(hn:n≤1000000):∀ W:World,(Instr.makeSlice 46 (.int kl (n:Int)) (.int kl (n:Int))).run Tryz.prog W = .ok (.slice (some ⟨W.heap.size,0,none⟩) n n) (W.alloc (.cells (madeCells (Value.agg #[.string ⟨#[]⟩,.string ⟨#[]⟩]).cells (n*2)) 68)):=by
 intro W;obtain⟨i0,hi,hz⟩:=Option.map_eq_some_iff.1 KN;simp only[bG] at hz;obtain⟨hz0,hz1,hz2⟩:=hz;have hr:=run_make (P:=Tryz.prog) W 46 68 i0 _ Tryz.underlying46 hi hz0 kl kl (n:Int) (n:Int) (by omega) (by omega)
  (by
   have h3:((i0.bytes*n:Nat):Int)≤281474976710656:=by rw[hz2];omega
   rwa [kQ] at h3) (by omega)
 simp only[aG] at hr;rw[hz1] at hr;exact hr
theorem Vl (W:World)(base n:Nat)(hb:base≤W.heap.size)(hn:n≤1000000):Kd.R xU 68 (W.alloc (.cells (madeCells (Value.agg #[.string ⟨#[]⟩,.string ⟨#[]⟩]).cells (n*2)) 68)) base (fun _=>True) (.slice (some ⟨W.heap.size,0,none⟩) n n) (List.replicate n z68):=by
 have hm:∀ (ok:Nat→Prop),qP (xU.M (W.alloc (.cells (madeCells (Value.agg #[.string ⟨#[]⟩,.string ⟨#[]⟩]).cells (n*2)) 68)) base ok) 2 (List.replicate n z68) (madeCells (Value.agg #[.string ⟨#[]⟩,.string ⟨#[]⟩]).cells (n*2)).toList:=fun ok=>
  Kd.Fv (size:=2) rfl (by decide) (Em _ _ _ z68) n
 have h2:=nu (base:=base) (e:=68) (size:=2) W (madeCells (Value.agg #[.string ⟨#[]⟩,.string ⟨#[]⟩]).cells (n*2)) n hb (by simp only[maxLen];omega) (by simp[oh]);exact⟨fun _ _=>bE,_,by rw[jo];exact h2,hm _⟩
end Go.Proofs.Y.PA
namespace Go
open Go.RowKit Go.Proofs.YW.oO
section
variable {P:Program} {ops:Array Oper} {Q:Exit→Act→World→Prop}
def vN (a:Act):List Tmp→(Nat→Value)→Act
 | [],_=>a
 | d::ds,y=>vN { a with tmps:=a.tmps.setIfInBounds d (y 0) } ds (fun k=>y (k+1))
def G6 (ops:Array Oper)(listed:Array Bool)(is:List Nat)(j:Nat):Bool:=
 listed.getD j true||is.contains j||((ops[j]?).map fun o=>(o.after.any fun e=>Region.binds .any e && !is.contains e.on && !listed.getD e.on false)||is.all fun i=>o.after.any fun e=>Region.binds .any e&&(e.on==i)).getD true
def WA (ops:Array Oper)(n:Nat)(listed:Array Bool)(is:List Nat):Bool:=
 decide is.Nodup&&(List.range is.length).all (fun k=>match is[k]? with
  | none=>true
  | some i=>decide (i<n) && !listed.getD i true&&(match ops[i]? with
    | none=>false
    | some o=>o.guard.isNone&&o.after.all fun e => !Region.binds .any e||listed.getD e.on false||(is.take k).contains e.on))&&(List.range ops.size).all (G6 ops listed is)
theorem least:∀ l:List Nat,l≠[]→∃ k∈l,∀ j∈l,k≤j
 | [],h=>absurd rfl h
 | [a],_=>⟨a,cO,fun j hj=>by rw[fu] at hj;omega⟩
 | a::b::l,_=>by
   obtain⟨k,hk,hm⟩:=least (b::l) (by simp)
   by_cases h:a≤k
   ·exact⟨a,cO,fun j hj=>(List.mem_cons.1 hj).elim (fun e=>by omega) (fun hj=>bY h (hm j hj))⟩
   ·exact⟨k,dh _ hk,fun j hj=>(List.mem_cons.1 hj).elim (fun e=>by omega) (hm j)⟩
def Ao (listed:Array Bool)(is:List Nat):Array Bool:=is.foldl (fun l i=>l.setIfInBounds i true) listed
def X0 (y:Nat→Value)(k:Nat)(v:Value):Nat→Value:=fun j=>if j=k then v else y j
theorem Np:∀ (ds:List Tmp) (a:Act) (y:Nat→Value) (d:Tmp) (v:Value),d ∉ ds→vN { a with tmps:=a.tmps.setIfInBounds d v } ds y={ vN a ds y with tmps:=(vN a ds y).tmps.setIfInBounds d v }
 | [],_,_,_,_,_=>rfl
 | e::ds,a,y,d,v,h=>by
   rw[vN,vN,← Np ds _ _ d v (fun hd=>h (dh _ hd))];congr 2;exact jA _ _ (fun he=>h (he ▸ cO))
theorem Nq:∀ (ds:List Tmp) (a:Act) (y:Nat→Value) (k:Nat) (d:Tmp) (v:Value),ds.Nodup→ds[k]? = some d→(vN a ds y).put (some d) v=vN a ds (X0 y k v)
 | [],_,_,_,_,_,_,h=>by simp at h
 | e::ds,a,y,0,d,v,hn,h=>by
   simp only[iG,bF] at h;subst h;rw[vN,vN];have h1:=Np ds { a with tmps:=a.tmps.setIfInBounds e (y 0) } (fun k=>y (k+1)) e v (List.nodup_cons.1 hn).1;simp only[Array.setIfInBounds_setIfInBounds] at h1;exact h1.symm
 | e::ds,a,y,k+1,d,v,hn,h=>by
   rw[vN,vN];have h1:=Nq ds { a with tmps:=a.tmps.setIfInBounds e (y 0) } (fun k=>y (k+1)) k d v (List.nodup_cons.1 hn).2 (by simpa using h);rw[h1];congr 1
   funext j
   simp[X0]
theorem JL:∀ (ds:List Tmp) (a:Act),∃ y,vN a ds y=a
 | [],a=>⟨fun _=>undef,rfl⟩
 | d::ds,a=>by
   obtain⟨y,hy⟩:=JL ds a;refine⟨fun k=>match k with | 0=>a.tmps.getD d undef | k+1=>y k,?_⟩;rw[vN];have e:a.tmps.setIfInBounds d (a.tmps.getD d undef)=a.tmps:=by
    apply Array.ext_getElem?;intro i;rw[jg];split
    ·rename_i h;subst h;split
     ·rename_i h2;simp[h2]
     ·rename_i h2;exact (jU (by omega)).symm
    ·rfl
   show vN { a with tmps:=a.tmps.setIfInBounds d (a.tmps.getD d undef) } ds y=a;rw[e];exact hy
theorem F5:∀ (is:List Nat) (l:Array Bool) (j:Nat) (b:Bool),(Ao l is).getD j b=if j∈is∧j<l.size then true else l.getD j b
 | [],l,j,b=>by simp[Ao]
 | i::is,l,j,b=>by
   have h:=F5 is (l.setIfInBounds i true) j b;rw[iY] at h;show (Ao (l.setIfInBounds i true) is).getD j b=_;rw[h]
   by_cases h1:j∈is∧j<l.size
   ·rw[au h1,au ⟨dh _ h1.1,h1.2⟩]
   ·rw[av h1]
    by_cases h2:j=i
    ·subst h2
     by_cases h3:j<l.size
     ·rw[au ⟨cO,h3⟩];simp[h3]
     ·rw[av (fun h=>h3 h.2)];simp[h3]
    ·rw[av (fun h=>(List.mem_cons.1 h.1).elim h2 (fun h4=>h1 ⟨h4,h.2⟩))];simp[l7 (jy h2)]
theorem Er:∀ (is:List Nat) (l:Array Bool),(Ao l is).size=l.size
 | [],_=>rfl
 | i::is,l=>by
   show (Ao (l.setIfInBounds i true) is).size=_;rw[Er is,iY]
open Classical in
theorem qB.many {S:World→Prop}{n f:Nat}{listed:Array Bool}{a:Act}{w:World}(is:List Nat)(ds:List Tmp)(Φ:Nat→Value→World→Prop)
 (hmono:∀ k v W W',Φ k v W→Below W.heap.size W W'→Φ k v W') (hB:WA ops n listed is=true) (hlen:ds.length=is.length) (hnd:ds.Nodup)
 (hS:S w) (ai8:∀ W W',S W→Below W.heap.size W W'→S W')
 (hops:∀ k i d o,is[k]? = some i→ds[k]? = some d→ops[i]? = some o→o.dst=some d∧∀ y W',S W'→Oper.wp P o (vN a ds y) W' (fun a'' W''=>∃ v,a''=(vN a ds y).put (some d) v∧Φ k v W''∧Below W'.heap.size W' W'') Q)
 (h:∀ y W',S W'→(∀ k,k<is.length→Φ k (y k) W')→qB P ops Q S n f (Ao listed is) (vN a ds y) W') :
 qB P ops Q S n (is.length+f) listed a w:=fun inv=>by
 unfold WA at hB;rw[dw,dw,fM,iU,iU] at hB;obtain⟨⟨ai9,alb⟩,hblk'⟩:=hB;have hblk:∀ j,j<ops.size→G6 ops listed is j=true:=fun j hj=>hblk' j (List.mem_range.2 hj)
 have his:∀ k i,is[k]? = some i→i<n∧listed.getD i true=false∧∃ o,ops[i]? = some o∧o.guard=none∧∀ e∈o.after,Region.binds .any e=true→listed.getD e.on false=true∨∃ k',k'<k∧is[k']? = some e.on:=fun k i hk=>by
  have h1:=alb k (List.mem_range.2 (List.getElem?_eq_some_iff.1 hk).1);simp only[hk] at h1;cases ho:ops[i]? with
  | none=>simp[ho] at h1
  | some o=>
    simp only[ho,dw,fM,jw] at h1;refine⟨h1.1.1,h1.1.2,o,rfl,by simpa using h1.2.1,fun e he hb=>?_⟩;have h2:=Array.all_eq_true'.1 h1.2.2 e he;simp only[hb,Bool.not_true,oF,jN] at h2;rcases h2 with h2 | h2
    ·exact .inl h2
    ·obtain⟨k',hk',he'⟩:=List.mem_iff_getElem.1 (show e.on∈is.take k by simpa using h2);rw[aW] at hk';rw[j3] at he';exact .inr ⟨k',by omega,by rw[aR (by omega),he']⟩
 have hlt:∀ i∈is,i<listed.size:=fun i hi=>by
  obtain⟨k,hk,he⟩:=List.mem_iff_getElem.1 hi;obtain⟨_,_,o,ho,_⟩:=his k i (by rw[aR hk,he]);rw[inv.size];exact (Array.getElem?_eq_some_iff.1 ho).1
 suffices key:∀ (m:Nat) (rem:List Nat) (l':Array Bool) (y:Nat→Value) (W:World),rem.length=m→rem.Nodup→(∀ k∈rem,k<is.length)→l'.size=listed.size →
  (∀ j b,l'.getD j b=if (∃ k,is[k]? = some j∧k ∉ rem) then true else listed.getD j b)→HeadInv .any ops n l'→S W→(∀ k,k<is.length→k ∉ rem→Φ k (y k) W) →
  Fy P .any ops Q S n (WV P ops Q n) (m+f) l' (vN a ds y) W by
  obtain⟨y,hy⟩:=JL ds a;have h1:=key is.length (List.range is.length) listed y w (List.length_range ..) (List.nodup_range ..) (fun k hk=>List.mem_range.1 hk) rfl (fun j b=>by
   rw[av];rintro⟨k,hk,hn⟩;exact hn (List.mem_range.2 (List.getElem?_eq_some_iff.1 hk).1)) inv hS (fun k hk hn=>absurd (List.mem_range.2 hk) hn)
  rwa [hy] at h1
 intro m
 induction m with
 | zero=>
   intro rem l' y W hm _ _ hsz hl' aib hW hΦ;have hr0:rem=[]:=dx hm;subst hr0;rw[dK];have hl:l'=Ao listed is:=by
    apply Array.ext
    ·rw[hsz,Er]
    ·intro j h1 h2;have h3:=hl' j false;have h4:=F5 is listed j false;simp only[mU,gN h1,gN h2,jC] at h3 h4;rw[h3,h4]
     by_cases hj:j∈is
     ·obtain⟨k,hk,he⟩:=List.mem_iff_getElem.1 hj;rw[au ⟨k,by rw[aR hk,he],gY⟩,au ⟨hj,hlt j hj⟩]
     ·rw[av (fun ⟨k,hk,_⟩=>hj (dI hk)),av (fun h=>hj h.1)]
   subst hl;exact h y W hW (fun k hk=>hΦ k hk gY) aib
 | succ m ih=>
   intro rem l' y W hm hnr hrl hsz hl' aib hW hΦ;have hne:rem≠[]:=fun e=>by rw[e] at hm;cases hm
   obtain⟨k0,hk0,hmin⟩:=least rem hne;have afC:=hrl k0 hk0;have hone:is[k0]∈Region.ready .any ops l':=by
    obtain⟨_,hu,o,ho,_,ha⟩:=his k0 is[k0] (aR afC);refine mem_ready.2 ⟨?_,o,ho,fun e he hb=>?_⟩
    ·rw[hl' is[k0] true,av,hu];rintro⟨k',hk',hn'⟩;have:k'=k0:=(List.getElem?_inj (List.getElem?_eq_some_iff.1 hk').1 ai9).1 (hk'.trans (aR afC).symm);exact hn' (this ▸ hk0)
    ·rw[hl' e.on false];split
     ·rfl
     ·rename_i hx;rcases ha e he hb with h1 | ⟨k',hk',h1⟩
      ·exact h1
      ·exact absurd ⟨k',h1,fun hr=>by have:=hmin k' hr;omega⟩ hx
   have aja:∀ j∈Region.ready .any ops l',∃ k∈rem,is[k]? = some j:=fun j hj=>by
    obtain⟨hu,o,ho,ha⟩:=mem_ready.1 hj;have hjs:j<ops.size:=(Array.getElem?_eq_some_iff.1 ho).1;have hb:=hblk j hjs;simp only[G6,ho,nV,jC,jN] at hb;rw[hl' j true] at hu;split at hu
    ·cases hu
    ·rename_i hnd';rcases hb with (hb | hb)|hb | hb
     ·rw[hu] at hb;cases hb
     ·have hj':j∈is:=by simpa using hb
      obtain⟨k,hk,he⟩:=List.mem_iff_getElem.1 hj';have hkj:is[k]? = some j:=by rw[aR hk,he]
      refine⟨k,?_,hkj⟩;exact Classical.byContradiction fun hn'=>hnd' ⟨k,hkj,hn'⟩
     ·obtain⟨e,he,hc⟩:=Array.any_eq_true'.1 hb;simp only[dw,jw] at hc;have h3:=ha e he hc.1.1;rw[hl' e.on false] at h3;split at h3
      ·rename_i hx;obtain⟨k,hk,_⟩:=hx;have:is.contains e.on=true:=by simpa using dI hk
       rw[this] at hc;exact absurd hc.1.2 (by decide)
      ·rw[hc.2] at h3;cases h3
     ·have h3:=List.all_eq_true.1 hb is[k0] (dL afC);obtain⟨e,he,hc⟩:=Array.any_eq_true'.1 h3;simp only[dw,kH] at hc;have h4:=ha e he hc.1;rw[hc.2,hl' is[k0] false] at h4;split at h4
      ·rename_i hx;obtain⟨k,hk,hn'⟩:=hx;have:k=k0:=(List.getElem?_inj (List.getElem?_eq_some_iff.1 hk).1 ai9).1 (hk.trans (aR afC).symm);exact absurd (this ▸ hk0) hn'
      ·have h6:=getD_both (his k0 is[k0] (aR afC)).2.1;rw[h6] at h4;cases h4
   rw[show m+1+f=(m+f)+1 by omega];refine⟨fun h0=>?_,fun j hj=>?_⟩
   ·rw[h0] at hone;cases hone
   ·obtain⟨k,hk,hkj⟩:=aja j hj;have hmem:=dI hkj;obtain⟨hjn,_,o,ho,hg,_⟩:=his k j hkj;obtain⟨d,hd⟩:∃ d,ds[k]? = some d:=⟨_,aR (by have:=hrl k hk;omega)⟩;obtain⟨hdst,hop⟩:=hops k j d o hkj hd ho;refine⟨hjn,?_⟩;unfold wpOp;simp only[ho];rw[au (by simp[Region.wanted,hg])];refine .inl (Oper.wp_mono (fun a' w' hx=>?_) (hop y W hW));obtain⟨v,rfl,hv,hb⟩:=hx;rw[Nq ds a y k d v hnd hd];have hW':=ai8 _ _ hW hb;refine⟨hW',ih (rem.erase k) _ _ w' (by rw[List.length_erase_of_mem hk];omega) (hnr.erase k) (fun k' hk'=>hrl k' (ou hk')) (by rw[iY,hsz]) (fun j' b=>?_) (aib.set hj hjn) hW' (fun k' hk' hn'=>?_)⟩
    ·by_cases hjj:j'=j
     ·subst hjj;rw[au ⟨k,hkj,fun hx=>by rw[hnr.mem_erase_iff] at hx;exact hx.1 rfl⟩];have:j'<l'.size:=by rw[hsz];exact hlt j' hmem
      simp[this]
     ·have h1:(l'.setIfInBounds j true).getD j' b=l'.getD j' b:=by simp[l7 (jy hjj)]
      rw[h1,hl' j' b]
      by_cases h2:∃ k,is[k]? = some j'∧k ∉ rem
      ·obtain⟨k2,hk2,hn2⟩:=h2;rw[au ⟨k2,hk2,hn2⟩,au ⟨k2,hk2,fun hx=>hn2 (ou hx)⟩]
      ·rw[av h2,av];rintro⟨k2,hk2,hn2⟩;refine h2 ⟨k2,hk2,fun hx=>hn2 ?_⟩;rw[hnr.mem_erase_iff];refine⟨fun he=>hjj ?_,hx⟩;subst he;rw[hkj] at hk2;injection hk2 with hk2
       exact hk2.symm
    ·unfold X0
     by_cases he:k'=k
     ·subst he;rw[au rfl];exact hv
     ·rw[av he];refine hmono _ _ _ _ (hΦ k' hk' (fun hx=>hn' ?_)) hb;rw[hnr.mem_erase_iff];exact⟨he,hx⟩
theorem yU {id:Nat}{a:Act}{w:World}(hm:P.follows .mixedOrders=true)
 (h:wpAny P .any ops (fun e a w=>e = .normal∧Q .normal a w) ops.size (Array.replicate ops.size false) a w.drew):(Code.region id ops true).wp P Q a w:=
 wp_mono (Q:=fun e a w=>e = .normal∧Q .normal a w) (wp_region_any hm h) (fun e a w he=>by obtain⟨h1,h2⟩:=he;subst h1;exact h2)
theorem Uc {c A B:Prop}[Decidable c](hc:c)(h:if c then A else B):A:=by rwa [au hc] at h
end
end Go
namespace Go.Proofs.Y.PA
open Go.RowKit Go.Proofs.YW.oO Go.Proofs.YW.pq Go.Proofs.YW.pz
attribute [local go_sem] sV sZ uE uF sW tq uj um
def vD.f  : Option (List Int):=some (([208,215]:List Int))
theorem vD.c  (r:List Int)(w:World)(h:vD.f  = some r) :
 Calls Tryz.prog 95 #[] w fun e w'=>∃ v0_:Value,e = .returned (v0_)∧Kd.R (Kd.int .u8) 5 w' w.heap.size (fun _=>True) v0_ r∧Below w.heap.size w w':=by
 have HB:=Y7 (aU w.heap.size w);have H:(some (([208,215]:List Int)))=some r:=h;clear h;obtain⟨alc,ad3⟩:∃ y_:List Int,y_=(([208,215]:List Int)):=⟨_,rfl⟩;replace H:(some alc)=some r:=by first|(rw[ad3];with_reducible exact H)|(have H2_:=(cZ _ _).symm.trans H;rw[ad3];with_reducible exact H2_)|(have H2_:=(cZ _ _).symm.trans H;with_reducible exact H2_)|with_reducible exact H | (rw[ad3];exact H)|exact H
 have ahH:=Y7 ad3;clear ad3;obtain rfl:=bB H
 go_enter Tryz.func95,Tryz.ntmps95
 go_wp2_with (first|((with_reducible refine qm (N:=1) rfl ?_);refine Kd.Bj (Kd.int .u8) _ 5 ?hg (N:=1) ?hd (xs:=([208,215]:List Int)) (inner:=[.int .u8 208,.int .u8 215]) (ok:=fun _=>True) (okp:=fun _=>True) ?hr ?hp (fun _ hk=>hk) bE (aU _ _) (ay _) (by simp) ?_;(case hd=>rfl);(case hg=>rfl);(case hr=>first|(go_simp;done)|(go_simp;rfl));(case hp=>exact (qP.one (show Kd.M (Kd.int .u8) _ _ _ 208 [.int .u8 208] from rfl) (qP.one (show Kd.M (Kd.int .u8) _ _ _ 215 [.int .u8 215] from rfl) (qP.none _ _))));intro v162 w1 ho2 hb hg_ ZG;clear hg_ ZG;(first | rw[← ahH.o] at ho2 | (simp only[Int.reduceToNat] at ho2;rw[← ahH.o] at ho2));have n0_:=Y7 (Kd.qW ho2 (qh (by repeat (first|(with_reducible first | exact HB.o | apply oN | apply oU | apply oV)|exact HB.o))));have n1_:=Y7 (oP (by repeat (first|(with_reducible first | exact HB.o | apply oN | apply oU | apply oV)|exact HB.o)) hb);clear HB;have ajb:=n0_;have HB:=n1_;clear n0_ n1_;clear hb ho2))
 go_ret;exact⟨_,by first | rfl | (simp[pQ,pR]<;>rfl)|(simp[*,pQ,pR]<;>rfl),by (with_reducible repeat (first | apply Kd.sJ | apply Kd.wm | apply Kd.vK));exact ajb.o,by repeat (first|(with_reducible first | exact HB.o | apply oN | apply oU | apply oV)|exact HB.o)⟩
end Go.Proofs.Y.PA
