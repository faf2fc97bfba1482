/- Lemmas and contracts that the law DumpRows leans on (packed by a program of this session out of its texts and the print's words). -/
import Derived.Test.YtcgbgifbajdhpaaGreatDoorProg
import Derived.Below
import Derived.Deep.Draws
import Derived.Deep.AppendLies
import Derived.Maps.AppendAt
import Derived.OwnWalk
import Derived.Laws.BytesArg
import Derived.Laws.MakeOwn
import Derived.Laws.OwnMore
import Derived.Deep.OwnRows
import Derived.Tactics
import Derived.Lib.ConvBytes
import Derived.Laws.Slices
import Derived.WalkKit
import Derived.KernelRfl
import Derived.RowKit3
import Derived.Deep.LoopGhost
import Derived.Deep.QuietTactic
import Derived.BigQuiet
import Derived.WideLaws
import Derived.Deep.DeepCutAuto
import Derived.Deep.CutBlock
import Derived.Deep.RegionHeld3
import Derived.Laws.Rows
import Derived.Lib.AppendStr
import Derived.ArgAppend
import Derived.Laws.IdiomCopy
import Derived.OrdersHeld
import Derived.Laws.BitsLemmas
import Derived.RowKit
import Derived.Test.YtcgbgifbajdhpaaGreatDoorZE1
import Derived.Test.YtcgbgifbajdhpaaGreatDoorZE2
import Derived.Laws.BitsAllLaws
import Derived.Lib.Hide
import Derived.Deep.DeepMust
import Derived.Shelf.Spec.SlicesInsert
import Derived.Lib.AppendZerosOnto
import Derived.Laws.Cover1
import Derived.StillTailTactics
import Derived.WalkSpells
import Derived.Deep.RegionWith
set_option linter.unusedVariables false
set_option linter.unusedSimpArgs false
set_option maxHeartbeats 8000000
set_option maxRecDepth 100000
namespace Go.Proofs.YtcgbgifbajdhpaaGreatDoor.PA
open Go.RowKit Go.Proofs.YtcgbgifbajdhpaaGreatDoorW.au Go.Proofs.YtcgbgifbajdhpaaGreatDoorW.aI Go.Proofs.YtcgbgifbajdhpaaGreatDoorW.aJ
attribute [local go_sem] eG eH gq gu eT eU fU fV   -- for this text's walks alone
def Pq:Option Int→Value
 | none => .nilIface
 | some c => .iface 0 (.int .i64 c)
theorem bF:Pq none = .nilIface:=rfl
theorem bG (c:Int):Pq (some c) = .iface 0 (.int .i64 c):=rfl
theorem wH:(Tryz.prog.info? 51).map (fun i=>(i.zero,i.size,i.bytes))=some (some (.agg #[(.slice none 0 0),(.slice none 0 0)]),2,48):=by kernel_rfl
theorem Eo:(Tryz.prog.info? 68).map (fun i=>(i.zero,i.size,i.bytes))=some (some (.agg #[(.string ⟨#[]⟩),(.string ⟨#[]⟩)]),2,32):=by kernel_rfl
theorem wI:(Tryz.prog.info? 70).map (fun i=>(i.zero,i.size,i.bytes))=some (some (.agg #[(.int .i64 0),(.int .u64 0)]),2,16):=by kernel_rfl
structure eP where
 f0:ByteArray
 f1:ByteArray
def z68:eP:=⟨(⟨#[]⟩:ByteArray),(⟨#[]⟩:ByteArray)⟩
def iM:Kd eP:=Kd.OO (Kd.pair Kd.string Kd.string) (fun x:eP=>(x.f0,x.f1))
theorem wM {w:World} {x:eP} {cs:List Value} (h:iM.K w x cs):cs=[.string x.f0,.string x.f1]:=by
 obtain⟨_,_,rfl,rfl,rfl⟩:=h
 exact rfl
theorem Et (w:World) (x:eP)  : iM.K w x [.string x.f0,.string x.f1]:=⟨[.string x.f0],[.string x.f1],rfl,rfl,rfl⟩
theorem uT (w:World) (base:Nat) (ok:Nat→Prop) (x:eP)  : iM.M w base ok x [.string x.f0,.string x.f1]:=⟨[.string x.f0],[.string x.f1],rfl,rfl,rfl⟩
def bU (xs:List eP) (i:Int):eP:=xs.getD i.toNat z68
theorem jo {w:World} {A:Option Addr} {n:Nat} {xs:List eP} (h:Kd.C iM w A n xs) (i:Int) (h0:0≤i) (h1:i<n):∃ ad , A=some ad∧w.cell? (ad.add (i.toNat*2))=some (.string (bU xs i).f0)∧w.cell? ⟨(ad.add (i.toNat*2)).block,(ad.add (i.toNat*2)).off+1,none⟩=some (.string (bU xs i).f1):=by
 obtain⟨ad,c,e,_,hK,hc0⟩:=Kd.ng h z68 i h0 h1
 have hc:∀ j u,c[j]? = some u→w.cell? (ad.add (i.toNat*2+j))=some u:=hc0
 obtain rfl:=wM hK
 exact⟨ad,e,hc 0 _ rfl,by rw[← gD _ _ 1 (by omega)];exact hc 1 _ rfl⟩
structure bN where
 f0:Int
 f1:Int
def z70:bN:=⟨(0:Int),(0:Int)⟩
def jg:Kd bN:=Kd.OO (Kd.pair (Kd.int .i64) (Kd.int .u64)) (fun x:bN=>(x.f0,x.f1))
theorem CG {w:World} {x:bN} {cs:List Value} (h:jg.K w x cs):cs=[.int .i64 x.f0,.int .u64 x.f1]:=by
 obtain⟨_,_,rfl,rfl,rfl⟩:=h
 exact rfl
theorem G9 {w:World} {base:Nat} {ok:Nat→Prop} {x:bN} {cs:List Value} (h:jg.M w base ok x cs):cs=[.int .i64 x.f0,.int .u64 x.f1]:=by
 obtain⟨_,_,rfl,rfl,rfl⟩:=h
 exact rfl
theorem J3 (w:World) (x:bN)  : jg.K w x [.int .i64 x.f0,.int .u64 x.f1]:=⟨[.int .i64 x.f0],[.int .u64 x.f1],rfl,rfl,rfl⟩
theorem uU (w:World) (base:Nat) (ok:Nat→Prop) (x:bN)  : jg.M w base ok x [.int .i64 x.f0,.int .u64 x.f1]:=⟨[.int .i64 x.f0],[.int .u64 x.f1],rfl,rfl,rfl⟩
def aR (xs:List bN) (i:Int):bN:=xs.getD i.toNat z70
theorem gP {w:World} {A:Option Addr} {n:Nat} {xs:List bN} (h:Kd.C jg w A n xs) (i:Int) (h0:0≤i) (h1:i<n):∃ ad , A=some ad∧w.cell? (ad.add (i.toNat*2))=some (.int .i64 (aR xs i).f0)∧w.cell? ⟨(ad.add (i.toNat*2)).block,(ad.add (i.toNat*2)).off+1,none⟩=some (.int .u64 (aR xs i).f1):=by
 obtain⟨ad,c,e,_,hK,hc0⟩:=Kd.ng h z70 i h0 h1
 have hc:∀ j u,c[j]? = some u→w.cell? (ad.add (i.toNat*2+j))=some u:=hc0
 obtain rfl:=CG hK
 exact⟨ad,e,hc 0 _ rfl,by rw[← gD _ _ 1 (by omega)];exact hc 1 _ rfl⟩
structure cB where
 f0:(List eP)
 f1:(List bN)
def z51:cB:=⟨([]:List eP),([]:List bN)⟩
def mK:Kd cB:=Kd.OO (Kd.pair (Kd.slice 68 iM) (Kd.slice 70 jg)) (fun x:cB=>(x.f0,x.f1))
theorem qH {w:World} {x:cB} {cs:List Value} (h:mK.K w x cs):∃ A0 c0 A1 c1,cs=[.slice A0 x.f0.length c0,.slice A1 x.f1.length c1]∧x.f0.length≤c0∧iM.C w A0 x.f0.length x.f0∧x.f1.length≤c1∧jg.C w A1 x.f1.length x.f1:=by
 obtain⟨_,_,rfl,⟨A0,c0,rfl,l0,g0⟩,⟨A1,c1,rfl,l1,g1⟩⟩:=h
 exact⟨A0,c0,A1,c1,rfl,l0,g0,l1,g1⟩
theorem wL (w:World) (x:cB) {A0:Option Addr} {c0:Nat} (l0:x.f0.length≤c0) (g0:iM.C w A0 x.f0.length x.f0) {A1:Option Addr} {c1:Nat} (l1:x.f1.length≤c1) (g1:jg.C w A1 x.f1.length x.f1):mK.K w x [.slice A0 x.f0.length c0,.slice A1 x.f1.length c1]:=⟨[.slice A0 x.f0.length c0],[.slice A1 x.f1.length c1],rfl,⟨A0,c0,rfl,l0,g0⟩,⟨A1,c1,rfl,l1,g1⟩⟩
theorem rZ {W:World} {ok:Nat→Prop} {x:cB} {cs:List Value} (h:Kd.FK mK W ok x cs):∃ A0 c0 A1 c1,cs=[.slice A0 x.f0.length c0,.slice A1 x.f1.length c1]∧x.f0.length≤c0∧Kd.F iM W ok A0 x.f0.length x.f0∧x.f1.length≤c1∧Kd.F jg W ok A1 x.f1.length x.f1:=by
 obtain⟨A0,c0,A1,c1,rfl,l0,_,l1,_⟩:=qH (Kd.nI h)
 exact⟨A0,c0,A1,c1,rfl,l0,(fun W' hW=>by obtain⟨A0_,c0_,A1_,c1_,he,l0_,g0_,l1_,g1_⟩:=qH (h W' hW);injection (Option.some.inj (show some (Value.slice A0 x.f0.length c0)=some (Value.slice A0_ x.f0.length c0_) from congrArg (fun l=>l[0]?) he)) with ha_ _ _;rw[ha_];exact g0_),l1,(fun W' hW=>by obtain⟨A0_,c0_,A1_,c1_,he,l0_,g0_,l1_,g1_⟩:=qH (h W' hW);injection (Option.some.inj (show some (Value.slice A1 x.f1.length c1)=some (Value.slice A1_ x.f1.length c1_) from congrArg (fun l=>l[1]?) he)) with ha_ _ _;rw[ha_];exact g1_)⟩
theorem Mh (W:World) (ok:Nat→Prop) (x:cB) {A0:Option Addr} {c0:Nat} (l0:x.f0.length≤c0) (g0:Kd.F iM W ok A0 x.f0.length x.f0) {A1:Option Addr} {c1:Nat} (l1:x.f1.length≤c1) (g1:Kd.F jg W ok A1 x.f1.length x.f1):Kd.FK mK W ok x [.slice A0 x.f0.length c0,.slice A1 x.f1.length c1]:=fun W2 hW=>wL W2 x l0 (g0 W2 hW) l1 (g1 W2 hW)
def aK (xs:List cB) (i:Int):cB:=xs.getD i.toNat z51
theorem iR {w:World} {A:Option Addr} {n:Nat} {xs:List cB} (h:Kd.C mK w A n xs) (i:Int) (h0:0≤i) (h1:i<n):∃ ad A0 c0 A1 c1,A=some ad∧w.cell? (ad.add (i.toNat*2))=some (.slice A0 (aK xs i).f0.length c0)∧w.cell? ⟨(ad.add (i.toNat*2)).block,(ad.add (i.toNat*2)).off+1,none⟩=some (.slice A1 (aK xs i).f1.length c1)∧(aK xs i).f0.length≤c0∧iM.C w A0 (aK xs i).f0.length (aK xs i).f0∧(aK xs i).f1.length≤c1∧jg.C w A1 (aK xs i).f1.length (aK xs i).f1:=by
 obtain⟨ad,c,e,_,hK,hc0⟩:=Kd.ng h z51 i h0 h1
 have hc:∀ j u,c[j]? = some u→w.cell? (ad.add (i.toNat*2+j))=some u:=hc0
 obtain⟨A0,c0,A1,c1,rfl,l0,g0,l1,g1⟩:=qH hK
 exact⟨ad,A0,c0,A1,c1,e,hc 0 _ rfl,by rw[← gD _ _ 1 (by omega)];exact hc 1 _ rfl,l0,g0,l1,g1⟩
end Go.Proofs.YtcgbgifbajdhpaaGreatDoor.PA
namespace Go.Proofs.YtcgbgifbajdhpaaGreatDoor.G
open Go.RowKit Go.Proofs.YtcgbgifbajdhpaaGreatDoorW.au Go.Proofs.YtcgbgifbajdhpaaGreatDoorW.aI Go.Proofs.YtcgbgifbajdhpaaGreatDoorW.aJ
def dR (N:Nat):Nat→List Int
 | 0=>[]
 | i+1=>((N / 256 ^ i % 256:Nat):Int)::dR N i
theorem bJ (N i:Nat):(dR N i).length=i:=by induction i with
 | zero=>rfl
 | succ i ih=>simp[dR,ih]
theorem Bp (N i:Nat):∀ x∈dR N i,0≤x∧x<256:=by induction i with
 | zero=>intro x hx;cases hx
 | succ i ih=>
   intro x hx
   rcases List.mem_cons.1 hx with rfl | hx
   ·have:N / 256 ^ i % 256<256:=Nat.mod_lt _ (by decide)
    omega
   ·exact ih x hx
def lX (V:Nat) (l:List Int):Nat:=l.foldl (fun v x=>v*256+x.toNat) V
theorem Bq (V:Nat) (x:Int) (l:List Int):lX V (x::l)=lX (V*256+x.toNat) l:=rfl
theorem Fq (N i:Nat):∀ V,lX V (dR N i)=V*256 ^ i+N % 256 ^ i:=by
 induction i with
 | zero=>intro V;simp[lX,dR,Nat.mod_one]
 | succ i ih=>
   intro V
   rw[dR,Bq,ih,Int.toNat_natCast,Nat.pow_succ,Nat.mod_mul,Nat.add_mul,Nat.mul_assoc,Nat.mul_comm 256 (256 ^ i),Nat.mul_comm (N / 256 ^ i % 256)]
   omega
theorem zC (l:List Int) (hl:∀ x∈l,0≤x∧x<256):∀ V m,V<256 ^ m→lX V l<256 ^ (m+l.length):=by
 induction l with
 | nil=>intro V m h;simpa [lX] using h
 | cons x l ih=>
   intro V m h
   have hx:=hl x (List.mem_cons_self ..)
   have:=ih (fun y hy=>hl y (List.mem_cons_of_mem _ hy)) (V*256+x.toNat) (m+1) (by rw[Nat.pow_succ];omega)
   rw[Bq,List.length_cons]
   rwa [show m+(l.length+1)=m+1+l.length from by omega]
theorem OA (d:Nat) (L:List Int) (v:Int):(List.replicate (d+1) (0:Int)++L).set d v=List.replicate d 0++(v::L):=by
 rw[List.replicate_succ',List.append_assoc,List.set_append_right _ _ (by simp)]
 simp
theorem jZ {x:Int} (h : -9223372036854775808≤x) (h':x≤9223372036854775807):wrap64 x=x:=by unfold wrap64;omega
theorem QA (V:Nat) (x:Int) (hV:V<256 ^ 7) (h0:0≤x) (h1:x<256):Go.bits .or .u64 (IntKind.u64.wrap ((V:Int)*256)) (IntKind.u64.wrap x)=((V*256+x.toNat:Nat):Int):=by
 have e1:IntKind.u64.wrap ((V:Int)*256)=((V*256:Nat):Int):=by
  simp[IntKind.wrap,IntKind.bits,IntKind.signed];omega
 have e2:IntKind.u64.wrap x=(x.toNat:Int):=by
  simp[IntKind.wrap,IntKind.bits,IntKind.signed];omega
 rw[e1,e2,u64_or_nat _ _ (by omega) (by omega),nat_join 8 (V*256) x.toNat (by simp) (by omega)]
theorem MI (l:List Int) (i:Nat) (h:i<l.length):l.drop i=rd l (i:Int)::l.drop (i+1):=by
 rw[List.drop_eq_getElem_cons h]
 simp[rd,List.getD_eq_getElem?_getD,List.getElem?_eq_getElem h]
theorem wZ (l:List Int) (i:Nat) (h:i<l.length):rd l (i:Int)∈l:=by
 simp[rd,List.getD_eq_getElem?_getD,List.getElem?_eq_getElem h]
def wid (a:Int):Nat:=min (max a 0).toNat 8
theorem La (a:Int):wid a≤8:=by unfold wid;omega
def okB (l:List Int):Bool:=l.all fun x=>decide (0≤x∧x<256)
theorem dK {l:List Int}:okB l=true↔∀ x∈l,0≤x∧x<256:=by simp[okB]
theorem OG {n:Int} (h:(Lit.int .u64 n).wf=true):0≤n∧n<18446744073709551616:=by
 have:0≤n∧n≤18446744073709551615:=by simpa [Lit.wf,IntKind.min,IntKind.max,IntKind.signed,IntKind.bits] using h
 omega
theorem JX {n:Int} (h:(Lit.int .i64 n).wf=true) : -9223372036854775808≤n∧n≤9223372036854775807:=by
 simpa [Lit.wf,IntKind.min,IntKind.max,IntKind.signed,IntKind.bits] using h
theorem FW (N i:Nat):okB (dR N i)=true:=dK.2 (Bp N i)
theorem yQ {α:Type} {d:Kd α} {e base B:Nat} {ok:Nat→Prop} {w:World} {v:Value} {xs:List α} (h:d.R e w base ok v xs) (hb:∃ b,v.ownBlock=some b∧B≤b) :
 ∃ g cap,v = .slice (some ⟨g,0,none⟩) xs.length cap∧B≤g:=by
 obtain⟨inner,ho⟩:=Kd.vF h
 obtain⟨b,hb,hB⟩:=hb
 rcases ho.2 with ⟨rfl,_⟩ | ⟨g,cap,cur,rfl,_⟩
 ·simp[Value.ownBlock] at hb
 ·have:g=b:=by simpa [Value.ownBlock] using hb
  exact⟨g,cap,rfl,by omega⟩
theorem KE {a b:Bool} (h:a=b):Ending.returned (.bool a) = .returned (.bool b):=by rw[h]
theorem og {α:Type} (d:Kd α) (e base:Nat) (w:World) (ok:Nat→Prop) (hb:base≤w.heap.size) (hok:ok w.heap.size) :
 d.R e (w.alloc (.cells #[] e)) base ok (.slice (some ⟨w.heap.size,0,none⟩) 0 0) []:=by
 refine⟨fun k hk=>?_,[],⟨by simp,.inr ⟨w.heap.size,0,#[],rfl,hb,heap_alloc_new w _,Nat.le_refl _,by simp[maxLen],by simp,by simp⟩⟩,cO.none _ _⟩
 simp only[Value.ownBlock,Option.some.injEq] at hk
 rw[← hk]
 exact hok
theorem gU:(Tryz.prog.info? 5).map (fun i=>(i.zero,i.size,i.bytes))=some (some (.int .u8 0),1,1):=by kernel_rfl
end Go.Proofs.YtcgbgifbajdhpaaGreatDoor.G
namespace Go.Proofs.YtcgbgifbajdhpaaGreatDoor.PA
open Go.RowKit Go.Proofs.YtcgbgifbajdhpaaGreatDoor.G Go.Proofs.YtcgbgifbajdhpaaGreatDoorW.au Go.Proofs.YtcgbgifbajdhpaaGreatDoorW.aI Go.Proofs.YtcgbgifbajdhpaaGreatDoorW.aJ
theorem oM (w:World) (dT sT ty elem:TypeId) (b o dLen dCap:Nat) (a:Addr) (sLen sCap:Nat) (cs:List Value)
 (hu:Tryz.prog.underlying dT=some (.slice elem)) (hs:(Tryz.prog.info? elem).map (·.size)=some 2) (hn:Nat.min sLen dLen*2=cs.length)
 (hsrc:∀ j v,cs[j]? = some v→w.cell? (a.add j)=some v) (hc:∀ j,j<cs.length→(w.cell? ⟨b,o+j,none⟩).isSome=true) (hf:∀ j,j<cs.length→w.frozen? ⟨b,o+j,none⟩=false) (h1:∀ v∈cs,v.oneCell'=true) :
 (Builtin.copy_ #[dT,sT] ty #[.slice (some ⟨b,o,none⟩) dLen dCap,.slice (some a) sLen sCap]).run Tryz.prog w = .ok (goInt (Nat.min sLen dLen:Nat)) (w.setCells b o cs):=by
 have hl:=run_loadCells_list (P:=Tryz.prog) w a cs hsrc
 have hst:=run_storeCells_cells (P:=Tryz.prog) b o cs 0 w (by simpa using hc) (by simpa using hf) h1
 cases hq:Tryz.prog.info? elem with
 | none=>simp[hq] at hs
 | some i=>
   have hi:i.size=2:=by simpa [hq] using hs
   simp[Builtin.copy_,run_underlying hu,Builtin.lenOf,Builtin.firstCells,sizeOf,typeInfo,hq,hi,hn,hl,hst]
theorem lC:(Tryz.prog.info? 51).map (·.size)=some 2:=by kernel_rfl
theorem EU:∀ w,(Go.sizeOf 51).run Tryz.prog w = .ok 2 w:=fun w=>by kernel_rfl
theorem AA {g:Nat} {e:TypeId} {w:World} {cur:Array Value} {xs c:List Value} {n i cap base:Nat} (hg:w.heap[g]? = some (.cells cur e (0,0))) (hx:xs.length=n*2) (hcur:cur.toList.take (n*2)=xs) (hc:c.length=2) (hsz:cur.size=cap*2) (hi:i≤n) (hcap:n+1≤cap) (hcm:cap≤maxLen) (hb:base≤g) :
 ((w.setCells g ((i+1)*2) (xs.drop (i*2))).setCells g (i*2) c).ownsRow base e 2 (.slice (some ⟨g,0,none⟩) (n+1) cap) (n+1) (xs.take (i*2)++c++xs.drop (i*2))∧w.grownBy ((w.setCells g ((i+1)*2) (xs.drop (i*2))).setCells g (i*2) c) (some g):=by
 obtain⟨cur1,h1,h2,h3⟩:=fK (xs.drop (i*2)) ((i+1)*2) w cur hg (by rw[List.length_drop];omega)
 obtain⟨cur2,h4,h5,h6⟩:=fK c (i*2) _ cur1 h1 (by omega)
 obtain⟨s1,s2,s3,s4⟩:=gL g (xs.drop (i*2)) ((i+1)*2) w
 obtain⟨t1,t2,t3,t4⟩:=gL g c (i*2) (w.setCells g ((i+1)*2) (xs.drop (i*2)))
 refine⟨⟨by simp;omega,.inr ⟨g,cap,cur2,rfl,hb,h4,by omega,hcm,by omega,?_⟩⟩,⟨t1.trans s1,t2.trans s2,t3.trans s3,by rw[t4,s4];exact Nat.le_refl _,fun k _ hk=>by rw[fJ _ _ k (fun e=>hk (by rw[e])),fJ _ _ k (fun e=>hk (by rw[e]))]⟩⟩
 have hl:cur.toList.length=cap*2:=by rw[Array.length_toList,hsz]
 have hA:(List.take ((i+1)*2) cur.toList++xs.drop (i*2)++List.drop ((i+1)*2+(xs.drop (i*2)).length) cur.toList).take (i*2)=xs.take (i*2):=by
  rw[List.append_assoc,List.take_append_of_le_length (by rw[List.length_take];omega),List.take_take,Nat.min_eq_left (by omega),← hcur,List.take_take,Nat.min_eq_left (by omega)]
 have hB:(List.take ((i+1)*2) cur.toList++xs.drop (i*2)++List.drop ((i+1)*2+(xs.drop (i*2)).length) cur.toList).drop (i*2+c.length)=xs.drop (i*2)++List.drop ((i+1)*2+(xs.drop (i*2)).length) cur.toList:=by
  rw[List.append_assoc,List.drop_left' (by rw[List.length_take,hc];omega)]
 rw[h6,h3,hA,hB,← List.append_assoc,List.take_left' (by simp;omega)]
theorem Ab (base g cap n i vb:Nat) (xs:List Value) (c0 c1:Value) (w:World) (h:w.ownsRow base 51 2 (.slice (some ⟨g,0,none⟩) n cap) n xs) (hx1:∀ v∈xs,v.oneCell'=true) (hi:i<n) (hcap:n+1≤cap)
 (hv:w.heap[vb]? = some (.cells #[c0,c1] 51 (0,0))) (hne:vb≠g) (h0:c0.oneCell'=true) (h1:c1.oneCell'=true) :
 Calls Tryz.prog 72 #[.slice (some ⟨g,0,none⟩) n cap,.int .i64 i,.slice (some ⟨vb,0,none⟩) 1 1] w fun e w'=>e = .returned (.slice (some ⟨g,0,none⟩) (n+1) cap)∧w'=(w.drew.setCells g ((i+1)*2) (xs.drop (i*2))).setCells g (i*2) [c0,c1]:=by
 obtain⟨hxl,hr⟩:=h
 rcases hr with ⟨hno,_⟩ | ⟨g',cap',cur,he,hb,hg,hnc,hcm,hcs,htk⟩
 ·cases hno
 ·have he':g=g'∧cap=cap':=by simpa using he
  obtain⟨rfl,rfl⟩:=he'
  have hcm':cap≤9223372036854775807:=by have:maxLen≤9223372036854775807:=by decide
                                        omega
  have hxj:∀ k v,xs[k]? = some v→cur[k]? = some v:=fun k v hk=>by
   have hkl:k<n*2:=by have:=(List.getElem?_eq_some_iff.1 hk).1;omega
   rw[← Array.getElem?_toList]
   rw[← htk,List.getElem?_take,if_pos hkl] at hk
   exact hk
  have hsome:∀ (W:World) (cu:Array Value),W.heap[g]? = some (.cells cu 51 (0,0))→cu.size=cap*2→∀ k,k<cap*2→(W.cell? ⟨g,k,none⟩).isSome=true:=fun W cu hW hz k hk=>by
   rw[av hW,Array.getElem?_eq_getElem (by omega)];rfl
  have hcp1:∀ ty dc sc,(Builtin.copy_ #[22,22] ty #[.slice (some ⟨g,(i+1)*2,none⟩) (n-i) dc,.slice (some ⟨g,i*2,none⟩) (n+1-i) sc]).run Tryz.prog w.drew = .ok (goInt (Nat.min (n+1-i) (n-i):Nat)) (w.drew.setCells g ((i+1)*2) (xs.drop (i*2))):=fun ty dc sc=>
   oM w.drew _ _ ty 51 g ((i+1)*2) (n-i) dc ⟨g,i*2,none⟩ (n+1-i) sc (xs.drop (i*2)) Tryz.underlying22 lC (by rw[List.length_drop,hxl];simp only[Nat.min_def];split<;>omega)
    (fun j v hj=>by
     rw[Addr.add_lit]
     show w.cell? _=_
     rw[av hg]
     exact hxj _ v (by rwa [List.getElem?_drop] at hj))
    (fun j hj=>by rw[List.length_drop,hxl] at hj;exact hsome w cur hg hcs _ (by omega)) (fun j hj=>aC hg _) (fun v hv'=>hx1 v (List.mem_of_mem_drop hv'))
  obtain⟨cur1,k1,k2,k3⟩:=fK (xs.drop (i*2)) ((i+1)*2) w.drew cur hg (by rw[List.length_drop];omega)
  have hv1:(w.drew.setCells g ((i+1)*2) (xs.drop (i*2))).heap[vb]? = some (.cells #[c0,c1] 51 (0,0)):=by rw[fJ _ _ vb hne];exact hv
  have hv0:w.heap[vb]? = some (.cells #[c0,c1] 51 (0,0)):=hv
  have hov:∀ lb cb,(callFunc 105 #[.slice (some ⟨vb,0,none⟩) 1 1,.slice (some ⟨g,(i+1)*2,none⟩) lb cb]).run Tryz.prog w = .ok (.value (.bool false)) w:=fun lb cb=>by
   rw[run_callFunc_extern Tryz.func105 (by kernel_rfl) (by kernel_rfl) (by kernel_rfl) (e:=Extern.SlicesOverlaps.overlaps #[22,22] #[4]) (by kernel_rfl),
    Lib.run_overlaps_apart w 22 4 51 Tryz.underlying22 2 EU ⟨vb,0,none⟩ ⟨g,(i+1)*2,none⟩ 1 1 lb cb hne 51 51 2 (cap*2) (by simp[World.shape?,hv]) (by simp[World.shape?,hg,hcs]) (by omega) (aC hv _) (aC hv _)]
   rfl
  obtain⟨W1,hW1⟩:∃ W1,W1=w.drew.setCells g ((i+1)*2) (xs.drop (i*2)):=⟨_,rfl⟩
  rw[← hW1] at hcp1 k1 hv1 ⊢
  have hcp2:∀ ty dc,(Builtin.copy_ #[22,22] ty #[.slice (some ⟨g,i*2,none⟩) (n+1-i) dc,.slice (some ⟨vb,0,none⟩) 1 1]).run Tryz.prog W1 = .ok (goInt (Nat.min 1 (n+1-i):Nat)) (W1.setCells g (i*2) [c0,c1]):=fun ty dc=>
   oM W1 _ _ ty 51 g (i*2) (n+1-i) dc ⟨vb,0,none⟩ 1 1 [c0,c1] Tryz.underlying22 lC (by simp only[Nat.min_def];split<;>simp<;>omega)
    (fun j v hj=>by
     rw[Addr.add_lit,av hv1,Nat.zero_add]
     simpa using hj)
    (fun j hj=>by simp at hj;exact hsome W1 cur1 k1 (by omega) _ (by omega)) (fun j hj=>aC k1 _) (fun v hv'=>by simp at hv';rcases hv' with rfl | rfl<;>assumption)
  have mixed:Tryz.prog.follows .mixedOrders=true:=by kernel_rfl
  have HW1:=ah.mk hW1
  have hin:i≤n:=by omega
  have hw1:IntKind.i64.wrap ((i:Int)+1)=(i:Int)+1:=by rw[IntKind.wrap_i64];omega
  have hb1:(0:Int)≤(i:Int)+1:=by omega
  have htn:((i:Int)+1).toNat=i+1:=by omega
  have hb3:(i:Int)≤(n:Int)+1:=by omega
  have hb5:(i:Int)≤(n:Int):=by omega
  have hz2:¬ ((i:Int)=(n:Int)):=by omega
  have hz3:¬ ((n:Int)+1>(cap:Int)):=by omega
  have hb2:¬ (cap=i+1):=by omega
  have hb4:¬ (cap=i):=by omega
  clear hW1 hv hg k1 k3 hv1 hv0 hsome hxj htk hxl hx1
  go_enter Tryz.func72,Tryz.ntmps72
  go_wp2_with (simp only[hov])
  go_region_law_o (refine step_copy_runI rfl _ _ 22 22 rfl _ _ (by simp[Act.eval,Act.put]) (by simp[Act.eval,Act.put]) (hcp1 _ _ _) ?_)
  go_wp2_with (at_builtin;refine wpList_copy_runI _ rfl _ _ 22 22 rfl _ _ rfl rfl (hcp2 _ _) ?_)
  go_ret
  exact⟨rfl,rfl⟩
theorem JW {B:Nat} {e:TypeId} {w:World} {cur:Array Value} {xs c:List Value} {n i cap base:Nat} (hg:w.heap[B]? = some (.cells cur e (0,0))) (hx:xs.length=n*2) (hcur:cur.toList.take (i*2)=xs.take (i*2)) (hc:c.length=2) (hsz:cur.size=cap*2) (hi:i≤n) (hcap:n+1≤cap) (hcm:cap≤maxLen) (hb:base≤B) :
 ((w.setCells B (i*2) c).drew.setCells B ((i+1)*2) (xs.drop (i*2))).ownsRow base e 2 (.slice (some ⟨B,0,none⟩) (n+1) cap) (n+1) (xs.take (i*2)++c++xs.drop (i*2))∧w.grownBy ((w.setCells B (i*2) c).drew.setCells B ((i+1)*2) (xs.drop (i*2))) (some B):=by
 obtain⟨cur1,h1,h2,h3⟩:=fK c (i*2) w cur hg (by omega)
 have h1':(w.setCells B (i*2) c).drew.heap[B]? = some (.cells cur1 e (0,0)):=h1
 obtain⟨cur2,h4,h5,h6⟩:=fK (xs.drop (i*2)) ((i+1)*2) _ cur1 h1' (by rw[List.length_drop];omega)
 obtain⟨s1,s2,s3,s4⟩:=gL B c (i*2) w
 obtain⟨t1,t2,t3,t4⟩:=gL B (xs.drop (i*2)) ((i+1)*2) (w.setCells B (i*2) c).drew
 have hl:cur.toList.length=cap*2:=by rw[Array.length_toList,hsz]
 have hA:(List.take (i*2) cur.toList++c++List.drop (i*2+c.length) cur.toList).take ((i+1)*2)=xs.take (i*2)++c:=by
  rw[List.take_left' (by rw[List.length_append,List.length_take];omega),hcur]
 refine⟨⟨by simp;omega,.inr ⟨B,cap,cur2,rfl,hb,h4,by omega,hcm,by omega,?_⟩⟩,⟨t1.trans s1,t2.trans s2,t3.trans s3,by rw[t4];show w.heap.size≤(w.setCells B (i*2) c).heap.size;rw[s4];exact Nat.le_refl _,fun k _ hk=>?_⟩⟩
 ·rw[h6,h3,hA,List.take_left' (by simp;omega)]
 ·rw[fJ _ _ k (fun e=>hk (by rw[e]))]
  show (w.setCells B (i*2) c).heap[k]? = _
  rw[fJ _ _ k (fun e=>hk (by rw[e]))]
theorem Cz (base g cap n i vb:Nat) (xs:List Value) (c0 c1:Value) (w:World) (h:w.ownsRow base 51 2 (.slice (some ⟨g,0,none⟩) n cap) n xs) (hx1:∀ v∈xs,v.oneCell'=true) (hi:i<n) (hcap:cap<n+1) (hbig:n≤1000000)
 (hv:w.heap[vb]? = some (.cells #[c0,c1] 51 (0,0))) (h0:c0.oneCell'=true) (h1:c1.oneCell'=true) (hbase:base≤w.heap.size) :
 Calls Tryz.prog 72 #[.slice (some ⟨g,0,none⟩) n cap,.int .i64 i,.slice (some ⟨vb,0,none⟩) 1 1] w fun e w'=>∃ cap',e = .returned (.slice (some ⟨w.heap.size,0,none⟩) (n+1) cap')∧w'.ownsRow base 51 2 (.slice (some ⟨w.heap.size,0,none⟩) (n+1) cap') (n+1) (xs.take (i*2)++[c0,c1]++xs.drop (i*2))∧Below w.heap.size w w':=by
 obtain⟨hxl,hr⟩:=h
 rcases hr with ⟨hno,_⟩ | ⟨g',cap',cur,he,hb,hg,hnc,hcm,hcs,htk⟩
 ·cases hno
 ·have he':g=g'∧cap=cap':=by simpa using he
  obtain⟨rfl,rfl⟩:=he'
  have hxj:∀ k v,xs[k]? = some v→cur[k]? = some v:=fun k v hk=>by
   have hkl:k<n*2:=by have:=(List.getElem?_eq_some_iff.1 hk).1;omega
   rw[← Array.getElem?_toList]
   rw[← htk,List.getElem?_take,if_pos hkl] at hk
   exact hk
  obtain⟨i0,hi0,hz0,hzs,hzb⟩:=info_parts wH
  have hold:(Builtin.firstCells i0.size i (.slice (some ⟨g,0,none⟩) i cap)).run Tryz.prog w.drew = .ok (xs.take (i*2)).toArray w.drew:=by
   rw[hzs]
   exact run_firstCells_some w.drew 2 i ⟨g,0,none⟩ i cap (xs.take (i*2)) (by rw[List.length_take];omega) (fun j v hj=>by
    rw[Addr.add_lit,Nat.zero_add]
    rw[List.getElem?_take] at hj
    split at hj
    ·show w.cell? _=_
     rw[av hg]
     exact hxj j v hj
    ·cases hj)
  have hik:i+(n+1-i)=n+1:=by omega
  have hkk:(n:Int)+1-(i:Int)=((n+1-i:Nat):Int):=by omega
  have hfit:Builtin.nextslicecap (i+(n+1-i)) cap*i0.bytes≤281474976710656:=by
   rw[hzb,hik]
   exact growslice_fits (by omega) (by omega)
  obtain⟨G,hG⟩:∃ G,G=grownCap w (n+1) cap 51:=⟨_,rfl⟩
  have hG1:n+1≤G:=by rw[hG];exact grownCap_ge w (n+1) cap _
  have hG2:G≤maxLen:=by rw[hG];exact grownCap_le_maxLen w (n+1) cap _ (by have:(2000000:Nat)≤maxLen:=by decide
                                                                          omega)
  obtain⟨ROW,hROW⟩:∃ ROW:Array Value,ROW=(xs.take (i*2)).toArray++Builtin.zeroCells (Value.agg #[.slice none 0 0,.slice none 0 0]).cells (n+1-i)++Builtin.zeroCells (Value.agg #[.slice none 0 0,.slice none 0 0]).cells (G-(n+1)):=⟨_,rfl⟩
  have hRs:ROW.size=G*2:=by
   rw[hROW]
   simp[Builtin.zeroCells,Value.cells]
   omega
  have hRt:ROW.toList.take (i*2)=xs.take (i*2):=by
   rw[hROW,Array.toList_append,Array.toList_append,List.append_assoc,List.take_left' (by simp;omega)]
  have hrz:∀ ty,(Builtin.append_ #[22,3] ty #[.slice (some ⟨g,0,none⟩) i cap,.int .i64 ((n:Int)+1-(i:Int))]).run Tryz.prog w = .ok (.slice (some ⟨w.heap.size,0,none⟩) (n+1) G) (w.drew.alloc (.cells ROW 51)):=fun ty=>by
   have h:=Lib.run_append_grow_zeros w 22 3 ty 51 i0 _ .i64 .i64 Tryz.underlying22 Tryz.underlying3 hi0 hz0 (some ⟨g,0,none⟩) i cap (xs.take (i*2)) hold (n+1-i) (by omega) (by omega) (by omega) (by omega) (by rw[hzb];omega) hfit
   rw[hik,← hG,← hROW] at h
   rw[hkk]
   exact h
  have hB1:(w.drew.alloc (.cells ROW 51)).heap[w.heap.size]? = some (.cells ROW 51 (0,0)):=heap_alloc_new w.drew _
  have hgl:=dO hg
  have hvl:=dO hv
  have hg1:(w.drew.alloc (.cells ROW 51)).heap[g]? = some (.cells cur 51 (0,0)):=by rw[heap_alloc_old w.drew _ hgl];exact hg
  have hv1:(w.drew.alloc (.cells ROW 51)).heap[vb]? = some (.cells #[c0,c1] 51 (0,0)):=by rw[heap_alloc_old w.drew _ hvl];exact hv
  obtain⟨hO,hGr⟩:=JW (base:=base) (n:=n) (i:=i) (cap:=G) (c:=[c0,c1]) hB1 hxl hRt rfl hRs (by omega) hG1 hG2 hbase
  have hBel:Below w.heap.size w ((((w.drew.alloc (.cells ROW 51)).setCells w.heap.size (i*2) [c0,c1]).drew.setCells w.heap.size ((i+1)*2) (xs.drop (i*2)))):=
   (Below.refl w.heap.size w).drew.alloc (Nat.le_refl _) _ |>.grown hGr (by show w.heap.size≤(w.drew.alloc _).heap.size;simp) (fun k hk=>by cases hk;exact Nat.le_refl _)
  obtain⟨W1,hW1⟩:∃ W1,W1=w.drew.alloc (.cells ROW 51):=⟨_,rfl⟩
  rw[← hW1] at hrz hB1 hg1 hv1 hO hBel
  have hcp1:∀ ty,(Builtin.copy_ #[22,22] ty #[.slice (some ⟨w.heap.size,i*2,none⟩) (n+1-i) (G-i),.slice (some ⟨vb,0,none⟩) 1 1]).run Tryz.prog W1 = .ok (goInt (Nat.min 1 (n+1-i):Nat)) (W1.setCells w.heap.size (i*2) [c0,c1]):=fun ty=>
   oM W1 _ _ ty 51 w.heap.size (i*2) (n+1-i) (G-i) ⟨vb,0,none⟩ 1 1 [c0,c1] Tryz.underlying22 lC (by simp only[Nat.min_def];split<;>simp<;>omega)
    (fun j v hj=>by
     rw[Addr.add_lit,av hv1,Nat.zero_add]
     simpa using hj)
    (fun j hj=>by simp at hj;rw[av hB1,Array.getElem?_eq_getElem (by omega)];rfl) (fun j hj=>aC hB1 _) (fun v hv'=>by simp at hv';rcases hv' with rfl | rfl<;>assumption)
  obtain⟨cur1,k1,k2,_⟩:=fK [c0,c1] (i*2) W1 ROW hB1 (by simp;omega)
  have hg2:(W1.setCells w.heap.size (i*2) [c0,c1]).heap[g]? = some (.cells cur 51 (0,0)):=by rw[fJ _ _ g (by omega)];exact hg1
  obtain⟨W2,hW2⟩:∃ W2,W2=W1.setCells w.heap.size (i*2) [c0,c1]:=⟨_,rfl⟩
  rw[← hW2] at hcp1 k1 hg2 hO hBel
  have hcp2:∀ ty,(Builtin.copy_ #[22,22] ty #[.slice (some ⟨w.heap.size,(i+1)*2,none⟩) (n-i) (G-(i+1)),.slice (some ⟨g,i*2,none⟩) (n-i) (cap-i)]).run Tryz.prog W2.drew = .ok (goInt (Nat.min (n-i) (n-i):Nat)) (W2.drew.setCells w.heap.size ((i+1)*2) (xs.drop (i*2))):=fun ty=>
   oM W2.drew _ _ ty 51 w.heap.size ((i+1)*2) (n-i) _ ⟨g,i*2,none⟩ (n-i) _ (xs.drop (i*2)) Tryz.underlying22 lC (by rw[List.length_drop,hxl];simp only[Nat.min_def];split<;>omega)
    (fun j v hj=>by
     rw[Addr.add_lit]
     show W2.cell? _=_
     rw[av hg2]
     exact hxj _ v (by rwa [List.getElem?_drop] at hj))
    (fun j hj=>by
     rw[List.length_drop,hxl] at hj
     show (W2.cell? _).isSome=true
     rw[av k1,Array.getElem?_eq_getElem (by omega)];rfl) (fun j hj=>aC (w:=W2) k1 _) (fun v hv'=>hx1 v (List.mem_of_mem_drop hv'))
  have mixed:Tryz.prog.follows .mixedOrders=true:=by kernel_rfl
  have HO:=ah.mk hO
  have HBel:=ah.mk hBel
  have hin:i≤n:=by omega
  have hw1:IntKind.i64.wrap ((i:Int)+1)=(i:Int)+1:=by rw[IntKind.wrap_i64];omega
  have hb1:(0:Int)≤(i:Int)+1:=by omega
  have htn:((i:Int)+1).toNat=i+1:=by omega
  have hb3:(i:Int)≤(n:Int)+1:=by omega
  have hb5:(i:Int)≤(n:Int):=by omega
  have hz2:¬ ((i:Int)=(n:Int)):=by omega
  have hz3:(n:Int)+1>(cap:Int):=by omega
  have hic:i≤cap:=by omega
  have hg1':¬ G=i+1:=by omega
  have hg2':¬ G=i:=by omega
  have hc2':¬ cap=i:=by omega
  have hiG:(i:Int)+1≤(G:Int):=by omega
  clear hW1 hW2 hv hg k1 hB1 hg1 hv1 hg2 hxj htk hxl hx1 hO hBel hG hROW hRs hRt hGr hkk hik hold hi0 hz0 hfit
  generalize w.heap.size=B at *
  go_enter Tryz.func72,Tryz.ntmps72
  go_wp2_with (first|(at_builtin;refine Lib.wpList_append_run _ rfl _ _ _ _ rfl _ _ rfl rfl _ _ (hrz _) ?_)|(at_builtin;refine wpList_copy_runI _ rfl _ _ 22 22 rfl _ _ rfl rfl (hcp1 _) ?_))
  go_region_law_o (refine step_copy_runI rfl _ _ 22 22 rfl _ _ (by simp[Act.eval,Act.put]) (by simp[Act.eval,Act.put]) (hcp2 _) ?_)
  go_wp2
  go_ret
  exact⟨G,rfl,HO.o,HBel.o⟩
def Two (rows:List (List Value)):Prop:=∀ r∈rows,r.length=2∧∀ u∈r,u.oneCell'=true
theorem Dn:∀ (rows:List (List Value)) (inner:List Value),cO (fun (x cs:List Value)=>cs=x∧cs.length=2∧∀ u∈cs,u.oneCell'=true) 2 rows inner→inner=rows.flatten∧Two rows
 | [],inner,h=>⟨List.eq_nil_of_length_eq_zero (by simpa using h.1),fun r hr=>by cases hr⟩
 | r::rs,inner,h=>by
   have h0:=h.2 0 r rfl
   rw[Nat.zero_mul,List.drop_zero] at h0
   have ih:=Dn rs (inner.drop 2) ⟨by rw[List.length_drop,h.1,List.length_cons];omega,fun j p hj=>by
    have:=h.2 (j+1) p (by simpa using hj)
    rw[List.drop_drop]
    rwa [show (j+1)*2=2+j*2 from by omega] at this⟩
   refine⟨?_,fun x hx=>?_⟩
   ·rw[List.flatten_cons,← ih.1,← h0.1,List.take_append_drop]
   ·rcases List.mem_cons.1 hx with rfl | hx
    ·rw[← h0.1];exact h0.2
    ·exact ih.2 x hx
theorem Dx:∀ (rows:List (List Value)),Two rows→cO (fun (x cs:List Value)=>cs=x∧cs.length=2∧∀ u∈cs,u.oneCell'=true) 2 rows rows.flatten
 | [],_=>cO.none _ _
 | r::rs,h=>cO.front (R:=fun (x cs:List Value)=>cs=x∧cs.length=2∧∀ u∈cs,u.oneCell'=true) ⟨rfl,h r (List.mem_cons_self ..)⟩ (h r (List.mem_cons_self ..)).1 (Dx rs (fun x hx=>h x (List.mem_cons_of_mem _ hx))) rfl
theorem nW:∀ (rows:List (List Value)) (i:Nat),Two rows→rows.flatten.take (i*2)=(rows.take i).flatten∧rows.flatten.drop (i*2)=(rows.drop i).flatten
 | [],i,_=>by simp
 | r::rs,0,_=>by simp
 | r::rs,i+1,h=>by
   have ih:=nW rs i (fun x hx=>h x (List.mem_cons_of_mem _ hx))
   have hr:=(h r (List.mem_cons_self ..)).1
   rw[List.flatten_cons,List.take_succ_cons,List.flatten_cons,List.drop_succ_cons,← ih.1,← ih.2]
   constructor
   ·rw[List.take_append,hr,List.take_of_length_le (by omega),show (i+1)*2-2=i*2 from by omega]
   ·rw[List.drop_append,hr,List.drop_of_length_le (by omega),show (i+1)*2-2=i*2 from by omega,List.nil_append]
abbrev RR (w:World) (base:Nat) (v:Value) (rows:List (List Value)):Prop:=(Kd.raw 2).R 51 w base (fun _=>True) v rows
theorem EM {w:World} {base:Nat} {v:Value} {rows:List (List Value)} (h:RR w base v rows):w.ownsRow base 51 2 v rows.length rows.flatten∧Two rows:=by
 obtain⟨_,inner,ho,hr⟩:=h
 obtain⟨he,ht⟩:=Dn rows inner hr
 rw[he] at ho
 exact⟨ho,ht⟩
theorem EB {w:World} {base n:Nat} {v:Value} {rows:List (List Value)} (h:w.ownsRow base 51 2 v n rows.flatten) (hn:rows.length=n) (ht:Two rows):RR w base v rows:=by
 subst hn
 exact⟨fun _ _=>trivial,rows.flatten,h,Dx rows ht⟩
theorem MZ {rows:List (List Value)} {c:List Value} (h:Two rows) (hc:c.length=2) (h1:∀ u∈c,u.oneCell'=true) (i:Nat):Two (rows.take i++[c]++rows.drop i):=fun r hr=>by
 rcases List.mem_append.1 hr with hr | hr
 ·rcases List.mem_append.1 hr with hr | hr
  ·exact h r (List.mem_of_mem_take hr)
  ·rw[List.mem_singleton] at hr
   subst hr
   exact⟨hc,h1⟩
 ·exact h r (List.mem_of_mem_drop hr)
theorem Cm {rows:List (List Value)} (h:Two rows) (c:List Value) (i:Nat):(rows.take i++[c]++rows.drop i).flatten=rows.flatten.take (i*2)++c++rows.flatten.drop (i*2):=by
 rw[(nW rows i h).1,(nW rows i h).2,List.flatten_append,List.flatten_append]
 simp
theorem Er (base n vb:Nat) (v:Value) (rows:List (List Value)) (c0 c1:Value) (w:World) (hn:rows.length=n) (h:RR w base v rows) (hbig:n≤1000000)
 (hv:w.heap[vb]? = some (.cells #[c0,c1] 51 (0,0))) (h0:c0.oneCell'=true) (h1:c1.oneCell'=true) (hbase:base≤w.heap.size) :
 Calls Tryz.prog 72 #[v,.int .i64 n,.slice (some ⟨vb,0,none⟩) 1 1] w fun e w'=>∃ v',e = .returned v'∧RR w' base v' (rows++[[c0,c1]])∧w.grownBy w' v.ownBlock∧(v'.ownBlock=v.ownBlock∨∃ b,v'.ownBlock=some b∧w.heap.size≤b):=by
 obtain⟨A,c,rfl⟩:=Kd.bD h
 rw[hn] at h ⊢
 have HO:=ah.mk h
 have HN:=ah.mk hn
 have HBS:=ah.mk hbase
 have HRD:ah (dN (fun (x cs:List Value)=>cs=x∧cs.length=2∧∀ u∈cs,u.oneCell'=true) 2 w (some ⟨vb,0,none⟩) 1 [[c0,c1]]):=⟨⟨rfl,by omega,fun _=>⟨⟨vb,0,none⟩,rfl,fun j p hj=>by
  rcases j with _ | j
  ·simp at hj
   subst hj
   refine⟨[c0,c1],rfl,⟨rfl,rfl,fun u hu=>by simp at hu;rcases hu with rfl | rfl<;>assumption⟩,fun i u hi=>?_⟩
   rw[Addr.add_lit,av hv,Nat.zero_add,Nat.zero_mul,Nat.zero_add]
   simpa using hi
  ·simp at hj⟩⟩⟩
 have hcapn:¬ (n:Int)<0:=by omega
 have hnc:ah (n≤c):=⟨by
  rcases h with ⟨_,inner,⟨hl,ho⟩,_⟩
  rcases ho with ⟨h1,h2⟩ | ⟨g,cap,cur,h1,h2,h3,h4,h5,h6⟩
  ·rw[hn] at h2;omega
  ·simp at h1
   omega⟩
 have hncz:=hnc.o
 clear h hn hbase hv hnc
 go_enter Tryz.func72,Tryz.ntmps72
 cases A with
 | none=>
   go_wp2_with ((with_reducible refine bM (N:=25) rfl ?_);refine Kd.iG (Kd.raw 2) (w0:=w) base rfl (.tmp 23) (.tmp 24) 22 51 (.agg #[.slice none 0 0,.slice none 0 0]) 48 rfl Tryz.underlying22 wH rfl (by decide) (by omega) _ rows [[c0,c1]] (some ⟨vb,0,none⟩) 1 1 (fun _=>True) (fun _=>False) rfl rfl HO.o HRD.o (fun x cs hx=>hx) (fun _ hk=>hk.elim) (fun _ _=>trivial) (Below.refl _ _) ?hb ?hl ?_;(case hb=>exact HBS.o);(case hl=>(rw[HN.o];omega));intro v1 w1 hR1 hB1 hg_ ho_;have HR1:=ah.mk hR1;have HG1:=ah.mk hg_;have HO1:=ah.mk ho_;clear hR1 hB1 hg_ ho_)
   go_ret
   exact⟨_,rfl,HR1.o,HG1.o,HO1.o⟩
 | some a=>
   obtain⟨ab,ao,asp⟩:=a
   go_wp2_with ((with_reducible refine bM (N:=25) rfl ?_);refine Kd.iG (Kd.raw 2) (w0:=w) base rfl (.tmp 23) (.tmp 24) 22 51 (.agg #[.slice none 0 0,.slice none 0 0]) 48 rfl Tryz.underlying22 wH rfl (by decide) (by omega) _ rows [[c0,c1]] (some ⟨vb,0,none⟩) 1 1 (fun _=>True) (fun _=>False) rfl rfl HO.o HRD.o (fun x cs hx=>hx) (fun _ hk=>hk.elim) (fun _ _=>trivial) (Below.refl _ _) ?hb ?hl ?_;(case hb=>exact HBS.o);(case hl=>(rw[HN.o];omega));intro v1 w1 hR1 hB1 hg_ ho_;have HR1:=ah.mk hR1;have HG1:=ah.mk hg_;have HO1:=ah.mk ho_;clear hR1 hB1 hg_ ho_)
   all_goals (go_ret;exact⟨_,rfl,HR1.o,HG1.o,HO1.o⟩)
theorem Ay {w:World} {base:Nat} {v:Value} {rows:List (List Value)} (h:RR w base v rows) (h0:0<rows.length):∃ g cap,v = .slice (some ⟨g,0,none⟩) rows.length cap∧rows.length≤cap∧cap≤maxLen∧base≤g∧∃ cur,w.heap[g]? = some (.cells cur 51 (0,0))∧cur.size=cap*2:=by
 obtain⟨⟨_,ho⟩,_⟩:=EM h
 rcases ho with ⟨_,h1⟩ | ⟨g,cap,cur,he,hb,hh,h1,h2,h3,h4⟩
 ·omega
 ·exact⟨g,cap,he,h1,h2,hb,cur,hh,h3⟩
theorem insert.calls (base n i vb:Nat) (v:Value) (rows:List (List Value)) (c0 c1:Value) (w:World) (hn:rows.length=n) (h:RR w base v rows) (hi:i≤n) (hbig:n≤1000000)
 (hv:w.heap[vb]? = some (.cells #[c0,c1] 51 (0,0))) (hne:some vb≠v.ownBlock) (h0:c0.oneCell'=true) (h1:c1.oneCell'=true) (hbase:base≤w.heap.size) :
 Calls Tryz.prog 72 #[v,.int .i64 i,.slice (some ⟨vb,0,none⟩) 1 1] w fun e w'=>∃ v',e = .returned v'∧RR w' base v' (rows.take i++[[c0,c1]]++rows.drop i)∧w.grownBy w' v.ownBlock∧(v'.ownBlock=v.ownBlock∨∃ b,v'.ownBlock=some b∧w.heap.size≤b):=by
 rcases Nat.lt_or_ge i n with hlt | hge
 ·obtain⟨ho,ht⟩:=EM h
  obtain⟨g,cap,rfl,hnc,hcm,hbg,cur,hg,hcs⟩:=Ay h (by omega)
  rw[hn] at ho hnc
  rw[hn]
  have hx1:∀ u∈rows.flatten,u.oneCell'=true:=fun u hu=>by
   obtain⟨r,hr,hur⟩:=List.mem_flatten.1 hu
   exact (ht r hr).2 u hur
  have ht2:Two (rows.take i++[[c0,c1]]++rows.drop i):=MZ ht rfl (fun u hu=>by simp at hu;rcases hu with rfl | rfl<;>assumption) i
  have hl2:(rows.take i++[[c0,c1]]++rows.drop i).length=n+1:=by simp;omega
  have hne':vb≠g:=fun e=>hne (by rw[e];rfl)
  by_cases hcap:n+1≤cap
  ·refine Calls.mono (Ab base g cap n i vb rows.flatten c0 c1 w ho hx1 hlt hcap hv hne' h0 h1) ?_
   rintro e w' ⟨rfl,rfl⟩
   have htk:cur.toList.take (n*2)=rows.flatten:=by
    rcases ho.2 with ⟨hno,_⟩ | ⟨g',cap',cur',he,_,hh,_,_,_,h4⟩
    ·cases hno
    ·have he':g=g'∧cap=cap':=by simpa using he
     obtain⟨rfl,rfl⟩:=he'
     rw[hg] at hh
     injection hh with hh
     injection hh with hh
     rw[hh];exact h4
   have:=AA (w:=w.drew) (base:=base) (i:=i) (cap:=cap) (c:=[c0,c1]) hg ho.1 htk rfl hcs hi hcap hcm hbg
   rw[← Cm ht] at this
   exact⟨_,rfl,EB this.1 hl2 ht2,⟨this.2.os,this.2.tape,this.2.output,this.2.size,this.2.block⟩,.inl rfl⟩
  ·refine Calls.mono (Cz base g cap n i vb rows.flatten c0 c1 w ho hx1 hlt (by omega) hbig hv h0 h1 hbase) ?_
   rintro e w' ⟨cap',rfl,hO,hB⟩
   rw[← Cm ht] at hO
   exact⟨_,rfl,EB hO hl2 ht2,nP hB _,.inr ⟨w.heap.size,rfl,Nat.le_refl _⟩⟩
 ·obtain rfl:i=n:=by omega
  refine Calls.mono (Er base i vb v rows c0 c1 w hn h hbig hv h0 h1 hbase) ?_
  rintro e w' ⟨v',rfl,hR,hG,hO⟩
  exact⟨v',rfl,by rw[List.take_of_length_le (by omega),List.drop_of_length_le (by omega),List.append_nil];exact hR,hG,hO⟩
def txt (a b:ByteArray):Int:=if (Op.bytesLess a.toList b.toList)=true then -1 else if (a.toList==b.toList)=true then 0 else 1
def lg.f (a b:ByteArray):Option Int:=some (txt a b)
theorem texts.calls (a b:ByteArray) (w:World):Calls Tryz.prog 86 #[.string a,.string b] w fun e w'=>e = .returned (.int .i64 (txt a b))∧w'=w:=by
 cases h1:Op.bytesLess a.toList b.toList with
 | true=>
   have HV:ah (txt a b = -1):=⟨by rw[txt,if_pos h1]⟩
   go_enter Tryz.func86,Tryz.ntmps86
   go_wp2
   go_ret
   exact⟨by rw[HV.o];rfl,rfl⟩
 | false=>
   cases h2:a.toList==b.toList with
   | true=>
     have HV:ah (txt a b=0):=⟨by rw[txt,if_neg (by rw[h1];simp),if_pos h2]⟩
     go_enter Tryz.func86,Tryz.ntmps86
     go_wp2
     go_ret
     exact⟨by rw[HV.o];rfl,rfl⟩
   | false=>
     have HV:ah (txt a b=1):=⟨by rw[txt,if_neg (by rw[h1];simp),if_neg (by rw[h2];simp)]⟩
     go_enter Tryz.func86,Tryz.ntmps86
     go_wp2
     go_ret
     exact⟨by rw[HV.o];rfl,rfl⟩
theorem lg.calls (a0 a1:ByteArray) (r:Int) (w:World) (h:lg.f a0 a1=some r) :
 Calls Tryz.prog 86 #[.string a0,.string a1] w fun e w'=>e = .returned (.int .i64 r)∧aN w w':=by
 obtain rfl:=Option.some.inj h
 exact (texts.calls a0 a1 w).mono fun e w' ⟨he,hw⟩=>⟨he,hw ▸ aN.refl _⟩
theorem NY.calls (a b:ByteArray) (w:World):Calls Tryz.prog 104 #[.string a,.string b] w fun e w'=>e = .returned (.int .i64 (txt a b))∧w'=w:=by
 have ha:(a.toList==a.toList)=true:=by simp
 have hb:(b.toList==b.toList)=true:=by simp
 cases h1:Op.bytesLess a.toList b.toList with
 | true=>
   have HV:ah (txt a b = -1):=⟨by rw[txt,if_pos h1]⟩
   go_enter Tryz.func104,Tryz.ntmps104
   go_wp2_with (first | go_in)
   go_ret
   exact⟨by rw[HV.o];rfl,rfl⟩
 | false=>
   cases h2:a.toList==b.toList with
   | true=>
     have HV:ah (txt a b=0):=⟨by rw[txt,if_neg (by rw[h1];simp),if_pos h2]⟩
     go_enter Tryz.func104,Tryz.ntmps104
     go_wp2_with (first | go_in)
     go_ret
     exact⟨by rw[HV.o];rfl,rfl⟩
   | false=>
     have HV:ah (txt a b=1):=⟨by rw[txt,if_neg (by rw[h1];simp),if_neg (by rw[h2];simp)]⟩
     go_enter Tryz.func104,Tryz.ntmps104
     go_wp2_with (first | go_in)
     go_ret
     exact⟨by rw[HV.o];rfl,rfl⟩
end Go.Proofs.YtcgbgifbajdhpaaGreatDoor.PA
namespace Go.Proofs.YtcgbgifbajdhpaaGreatDoor.G
open Go.RowKit Go.Proofs.YtcgbgifbajdhpaaGreatDoorW.au Go.Proofs.YtcgbgifbajdhpaaGreatDoorW.aI Go.Proofs.YtcgbgifbajdhpaaGreatDoorW.aJ
structure BW (w:World) where
 W:World
 hb:Below w.heap.size w W
instance (w:World):Inhabited (BW w):=⟨⟨w,Below.refl _ _⟩⟩
theorem BW.cell {w:World} {a:Addr} {v:Value} (h:w.cell? a=some v) (p:BW w):p.W.cell? a=some v:=aV p.hb h
theorem bT {P:Program} {id:Nat} {Q:Exit→Act→World→Prop} {a:Act} {w:World} {l:List Oper} (hm:P.follows .mixedOrders=true) (hB:Region.lexB .any l.toArray=true)
 (h:wpQuiet P l.toArray (fun w'=>∃ p:BW w,w'=p.W) (fun a'=>∀ w',(∃ p:BW w,w'=p.W)→Q .normal a' w') l a):(Code.region id l.toArray true).wp P Q a w:=
 wp_region_quiet (C:=fun w'=>∃ p:BW w,w'=p.W) hm hB ⟨⟨w.drew,dG (Below.refl _ _)⟩,rfl⟩ (by simpa using h)
theorem bX {P:Program} {f:FuncId} {args:Array Value} {w:World} {p:BW w} {v:Value} (h:Calls P f args p.W fun e w'=>e = .returned v∧Below p.W.heap.size p.W w') :
 Calls P f args p.W fun e w''=>e = .returned v∧∃ q:BW w,w''=q.W:=
 h.mono fun _ w'' ⟨he,hb⟩=>⟨he,⟨w'',ak p.hb hb⟩,rfl⟩
theorem AL {id:Nat} {P:Program} {Q:Exit→Act→World→Prop} {a:Act} {w:World} {l:List Oper} (n:Nat) (hm:P.follows .mixedOrders=true) (hB:Region.lexTailB .any l.toArray n=true)
 (h:∀ W,W=w.drew→wpStill P l.toArray W (fun a'=>wpList P l.toArray Q (l.drop n) a' W) (l.take n) a):(Code.region id l.toArray true).wp P Q a w:=
 wp_region_still_tail n hm hB (h _ rfl)
end Go.Proofs.YtcgbgifbajdhpaaGreatDoor.G
namespace Go.Proofs.YtcgbgifbajdhpaaGreatDoor.PA
open Go.RowKit Go.Proofs.YtcgbgifbajdhpaaGreatDoor.G Go.Proofs.YtcgbgifbajdhpaaGreatDoorW.au Go.Proofs.YtcgbgifbajdhpaaGreatDoorW.aI Go.Proofs.YtcgbgifbajdhpaaGreatDoorW.aJ
def dX (a b:Int):Int:=if a≠0 then a else b
def lT (x y:eP):Int:=dX (txt x.f0 y.f0) (txt x.f1 y.f1)
theorem dX.calls (a b:Int) (w:World) (g:Nat) (h0:w.cell? ⟨g,0,none⟩=some (.int .i64 a)) (h1:w.cell? ⟨g,1,none⟩=some (.int .i64 b)):Calls Tryz.prog 103 #[.slice (some ⟨g,0,none⟩) 2 2] w fun e w'=>e = .returned (.int .i64 (dX a b))∧w'=w:=by
 cases ha:(a != 0) with
 | true=>
   have HV:ah (dX a b=a):=⟨by rw[dX,if_pos (bne_iff_ne.1 ha)]⟩
   go_enter Tryz.func103,Tryz.ntmps103
   go_wp2
   refine wp_loop_rounds 1 ?_
   rw[rounds_succ]
   go_wp2
   go_ret
   exact⟨by rw[HV.o];rfl,rfl⟩
 | false=>
   have HV:ah (dX a b=b):=⟨by rw[dX,if_neg (by simpa using ha)]⟩
   cases hb:(b != 0) with
   | true=>
     go_enter Tryz.func103,Tryz.ntmps103
     go_wp2
     refine wp_loop_rounds 2 ?_
     rw[rounds_succ]
     go_wp2
     rw[rounds_succ]
     go_wp2
     go_ret
     exact⟨by rw[HV.o];rfl,rfl⟩
   | false=>
     have hz:b=0:=by simpa using hb
     have HV2:ah (dX a b=0):=⟨by rw[HV.o,hz]⟩
     clear hz
     go_enter Tryz.func103,Tryz.ntmps103
     go_wp2
     refine wp_loop_rounds 3 ?_
     rw[rounds_succ]
     go_wp2
     rw[rounds_succ]
     go_wp2
     rw[rounds_succ]
     go_wp2
     go_ret
     exact⟨by rw[HV2.o];rfl,rfl⟩
theorem lT.calls (x y:eP) (w:World):Calls Tryz.prog 102 #[.agg #[.string x.f0,.string x.f1],.agg #[.string y.f0,.string y.f1]] w fun e w'=>e = .returned (.int .i64 (lT x y))∧Below w.heap.size w w':=by
 have bx:=aU (bI w (.cells #[.string x.f0,.string x.f1] 68 (0,0))) (.cells #[.string y.f0,.string y.f1] 68 (0,0))
 have by_:=bI (w.alloc (.cells #[.string x.f0,.string x.f1] 68 (0,0))) (.cells #[.string y.f0,.string y.f1] 68 (0,0))
 rw[show (w.alloc (.cells #[.string x.f0,.string x.f1] 68 (0,0))).heap.size=w.heap.size+1 by simp] at by_
 have HB:=ah.mk (aD (aj (aj (Below.refl w.heap.size w) (.cells #[.string x.f0,.string x.f1] 68 (0,0))) (.cells #[.string y.f0,.string y.f1] 68 (0,0))))
 have a0:∀ W,W=((w.alloc (.cells #[.string x.f0,.string x.f1] 68 (0,0))).alloc (.cells #[.string y.f0,.string y.f1] 68 (0,0))).drew→W.cell? ⟨w.heap.size,0,none⟩=some (.string x.f0)∧W.cell? ⟨w.heap.size,1,none⟩=some (.string x.f1)∧W.cell? ⟨w.heap.size+1,0,none⟩=some (.string y.f0)∧W.cell? ⟨w.heap.size+1,1,none⟩=some (.string y.f1)∧W.heap.size=w.heap.size+1+1:=fun W hW=>by
  subst hW
  exact⟨av (bg bx) 0,av (bg bx) 1,av (bg by_) 0,av (bg by_) 1,by simp⟩
 have HA:=ah.mk a0
 clear a0 bx by_
 go_enter Tryz.func102,Tryz.ntmps102
 go_wp2_with fail
 refine AL 10 (by kernel_rfl) (by kernel_rfl) ?_
 intro W hW
 obtain⟨a0,a1,a2,a3,hz⟩:=HA.o W hW
 rw[← hW] at HB
 have HB1:=ah.mk (aj HB.o (.cells #[.int .i64 (txt x.f0 y.f0),.int .i64 (txt x.f1 y.f1)] 3 (0,0)))
 have HN:=ah.mk (bI W (.cells #[.int .i64 (txt x.f0 y.f0),.int .i64 (txt x.f1 y.f1)] 3 (0,0)))
 clear hW HA hz
 simp only[List.take_succ_cons,List.take_zero,List.drop_succ_cons,List.drop_zero]
 repeat (first | still_step | still_call (NY.calls _ _ _))
 refine wpStill_nil ?_
 go_wp2_with (first|(go_at_call 103;refine (dX.calls (txt x.f0 y.f0) (txt x.f1 y.f1) _ _ (av HN.o 0) (av HN.o 1)).mono ?_;rintro e w1 ⟨rfl,rfl⟩))
 go_ret
 exact⟨rfl,HB1.o⟩
def cmpL:List eP→List eP→Int
 | [],[]=>0
 | [],_::_ => -1
 | _::_,[]=>1
 | x::a,y::b=>dX (lT x y) (cmpL a b)
theorem qD (l:List eP) (k:Nat) (h:k<l.length):l.drop k=bU l (k:Int)::l.drop (k+1):=by
 rw[List.drop_eq_getElem_cons h]
 simp[bU,List.getD_eq_getElem?_getD,List.getElem?_eq_getElem h]
theorem rH (a b:List eP) (k:Nat) (h1:k<a.length) (h2:k<b.length):cmpL (a.drop k) (b.drop k)=dX (lT (bU a (k:Int)) (bU b (k:Int))) (cmpL (a.drop (k+1)) (b.drop (k+1))):=by
 rw[qD a k h1,qD b k h2]
 rfl
theorem zQ (a b:List eP) (k:Nat) (h1:k<a.length) (h2:b.length≤k):cmpL (a.drop k) (b.drop k)=1:=by
 rw[qD a k h1,List.drop_eq_nil_of_le h2]
 rfl
theorem zS (a b:List eP) (k:Nat) (h1:a.length≤k) (h2:k<b.length):cmpL (a.drop k) (b.drop k) = -1:=by
 rw[qD b k h2,List.drop_eq_nil_of_le h1]
 rfl
theorem cmpL_eq (a b:List eP) (k:Nat) (h1:a.length≤k) (h2:b.length≤k):cmpL (a.drop k) (b.drop k)=0:=by
 rw[List.drop_eq_nil_of_le h2,List.drop_eq_nil_of_le h1]
 rfl
theorem Qh.calls (A B:Option Addr) (c e0 n m:Nat) (a b:List eP) (w:World) (hn:a.length=n) (hm:b.length=m) (hr:Kd.C iM w A n a) (hs:Kd.C iM w B m b) (hl:n≤1000000) :
 Calls Tryz.prog 101 #[.slice A n c,.slice B m e0,.func (.func 102) #[] #[]] w fun e w'=>e = .returned (.int .i64 (cmpL a b))∧Below w.heap.size w w':=by
 subst hn hm
 have HR:=ah.mk hr
 have HS:=ah.mk hs
 clear hr hs
 go_enter Tryz.func101,Tryz.ntmps101
 go_wp2
 go_loopw [13] (fun j wr=>∃ k:Nat,k≤a.length∧k≤b.length∧j = .int .i64 k∧ah (cmpL a b=cmpL (a.drop k) (b.drop k))∧ah (Below w.heap.size w wr)) (fun j _=>a.length-(intOf j).toNat)
 case atStart=>exact⟨0,Nat.zero_le _,Nat.zero_le _,rfl,⟨rfl⟩,⟨Below.refl _ _⟩⟩
 case round=>
  obtain⟨k,hk,hk2,rfl,HE,HB⟩:=hrel
  by_cases hlt:k<a.length
  ·obtain⟨ad,rfl,h0,h1⟩:=jo (Kd.aH HR.o HB.o) (k:Int) (by omega) (by omega)
   rw[Int.toNat_natCast] at h0 h1
   by_cases hlt2:k<b.length
   ·obtain⟨bd,rfl,i0,i1⟩:=jo (Kd.aH HS.o HB.o) (k:Int) (by omega) (by omega)
    rw[Int.toNat_natCast] at i0 i1
    have HST:=ah.mk (rH a b k hlt hlt2)
    generalize bU a (k:Int)=x at *
    generalize bU b (k:Int)=y at *
    have j0:=aV (aj (Below.refl _ _) (.cells #[.string x.f0,.string x.f1] 68 (0,0))) i0
    have j1:=aV (aj (Below.refl _ _) (.cells #[.string x.f0,.string x.f1] 68 (0,0))) i1
    have HB0:=ah.mk (aj (aj HB.o (.cells #[.string x.f0,.string x.f1] 68 (0,0))) (.cells #[.string y.f0,.string y.f1] 68 (0,0)))
    cases hc:(lT x y != 0) with
    | true=>
      have HV:ah (cmpL a b=lT x y):=⟨by rw[HE.o,HST.o,dX,if_pos (bne_iff_ne.1 hc)]⟩
      go_wp2_with (first|(go_at_call 102;(with_reducible refine (lT.calls x y _).mono ?_);rintro e w1 ⟨rfl,hb⟩;have HB1:=ah.mk (ak HB0.o hb);clear hb))
      go_ret
      exact⟨by rw[HV.o];rfl,HB1.o⟩
    | false=>
      have HV:ah (cmpL a b=cmpL (a.drop (k+1)) (b.drop (k+1))):=⟨by rw[HE.o,HST.o,dX,if_neg (by simpa using hc)]⟩
      go_wp2_with (first|(go_at_call 102;(with_reducible refine (lT.calls x y _).mono ?_);rintro e w1 ⟨rfl,hb⟩;have HB1:=ah.mk (ak HB0.o hb);clear hb))
      go_roundw
      case rel=>exact⟨k+1,by omega,by omega,by go_num,HV,HB1⟩
      case measure=>simp[intOf];omega
   ·have HV:ah (cmpL a b=1):=⟨by rw[HE.o,zQ a b k hlt (by omega)]⟩
    have HB0:=ah.mk (aj HB.o (.cells #[.string (bU a (k:Int)).f0,.string (bU a (k:Int)).f1] 68 (0,0)))
    have hge:((b.length:Nat):Int)≤(k:Int):=by omega
    go_wp2
    go_ret
    exact⟨by rw[HV.o];rfl,HB0.o⟩
  ·obtain rfl:k=a.length:=by omega
   by_cases hlt2:a.length<b.length
   ·have HV:ah (cmpL a b = -1):=⟨by rw[HE.o,zS a b _ (Nat.le_refl _) hlt2]⟩
    have hge:((a.length:Nat):Int)<(b.length:Int):=by omega
    go_wp2
    go_ret
    exact⟨by rw[HV.o];rfl,HB.o⟩
   ·have HV:ah (cmpL a b=0):=⟨by rw[HE.o,cmpL_eq a b _ (Nat.le_refl _) (by omega)]⟩
    have hge:decide (((a.length:Nat):Int)<(b.length:Int))=false:=decide_eq_false (by omega)
    go_wp2
    go_ret
    exact⟨by rw[HV.o];rfl,HB.o⟩
theorem cmpL.calls (A B:Option Addr) (c e0 n m:Nat) (a b:List eP) (w:World) (hn:a.length=n) (hm:b.length=m) (hr:Kd.C iM w A n a) (hs:Kd.C iM w B m b) (hl:n≤1000000) :
 Calls Tryz.prog 71 #[.slice A n c,.slice B m e0] w fun e w'=>e = .returned (.int .i64 (cmpL a b))∧Below w.heap.size w w':=by
 have HC:=ah.mk (Qh.calls A B c e0 n m a b w hn hm hr hs hl)
 clear hn hm hr hs hl
 go_enter Tryz.func71,Tryz.ntmps71
 go_wp2_with (first|(go_at_call 101;(with_reducible refine HC.o.mono ?_);rintro e w1 ⟨rfl,hb⟩;have HB:=ah.mk hb;clear hb))
 go_ret
 exact⟨rfl,HB.o⟩
theorem blt:∀ (x y:List UInt8),Op.bytesLess x y=decide (x<y)
 | [],[]=>by simp[Op.bytesLess]
 | _::_,[]=>by simp[Op.bytesLess]
 | [],_::_=>by simp[Op.bytesLess]
 | a::x,b::y=>by
   rw[Op.bytesLess,blt x y]
   simp only[List.cons_lt_cons_iff]
   by_cases h1:a<b<;>by_cases h2:a=b<;>by_cases h3:x<y<;>simp[h1,h2,h3]
structure IZ {α:Type} (c:α→α→Int):Prop where
 eq:∀ x y,c x y=0↔x=y
 swap:∀ x y,c y x = - c x y
 trans:∀ x y z,c x y<0→c y z<0→c x z<0
theorem D5 {a b:ByteArray} (h:a.toList=b.toList):a=b:=by
 rw[ByteArray.toList_eq,ByteArray.toList_eq] at h
 cases a;cases b
 simp at h
 rw[h]
theorem OE (a b:ByteArray):txt a b<0↔a.toList<b.toList:=by
 unfold txt
 rw[blt]
 by_cases h:a.toList<b.toList
 ·simp[h]
 ·simp[h]
  split<;>simp
theorem OD (a b:ByteArray):txt a b=0↔a=b:=by
 unfold txt
 rw[blt]
 by_cases h:a.toList<b.toList
 ·simp[h]
  rintro rfl
  exact List.lt_irrefl _ h
 ·simp[h]
  constructor
  ·intro h2
   exact D5 h2
  ·rintro rfl
   rfl
theorem K6 (a b:ByteArray):txt b a = - txt a b:=by
 unfold txt
 rw[blt,blt]
 by_cases h:a.toList<b.toList
 ·have h2:¬ b.toList<a.toList:=List.lt_asymm h
  have h3:¬ b.toList=a.toList:=fun e=>by rw[e] at h;exact List.lt_irrefl _ h
  simp[h,h2,h3]
 ·by_cases h2:b.toList<a.toList
  ·have h3:¬ a.toList=b.toList:=fun e=>by rw[e] at h2;exact List.lt_irrefl _ h2
   simp[h,h2,h3]
  ·have h3:a.toList=b.toList:=List.le_antisymm (List.not_lt.1 h2) (List.not_lt.1 h)
   simp[h3,List.lt_irrefl b.toList]
theorem FY:IZ txt:=⟨OD,K6,fun x y z h1 h2=>by
 rw[OE] at *
 exact List.lt_trans h1 h2⟩
theorem Mx {α β:Type} {c:α→α→Int} {d:β→β→Int} (hc:IZ c) (hd:IZ d):IZ (fun (x y:α × β)=>dX (c x.1 y.1) (d x.2 y.2)):=by
 refine⟨fun x y=>?_,fun x y=>?_,fun x y z h1 h2=>?_⟩
 ·show dX _ _=0↔_
  unfold dX
  by_cases h:c x.1 y.1=0
  ·rw[if_neg (by simpa using h),hd.eq]
   have:=(hc.eq _ _).1 h
   exact⟨fun h2=>Prod.ext this h2,fun h2=>by rw[h2]⟩
  ·rw[if_pos h]
   exact⟨fun h2=>absurd h2 h,fun h2=>absurd ((hc.eq _ _).2 (by rw[h2])) h⟩
 ·show dX _ _ = - dX _ _
  unfold dX
  rw[hc.swap x.1 y.1,hd.swap x.2 y.2]
  by_cases h:c x.1 y.1=0
  ·rw[if_neg (by simp[h]),if_neg (by simp[h])]
  ·rw[if_pos (by simpa using h),if_pos h]
 ·show dX _ _<0
  have h1':dX (c x.1 y.1) (d x.2 y.2)<0:=h1
  have h2':dX (c y.1 z.1) (d y.2 z.2)<0:=h2
  unfold dX at *
  by_cases e1:c x.1 y.1=0
  ·rw[if_neg (by simp[e1])] at h1'
   have:=(hc.eq _ _).1 e1
   rw[this]
   by_cases e2:c y.1 z.1=0
   ·rw[if_neg (by simp[e2])] at h2' ⊢
    exact hd.trans _ _ _ h1' h2'
   ·rw[if_pos e2] at h2' ⊢
    exact h2'
  ·rw[if_pos e1] at h1'
   by_cases e2:c y.1 z.1=0
   ·have:=(hc.eq _ _).1 e2
    rw[← this,if_pos e1]
    exact h1'
   ·rw[if_pos e2] at h2'
    have:=hc.trans _ _ _ h1' h2'
    rw[if_pos (by omega)]
    exact this
theorem mo:IZ lT:=by
 have h:=Mx FY FY
 refine⟨fun x y=>?_,fun x y=>h.swap (x.f0,x.f1) (y.f0,y.f1),fun x y z=>h.trans (x.f0,x.f1) (y.f0,y.f1) (z.f0,z.f1)⟩
 have:=h.eq (x.f0,x.f1) (y.f0,y.f1)
 refine Iff.trans this ⟨fun e=>?_,fun e=>by rw[e]⟩
 cases x;cases y
 simp at e
 rw[e.1,e.2]
theorem oo (x y:eP) (a b:List eP):cmpL (x::a) (y::b)=dX (lT x y) (cmpL a b):=rfl
theorem BN:∀ a b:List eP,cmpL a b=0↔a=b
 | [],[]=>by simp[cmpL]
 | [],y::b=>by simp[cmpL]
 | x::a,[]=>by simp[cmpL]
 | x::a,y::b=>by
   rw[oo]
   unfold dX
   by_cases h:lT x y=0
   ·rw[if_neg (by simp[h]),BN a b,(mo.eq _ _).1 h]
    simp
   ·rw[if_pos h]
    exact⟨fun h2=>absurd h2 h,fun h2=>absurd ((mo.eq _ _).2 (List.cons.inj h2).1) h⟩
theorem yE:∀ a b:List eP,cmpL b a = - cmpL a b
 | [],[]=>rfl
 | [],y::b=>rfl
 | x::a,[]=>rfl
 | x::a,y::b=>by
   rw[oo,oo]
   unfold dX
   rw[mo.swap x y,yE a b]
   by_cases h:lT x y=0
   ·rw[if_neg (by simp[h]),if_neg (by simp[h])]
   ·rw[if_pos (by simpa using h),if_pos h]
theorem pW:∀ a b c:List eP,cmpL a b<0→cmpL b c<0→cmpL a c<0
 | [],[],c,h1,h2=>by simp[cmpL] at h1
 | [],y::b,[],h1,h2=>by simp[cmpL] at h2
 | [],y::b,z::c,h1,h2=>by simp[cmpL]
 | x::a,[],c,h1,h2=>by simp[cmpL] at h1
 | x::a,y::b,[],h1,h2=>by simp[cmpL] at h2
 | x::a,y::b,z::c,h1,h2=>by
   rw[oo] at *
   unfold dX at *
   by_cases e1:lT x y=0
   ·rw[if_neg (by simp[e1])] at h1
    have:=(mo.eq _ _).1 e1
    rw[this]
    by_cases e2:lT y z=0
    ·rw[if_neg (by simp[e2])] at h2 ⊢
     exact pW a b c h1 h2
    ·rw[if_pos e2] at h2 ⊢
     exact h2
   ·rw[if_pos e1] at h1
    by_cases e2:lT y z=0
    ·have:=(mo.eq _ _).1 e2
     rw[← this,if_pos e1]
     exact h1
    ·rw[if_pos e2] at h2
     have:=mo.trans _ _ _ h1 h2
     rw[if_pos (by omega)]
     exact this
end Go.Proofs.YtcgbgifbajdhpaaGreatDoor.PA
namespace Go.Proofs.YtcgbgifbajdhpaaGreatDoor.G
def bit (l:List Int) (i:Nat):Bool:=(l.getD (i / 8) 0).toNat.testBit (7-i % 8)
def win (l:List Int) (p c:Nat):List Bool:=(List.range c).map fun i=>bit l (p+i)
def Bs (l:List Int) (n:Nat):List Bool:=win l 0 n
def low (v c:Nat):List Bool:=(List.range c).map fun i=>v.testBit (c-1-i)
def num (bs:List Bool):Nat:=bs.foldl (fun a b=>2*a+b.toNat) 0
def xQ (l:List Int):Prop:=∀ x∈l,0≤x∧x<256
structure kG (l:List Int) (n:Nat):Prop where
 bytes:xQ l
 le:n≤8*l.length
 near:8*l.length<n+8
 tail:∀ i,n≤i→i<8*l.length→bit l i=false
@[simp] theorem win_length (l:List Int) (p c:Nat):(win l p c).length=c:=by simp[win]
@[simp] theorem Gp (l:List Int) (n:Nat):(Bs l n).length=n:=by simp[Bs]
@[simp] theorem dQ (v c:Nat):(low v c).length=c:=by simp[low]
theorem rz (l:List Int) (p c i:Nat) (h:i<c):(win l p c)[i]'(by simpa using h)=bit l (p+i):=by simp[win]
theorem uZ (l:List Int) (n i:Nat) (h:i<n):(Bs l n)[i]'(by simpa using h)=bit l i:=by simp[Bs,win]
theorem oz (v c i:Nat) (h:i<c):(low v c)[i]'(by simpa using h)=v.testBit (c-1-i):=by simp[low]
theorem xQ.at {l:List Int} (h:xQ l) (i:Nat):0≤l.getD i 0∧l.getD i 0<256:=by
 rw[List.getD_eq_getElem?_getD]
 by_cases hi:i<l.length
 ·rw[List.getElem?_eq_getElem hi]
  exact h _ (List.getElem_mem hi)
 ·rw[List.getElem?_eq_none (by omega)]
  decide
theorem wP {a b:Nat} (ha:a<256) (hb:b<256) (h:∀ j,j<8→a.testBit j=b.testBit j):a=b:=by
 apply Nat.eq_of_testBit_eq
 intro j
 by_cases hj:j<8
 ·exact h j hj
 ·rw[Nat.testBit_lt_two_pow (Nat.lt_of_lt_of_le ha (Nat.pow_le_pow_right (n:=2) (by decide) (show 8≤j by omega))),Nat.testBit_lt_two_pow (Nat.lt_of_lt_of_le hb (Nat.pow_le_pow_right (n:=2) (by decide) (show 8≤j by omega)))]
theorem Js {l m:List Int} (hl:xQ l) (hm:xQ m) (hn:l.length=m.length) (h:∀ i,i<8*l.length→bit l i=bit m i):l=m:=by
 apply List.ext_getElem hn
 intro k h1 h2
 have a:=hl.at k
 have b:=hm.at k
 rw[List.getD_eq_getElem?_getD,List.getElem?_eq_getElem h1,Option.getD_some] at a
 rw[List.getD_eq_getElem?_getD,List.getElem?_eq_getElem h2,Option.getD_some] at b
 have e:l[k].toNat=m[k].toNat:=by
  apply wP (by omega) (by omega)
  intro j hj
  have:=h (8*k+(7-j)) (by omega)
  unfold bit at this
  rw[show (8*k+(7-j)) / 8=k by omega,show 7-(8*k+(7-j)) % 8=j by omega] at this
  simpa [List.getD_eq_getElem?_getD,h1,h2] using this
 omega
theorem kG.ext {l m:List Int} {n:Nat} (hl:kG l n) (hm:kG m n) (h:Bs l n=Bs m n):l=m:=by
 have hn:l.length=m.length:=by have:=hl.le;have:=hl.near;have:=hm.le;have:=hm.near;omega
 apply Js hl.bytes hm.bytes hn
 intro i hi
 by_cases h1:i<n
 ·have e:(Bs l n)[i]'(by simpa using h1)=(Bs m n)[i]'(by simpa using h1):=by simp only[h]
  rw[uZ _ _ _ h1,uZ _ _ _ h1] at e
  exact e
 ·rw[hl.tail i (by omega) hi,hm.tail i (by omega) (by omega)]
def iq (l:List Int) (n:Nat):List Int:=if n % 8=0 then l++[0] else l
def mR (l:List Int) (k:Nat) (x:Nat):List Int:=l.set k (((l.getD k 0).toNat ||| x:Nat):Int)
theorem l7 {l:List Int} {n:Nat} (h:kG l n):(iq l n).length=n / 8+1:=by
 have:=h.le
 have:=h.near
 unfold iq
 split
 ·simp;omega
 ·omega
theorem Jq {l:List Int} {n:Nat} (h:kG l n) (i:Nat) (hi:i<8*(n / 8+1)):bit (iq l n) i=if i<n then bit l i else false:=by
 have h1:=h.le
 have h2:=h.near
 unfold iq
 by_cases h0:n % 8=0
 ·rw[if_pos h0]
  by_cases hin:i<n
  ·rw[if_pos hin]
   unfold bit
   rw[List.getD_eq_getElem?_getD,List.getD_eq_getElem?_getD,List.getElem?_append_left (by omega)]
  ·rw[if_neg hin]
   unfold bit
   rw[List.getD_eq_getElem?_getD,List.getElem?_append_right (by omega),show i / 8-l.length=0 by omega]
   simp
 ·rw[if_neg h0]
  by_cases hin:i<n
  ·rw[if_pos hin]
  ·rw[if_neg hin]
   exact h.tail i (by omega) (by omega)
theorem Jr (l:List Int) (k x i:Nat) (hk:k<l.length):bit (mR l k x) i=(bit l i||(decide (i / 8=k)&&x.testBit (7-i % 8))):=by
 unfold bit mR
 by_cases h:i / 8=k
 ·subst h
  rw[List.getD_eq_getElem?_getD,List.getElem?_set_self hk]
  simp[Nat.testBit_or]
 ·rw[List.getD_eq_getElem?_getD,List.getElem?_set_ne (by omega)]
  simp[h]
theorem Dh {l:List Int} {n T X:Nat} (h:kG l n) (hT:0<T) (hT8:T≤8-n % 8) (hX:X<2 ^ T) :
 kG (mR (iq l n) (n / 8) (X*2 ^ (8-n % 8-T))) (n+T)∧Bs (mR (iq l n) (n / 8) (X*2 ^ (8-n % 8-T))) (n+T)=Bs l n++low X T:=by
 have hlen:=l7 h
 have hle:=h.le
 have hnr:=h.near
 have hol:(mR (iq l n) (n / 8) (X*2 ^ (8-n % 8-T))).length=n / 8+1:=by unfold mR;simpa using hlen
 have hXs:X*2 ^ (8-n % 8-T)<256:=by
  calc X*2 ^ (8-n % 8-T)<2 ^ T*2 ^ (8-n % 8-T):=Nat.mul_lt_mul_of_pos_right hX (Nat.two_pow_pos _)
   _=2 ^ (T+(8-n % 8-T)):=(Nat.pow_add _ _ _).symm
   _≤2 ^ 8:=Nat.pow_le_pow_right (by decide) (by omega)
   _=256:=by decide
 have hzok:xQ (iq l n):=by
  unfold iq
  split
  ·intro x hx
   rcases List.mem_append.1 hx with hx | hx
   ·exact h.bytes x hx
   ·simp at hx;subst hx;decide
  ·exact h.bytes
 have hbit:∀ i,i<8*(n / 8+1)→bit (mR (iq l n) (n / 8) (X*2 ^ (8-n % 8-T))) i=if i<n then bit l i else if i<n+T then X.testBit (T-1-(i-n)) else false:=by
  intro i hi
  rw[Jr _ _ _ _ (by omega),Jq h i hi]
  by_cases hin:i<n
  ·rw[if_pos hin,if_pos hin]
   by_cases h8:i / 8=n / 8
   ·rw[Nat.mul_comm,Nat.testBit_two_pow_mul]
    have:decide (8-n % 8-T≤7-i % 8)=true:=decide_eq_true (by omega)
    rw[Nat.testBit_lt_two_pow (i:=7-i % 8-(8-n % 8-T)) (Nat.lt_of_lt_of_le hX (Nat.pow_le_pow_right (by decide) (by omega)))]
    simp
   ·simp[h8]
  ·rw[if_neg hin,if_neg hin]
   have h8:i / 8=n / 8:=by omega
   rw[Nat.mul_comm,Nat.testBit_two_pow_mul]
   by_cases hit:i<n+T
   ·rw[if_pos hit,show 7-i % 8-(8-n % 8-T)=T-1-(i-n) by omega]
    rw[show decide (7-i % 8≥8-n % 8-T)=true from decide_eq_true (by omega)]
    simp[h8]
   ·rw[if_neg hit]
    rw[show decide (7-i % 8≥8-n % 8-T)=false from decide_eq_false (by omega)]
    simp
 refine⟨⟨?_,by omega,by omega,?_⟩,?_⟩
 ·intro x hx
  unfold mR at hx
  rcases List.mem_or_eq_of_mem_set hx with hx | hx
  ·exact hzok x hx
  ·subst hx
   have:=hzok.at (n / 8)
   have:((iq l n).getD (n / 8) 0).toNat ||| X*2 ^ (8-n % 8-T)<2 ^ 8:=Nat.or_lt_two_pow (by omega) (by omega)
   omega
 ·intro i h1 h2
  rw[hol] at h2
  rw[hbit i h2,if_neg (by omega),if_neg (by omega)]
 ·apply List.ext_getElem (by simp)
  intro i h1 h2
  have hi:i<n+T:=by simpa using h1
  rw[uZ _ _ _ hi,hbit i (by omega)]
  by_cases hin:i<n
  ·rw[if_pos hin,List.getElem_append_left (by simpa using hin),uZ _ _ _ hin]
  ·rw[if_neg hin,if_pos hi,List.getElem_append_right (by simpa using hin)]
   simp only[Gp]
   rw[oz _ _ _ (by omega)]
theorem oC (v c T:Nat) (h:T≤c):low v c=low (v / 2 ^ (c-T) % 2 ^ T) T++low v (c-T):=by
 apply List.ext_getElem (by simp;omega)
 intro i h1 h2
 have hi:i<c:=by simpa using h1
 rw[oz _ _ _ hi]
 by_cases hiT:i<T
 ·rw[List.getElem_append_left (by simpa using hiT),oz _ _ _ hiT,Nat.testBit_mod_two_pow,Nat.testBit_div_two_pow]
  rw[show decide (T-1-i<T)=true from decide_eq_true (by omega),Bool.true_and]
  congr 1
  omega
 ·rw[List.getElem_append_right (by simpa using hiT)]
  simp only[dQ]
  rw[oz _ _ _ (by omega)]
  congr 1
  omega
theorem p8 (a b:List Bool):num (a++b)=num a*2 ^ b.length+num b:=by
 have key:∀ (b:List Bool) (x:Nat),b.foldl (fun a b=>2*a+b.toNat) x=x*2 ^ b.length+b.foldl (fun a b=>2*a+b.toNat) 0:=by
  intro b
  induction b with
  | nil=>intro x;simp
  | cons y b ih=>
    intro x
    simp only[List.foldl_cons,List.length_cons]
    rw[ih (2*x+y.toNat),ih (2*0+y.toNat)]
    rw[Nat.pow_succ,Nat.add_mul,Nat.add_mul]
    have:2*x*2 ^ b.length=x*(2 ^ b.length*2):=by rw[Nat.mul_comm 2 x,Nat.mul_assoc,Nat.mul_comm 2]
    omega
 unfold num
 rw[List.foldl_append,key]
theorem Ka (b:Bool) (a:List Bool):num (b::a)=b.toNat*2 ^ a.length+num a:=by
 have:=p8 [b] a
 rw[show num [b]=b.toNat by cases b<;>rfl] at this
 exact this
theorem Af (a:List Bool):num a<2 ^ a.length:=by
 induction a with
 | nil=>decide
 | cons b a ih=>
   rw[Ka,List.length_cons,Nat.pow_succ]
   cases b<;>simp<;>omega
theorem uV (v c:Nat):low (v % 2 ^ c) c=low v c:=by
 unfold low
 apply List.map_congr_left
 intro i hi
 have:=List.mem_range.1 hi
 rw[Nat.testBit_mod_two_pow,show decide (c-1-i<c)=true from decide_eq_true (by omega),Bool.true_and]
theorem oH (v c:Nat):num (low v c)=v % 2 ^ c:=by
 induction c with
 | zero=>simp[low,num,Nat.mod_one]
 | succ c ih=>
   rw[oC v (c+1) 1 (by omega),p8]
   simp only[dQ,Nat.add_sub_cancel]
   rw[ih]
   have:num (low (v / 2 ^ c % 2 ^ 1) 1)=v / 2 ^ c % 2:=by
    have h2:v / 2 ^ c % 2=0∨v / 2 ^ c % 2=1:=by omega
    rw[Nat.pow_one]
    rcases h2 with h2 | h2<;>rw[h2]<;>decide
   rw[this,Nat.pow_succ,Nat.mod_mul]
   rw[Nat.mul_comm,Nat.add_comm]
theorem zk (l:List Int) (p c T:Nat) (h:T≤c):win l p c=win l p T++win l (p+T) (c-T):=by
 apply List.ext_getElem (by simp;omega)
 intro i h1 h2
 have hi:i<c:=by simpa using h1
 rw[rz _ _ _ _ hi]
 by_cases hiT:i<T
 ·rw[List.getElem_append_left (by simpa using hiT),rz _ _ _ _ hiT]
 ·rw[List.getElem_append_right (by simpa using hiT)]
  simp only[win_length]
  rw[rz _ _ _ _ (by omega)]
  congr 1
  omega
theorem Lb (l:List Int) (n p c:Nat) (h:p+c≤n):win l p c=((Bs l n).take (p+c)).drop p:=by
 apply List.ext_getElem (by simp;omega)
 intro i h1 h2
 have hi:i<c:=by simpa using h1
 rw[rz _ _ _ _ hi,List.getElem_drop,List.getElem_take,uZ _ _ _ (by omega)]
theorem Iq (l:List Int) (p T:Nat) (hb:(l.getD (p / 8) 0).toNat<256) (hT:T≤8-p % 8):num (win l p T)=(l.getD (p / 8) 0).toNat / 2 ^ (8-p % 8-T) % 2 ^ T:=by
 rw[show win l p T=low ((l.getD (p / 8) 0).toNat / 2 ^ (8-p % 8-T)) T from ?_,oH]
 apply List.ext_getElem (by simp)
 intro i h1 h2
 have hi:i<T:=by simpa using h1
 rw[rz _ _ _ _ hi,oz _ _ _ hi,Nat.testBit_div_two_pow]
 unfold bit
 rw[show (p+i) / 8=p / 8 by omega]
 congr 1
 omega
end Go.Proofs.YtcgbgifbajdhpaaGreatDoor.G
namespace Go.Proofs.YtcgbgifbajdhpaaGreatDoor.G
open Go.RowKit Go.Proofs.YtcgbgifbajdhpaaGreatDoorW.au Go.Proofs.YtcgbgifbajdhpaaGreatDoorW.aI Go.Proofs.YtcgbgifbajdhpaaGreatDoorW.aJ
def bytes_Equal.f (l0 l1:List Int):Option Bool:=if okB l0=true∧okB l1=true then some (decide (l0=l1)) else none
def dx.f (l:List Int):Option (List Int):=if l.length≤140737488355328 then some l else none
theorem yh {a b:List Int} (ha:okB a=true) (hb:okB b=true):((strOfNums a).toList==(strOfNums b).toList)=decide (a=b):=by
 have key:∀ l:List Int,okB l=true→(strOfNums l).toList.map (fun x=>(x.toNat:Int))=l:=by
  intro l hl
  have hl:=dK.1 hl
  rw[show (strOfNums l).toList=l.map fun n=>UInt8.ofNat n.toNat from (ByteArray.toList_eq _).trans (strOfNums_data l),List.map_map]
  refine (List.map_congr_left fun x hx=>?_).trans (List.map_id l)
  have:=hl x hx
  simp only[Function.comp_apply,UInt8.toNat_ofNat',id]
  omega
 by_cases h:a=b
 ·subst h;simp
 ·rw[decide_eq_false h,beq_eq_false_iff_ne]
  intro he
  exact h (by rw[← key a ha,← key b hb,he])
theorem bytes_Equal.calls (A0:Option Addr) (c0:Nat) (l0:List Int) (A1:Option Addr) (c1:Nat) (l1:List Int) (r:Bool) (w:World) (hr0:Kd.C (Kd.int .u8) w A0 l0.length l0) (hc0:l0.length≤c0) (hr1:Kd.C (Kd.int .u8) w A1 l1.length l1) (hc1:l1.length≤c1) (h:bytes_Equal.f l0 l1=some r) :
 Calls Tryz.prog 38 #[.slice A0 l0.length c0,.slice A1 l1.length c1] w fun e w'=>e = .returned (.bool r)∧aN w w':=by
 unfold bytes_Equal.f at h
 split at h
 case isFalse=>cases h
 case isTrue hok=>
 obtain rfl:=Option.some.inj h
 clear h
 rw[← yh hok.1 hok.2]
 have hcv3:=Kd.qp (P:=Tryz.prog) (A:=A0) (c:=c0) Tryz.underlying24 Tryz.underlying5 Tryz.underlying9 hr0
 have hcv4:=Kd.qp (P:=Tryz.prog) (A:=A1) (c:=c1) Tryz.underlying24 Tryz.underlying5 Tryz.underlying9 hr1
 clear hr0 hc0 hr1 hc1 hok
 go_enter Tryz.func38,Tryz.ntmps38
 go_wp2
 go_ret
 exact⟨rfl,aN.refl _⟩
theorem dx.calls (A0:Option Addr) (c0:Nat) (l0:List Int) (r:List Int) (w:World) (hr0:Kd.C (Kd.int .u8) w A0 l0.length l0) (hc0:l0.length≤c0) (h:dx.f l0=some r) :
 Calls Tryz.prog 142 #[.slice A0 l0.length c0] w fun e w'=>∃ v0_:Value,e = .returned (v0_)∧Kd.R (Kd.int .u8) 5 w' w.heap.size (fun _=>True) v0_ r∧Below w.heap.size w w':=by
 unfold dx.f at h
 split at h
 case isFalse=>cases h
 case isTrue hlen=>
 obtain rfl:=Option.some.inj h
 clear h
 have HR:=ah.mk hr0
 have HL:=ah.mk hlen
 have hnil:=fun W n c=>Lib.run_eql_slice_nil (P:=Tryz.prog) W 24 5 A0 n c 0 0 Tryz.underlying24
 clear hr0 hc0 hlen
 cases A0 with
 | none=>
   have h0:l0=[]:=by
    rcases Nat.eq_zero_or_pos l0.length with h0 | h0
    ·exact List.eq_nil_of_length_eq_zero h0
    ·obtain⟨ad,e,_⟩:=HR.o.2.2 h0
     cases e
   subst h0
   go_enter Tryz.func142,Tryz.ntmps142
   go_wp2
   go_ret
   exact⟨_,rfl,Kd.fP _ _ _ _ _,Below.refl _ _⟩
 | some ad=>
   go_enter Tryz.func142,Tryz.ntmps142
   have hE:=ah.mk (og (Kd.int .u8) 5 w.heap.size w (fun _=>True) (Nat.le_refl _) trivial)
   go_wp2_with ((with_reducible refine bM (N:=7) rfl ?_);refine Kd.j5 (Value.int .u8) 0 (h1:=fun _=>rfl) w.heap.size rfl (.tmp 5) (.tmp 6) 24 5 (.int .u8 0) 1 rfl Tryz.underlying24 gU rfl (by decide) _ [] l0 (some ad) l0.length c0 (fun _=>True) rfl rfl (fun _ _=>trivial) hE.o (Kd.aH HR.o (aj (Below.refl _ _) _)) (aj (Below.refl _ _) _) ?hb ?hl ?_;(case hb=>simp);(case hl=>(have:=HL.o;simp;omega));intro v1 w1 hR1 hB1 hg_ ho_;rw[List.nil_append] at hR1;have HR1:=ah.mk hR1;have HB1:=ah.mk hB1;clear hR1 hB1 hg_ ho_)
   go_ret
   exact⟨_,rfl,HR1.o,HB1.o⟩
end Go.Proofs.YtcgbgifbajdhpaaGreatDoor.G
namespace Go.Proofs.YtcgbgifbajdhpaaGreatDoor.PA
open Go.RowKit Go.Proofs.YtcgbgifbajdhpaaGreatDoor.G Go.Proofs.YtcgbgifbajdhpaaGreatDoorW.au Go.Proofs.YtcgbgifbajdhpaaGreatDoorW.aI Go.Proofs.YtcgbgifbajdhpaaGreatDoorW.aJ
attribute [local go_sem] eG eH gq gu
abbrev dx.f:=G.dx.f
theorem dx.calls (A0:Option Addr) (c0:Nat) (l0:List Int) (r:List Int) (w:World) (hr0:Kd.C (Kd.int .u8) w A0 l0.length l0) (hc0:l0.length≤c0) (h:dx.f l0=some r) :
 Calls Tryz.prog 142 #[.slice A0 l0.length c0] w fun e w'=>∃ v0_:Value,e = .returned (v0_)∧Kd.R (Kd.int .u8) 5 w' w.heap.size (fun _=>True) v0_ r∧Below w.heap.size w w':=G.dx.calls A0 c0 l0 r w hr0 hc0 h
def vw (g:Nat) (w w':World):Prop:=∀ (q:Nat) (cs:Array Value) (t:Nat),q≠g→5≠t→w.heap[q]? = some (.cells cs t (0,0))→w'.heap[q]? = some (.cells cs t (0,0))
def zy (N c:Int):Int:=if c<8-N % 8 then c else 8-N % 8
def Jg (N v c:Int):Int:=Go.bits .and .u64 (shr .u64 v (c-zy N c)) (IntKind.u64.wrap ((shl .u64 1 (zy N c))-1)) % 256
def l6 (l:List Int) (N:Int):List Int:=if N % 8=0 then l++[0] else l
def Jf (N v c:Int) (b:Int):Int:=Go.bits .or .u8 b (shl .u8 (Jg N v c) (8-N % 8-zy N c))
def LD (l:List Int) (N v c:Int):List Int:=(l6 l N).set ((l6 l N).length-1) (Jf N v c ((l6 l N).getD ((l6 l N).length-1) 0))
def dJ.l0:Nat→List Int→Int→Int→Int→Option (List Int × Int)
 | 0,_,_,_,_=>none
 | k+1,l,N,v,c=>if c≤0 then some (l,N) else if 0≤N∧N≤8*l.length∧8*l.length-N<8∧l.length<1000000000∧c≤1000 then dJ.l0 k (LD l N v c) (N+zy N c) v (c-zy N c) else none
def dJ.f (l:List Int) (N v c:Int):Option (List Int × Int):=dJ.l0 70 l N v c
theorem dJ.calls (B g:Nat) (w0:World) (v0:Value) (l0:List Int) (a0:Int) (a1:Int) (a2:Int) (r1:List Int) (r2:Int) (w:World) (ho:Kd.R (Kd.int .u8) 5 w B (fun _=>True) v0 l0) (hg:w.heap[g]? = some (.cells #[v0,.int .i64 a0] 149 (0,0))) (hgB:B≤g) (hB:Below B w0 w) (h:dJ.f l0 a0 a1 a2=some (r1,r2)) :
 Calls Tryz.prog 143 #[.pointer (some ⟨g,0,none⟩),.int .u64 a1,.int .i64 a2] w fun e w'=>∃ v':Value,e = .returned (.tuple #[])∧w'.heap[g]? = some (.cells #[v',.int .i64 r2] 149 (0,0))∧Kd.R (Kd.int .u8) 5 w' B (fun _=>True) v' r1∧Below B w0 w'∧vw g w w':=by
 have HO:=ah.mk ho
 have BK:=ah.mk hg
 have HB:=ah.mk hB
 have HGB:=ah.mk hgB
 have HKT:ah (vw g w w):=⟨fun _ _ _ _ _ h=>h⟩
 have H':ah (dJ.l0 70 l0 a0 a1 a2=some (r1,r2)):=⟨h⟩
 clear ho hg hB hgB h
 go_enter Tryz.func143,Tryz.ntmps143
 go_wp2_with (fail)
 go_loopg [2] 70 (fun kq v2 w'=>∃ (l:List Int) (N c:Int) (u:Value),v2 = .int .i64 c∧ah (dJ.l0 kq l N a1 c=some (r1,r2))∧ah (kq≤70)∧ah (Kd.R (Kd.int .u8) 5 w' B (fun _=>True) u l)∧ah (w'.heap[g]? = some (.cells #[u,.int .i64 N] 149 (0,0)))∧ah (Below B w0 w')∧ah (vw g w w'))
 case atStart=>exact⟨l0,a0,a2,v0,rfl,H',⟨Nat.le_refl _⟩,HO,BK,HB,HKT⟩
 case round=>
  clear H' HO BK HB HKT
  obtain⟨l,N,c,u,rfl,HA,HK,HO,BK,HB,HKT⟩:=hrel
  cases gk with
  | zero=>exact absurd HA.o (by simp[dJ.l0])
  | succ k1=>
    have H:=HA.o
    clear HA
    simp only[dJ.l0] at H
    by_cases hc:c≤0
    ·rw[if_pos hc] at H
     obtain⟨rfl,rfl⟩:=Prod.mk.inj (Option.some.inj H)
     have hd:decide (0<c)=false:=decide_eq_false (by omega)
     clear H hc
     go_wp2_with (fail)
     refine bodyPost_end (results_none rfl _ _ _) rfl ?_
     exact⟨u,rfl,BK.o,HO.o,HB.o,HKT.o⟩
    ·rw[if_neg hc] at H
     split at H
     case isFalse=>cases H
     case isTrue hg=>
     have HA:=ah.mk H
     clear H
     obtain⟨hN0,hN8,hN7,hl9,hc9⟩:=hg
     have hd:decide (0<c)=true:=decide_eq_true (by omega)
     have hm:Int.tmod N 8=N % 8:=Int.tmod_eq_emod_of_nonneg hN0
     obtain⟨m,hm'⟩:∃ m,N % 8=m:=⟨_,rfl⟩
     rw[hm'] at hm
     have HM:=ah.mk hm'
     have hz0:wr.cell? ⟨g,0,none⟩=some u:=av BK.o 0
     have hz1:wr.cell? ⟨g,1,none⟩=some (.int .i64 N):=av BK.o 1
     have hf0:=aC BK.o 0
     have hf1:=aC BK.o 1
     have HN:=ah.mk (And.intro hN0 (And.intro hN8 (And.intro hN7 (And.intro hl9 hc9))))
     clear hN0 hN8 hN7 hl9 hc9 hm'
     go_upto_if 16 with (fail)
     go_cut [] (fun wc=>∃ (v:Value),ah (Kd.R (Kd.int .u8) 5 wc B (fun _=>True) v (l6 l N))∧ah (wc.heap[g]? = some (.cells #[v,.int .i64 N] 149 (0,0)))∧ah (Below B w0 wc)∧ah (vw g w wc))
     case first=>
      by_cases h0:m=0
      ·have hb0:(m==0)=true:=beq_iff_eq.2 h0
       have HAL:ah (l6 l N=l++[0]):=⟨by unfold l6;rw[HM.o,if_pos h0]⟩
       clear h0
       go_wp2_with (first|((with_reducible refine gI (b := .append) (xs := #[.tmp 21,.tmp 22]) rfl ?_);at_builtin;refine Kd.lZ (Kd.int .u8) (w0:=w0) B rfl (.tmp 21) (.tmp 22) 24 5 (.int .u8 0) 1 rfl Tryz.underlying24 gU rfl (by decide) (by omega) u l 0 [.int .u8 0] (fun _=>True) (fun _=>False) rfl rfl ?aP (fun _ hk=>hk.elim) ?aF ?aO ?aB ?aS ?aL ?_;(case aP=>exact rfl);(case aB=>exact (by repeat (first|(with_reducible first | exact HB.o | apply aj | apply ay | apply aD)|exact HB.o)));(case aF=>exact (fun _ _=>trivial));(case aO=>exact (by (with_reducible repeat (first | apply Kd.j4 | apply Kd.nZ | apply Kd.nK));exact HO.o));(case aS=>exact (by have h_:=HGB.o;have h2_:=dO BK.o;simp;omega));(case aL=>have:=HN.o;omega);intro v4 w4 ho hb hg hat;have n0_:=ah.mk (dM (g:=g) (o := .cells #[u,.int .i64 N] 149 (0,0)) (by (with_reducible repeat (first | refine bC ?_ _ | refine bg ?_ | refine aU ?_ _));exact BK.o) hg (Kd.vE HO.o BK.o (by decide)));have n2_:=ah.mk (hb);have n3_:=ah.mk (ho);have n4_:ah (vw g w w4):=⟨fun q cs t hq ht hh=>have h_:=HKT.o q cs t hq ht hh;dM (by (with_reducible repeat (first | refine bC ?_ _ | refine bg ?_ | refine aU ?_ _));exact h_) hg (Kd.vE HO.o h_ ht)⟩;clear BK;clear HB;clear HO;clear HKT;have HKT:=n4_;clear n4_;have BK:=n0_;have HB:=n2_;have HO:=n3_;clear n0_ n2_ n3_;clear ho hb hg hat;have hz0:=av BK.o 0;have hz1:w4.cell? ⟨g,1,none⟩=some (.int .i64 N):=av BK.o 1;have hf0:=aC BK.o 0;have hf1:=aC BK.o 1;obtain⟨A4,c4,e4⟩:=Kd.bD HO.o;subst e4))
       go_meet
       case rel => 
        have HO1:=HO.o
        rw[show (l++[(0:Int)]).length=l.length+1 by simp] at HO1
        refine⟨.slice A4 (l.length+1) c4,⟨?_⟩,⟨?_⟩,⟨?_⟩,⟨?_⟩⟩
        ·rw[HAL.o]
         exact Kd.dL (Kd.gF (p:=⟨g,0,none⟩) (Kd.kW HO1 BK.o (by decide)) (fun _ hk=>hk.2) (.slice A4 (l.length+1) c4)) (fun _ _=>trivial)
        ·exact bK (cs := #[u,.int .i64 N]) BK.o 0 (.slice A4 (l.length+1) c4) rfl
        ·exact HB.o.setCell HGB.o _
        ·exact fun q cs t hq ht hh=>iy (p:=⟨g,0,none⟩) (HKT.o q cs t hq ht hh) hq _
      ·have hb0:(m==0)=false:=beq_eq_false_iff_ne.2 h0
       have HAL:ah (l6 l N=l):=⟨by unfold l6;rw[HM.o,if_neg h0]⟩
       clear h0
       go_wp2_with (fail)
       go_meet
       case rel=>exact⟨u,⟨by rw[HAL.o];exact HO.o⟩,BK,HB,HKT⟩
     case rest=>
      clear HO BK HB HKT hz0 hz1 hf0 hf1
      obtain⟨v,HO,BK,HB,HKT⟩:=hcut
      have hpos:0<(l6 l N).length:=by have:=HM.o;have:=HN.o;unfold l6;split<;>simp<;>omega
      have HS:ah (LD l N a1 c=(l6 l N).set ((l6 l N).length-1) (Jf N a1 c ((l6 l N).getD ((l6 l N).length-1) 0))):=⟨rfl⟩
      have HX:ah ((l6 l N).length≤1000000000):=⟨by have:=HN.o;unfold l6;split<;>simp<;>omega⟩
      generalize l6 l N=L at HO hpos HS HX
      obtain⟨go,co,eo,gb,gl,cl,HGr⟩:=Kd.zu HO.o hpos
      subst eo
      have hz0:wc.cell? ⟨g,0,none⟩=some (.slice (some ⟨go,0,none⟩) L.length co):=av BK.o 0
      have hz1:wc.cell? ⟨g,1,none⟩=some (.int .i64 N):=av BK.o 1
      have hf0:=aC BK.o 0
      have hf1:=aC BK.o 1
      obtain⟨F,hF⟩:∃ F,8-m=F:=⟨_,rfl⟩
      have hFw:IntKind.i64.wrap (8-m)=F:=by rw[dw,hF];have:=HM.o;exact jZ (by omega) (by omega)
      obtain⟨T,hT⟩:∃ T,(if c<F then c else F)=T:=⟨_,rfl⟩
      have HT:ah (zy N c=T∧0<T∧T≤F∧T≤c∧F≤8∧8-m=F):=⟨by have:=HM.o;unfold zy;rw[HM.o,hF];refine⟨hT,?_⟩;rw[← hT];split<;>omega⟩
      obtain⟨Z,hZ⟩:∃ Z,c-T=Z:=⟨_,rfl⟩
      obtain⟨G,hG⟩:∃ G,F-T=G:=⟨_,rfl⟩
      have hb:=HN.o
      have hb':=HT.o
      have hm8:=HM.o
      have hZw:IntKind.i64.wrap (c-T)=Z:=by rw[dw,hZ];exact jZ (by omega) (by omega)
      have hGw:IntKind.i64.wrap (F-T)=G:=by rw[dw,hG];exact jZ (by omega) (by omega)
      have hNw:IntKind.i64.wrap (N+T)=N+T:=by rw[dw];exact jZ (by omega) (by omega)
      have hLw:IntKind.i64.wrap ((L.length:Int)-1)=(L.length:Int)-1:=by have:=HX.o;rw[dw];exact jZ (by omega) (by omega)
      have hZ0:=eq_true (show 0≤Z by omega)
      have hT0:=eq_true (show 0≤T by omega)
      have hG0:=eq_true (show 0≤G by omega)
      obtain⟨S1,hS1⟩:∃ S,shr .u64 a1 Z=S:=⟨_,rfl⟩
      have hS1_:a1 / 2 ^ min Z.toNat 64=S1:=hS1
      have hS1z:=sP (k := .u64) hS1
      obtain⟨S2,hS2⟩:∃ S,shl .u64 1 T=S:=⟨_,rfl⟩
      have hS2u:IntKind.u64.wrap (2 ^ min T.toNat 64)=S2:=by have h_:IntKind.u64.wrap (1*2 ^ min T.toNat 64)=S2:=hS2;rw[Int.one_mul] at h_;exact h_
      have hS2v:T≤64→IntKind.u64.wrap (2 ^ T.toNat)=S2:=fun hle_=>by have h_:=jD (k := .u64) hS2 hle_;rw[Int.one_mul] at h_;exact h_
      obtain⟨Pp,hP⟩:∃ Pp,Go.bits .and .u64 S1 (IntKind.u64.wrap (S2-1)) % 256=Pp:=⟨_,rfl⟩
      have HP:ah (Jg N a1 c=Pp):=⟨by unfold Jg;rw[hb'.1,hZ,hS1,hS2,hP]⟩
      obtain⟨S3,hS3⟩:∃ S,shl .u8 Pp G=S:=⟨_,rfl⟩
      have hS3_:IntKind.u8.wrap (Pp*2 ^ min G.toNat 8)=S3:=hS3
      have hS3z:=jD (k := .u8) hS3
      have HBB:ah (∀ b,Jf N a1 c b=Go.bits .or .u8 b S3):=⟨fun b=>by unfold Jf;rw[HP.o,hb'.1,hm8,hb'.2.2.2.2.2,hG,hS3]⟩
      have HZG:ah (c-T=Z∧F-T=G):=⟨hZ,hG⟩
      clear hF hZ hG hS1 hS2 hS3 hb hb' hm8
      go_wp2_with (fail)
      go_quiet (fail)
      go_wp2_with (fail)
      have BK2:=ah.mk (bC BK.o nq)
      have HO2:=ah.mk (Kd.nZ HO.o nq)
      have HB2:=ah.mk (ay HB.o nq)
      have HKT2:ah (vw g w (wc.drewN nq)):=⟨fun q cs t hq ht hh=>bC (HKT.o q cs t hq ht hh) nq⟩
      clear HKT BK HO HB HGr hz0 hz1 hf0 hf1 gl
      generalize wc.drewN nq=W2 at BK2 HO2 HB2 HKT2 ⊢
      have hz0:W2.cell? ⟨g,0,none⟩=some (.slice (some ⟨go,0,none⟩) L.length co):=av BK2.o 0
      have hz1:W2.cell? ⟨g,1,none⟩=some (.int .i64 N):=av BK2.o 1
      have hf0:=aC BK2.o 0
      have hf1:=aC BK2.o 1
      obtain⟨I,hI⟩:∃ I:Int,(L.length:Int)-1=I:=⟨_,rfl⟩
      have hLw':IntKind.i64.wrap ((L.length:Int)-1)=I:=hLw.trans hI
      clear hLw
      have hI0:=eq_true (show 0≤I by omega)
      have hI1:=eq_true (show I<(L.length:Int) by omega)
      have HII:=ah.mk hI
      obtain⟨hx0,hxf⟩:=Kd.uK 0 HO2.o I (by omega) (by omega)
      have HQ:=ah.mk (Kd.NR HO2.o I (Go.bits .or .u8 (rd L I) S3))
      rw[show Au 0 L I=rd L I from rfl] at hx0
      clear hI
      go_region
      have hgo:g≠go:=fun e=>Kd.vE HO2.o BK2.o (by decide) (by rw[e];rfl)
      have HO3:=ah.mk (Kd.nK HQ.o)
      have BK3:=ah.mk (bg (iy (p:=⟨go,I.toNat,none⟩) BK2.o hgo (Value.int .u8 (Go.bits .or .u8 (rd L I) S3))))
      have HB3:=ah.mk (aD (HB2.o.setCell (p:=⟨go,I.toNat,none⟩) gb (Value.int .u8 (Go.bits .or .u8 (rd L I) S3))))
      have HKT3:ah (vw g w (W2.setCell ⟨go,I.toNat,none⟩ (Value.int .u8 (Go.bits .or .u8 (rd L I) S3))).drew):=⟨fun q cs t hq ht hh=>have h_:=HKT2.o q cs t hq ht hh;bg (iy (p:=⟨go,I.toNat,none⟩) h_ (fun e=>Kd.vE HO2.o h_ ht (by rw[e];rfl)) _)⟩
      clear hz0 hz1 hf0 hf1 hx0 hxf HQ HO2 BK2 HB2 HKT2
      generalize (W2.setCell ⟨go,I.toNat,none⟩ (Value.int .u8 (Go.bits .or .u8 (rd L I) S3))).drew=W3 at HO3 BK3 HB3 HKT3 ⊢
      have hz1:W3.cell? ⟨g,1,none⟩=some (.int .i64 N):=av BK3.o 1
      have hf1:=aC BK3.o 1
      go_wp2_with (fail)
      go_roundg k1
      case measure=>have:=HK.o;omega
      case rel=>
       have ht:=HT.o.1
       refine⟨L.set I.toNat (Go.bits .or .u8 (rd L I) S3),N+T,c-T,.slice (some ⟨go,0,none⟩) L.length co,by rw[HZG.o.1],⟨?_⟩,⟨by have:=HK.o;omega⟩,⟨?_⟩,⟨?_⟩,⟨?_⟩,⟨?_⟩⟩
       ·have h_:=HA.o
        rw[ht,HS.o,HBB.o] at h_
        have e1:I.toNat=L.length-1:=by have:=HII.o;omega
        rw[show rd L I=L.getD (L.length-1) 0 by unfold rd;rw[e1],e1]
        exact h_
       ·exact Kd.dL (Kd.gF (p:=⟨g,1,none⟩) (Kd.kW HO3.o BK3.o (by decide)) (fun _ hk=>hk.2) (.int .i64 (N+T))) (fun _ _=>trivial)
       ·exact bK (cs := #[.slice (some ⟨go,0,none⟩) L.length co,.int .i64 N]) BK3.o 1 (.int .i64 (N+T)) rfl
       ·exact HB3.o.setCell HGB.o _
       ·exact fun q cs t hq ht hh=>iy (p:=⟨g,1,none⟩) (HKT3.o q cs t hq ht hh) hq _
end Go.Proofs.YtcgbgifbajdhpaaGreatDoor.PA
namespace Go.Proofs.YtcgbgifbajdhpaaGreatDoor.PA
open Go.RowKit Go.Proofs.YtcgbgifbajdhpaaGreatDoorW.au Go.Proofs.YtcgbgifbajdhpaaGreatDoorW.aI Go.Proofs.YtcgbgifbajdhpaaGreatDoorW.aJ
attribute [local go_sem] eG eH gq gu eT eU fU fV   -- for this text's walks alone
def bZ.f (l0_0:List Int) (a0_1:Int):Option (Bool):=if a0_1<0 then (some false) else (if a0_1>(wrap64 (8*(l0_0.length:Int))) then (some false) else (if (wrap64 ((wrap64 (8*(l0_0.length:Int)))-a0_1))>7 then (some false) else (if (wrap64 ((wrap64 (8*(l0_0.length:Int)))-a0_1))=0 then (some true) else (if 0≤(wrap64 ((l0_0.length:Int)-1)) then (if (wrap64 ((l0_0.length:Int)-1))<(l0_0.length:Int) then (if 0≤(wrap64 ((wrap64 (8*(l0_0.length:Int)))-a0_1)) then (some ((Go.bits .and .u8 (rd l0_0 (wrap64 ((l0_0.length:Int)-1))) (((shl .u8 1 (wrap64 ((wrap64 (8*(l0_0.length:Int)))-a0_1)))-1) % 256))==0)) else (none)) else (none)) else (none)))))
theorem bZ.calls (A0_0:Option Addr) (c0_0:Nat) (l0_0:List Int) (a0_1:Int) (r:Bool) (w:World) (hr0_0:Kd.C (Kd.int .u8) w A0_0 l0_0.length l0_0) (hc0_0:l0_0.length≤c0_0) (h:bZ.f l0_0 a0_1=some r) :
 Calls Tryz.prog 141 #[.agg #[.slice A0_0 l0_0.length c0_0,.int .i64 a0_1]] w fun e w'=>e = .returned (.bool r)∧Below w.heap.size w w':=by
 have hu149:=Tryz.underlying149
 have HR0_0:=ah.mk hr0_0
 have HC0_0:=ah.mk hc0_0
 clear hr0_0 hc0_0
 have HB:=ah.mk (Below.refl w.heap.size w)
 have H:(if a0_1<0 then (some false) else (if a0_1>(wrap64 (8*(l0_0.length:Int))) then (some false) else (if (wrap64 ((wrap64 (8*(l0_0.length:Int)))-a0_1))>7 then (some false) else (if (wrap64 ((wrap64 (8*(l0_0.length:Int)))-a0_1))=0 then (some true) else (if 0≤(wrap64 ((l0_0.length:Int)-1)) then (if (wrap64 ((l0_0.length:Int)-1))<(l0_0.length:Int) then (if 0≤(wrap64 ((wrap64 (8*(l0_0.length:Int)))-a0_1)) then (some ((Go.bits .and .u8 (rd l0_0 (wrap64 ((l0_0.length:Int)-1))) (((shl .u8 1 (wrap64 ((wrap64 (8*(l0_0.length:Int)))-a0_1)))-1) % 256))==0)) else (none)) else (none)) else (none))))))=some r:=h
 clear h
 by_cases c2:a0_1<0
 ·rw[if_pos c2] at H
  have c2b0:decide (a0_1<0)=true:=decide_eq_true c2
  clear c2
  obtain rfl:=Option.some.inj H
  go_enter Tryz.func141,Tryz.ntmps141
  go_wp2_with (first|((with_reducible refine bM (N:=1) rfl ?_);(try (refine dI (by rfl) ?_;dsimp only));refine cZ ?hg (N:=1) ?hd (cs := #[.slice A0_0 l0_0.length c0_0,.int .i64 a0_1]) (t:=149) ?hr ?_;(case hd=>rfl);(case hg=>rfl);(case hr=>first|(go_simp;done)|(go_simp;rfl));intro gb132 hg w3 hbox hb;have n0_:=ah.mk (ak (by repeat (first|(with_reducible first | exact HB.o | apply aj | apply ay | apply aD)|exact HB.o)) hb);have n1_:=ah.mk (hbox);have n2_:=ah.mk ((by rw[hg];exact (aZ (by repeat (first|(with_reducible first | exact HB.o | apply aj | apply ay | apply aD)|exact HB.o))):w.heap.size≤gb132));have n3_:=ah.mk ((by rw[hg];exact (aZ (by repeat (first|(with_reducible first | exact HB.o | apply aj | apply ay | apply aD)|exact HB.o))):w.heap.size≤gb132));clear HB;have HB:=n0_;have BK132:=n1_;have GW132:=n2_;have GE132:=n3_;clear n0_ n1_ n2_ n3_;clear hb hbox hg;have hcz4_0:w3.cell? ⟨gb132,0,none⟩=some (.slice A0_0 l0_0.length c0_0):=(av BK132.o 0).trans rfl;have hcz4_1:w3.cell? ⟨gb132,1,none⟩=some (.int .i64 a0_1):=(av BK132.o 1).trans rfl;have hfz4_0:=aC BK132.o 0;have hfz4_1:=aC BK132.o 1))
  repeat (go_quiet (first|((with_reducible refine bM (N:=1) rfl ?_);(try (refine dI (by rfl) ?_;dsimp only));refine cZ ?hg (N:=1) ?hd (cs := #[.slice A0_0 l0_0.length c0_0,.int .i64 a0_1]) (t:=149) ?hr ?_;(case hd=>rfl);(case hg=>rfl);(case hr=>first|(go_simp;done)|(go_simp;rfl));intro gb132 hg w3 hbox hb;have n0_:=ah.mk (ak (by repeat (first|(with_reducible first | exact HB.o | apply aj | apply ay | apply aD)|exact HB.o)) hb);have n1_:=ah.mk (hbox);have n2_:=ah.mk ((by rw[hg];exact (aZ (by repeat (first|(with_reducible first | exact HB.o | apply aj | apply ay | apply aD)|exact HB.o))):w.heap.size≤gb132));have n3_:=ah.mk ((by rw[hg];exact (aZ (by repeat (first|(with_reducible first | exact HB.o | apply aj | apply ay | apply aD)|exact HB.o))):w.heap.size≤gb132));clear HB;have HB:=n0_;have BK132:=n1_;have GW132:=n2_;have GE132:=n3_;clear n0_ n1_ n2_ n3_;clear hb hbox hg;have hcz4_0:w3.cell? ⟨gb132,0,none⟩=some (.slice A0_0 l0_0.length c0_0):=(av BK132.o 0).trans rfl;have hcz4_1:w3.cell? ⟨gb132,1,none⟩=some (.int .i64 a0_1):=(av BK132.o 1).trans rfl;have hfz4_0:=aC BK132.o 0;have hfz4_1:=aC BK132.o 1));try go_wp2_with (first|((with_reducible refine bM (N:=1) rfl ?_);(try (refine dI (by rfl) ?_;dsimp only));refine cZ ?hg (N:=1) ?hd (cs := #[.slice A0_0 l0_0.length c0_0,.int .i64 a0_1]) (t:=149) ?hr ?_;(case hd=>rfl);(case hg=>rfl);(case hr=>first|(go_simp;done)|(go_simp;rfl));intro gb132 hg w3 hbox hb;have n0_:=ah.mk (ak (by repeat (first|(with_reducible first | exact HB.o | apply aj | apply ay | apply aD)|exact HB.o)) hb);have n1_:=ah.mk (hbox);have n2_:=ah.mk ((by rw[hg];exact (aZ (by repeat (first|(with_reducible first | exact HB.o | apply aj | apply ay | apply aD)|exact HB.o))):w.heap.size≤gb132));have n3_:=ah.mk ((by rw[hg];exact (aZ (by repeat (first|(with_reducible first | exact HB.o | apply aj | apply ay | apply aD)|exact HB.o))):w.heap.size≤gb132));clear HB;have HB:=n0_;have BK132:=n1_;have GW132:=n2_;have GE132:=n3_;clear n0_ n1_ n2_ n3_;clear hb hbox hg;have hcz4_0:w3.cell? ⟨gb132,0,none⟩=some (.slice A0_0 l0_0.length c0_0):=(av BK132.o 0).trans rfl;have hcz4_1:w3.cell? ⟨gb132,1,none⟩=some (.int .i64 a0_1):=(av BK132.o 1).trans rfl;have hfz4_0:=aC BK132.o 0;have hfz4_1:=aC BK132.o 1)))
  go_ret
  exact⟨by first | rfl | (simp[bF,bG]<;>rfl)|(simp[*,bF,bG]<;>rfl),by repeat (first|(with_reducible first | exact HB.o | apply aj | apply ay | apply aD | refine bf ?_ GE132.o)|exact HB.o)⟩
 ·rw[if_neg c2] at H
  have c2b0:decide (a0_1<0)=false:=decide_eq_false c2
  clear c2
  by_cases c5:a0_1>(wrap64 (8*(l0_0.length:Int)))
  ·rw[if_pos c5] at H
   have c5b0:decide ((wrap64 (8*(l0_0.length:Int)))<a0_1)=true:=decide_eq_true c5
   clear c5
   obtain rfl:=Option.some.inj H
   go_enter Tryz.func141,Tryz.ntmps141
   go_wp2_with (first|((with_reducible refine bM (N:=1) rfl ?_);(try (refine dI (by rfl) ?_;dsimp only));refine cZ ?hg (N:=1) ?hd (cs := #[.slice A0_0 l0_0.length c0_0,.int .i64 a0_1]) (t:=149) ?hr ?_;(case hd=>rfl);(case hg=>rfl);(case hr=>first|(go_simp;done)|(go_simp;rfl));intro gb132 hg w6 hbox hb;have n0_:=ah.mk (ak (by repeat (first|(with_reducible first | exact HB.o | apply aj | apply ay | apply aD)|exact HB.o)) hb);have n1_:=ah.mk (hbox);have n2_:=ah.mk ((by rw[hg];exact (aZ (by repeat (first|(with_reducible first | exact HB.o | apply aj | apply ay | apply aD)|exact HB.o))):w.heap.size≤gb132));have n3_:=ah.mk ((by rw[hg];exact (aZ (by repeat (first|(with_reducible first | exact HB.o | apply aj | apply ay | apply aD)|exact HB.o))):w.heap.size≤gb132));clear HB;have HB:=n0_;have BK132:=n1_;have GW132:=n2_;have GE132:=n3_;clear n0_ n1_ n2_ n3_;clear hb hbox hg;have hcz7_0:w6.cell? ⟨gb132,0,none⟩=some (.slice A0_0 l0_0.length c0_0):=(av BK132.o 0).trans rfl;have hcz7_1:w6.cell? ⟨gb132,1,none⟩=some (.int .i64 a0_1):=(av BK132.o 1).trans rfl;have hfz7_0:=aC BK132.o 0;have hfz7_1:=aC BK132.o 1))
   repeat (go_quiet (first|((with_reducible refine bM (N:=1) rfl ?_);(try (refine dI (by rfl) ?_;dsimp only));refine cZ ?hg (N:=1) ?hd (cs := #[.slice A0_0 l0_0.length c0_0,.int .i64 a0_1]) (t:=149) ?hr ?_;(case hd=>rfl);(case hg=>rfl);(case hr=>first|(go_simp;done)|(go_simp;rfl));intro gb132 hg w6 hbox hb;have n0_:=ah.mk (ak (by repeat (first|(with_reducible first | exact HB.o | apply aj | apply ay | apply aD)|exact HB.o)) hb);have n1_:=ah.mk (hbox);have n2_:=ah.mk ((by rw[hg];exact (aZ (by repeat (first|(with_reducible first | exact HB.o | apply aj | apply ay | apply aD)|exact HB.o))):w.heap.size≤gb132));have n3_:=ah.mk ((by rw[hg];exact (aZ (by repeat (first|(with_reducible first | exact HB.o | apply aj | apply ay | apply aD)|exact HB.o))):w.heap.size≤gb132));clear HB;have HB:=n0_;have BK132:=n1_;have GW132:=n2_;have GE132:=n3_;clear n0_ n1_ n2_ n3_;clear hb hbox hg;have hcz7_0:w6.cell? ⟨gb132,0,none⟩=some (.slice A0_0 l0_0.length c0_0):=(av BK132.o 0).trans rfl;have hcz7_1:w6.cell? ⟨gb132,1,none⟩=some (.int .i64 a0_1):=(av BK132.o 1).trans rfl;have hfz7_0:=aC BK132.o 0;have hfz7_1:=aC BK132.o 1));try go_wp2_with (first|((with_reducible refine bM (N:=1) rfl ?_);(try (refine dI (by rfl) ?_;dsimp only));refine cZ ?hg (N:=1) ?hd (cs := #[.slice A0_0 l0_0.length c0_0,.int .i64 a0_1]) (t:=149) ?hr ?_;(case hd=>rfl);(case hg=>rfl);(case hr=>first|(go_simp;done)|(go_simp;rfl));intro gb132 hg w6 hbox hb;have n0_:=ah.mk (ak (by repeat (first|(with_reducible first | exact HB.o | apply aj | apply ay | apply aD)|exact HB.o)) hb);have n1_:=ah.mk (hbox);have n2_:=ah.mk ((by rw[hg];exact (aZ (by repeat (first|(with_reducible first | exact HB.o | apply aj | apply ay | apply aD)|exact HB.o))):w.heap.size≤gb132));have n3_:=ah.mk ((by rw[hg];exact (aZ (by repeat (first|(with_reducible first | exact HB.o | apply aj | apply ay | apply aD)|exact HB.o))):w.heap.size≤gb132));clear HB;have HB:=n0_;have BK132:=n1_;have GW132:=n2_;have GE132:=n3_;clear n0_ n1_ n2_ n3_;clear hb hbox hg;have hcz7_0:w6.cell? ⟨gb132,0,none⟩=some (.slice A0_0 l0_0.length c0_0):=(av BK132.o 0).trans rfl;have hcz7_1:w6.cell? ⟨gb132,1,none⟩=some (.int .i64 a0_1):=(av BK132.o 1).trans rfl;have hfz7_0:=aC BK132.o 0;have hfz7_1:=aC BK132.o 1)))
   go_ret
   exact⟨by first | rfl | (simp[bF,bG]<;>rfl)|(simp[*,bF,bG]<;>rfl),by repeat (first|(with_reducible first | exact HB.o | apply aj | apply ay | apply aD | refine bf ?_ GE132.o)|exact HB.o)⟩
  ·rw[if_neg c5] at H
   have c5b0:decide ((wrap64 (8*(l0_0.length:Int)))<a0_1)=false:=decide_eq_false c5
   clear c5
   by_cases c8:(wrap64 ((wrap64 (8*(l0_0.length:Int)))-a0_1))>7
   ·rw[if_pos c8] at H
    have c8b0:decide (7<(wrap64 ((wrap64 (8*(l0_0.length:Int)))-a0_1)))=true:=decide_eq_true c8
    clear c8
    obtain rfl:=Option.some.inj H
    go_enter Tryz.func141,Tryz.ntmps141
    go_wp2_with (first|((with_reducible refine bM (N:=1) rfl ?_);(try (refine dI (by rfl) ?_;dsimp only));refine cZ ?hg (N:=1) ?hd (cs := #[.slice A0_0 l0_0.length c0_0,.int .i64 a0_1]) (t:=149) ?hr ?_;(case hd=>rfl);(case hg=>rfl);(case hr=>first|(go_simp;done)|(go_simp;rfl));intro gb132 hg w9 hbox hb;have n0_:=ah.mk (ak (by repeat (first|(with_reducible first | exact HB.o | apply aj | apply ay | apply aD)|exact HB.o)) hb);have n1_:=ah.mk (hbox);have n2_:=ah.mk ((by rw[hg];exact (aZ (by repeat (first|(with_reducible first | exact HB.o | apply aj | apply ay | apply aD)|exact HB.o))):w.heap.size≤gb132));have n3_:=ah.mk ((by rw[hg];exact (aZ (by repeat (first|(with_reducible first | exact HB.o | apply aj | apply ay | apply aD)|exact HB.o))):w.heap.size≤gb132));clear HB;have HB:=n0_;have BK132:=n1_;have GW132:=n2_;have GE132:=n3_;clear n0_ n1_ n2_ n3_;clear hb hbox hg;have hcz10_0:w9.cell? ⟨gb132,0,none⟩=some (.slice A0_0 l0_0.length c0_0):=(av BK132.o 0).trans rfl;have hcz10_1:w9.cell? ⟨gb132,1,none⟩=some (.int .i64 a0_1):=(av BK132.o 1).trans rfl;have hfz10_0:=aC BK132.o 0;have hfz10_1:=aC BK132.o 1))
    repeat (go_quiet (first|((with_reducible refine bM (N:=1) rfl ?_);(try (refine dI (by rfl) ?_;dsimp only));refine cZ ?hg (N:=1) ?hd (cs := #[.slice A0_0 l0_0.length c0_0,.int .i64 a0_1]) (t:=149) ?hr ?_;(case hd=>rfl);(case hg=>rfl);(case hr=>first|(go_simp;done)|(go_simp;rfl));intro gb132 hg w9 hbox hb;have n0_:=ah.mk (ak (by repeat (first|(with_reducible first | exact HB.o | apply aj | apply ay | apply aD)|exact HB.o)) hb);have n1_:=ah.mk (hbox);have n2_:=ah.mk ((by rw[hg];exact (aZ (by repeat (first|(with_reducible first | exact HB.o | apply aj | apply ay | apply aD)|exact HB.o))):w.heap.size≤gb132));have n3_:=ah.mk ((by rw[hg];exact (aZ (by repeat (first|(with_reducible first | exact HB.o | apply aj | apply ay | apply aD)|exact HB.o))):w.heap.size≤gb132));clear HB;have HB:=n0_;have BK132:=n1_;have GW132:=n2_;have GE132:=n3_;clear n0_ n1_ n2_ n3_;clear hb hbox hg;have hcz10_0:w9.cell? ⟨gb132,0,none⟩=some (.slice A0_0 l0_0.length c0_0):=(av BK132.o 0).trans rfl;have hcz10_1:w9.cell? ⟨gb132,1,none⟩=some (.int .i64 a0_1):=(av BK132.o 1).trans rfl;have hfz10_0:=aC BK132.o 0;have hfz10_1:=aC BK132.o 1));try go_wp2_with (first|((with_reducible refine bM (N:=1) rfl ?_);(try (refine dI (by rfl) ?_;dsimp only));refine cZ ?hg (N:=1) ?hd (cs := #[.slice A0_0 l0_0.length c0_0,.int .i64 a0_1]) (t:=149) ?hr ?_;(case hd=>rfl);(case hg=>rfl);(case hr=>first|(go_simp;done)|(go_simp;rfl));intro gb132 hg w9 hbox hb;have n0_:=ah.mk (ak (by repeat (first|(with_reducible first | exact HB.o | apply aj | apply ay | apply aD)|exact HB.o)) hb);have n1_:=ah.mk (hbox);have n2_:=ah.mk ((by rw[hg];exact (aZ (by repeat (first|(with_reducible first | exact HB.o | apply aj | apply ay | apply aD)|exact HB.o))):w.heap.size≤gb132));have n3_:=ah.mk ((by rw[hg];exact (aZ (by repeat (first|(with_reducible first | exact HB.o | apply aj | apply ay | apply aD)|exact HB.o))):w.heap.size≤gb132));clear HB;have HB:=n0_;have BK132:=n1_;have GW132:=n2_;have GE132:=n3_;clear n0_ n1_ n2_ n3_;clear hb hbox hg;have hcz10_0:w9.cell? ⟨gb132,0,none⟩=some (.slice A0_0 l0_0.length c0_0):=(av BK132.o 0).trans rfl;have hcz10_1:w9.cell? ⟨gb132,1,none⟩=some (.int .i64 a0_1):=(av BK132.o 1).trans rfl;have hfz10_0:=aC BK132.o 0;have hfz10_1:=aC BK132.o 1)))
    go_ret
    exact⟨by first | rfl | (simp[bF,bG]<;>rfl)|(simp[*,bF,bG]<;>rfl),by repeat (first|(with_reducible first | exact HB.o | apply aj | apply ay | apply aD | refine bf ?_ GE132.o)|exact HB.o)⟩
   ·rw[if_neg c8] at H
    have c8b0:decide (7<(wrap64 ((wrap64 (8*(l0_0.length:Int)))-a0_1)))=false:=decide_eq_false c8
    clear c8
    by_cases c11:(wrap64 ((wrap64 (8*(l0_0.length:Int)))-a0_1))=0
    ·rw[if_pos c11] at H
     have c11b0:((wrap64 ((wrap64 (8*(l0_0.length:Int)))-a0_1))==0)=true:=beq_iff_eq.mpr c11
     have c11b1:((wrap64 ((wrap64 (8*(l0_0.length:Int)))-a0_1)) != 0)=false:=bne_eq_false_iff_eq.mpr c11
     clear c11
     obtain rfl:=Option.some.inj H
     go_enter Tryz.func141,Tryz.ntmps141
     go_wp2_with (first|((with_reducible refine bM (N:=1) rfl ?_);(try (refine dI (by rfl) ?_;dsimp only));refine cZ ?hg (N:=1) ?hd (cs := #[.slice A0_0 l0_0.length c0_0,.int .i64 a0_1]) (t:=149) ?hr ?_;(case hd=>rfl);(case hg=>rfl);(case hr=>first|(go_simp;done)|(go_simp;rfl));intro gb132 hg w12 hbox hb;have n0_:=ah.mk (ak (by repeat (first|(with_reducible first | exact HB.o | apply aj | apply ay | apply aD)|exact HB.o)) hb);have n1_:=ah.mk (hbox);have n2_:=ah.mk ((by rw[hg];exact (aZ (by repeat (first|(with_reducible first | exact HB.o | apply aj | apply ay | apply aD)|exact HB.o))):w.heap.size≤gb132));have n3_:=ah.mk ((by rw[hg];exact (aZ (by repeat (first|(with_reducible first | exact HB.o | apply aj | apply ay | apply aD)|exact HB.o))):w.heap.size≤gb132));clear HB;have HB:=n0_;have BK132:=n1_;have GW132:=n2_;have GE132:=n3_;clear n0_ n1_ n2_ n3_;clear hb hbox hg;have hcz13_0:w12.cell? ⟨gb132,0,none⟩=some (.slice A0_0 l0_0.length c0_0):=(av BK132.o 0).trans rfl;have hcz13_1:w12.cell? ⟨gb132,1,none⟩=some (.int .i64 a0_1):=(av BK132.o 1).trans rfl;have hfz13_0:=aC BK132.o 0;have hfz13_1:=aC BK132.o 1))
     repeat (go_quiet (first|((with_reducible refine bM (N:=1) rfl ?_);(try (refine dI (by rfl) ?_;dsimp only));refine cZ ?hg (N:=1) ?hd (cs := #[.slice A0_0 l0_0.length c0_0,.int .i64 a0_1]) (t:=149) ?hr ?_;(case hd=>rfl);(case hg=>rfl);(case hr=>first|(go_simp;done)|(go_simp;rfl));intro gb132 hg w12 hbox hb;have n0_:=ah.mk (ak (by repeat (first|(with_reducible first | exact HB.o | apply aj | apply ay | apply aD)|exact HB.o)) hb);have n1_:=ah.mk (hbox);have n2_:=ah.mk ((by rw[hg];exact (aZ (by repeat (first|(with_reducible first | exact HB.o | apply aj | apply ay | apply aD)|exact HB.o))):w.heap.size≤gb132));have n3_:=ah.mk ((by rw[hg];exact (aZ (by repeat (first|(with_reducible first | exact HB.o | apply aj | apply ay | apply aD)|exact HB.o))):w.heap.size≤gb132));clear HB;have HB:=n0_;have BK132:=n1_;have GW132:=n2_;have GE132:=n3_;clear n0_ n1_ n2_ n3_;clear hb hbox hg;have hcz13_0:w12.cell? ⟨gb132,0,none⟩=some (.slice A0_0 l0_0.length c0_0):=(av BK132.o 0).trans rfl;have hcz13_1:w12.cell? ⟨gb132,1,none⟩=some (.int .i64 a0_1):=(av BK132.o 1).trans rfl;have hfz13_0:=aC BK132.o 0;have hfz13_1:=aC BK132.o 1));try go_wp2_with (first|((with_reducible refine bM (N:=1) rfl ?_);(try (refine dI (by rfl) ?_;dsimp only));refine cZ ?hg (N:=1) ?hd (cs := #[.slice A0_0 l0_0.length c0_0,.int .i64 a0_1]) (t:=149) ?hr ?_;(case hd=>rfl);(case hg=>rfl);(case hr=>first|(go_simp;done)|(go_simp;rfl));intro gb132 hg w12 hbox hb;have n0_:=ah.mk (ak (by repeat (first|(with_reducible first | exact HB.o | apply aj | apply ay | apply aD)|exact HB.o)) hb);have n1_:=ah.mk (hbox);have n2_:=ah.mk ((by rw[hg];exact (aZ (by repeat (first|(with_reducible first | exact HB.o | apply aj | apply ay | apply aD)|exact HB.o))):w.heap.size≤gb132));have n3_:=ah.mk ((by rw[hg];exact (aZ (by repeat (first|(with_reducible first | exact HB.o | apply aj | apply ay | apply aD)|exact HB.o))):w.heap.size≤gb132));clear HB;have HB:=n0_;have BK132:=n1_;have GW132:=n2_;have GE132:=n3_;clear n0_ n1_ n2_ n3_;clear hb hbox hg;have hcz13_0:w12.cell? ⟨gb132,0,none⟩=some (.slice A0_0 l0_0.length c0_0):=(av BK132.o 0).trans rfl;have hcz13_1:w12.cell? ⟨gb132,1,none⟩=some (.int .i64 a0_1):=(av BK132.o 1).trans rfl;have hfz13_0:=aC BK132.o 0;have hfz13_1:=aC BK132.o 1)))
     go_ret
     exact⟨by first | rfl | (simp[bF,bG]<;>rfl)|(simp[*,bF,bG]<;>rfl),by repeat (first|(with_reducible first | exact HB.o | apply aj | apply ay | apply aD | refine bf ?_ GE132.o)|exact HB.o)⟩
    ·rw[if_neg c11] at H
     have c11b0:((wrap64 ((wrap64 (8*(l0_0.length:Int)))-a0_1))==0)=false:=beq_eq_false_iff_ne.mpr c11
     have c11b1:((wrap64 ((wrap64 (8*(l0_0.length:Int)))-a0_1)) != 0)=true:=bne_iff_ne.mpr c11
     obtain⟨ji14,hji14⟩:∃ j_:Int,(wrap64 ((l0_0.length:Int)-1))=j_:=⟨_,rfl⟩
     replace H:(if 0≤(ji14) then (if (ji14)<(l0_0.length:Int) then (if 0≤(wrap64 ((wrap64 (8*(l0_0.length:Int)))-a0_1)) then (some ((Go.bits .and .u8 (rd l0_0 (ji14)) (((shl .u8 1 (wrap64 ((wrap64 (8*(l0_0.length:Int)))-a0_1)))-1) % 256))==0)) else (none)) else (none)) else (none))=some r:=by first|(rw[hji14] at H;exact H)|(simp only[hji14] at H ⊢;exact H)
     have hji14w:(IntKind.i64.wrap ((l0_0.length:Int)-1))=ji14:=(dw _).trans hji14
     by_cases c15:0≤(ji14)
     ·rw[if_pos c15] at H
      have c15b0:decide (0≤(ji14))=true:=decide_eq_true c15
      clear c15
      by_cases c16:(ji14)<(l0_0.length:Int)
      ·rw[if_pos c16] at H
       have c16b0:decide ((ji14)<(l0_0.length:Int))=true:=decide_eq_true c16
       clear c16
       obtain⟨ji17,hji17⟩:∃ j_:Int,(wrap64 ((wrap64 (8*(l0_0.length:Int)))-a0_1))=j_:=⟨_,rfl⟩
       replace H:(if 0≤(ji17) then (some ((Go.bits .and .u8 (rd l0_0 (ji14)) (((shl .u8 1 (ji17))-1) % 256))==0)) else (none))=some r:=by first|(rw[hji17] at H;exact H)|(simp only[hji17] at H ⊢;exact H)
       (try rw[hji17] at c8b0)
       (try rw[hji17] at c11b0)
       (try rw[hji17] at c11b1)
       have hji17w:(IntKind.i64.wrap ((wrap64 (8*(l0_0.length:Int)))-a0_1))=ji17:=(dw _).trans hji17
       by_cases c18:0≤(ji17)
       ·rw[if_pos c18] at H
        have c18b0:=eq_true c18
        have c18b1:decide (0≤(ji17))=true:=decide_eq_true c18
        clear c18
        obtain⟨ji19,hji19⟩:∃ j_:Int,(shl .u8 1 (ji17))=j_:=⟨_,rfl⟩
        replace H:(some ((Go.bits .and .u8 (rd l0_0 (ji14)) (((ji19)-1) % 256))==0))=some r:=by first|(rw[hji19] at H;exact H)|(simp only[hji19] at H ⊢;exact H)
        have hji19_:(IntKind.u8.wrap (1*2 ^ min (ji17).toNat 8))=ji19:=hji19
        have hji19z:(ji17)≤8→(IntKind.u8.wrap (1*2 ^ (ji17).toNat))=ji19:=jD hji19
        have hji19u:(IntKind.u8.wrap (2 ^ min (ji17).toNat 8))=ji19:=by have h_:=hji19_;rw[Int.one_mul] at h_;exact h_
        have hji19v:(ji17)≤8→(IntKind.u8.wrap (2 ^ (ji17).toNat))=ji19:=fun hle_=>by have h_:=hji19z hle_;rw[Int.one_mul] at h_;exact h_
        obtain rfl:=Option.some.inj H
        go_enter Tryz.func141,Tryz.ntmps141
        go_wp2_with (first|((with_reducible refine bM (N:=1) rfl ?_);(try (refine dI (by rfl) ?_;dsimp only));refine cZ ?hg (N:=1) ?hd (cs := #[.slice A0_0 l0_0.length c0_0,.int .i64 a0_1]) (t:=149) ?hr ?_;(case hd=>rfl);(case hg=>rfl);(case hr=>first|(go_simp;done)|(go_simp;rfl));intro gb132 hg w20 hbox hb;have n0_:=ah.mk (ak (by repeat (first|(with_reducible first | exact HB.o | apply aj | apply ay | apply aD)|exact HB.o)) hb);have n1_:=ah.mk (hbox);have n2_:=ah.mk ((by rw[hg];exact (aZ (by repeat (first|(with_reducible first | exact HB.o | apply aj | apply ay | apply aD)|exact HB.o))):w.heap.size≤gb132));have n3_:=ah.mk ((by rw[hg];exact (aZ (by repeat (first|(with_reducible first | exact HB.o | apply aj | apply ay | apply aD)|exact HB.o))):w.heap.size≤gb132));clear HB;have HB:=n0_;have BK132:=n1_;have GW132:=n2_;have GE132:=n3_;clear n0_ n1_ n2_ n3_;clear hb hbox hg;have hcz21_0:w20.cell? ⟨gb132,0,none⟩=some (.slice A0_0 l0_0.length c0_0):=(av BK132.o 0).trans rfl;have hcz21_1:w20.cell? ⟨gb132,1,none⟩=some (.int .i64 a0_1):=(av BK132.o 1).trans rfl;have hfz21_0:=aC BK132.o 0;have hfz21_1:=aC BK132.o 1;have p133:0≤((ji14):Int):=of_decide_eq_true (by first|(with_reducible assumption)|assumption);have q133:(ji14)<(l0_0.length:Int):=of_decide_eq_true (by first|(with_reducible assumption)|assumption);obtain⟨ad133,e133,hx133_0⟩:=Kd.kI HR0_0.o (ji14) p133 q133;cases e133;replace hx133_0:=(HB.o.cell (World.block_lt_of_cell? w _ hx133_0)).trans hx133_0;replace p133:=eq_true p133;replace q133:=eq_true q133))
        repeat (go_quiet (first|((with_reducible refine bM (N:=1) rfl ?_);(try (refine dI (by rfl) ?_;dsimp only));refine cZ ?hg (N:=1) ?hd (cs := #[.slice A0_0 l0_0.length c0_0,.int .i64 a0_1]) (t:=149) ?hr ?_;(case hd=>rfl);(case hg=>rfl);(case hr=>first|(go_simp;done)|(go_simp;rfl));intro gb132 hg w20 hbox hb;have n0_:=ah.mk (ak (by repeat (first|(with_reducible first | exact HB.o | apply aj | apply ay | apply aD)|exact HB.o)) hb);have n1_:=ah.mk (hbox);have n2_:=ah.mk ((by rw[hg];exact (aZ (by repeat (first|(with_reducible first | exact HB.o | apply aj | apply ay | apply aD)|exact HB.o))):w.heap.size≤gb132));have n3_:=ah.mk ((by rw[hg];exact (aZ (by repeat (first|(with_reducible first | exact HB.o | apply aj | apply ay | apply aD)|exact HB.o))):w.heap.size≤gb132));clear HB;have HB:=n0_;have BK132:=n1_;have GW132:=n2_;have GE132:=n3_;clear n0_ n1_ n2_ n3_;clear hb hbox hg;have hcz21_0:w20.cell? ⟨gb132,0,none⟩=some (.slice A0_0 l0_0.length c0_0):=(av BK132.o 0).trans rfl;have hcz21_1:w20.cell? ⟨gb132,1,none⟩=some (.int .i64 a0_1):=(av BK132.o 1).trans rfl;have hfz21_0:=aC BK132.o 0;have hfz21_1:=aC BK132.o 1;have p133:0≤((ji14):Int):=of_decide_eq_true (by first|(with_reducible assumption)|assumption);have q133:(ji14)<(l0_0.length:Int):=of_decide_eq_true (by first|(with_reducible assumption)|assumption);obtain⟨ad133,e133,hx133_0⟩:=Kd.kI HR0_0.o (ji14) p133 q133;cases e133;replace hx133_0:=(HB.o.cell (World.block_lt_of_cell? w _ hx133_0)).trans hx133_0;replace p133:=eq_true p133;replace q133:=eq_true q133));try go_wp2_with (first|((with_reducible refine bM (N:=1) rfl ?_);(try (refine dI (by rfl) ?_;dsimp only));refine cZ ?hg (N:=1) ?hd (cs := #[.slice A0_0 l0_0.length c0_0,.int .i64 a0_1]) (t:=149) ?hr ?_;(case hd=>rfl);(case hg=>rfl);(case hr=>first|(go_simp;done)|(go_simp;rfl));intro gb132 hg w20 hbox hb;have n0_:=ah.mk (ak (by repeat (first|(with_reducible first | exact HB.o | apply aj | apply ay | apply aD)|exact HB.o)) hb);have n1_:=ah.mk (hbox);have n2_:=ah.mk ((by rw[hg];exact (aZ (by repeat (first|(with_reducible first | exact HB.o | apply aj | apply ay | apply aD)|exact HB.o))):w.heap.size≤gb132));have n3_:=ah.mk ((by rw[hg];exact (aZ (by repeat (first|(with_reducible first | exact HB.o | apply aj | apply ay | apply aD)|exact HB.o))):w.heap.size≤gb132));clear HB;have HB:=n0_;have BK132:=n1_;have GW132:=n2_;have GE132:=n3_;clear n0_ n1_ n2_ n3_;clear hb hbox hg;have hcz21_0:w20.cell? ⟨gb132,0,none⟩=some (.slice A0_0 l0_0.length c0_0):=(av BK132.o 0).trans rfl;have hcz21_1:w20.cell? ⟨gb132,1,none⟩=some (.int .i64 a0_1):=(av BK132.o 1).trans rfl;have hfz21_0:=aC BK132.o 0;have hfz21_1:=aC BK132.o 1;have p133:0≤((ji14):Int):=of_decide_eq_true (by first|(with_reducible assumption)|assumption);have q133:(ji14)<(l0_0.length:Int):=of_decide_eq_true (by first|(with_reducible assumption)|assumption);obtain⟨ad133,e133,hx133_0⟩:=Kd.kI HR0_0.o (ji14) p133 q133;cases e133;replace hx133_0:=(HB.o.cell (World.block_lt_of_cell? w _ hx133_0)).trans hx133_0;replace p133:=eq_true p133;replace q133:=eq_true q133)))
        go_ret
        exact⟨by first | rfl | (simp[bF,bG]<;>rfl)|(simp only[← hji14,← hji17,← hji19];first | rfl | (simp[bF,bG]<;>rfl))|(simp[*,bF,bG]<;>rfl),by repeat (first|(with_reducible first | exact HB.o | apply aj | apply ay | apply aD | refine bf ?_ GE132.o)|exact HB.o)⟩
       ·rw[if_neg c18] at H
        exact absurd H (by simp)
      ·rw[if_neg c16] at H
       exact absurd H (by simp)
     ·rw[if_neg c15] at H
      exact absurd H (by simp)
attribute [local go_sem] eG eH gq gu eT eU fU fV   -- for this text's walks alone
mutual
def aY.j0:Nat→Int→Int→Bool→Option (Int)
 | 0,_,_,_=>none
 | k+1,x0,x3,x7=>if x7=true then (some (wrap64 ((wrap64 ((wrap64 (x3-1))-1))-1))) else (if x0≥(-2048) then (aY.j1 k x0 x3 (decide (x0<2048))) else (aY.j1 k x0 x3 false))
def aY.j1:Nat→Int→Int→Bool→Option (Int)
 | 0,_,_,_=>none
 | k+1,x0,x3,x14=>if x14=true then (some (wrap64 ((wrap64 (x3-1))-1))) else (if x0≥(-2147483648) then (if x0<2147483648 then (some (wrap64 (x3-1))) else (some x3)) else (some x3))
end
def aY.f (k:Nat) (a0:Int):Option (Int):=if a0=0 then (some 0) else (if a0≥(-64) then (aY.j0 k a0 4 (decide (a0<64))) else (aY.j0 k a0 4 false))
theorem aY.fA:∀ k,(∀ y0 y1 y2,bV (aY.j0 k y0 y1 y2) (aY.j0 (k+1) y0 y1 y2))∧(∀ y0 y1 y2,bV (aY.j1 k y0 y1 y2) (aY.j1 (k+1) y0 y1 y2))
 | 0=>⟨fun _ _ _ r h=>by simp[aY.j0] at h,fun _ _ _ r h=>by simp[aY.j1] at h⟩
 | k+1=>by
   obtain⟨ih0,ih1⟩:=aY.fA k
   refine⟨?_,?_⟩
   ·intro y0 y1 y2
    unfold aY.j0
    repeat' first
    | (with_reducible exact ih0 _ _ _)
    | (with_reducible exact ih1 _ _ _)
    | (with_reducible exact bV.refl _)
    | (with_reducible exact bV.none _)
    | (with_reducible refine bV.ite ?_ ?_)
    | (with_reducible refine bV.bind ?_ (fun _=>?_))
    | exact ih0 _ _ _
    | exact ih1 _ _ _
    | exact bV.none _
    | refine bV.ite ?_ ?_
    | refine bV.bind ?_ (fun _=>?_)
   ·intro y0 y1 y2
    unfold aY.j1
    repeat' first
    | (with_reducible exact ih0 _ _ _)
    | (with_reducible exact ih1 _ _ _)
    | (with_reducible exact bV.refl _)
    | (with_reducible exact bV.none _)
    | (with_reducible refine bV.ite ?_ ?_)
    | (with_reducible refine bV.bind ?_ (fun _=>?_))
    | exact ih0 _ _ _
    | exact ih1 _ _ _
    | exact bV.none _
    | refine bV.ite ?_ ?_
    | refine bV.bind ?_ (fun _=>?_)
theorem aY.mono:∀ a0 k,bV (aY.f k a0) (aY.f (k+1) a0):=by
 intro a0 k
 obtain⟨ih0,ih1⟩:=aY.fA k
 unfold aY.f
 repeat' first
  | (with_reducible exact ih0 _ _ _)
  | (with_reducible exact ih1 _ _ _)
  | (with_reducible exact bV.refl _)
  | (with_reducible exact bV.none _)
  | (with_reducible refine bV.ite ?_ ?_)
  | (with_reducible refine bV.bind ?_ (fun _=>?_))
  | exact ih0 _ _ _
  | exact ih1 _ _ _
  | exact bV.none _
  | refine bV.ite ?_ ?_
  | refine bV.bind ?_ (fun _=>?_)
theorem aY.calls (k:Nat) (a0:Int) (r:Int) (w:World) (h:aY.f k a0=some r) :
 Calls Tryz.prog 144 #[.int .i64 a0] w fun e w'=>e = .returned (.int .i64 r)∧aN w w':=by
 have H:(if a0=0 then (some 0) else (if a0≥(-64) then (aY.j0 k a0 4 (decide (a0<64))) else (aY.j0 k a0 4 false)))=some r:=h
 clear h
 by_cases c2:a0=0
 ·rw[if_pos c2] at H
  have c2b0:(a0==0)=true:=beq_iff_eq.mpr c2
  have c2b1:(a0 != 0)=false:=bne_eq_false_iff_eq.mpr c2
  clear c2
  obtain rfl:=Option.some.inj H
  go_enter Tryz.func144,Tryz.ntmps144
  go_wp2
  go_ret
  exact⟨by first | rfl | (simp;done)|(simp[*];done)|(simp;decide +kernel),by repeat (first | exact aN.refl _ | apply aN.step)⟩
 ·rw[if_neg c2] at H
  have c2b0:(a0==0)=false:=beq_eq_false_iff_ne.mpr c2
  have c2b1:(a0 != 0)=true:=bne_iff_ne.mpr c2
  have HC3:=ah.mk H
  clear H
  go_enter Tryz.func144,Tryz.ntmps144
  go_upto_region 3 with (fail)
  go_cut [7] (fun v7 wc=>∃ (kq:Nat) (x7_2:Bool),v7 = .bool x7_2∧ah (aY.j0 kq a0 4 x7_2=some r)∧ah (kq≤k)∧aN w wc)
  case first=>
   have H:=HC3.o
   clear HC3
   by_cases c4:a0≥(-64)
   ·rw[if_pos c4] at H
    have c4b0:decide ((-64)≤a0)=true:=decide_eq_true c4
    clear c4
    (first | rw[c4b0] | (simp only[dw,fu];rw[c4b0])|skip)
    have H':=ah.mk H
    clear H
    go_wp2
    go_meet
    case rel=>exact⟨_,(decide (a0<64)),(by first | rfl | (simp;done)|(simp[*];done)),H',⟨by first | omega | exact Nat.le_refl _⟩,by repeat (first | exact aN.refl _ | apply aN.step)⟩
   ·rw[if_neg c4] at H
    have c4b0:decide ((-64)≤a0)=false:=decide_eq_false c4
    clear c4
    (first | rw[c4b0] | (simp only[dw,fu];rw[c4b0])|skip)
    have H':=ah.mk H
    clear H
    go_wp2
    go_meet
    case rel=>exact⟨_,(false),(by first | rfl | (simp;done)|(simp[*];done)),H',⟨by first | omega | exact Nat.le_refl _⟩,by repeat (first | exact aN.refl _ | apply aN.step)⟩
  case rest=>
   clear HC3
   try clear c1
   try clear c2
   try clear c2b0
   try clear c2b1
   try clear p2
   try clear c4
   try clear c4b0
   obtain⟨kq,x7_2,rfl,HA,HJ2,⟨mc2,rfl⟩⟩:=hcut
   cases kq with
   | zero=>exact absurd HA.o (by simp[aY.j0])
   | succ kj2=>
     have H:=HA.o
     clear HA
     simp only[aY.j0] at H
     by_cases c5:x7_2=true
     ·subst c5
      have H1:(some (wrap64 ((wrap64 ((wrap64 (4-1))-1))-1)))=some r:=by rw[if_pos rfl] at H;exact H
      clear H
      have H:=H1
      clear H1
      obtain rfl:=Option.some.inj H
      go_wp2
      go_ret
      exact⟨by first | rfl | (simp;done)|(simp[*];done)|(simp;decide +kernel),by repeat (first | exact aN.refl _ | apply aN.step)⟩
     ·replace c5:=Bool.eq_false_iff.mpr c5
      subst c5
      have H1:(if a0≥(-2048) then (aY.j1 kj2 a0 4 (decide (a0<2048))) else (aY.j1 kj2 a0 4 false))=some r:=by rw[if_neg (show ¬ (false=true) by decide)] at H;exact H
      clear H
      have H:=H1
      clear H1
      have HC6:=ah.mk H
      clear H
      go_upto_region 4 with (fail)
      go_cut [14] (fun v14 wc=>∃ (kq:Nat) (x14_5:Bool),v14 = .bool x14_5∧ah (aY.j1 kq a0 4 x14_5=some r)∧ah (kq≤kj2)∧aN w wc)
      case first=>
       have H:=HC6.o
       clear HC6
       by_cases c7:a0≥(-2048)
       ·rw[if_pos c7] at H
        have c7b0:decide ((-2048)≤a0)=true:=decide_eq_true c7
        clear c7
        (first | rw[c7b0] | (simp only[dw,fu];rw[c7b0])|skip)
        have H':=ah.mk H
        clear H
        go_wp2
        go_meet
        case rel=>exact⟨_,(decide (a0<2048)),(by first | rfl | (simp;done)|(simp[*];done)),H',⟨by have:=HJ2.o;first | omega | exact Nat.le_refl _⟩,by repeat (first | exact aN.refl _ | apply aN.step)⟩
       ·rw[if_neg c7] at H
        have c7b0:decide ((-2048)≤a0)=false:=decide_eq_false c7
        clear c7
        (first | rw[c7b0] | (simp only[dw,fu];rw[c7b0])|skip)
        have H':=ah.mk H
        clear H
        go_wp2
        go_meet
        case rel=>exact⟨_,(false),(by first | rfl | (simp;done)|(simp[*];done)),H',⟨by have:=HJ2.o;first | omega | exact Nat.le_refl _⟩,by repeat (first | exact aN.refl _ | apply aN.step)⟩
      case rest=>
       clear HC6
       try clear c1
       try clear c2
       try clear c2b0
       try clear c2b1
       try clear p2
       try clear c4
       try clear c4b0
       try clear c5
       try clear p6
       try clear c7
       try clear c7b0
       try clear p2
       obtain⟨kq,x14_5,rfl,HA,HJ5,⟨mc5,rfl⟩⟩:=hcut
       cases kq with
       | zero=>exact absurd HA.o (by simp[aY.j1])
       | succ kj5=>
         have H:=HA.o
         clear HA
         simp only[aY.j1] at H
         by_cases c8:x14_5=true
         ·subst c8
          have H1:(some (wrap64 ((wrap64 (4-1))-1)))=some r:=by rw[if_pos rfl] at H;exact H
          clear H
          have H:=H1
          clear H1
          obtain rfl:=Option.some.inj H
          go_wp2
          go_ret
          exact⟨by first | rfl | (simp;done)|(simp[*];done)|(simp;decide +kernel),by repeat (first | exact aN.refl _ | apply aN.step)⟩
         ·replace c8:=Bool.eq_false_iff.mpr c8
          subst c8
          have H1:(if a0≥(-2147483648) then (if a0<2147483648 then (some (wrap64 (4-1))) else (some 4)) else (some 4))=some r:=by rw[if_neg (show ¬ (false=true) by decide)] at H;exact H
          clear H
          have H:=H1
          clear H1
          by_cases c9:a0≥(-2147483648)
          ·rw[if_pos c9] at H
           have c9b0:decide ((-2147483648)≤a0)=true:=decide_eq_true c9
           clear c9
           by_cases c10:a0<2147483648
           ·rw[if_pos c10] at H
            have c10b0:decide (a0<2147483648)=true:=decide_eq_true c10
            clear c10
            obtain rfl:=Option.some.inj H
            go_wp2
            go_ret
            exact⟨by first | rfl | (simp;done)|(simp[*];done)|(simp;decide +kernel),by repeat (first | exact aN.refl _ | apply aN.step)⟩
           ·rw[if_neg c10] at H
            have c10b0:decide (a0<2147483648)=false:=decide_eq_false c10
            clear c10
            obtain rfl:=Option.some.inj H
            go_wp2
            go_ret
            exact⟨by first | rfl | (simp;done)|(simp[*];done)|(simp;decide +kernel),by repeat (first | exact aN.refl _ | apply aN.step)⟩
          ·rw[if_neg c9] at H
           have c9b0:decide ((-2147483648)≤a0)=false:=decide_eq_false c9
           clear c9
           obtain rfl:=Option.some.inj H
           go_wp2
           go_ret
           exact⟨by first | rfl | (simp;done)|(simp[*];done)|(simp;decide +kernel),by repeat (first | exact aN.refl _ | apply aN.step)⟩
attribute [local go_sem] eG eH gq gu eT eU fU fV   -- for this text's walks alone
def fG.f (a0:Int):Option (Int):=if a0=1 then (some 7) else (if a0=2 then (some 12) else (if a0=3 then (some 32) else (if a0=4 then (some 64) else (some 0))))
theorem fG.calls (a0:Int) (r:Int) (w:World) (h:fG.f a0=some r) :
 Calls Tryz.prog 145 #[.int .i64 a0] w fun e w'=>e = .returned (.int .i64 r)∧aN w w':=by
 have H:(if a0=1 then (some 7) else (if a0=2 then (some 12) else (if a0=3 then (some 32) else (if a0=4 then (some 64) else (some 0)))))=some r:=h
 clear h
 by_cases c2:a0=1
 ·rw[if_pos c2] at H
  have c2b0:(a0==1)=true:=beq_iff_eq.mpr c2
  have c2b1:(a0 != 1)=false:=bne_eq_false_iff_eq.mpr c2
  clear c2
  obtain rfl:=Option.some.inj H
  go_enter Tryz.func145,Tryz.ntmps145
  go_wp2
  go_ret
  exact⟨by first | rfl | (simp;done)|(simp[*];done)|(simp;decide +kernel),by repeat (first | exact aN.refl _ | apply aN.step)⟩
 ·rw[if_neg c2] at H
  have c2b0:(a0==1)=false:=beq_eq_false_iff_ne.mpr c2
  have c2b1:(a0 != 1)=true:=bne_iff_ne.mpr c2
  by_cases c3:a0=2
  ·rw[if_pos c3] at H
   have c3b0:(a0==2)=true:=beq_iff_eq.mpr c3
   have c3b1:(a0 != 2)=false:=bne_eq_false_iff_eq.mpr c3
   clear c3
   obtain rfl:=Option.some.inj H
   go_enter Tryz.func145,Tryz.ntmps145
   go_wp2
   go_ret
   exact⟨by first | rfl | (simp;done)|(simp[*];done)|(simp;decide +kernel),by repeat (first | exact aN.refl _ | apply aN.step)⟩
  ·rw[if_neg c3] at H
   have c3b0:(a0==2)=false:=beq_eq_false_iff_ne.mpr c3
   have c3b1:(a0 != 2)=true:=bne_iff_ne.mpr c3
   by_cases c4:a0=3
   ·rw[if_pos c4] at H
    have c4b0:(a0==3)=true:=beq_iff_eq.mpr c4
    have c4b1:(a0 != 3)=false:=bne_eq_false_iff_eq.mpr c4
    clear c4
    obtain rfl:=Option.some.inj H
    go_enter Tryz.func145,Tryz.ntmps145
    go_wp2
    go_ret
    exact⟨by first | rfl | (simp;done)|(simp[*];done)|(simp;decide +kernel),by repeat (first | exact aN.refl _ | apply aN.step)⟩
   ·rw[if_neg c4] at H
    have c4b0:(a0==3)=false:=beq_eq_false_iff_ne.mpr c4
    have c4b1:(a0 != 3)=true:=bne_iff_ne.mpr c4
    by_cases c5:a0=4
    ·rw[if_pos c5] at H
     have c5b0:(a0==4)=true:=beq_iff_eq.mpr c5
     have c5b1:(a0 != 4)=false:=bne_eq_false_iff_eq.mpr c5
     clear c5
     obtain rfl:=Option.some.inj H
     go_enter Tryz.func145,Tryz.ntmps145
     go_wp2
     go_ret
     exact⟨by first | rfl | (simp;done)|(simp[*];done)|(simp;decide +kernel),by repeat (first | exact aN.refl _ | apply aN.step)⟩
    ·rw[if_neg c5] at H
     have c5b0:(a0==4)=false:=beq_eq_false_iff_ne.mpr c5
     have c5b1:(a0 != 4)=true:=bne_iff_ne.mpr c5
     obtain rfl:=Option.some.inj H
     go_enter Tryz.func145,Tryz.ntmps145
     go_wp2
     go_ret
     exact⟨by first | rfl | (simp;done)|(simp[*];done)|(simp;decide +kernel),by repeat (first | exact aN.refl _ | apply aN.step)⟩
end Go.Proofs.YtcgbgifbajdhpaaGreatDoor.PA
namespace Go.Proofs.YtcgbgifbajdhpaaGreatDoor.PA
open Go.RowKit Go.Proofs.YtcgbgifbajdhpaaGreatDoor.G Go.Proofs.YtcgbgifbajdhpaaGreatDoorW.au Go.Proofs.YtcgbgifbajdhpaaGreatDoorW.aI Go.Proofs.YtcgbgifbajdhpaaGreatDoorW.aJ
def l8.f (l:List Int) (a0 a1 a2:Int):Option (List Int × Int × Int):=
 if l.length≤900000000 then (bZ.f l a0).bind fun b=>if b=true then (if a2<0 then some ([],0,1) else if 64<a2 then some ([],0,1) else (dJ.f l a0 a1 a2).bind fun r=>some (r.1,r.2,0)) else some ([],0,1)
 else none
theorem l8.calls (A0_0:Option Addr) (c0_0:Nat) (l0_0:List Int) (a0_1:Int) (a1:Int) (a2:Int) (r1:List Int) (r2:Int) (r3:Int) (w:World) (hr0_0:Kd.C (Kd.int .u8) w A0_0 l0_0.length l0_0) (hc0_0:l0_0.length≤c0_0) (h:l8.f l0_0 a0_1 a1 a2=some (r1,r2,r3)) :
 Calls Tryz.prog 123 #[.agg #[.slice A0_0 l0_0.length c0_0,.int .i64 a0_1],.int .u64 a1,.int .i64 a2] w fun e w'=>∃ v0_:Value,e = .returned (.tuple #[.agg #[v0_,.int .i64 r2],.int .i64 r3])∧Kd.R (Kd.int .u8) 5 w' w.heap.size (fun _=>True) v0_ r1∧Below w.heap.size w w':=by
 have hu24:=Tryz.underlying149
 unfold l8.f at h
 split at h
 case isFalse=>cases h
 case isTrue hlen=>
 obtain⟨b,hcan,h⟩:=Option.bind_eq_some_iff.mp h
 have HR:=ah.mk hr0_0
 have HC:=ah.mk hc0_0
 have HL:=ah.mk hlen
 have H:=ah.mk h
 clear hr0_0 hc0_0 hlen h
 go_enter Tryz.func123,Tryz.ntmps123
 go_wp2_with (fail)
 refine (bZ.calls A0_0 c0_0 l0_0 a0_1 b _ ?c1 HC.o hcan).mono ?_
 case c1=>exact Kd.bW (Kd.bW HR.o _) _
 rintro e w1 ⟨rfl,hb⟩
 have BK0:=ah.mk (aG (g:=w.heap.size) (o := .cells #[.slice A0_0 l0_0.length c0_0,.int .i64 a0_1] 149 (0,0)) (aU (bI w _) _) hb)
 have BK1:=ah.mk (aG (g:=w.heap.size+1) (o := .cells #[.slice none 0 0,.int .i64 0] 149 (0,0)) (by have:=bI (w.alloc (.cells #[.slice A0_0 l0_0.length c0_0,.int .i64 a0_1] 149 (0,0))) (.cells #[.slice none 0 0,.int .i64 0] 149 (0,0));rw[show (w.alloc (.cells #[.slice A0_0 l0_0.length c0_0,.int .i64 a0_1] 149 (0,0))).heap.size=w.heap.size+1 by simp] at this;exact this) hb)
 have HB:=ah.mk (ak (aj (aj (Below.refl w.heap.size w) _) _) hb)
 clear hb hcan
 have hz0:w1.cell? ⟨w.heap.size,0,none⟩=some (.slice A0_0 l0_0.length c0_0):=av BK0.o 0
 have hz1:w1.cell? ⟨w.heap.size,1,none⟩=some (.int .i64 a0_1):=av BK0.o 1
 have hy0:w1.cell? ⟨w.heap.size+1,0,none⟩=some (.slice none 0 0):=av BK1.o 0
 have hy1:w1.cell? ⟨w.heap.size+1,1,none⟩=some (.int .i64 0):=av BK1.o 1
 have hf0:=aC BK1.o 0
 have hf1:=aC BK1.o 1
 by_cases hbad:b=false∨a2<0∨64<a2
 ·have hr:r1=[]∧r2=0∧r3=1:=by
   have h_:=H.o
   split at h_
   case isFalse=>simp only[Option.some.injEq,Prod.mk.injEq] at h_;obtain⟨rfl,rfl,rfl⟩:=h_;exact⟨rfl,rfl,rfl⟩
   case isTrue hb1=>
    split at h_
    case isTrue=>simp only[Option.some.injEq,Prod.mk.injEq] at h_;obtain⟨rfl,rfl,rfl⟩:=h_;exact⟨rfl,rfl,rfl⟩
    case isFalse h1=>
     split at h_
     case isTrue=>simp only[Option.some.injEq,Prod.mk.injEq] at h_;obtain⟨rfl,rfl,rfl⟩:=h_;exact⟨rfl,rfl,rfl⟩
     case isFalse h2=>rcases hbad with h3 | h3 | h3<;>simp_all
  obtain⟨rfl,rfl,rfl⟩:=hr
  clear H
  have key:∀ (d1 d2:Bool),decide (a2<0)=d1→decide (64<a2)=d2→(b=false∨d1=true∨d2=true)→True:=fun _ _ _ _ _=>trivial
  rcases Bool.eq_false_or_eq_true b with rfl | rfl
  ·by_cases h1:a2<0
   ·have hd1:decide (a2<0)=true:=decide_eq_true h1
    clear hbad h1 key
    go_wp2_with (fail)
    refine bodyPost_ret (jc rfl _ _ (w.heap.size+1) 149 #[.slice none 0 0,.int .i64 0] (0,0) _ rfl (by (with_reducible repeat (first | refine bC ?_ _ | refine bg ?_ | refine aU ?_ _));refine bK (cs := #[.slice none 0 0,.int .i64 0]) ?_ 1 _ rfl;refine bK (cs := #[.slice none 0 0,.int .i64 0]) ?_ 0 _ rfl;exact BK1.o) Tryz.underlying149 rfl (by kernel_rfl)) rfl ?_
    exact⟨_,rfl,Kd.fP _ _ _ _ _,(HB.o.setCell (p:=⟨w.heap.size+1,0,none⟩) (by simp) _).setCell (p:=⟨w.heap.size+1,1,none⟩) (by simp) _⟩
   ·have hd1:decide (a2<0)=false:=decide_eq_false h1
    have hd2:decide (64<a2)=true:=decide_eq_true (by rcases hbad with h | h | h;cases h;exact absurd h h1;exact h)
    clear hbad h1 key
    go_wp2_with (fail)
    refine bodyPost_ret (jc rfl _ _ (w.heap.size+1) 149 #[.slice none 0 0,.int .i64 0] (0,0) _ rfl (by (with_reducible repeat (first | refine bC ?_ _ | refine bg ?_ | refine aU ?_ _));refine bK (cs := #[.slice none 0 0,.int .i64 0]) ?_ 1 _ rfl;refine bK (cs := #[.slice none 0 0,.int .i64 0]) ?_ 0 _ rfl;exact BK1.o) Tryz.underlying149 rfl (by kernel_rfl)) rfl ?_
    exact⟨_,rfl,Kd.fP _ _ _ _ _,(HB.o.setCell (p:=⟨w.heap.size+1,0,none⟩) (by simp) _).setCell (p:=⟨w.heap.size+1,1,none⟩) (by simp) _⟩
  ·clear hbad key
   go_wp2_with (fail)
   refine bodyPost_ret (jc rfl _ _ (w.heap.size+1) 149 #[.slice none 0 0,.int .i64 0] (0,0) _ rfl (by (with_reducible repeat (first | refine bC ?_ _ | refine bg ?_ | refine aU ?_ _));refine bK (cs := #[.slice none 0 0,.int .i64 0]) ?_ 1 _ rfl;refine bK (cs := #[.slice none 0 0,.int .i64 0]) ?_ 0 _ rfl;exact BK1.o) Tryz.underlying149 rfl (by kernel_rfl)) rfl ?_
   exact⟨_,rfl,Kd.fP _ _ _ _ _,(HB.o.setCell (p:=⟨w.heap.size+1,0,none⟩) (by simp) _).setCell (p:=⟨w.heap.size+1,1,none⟩) (by simp) _⟩
 ·obtain⟨rfl,h1,h2⟩:b=true∧¬ a2<0∧¬ 64<a2:=by
   refine⟨?_,fun h=>hbad (.inr (.inl h)),fun h=>hbad (.inr (.inr h))⟩
   cases b<;>simp_all
  have h_:=H.o
  rw[if_pos rfl,if_neg h1,if_neg h2] at h_
  obtain⟨⟨q1,q2⟩,hadd,h_⟩:=Option.bind_eq_some_iff.mp h_
  simp only[Option.some.injEq,Prod.mk.injEq] at h_
  obtain⟨rfl,rfl,rfl⟩:=h_
  have hd1:decide (a2<0)=false:=decide_eq_false h1
  have hd2:decide (64<a2)=false:=decide_eq_false h2
  have HADD:=ah.mk hadd
  clear hbad h1 h2 H hadd h_ h
  go_upto_region 3 with (fail)
  go_cut [8] (fun v8 wc=>∃ (gy:Nat) (v:Value),v8 = .pointer (some ⟨gy,0,none⟩)∧ah (wc.heap[gy]? = some (.cells #[v,.int .i64 a0_1] 149 (0,0)))∧ah (Kd.R (Kd.int .u8) 5 wc w.heap.size (fun _=>True) v l0_0)∧ah (wc.heap[w.heap.size+1]? = some (.cells #[.slice none 0 0,.int .i64 0] 149 (0,0)))∧ah (Below w.heap.size w wc)∧ah (w.heap.size+1<gy))
  case first=>
   have hs0:=dO BK0.o
   have hs1:=dO BK1.o
   have HCL:ah (dx.f l0_0=some l0_0):=⟨by unfold dx.f G.dx.f;rw[if_pos (by have:=HL.o;omega)]⟩
   go_region_with (first
    | (go_at_call 142;(with_reducible refine (dx.calls A0_0 c0_0 l0_0 l0_0 w1.drew ?c1 HC.o HCL.o).mono ?_);(case c1=>exact Kd.dF (Kd.aH HR.o HB.o));rintro e w2 ⟨v,rfl,ho,hb⟩;have hz1:w2.cell? ⟨w.heap.size,1,none⟩=some (.int .i64 a0_1):=av (aG (bg BK0.o) hb) 1;have HO:=ah.mk (Kd.dW ho (aZ (aD HB.o)));have HB2:=ah.mk (ak (aD HB.o) hb);have BK2:=ah.mk (aG (bg BK1.o) hb);have hs3:=Nat.lt_of_lt_of_le hs0 hb.size;have hs4:=Nat.lt_of_lt_of_le hs1 hb.size;have hs5:w.heap.size<w2.heap.size:=hs3;obtain⟨A2,c2,e2⟩:=Kd.bD HO.o;subst e2;clear ho hb)
    | (go_at_call 142;(with_reducible refine (dx.calls A0_0 c0_0 l0_0 l0_0 (w1.alloc (.cells #[.slice none 0 0,.int .i64 0] 149)).drew ?c1 HC.o HCL.o).mono ?_);(case c1=>exact Kd.dF (Kd.bW (Kd.aH HR.o HB.o) _));rintro e w2 ⟨v,rfl,ho,hb⟩;have hz1:w2.cell? ⟨w.heap.size,1,none⟩=some (.int .i64 a0_1):=av (aG (bg (aU BK0.o _)) hb) 1;have HO:=ah.mk (Kd.dW ho (aZ (aD (aj HB.o _))));have HB2:=ah.mk (ak (aD (aj HB.o _)) hb);have BK2:=ah.mk (aG (bg (aU BK1.o _)) hb);have BKY:=ah.mk (aG (bg (bI w1 (.cells #[.slice none 0 0,.int .i64 0] 149))) hb);have hy2:w2.cell? ⟨w1.heap.size,0,none⟩=some (.slice none 0 0):=av BKY.o 0;have hy3:w2.cell? ⟨w1.heap.size,1,none⟩=some (.int .i64 0):=av BKY.o 1;have hy4:w2.frozen? ⟨w1.heap.size,0,none⟩=false:=aC BKY.o 0;have hy5:w2.frozen? ⟨w1.heap.size,1,none⟩=false:=aC BKY.o 1;obtain⟨A2,c2,e2⟩:=Kd.bD HO.o;subst e2;clear ho hb))
   all_goals
    go_wp2_with fail
    go_meet
    case rel=>first
     | exact⟨w2.heap.size,.slice A2 l0_0.length c2,rfl,⟨bI w2 _⟩,⟨Kd.j4 HO.o _⟩,⟨aU BK2.o _⟩,⟨aj HB2.o _⟩,⟨hs4⟩⟩
     | exact⟨w1.heap.size,.slice A2 l0_0.length c2,rfl,⟨bK (cs := #[.slice A2 l0_0.length c2,.int .i64 0]) (bK (cs := #[.slice none 0 0,.int .i64 0]) BKY.o 0 _ rfl) 1 _ rfl⟩,⟨Kd.dL (Kd.gF (p:=⟨w1.heap.size,1,none⟩) (Kd.gF (p:=⟨w1.heap.size,0,none⟩) (Kd.kW HO.o BKY.o (by decide)) (fun _ hk=>hk.2) _) (fun _ hk=>hk.2) _) (fun _ _=>trivial)⟩,⟨iy (p:=⟨w1.heap.size,1,none⟩) (iy (p:=⟨w1.heap.size,0,none⟩) BK2.o (Nat.ne_of_lt hs1) _) (Nat.ne_of_lt hs1) _⟩,⟨(HB2.o.setCell (p:=⟨w1.heap.size,0,none⟩) (aZ HB.o) _).setCell (p:=⟨w1.heap.size,1,none⟩) (aZ HB.o) _⟩,⟨hs1⟩⟩
  case rest=>
   clear BK0 BK1 hz0 hz1 hy0 hy1 hf0 hf1 HB
   obtain⟨gy,v,rfl,BKY,HO,BK1,HB,HGY⟩:=hcut
   go_wp2_with (fail)
   refine (dJ.calls w.heap.size gy w v l0_0 a0_1 a1 a2 q1 q2 wc HO.o BKY.o (by have:=HGY.o;omega) HB.o HADD.o).mono ?_
   rintro e w3 ⟨v3,rfl,hg3,ho3,hb3,hk3⟩
   have BKY3:=ah.mk hg3
   have HO3:=ah.mk ho3
   have HB3:=ah.mk hb3
   have BK3:=ah.mk (hk3 _ _ _ (Nat.ne_of_lt HGY.o) (by decide) BK1.o)
   clear hg3 ho3 hb3 hk3 BKY HO HB BK1
   have hne:=Nat.ne_of_lt HGY.o
   have hne':=Ne.symm hne
   obtain⟨A3,c3,e3⟩:=Kd.bD HO3.o
   subst e3
   have hz0:w3.cell? ⟨gy,0,none⟩=some (.slice A3 q1.length c3):=av BKY3.o 0
   have hz1:w3.cell? ⟨gy,1,none⟩=some (.int .i64 q2):=av BKY3.o 1
   have hy0:w3.cell? ⟨w.heap.size+1,0,none⟩=some (.slice none 0 0):=av BK3.o 0
   have hy1:w3.cell? ⟨w.heap.size+1,1,none⟩=some (.int .i64 0):=av BK3.o 1
   have hf0:=aC BK3.o 0
   have hf1:=aC BK3.o 1
   go_wp2_with (fail)
   refine bodyPost_ret (jc rfl _ _ (w.heap.size+1) 149 #[.slice A3 q1.length c3,.int .i64 q2] (0,0) _ rfl (by (with_reducible repeat (first | refine bC ?_ _ | refine bg ?_ | refine aU ?_ _));refine bK (cs := #[.slice A3 q1.length c3,.int .i64 0]) ?_ 1 _ rfl;refine bK (cs := #[.slice none 0 0,.int .i64 0]) ?_ 0 _ rfl;exact BK3.o) Tryz.underlying149 rfl (by kernel_rfl)) rfl ?_
   exact⟨_,rfl,Kd.dL (Kd.gF (p:=⟨w.heap.size+1,1,none⟩) (Kd.gF (p:=⟨w.heap.size+1,0,none⟩) (Kd.kW HO3.o BK3.o (by decide)) (fun _ hk=>hk.2) _) (fun _ hk=>hk.2) _) (fun _ _=>trivial),(HB3.o.setCell (p:=⟨w.heap.size+1,0,none⟩) (by simp) _).setCell (p:=⟨w.heap.size+1,1,none⟩) (by simp) _⟩
def dz (n:Int):Int:=if n=0 then 0 else if -64≤n∧n<64 then 1 else if -2048≤n∧n<2048 then 2 else if -2147483648≤n∧n<2147483648 then 3 else 4
def eD (k:Int):Int:=if k=1 then 7 else if k=2 then 12 else if k=3 then 32 else if k=4 then 64 else 0
theorem kr (n:Int):0≤dz n∧dz n≤4:=by
 unfold dz
 repeat' split
 all_goals omega
theorem BL (n:Int):aY.f 8 n=some (dz n):=by
 have e1:wrap64 1=1:=by decide +kernel
 have e2:wrap64 2=2:=by decide +kernel
 have e3:wrap64 3=3:=by decide +kernel
 unfold aY.f dz
 by_cases a1:n=0<;>by_cases a2 : -64≤n<;>by_cases a3:n<64<;>by_cases a4 : -2048≤n<;>by_cases a5:n<2048<;>by_cases a6 : -2147483648≤n<;>by_cases a7:n<2147483648
 all_goals first
  | (exfalso;omega)
  | simp[aY.j0,aY.j1,e1,e2,e3,a1,a2,a3,a4,a5,a6,a7]
theorem xG (k:Int):fG.f k=some (eD k):=by
 unfold fG.f eD
 repeat' split
 all_goals first | rfl | omega
def je.f (l:List Int) (a0 a1:Int):Option (List Int × Int × Int):=
 if l.length≤900000000 then (bZ.f l a0).bind fun b=>if b=true then
  (dJ.f l a0 (IntKind.u64.wrap (shl .u64 1 (dz a1)-1)) (dz a1)).bind fun r=>
   (if dz a1<4 then dJ.f r.1 r.2 0 1 else some r).bind fun s=>
    (dJ.f s.1 s.2 (IntKind.u64.wrap a1) (eD (dz a1))).bind fun t=>some (t.1,t.2,0)
  else some ([],0,1)
 else none
theorem je.calls (A0_0:Option Addr) (c0_0:Nat) (l0_0:List Int) (a0_1:Int) (a1:Int) (r1:List Int) (r2:Int) (r3:Int) (w:World) (hr0_0:Kd.C (Kd.int .u8) w A0_0 l0_0.length l0_0) (hc0_0:l0_0.length≤c0_0) (h:je.f l0_0 a0_1 a1=some (r1,r2,r3)) :
 Calls Tryz.prog 124 #[.agg #[.slice A0_0 l0_0.length c0_0,.int .i64 a0_1],.int .i64 a1] w fun e w'=>∃ v0_:Value,e = .returned (.tuple #[.agg #[v0_,.int .i64 r2],.int .i64 r3])∧Kd.R (Kd.int .u8) 5 w' w.heap.size (fun _=>True) v0_ r1∧Below w.heap.size w w':=by
 have hu24:=Tryz.underlying149
 unfold je.f at h
 split at h
 case isFalse=>cases h
 case isTrue hlen=>
 obtain⟨b,hcan,h⟩:=Option.bind_eq_some_iff.mp h
 have HR:=ah.mk hr0_0
 have HC:=ah.mk hc0_0
 have HL:=ah.mk hlen
 have H:=ah.mk h
 clear hr0_0 hc0_0 hlen h
 go_enter Tryz.func124,Tryz.ntmps124
 go_wp2_with (fail)
 refine (bZ.calls A0_0 c0_0 l0_0 a0_1 b _ ?c1 HC.o hcan).mono ?_
 case c1=>exact Kd.bW (Kd.bW HR.o _) _
 rintro e w1 ⟨rfl,hb⟩
 have BK0:=ah.mk (aG (g:=w.heap.size) (o := .cells #[.slice A0_0 l0_0.length c0_0,.int .i64 a0_1] 149 (0,0)) (aU (bI w _) _) hb)
 have BK1:=ah.mk (aG (g:=w.heap.size+1) (o := .cells #[.slice none 0 0,.int .i64 0] 149 (0,0)) (by have:=bI (w.alloc (.cells #[.slice A0_0 l0_0.length c0_0,.int .i64 a0_1] 149 (0,0))) (.cells #[.slice none 0 0,.int .i64 0] 149 (0,0));rw[show (w.alloc (.cells #[.slice A0_0 l0_0.length c0_0,.int .i64 a0_1] 149 (0,0))).heap.size=w.heap.size+1 by simp] at this;exact this) hb)
 have HB:=ah.mk (ak (aj (aj (Below.refl w.heap.size w) _) _) hb)
 clear hb hcan
 have hz0:w1.cell? ⟨w.heap.size,0,none⟩=some (.slice A0_0 l0_0.length c0_0):=av BK0.o 0
 have hz1:w1.cell? ⟨w.heap.size,1,none⟩=some (.int .i64 a0_1):=av BK0.o 1
 have hy0:w1.cell? ⟨w.heap.size+1,0,none⟩=some (.slice none 0 0):=av BK1.o 0
 have hy1:w1.cell? ⟨w.heap.size+1,1,none⟩=some (.int .i64 0):=av BK1.o 1
 have hf0:=aC BK1.o 0
 have hf1:=aC BK1.o 1
 rcases Bool.eq_false_or_eq_true b with rfl | rfl
 case inr=>
  have hr:r1=[]∧r2=0∧r3=1:=by
   have h_:=H.o
   rw[if_neg (by decide)] at h_
   simp only[Option.some.injEq,Prod.mk.injEq] at h_;obtain⟨rfl,rfl,rfl⟩:=h_;exact⟨rfl,rfl,rfl⟩
  obtain⟨rfl,rfl,rfl⟩:=hr
  clear H
  go_wp2_with (fail)
  refine bodyPost_ret (jc rfl _ _ (w.heap.size+1) 149 #[.slice none 0 0,.int .i64 0] (0,0) _ rfl (by (with_reducible repeat (first | refine bC ?_ _ | refine bg ?_ | refine aU ?_ _));refine bK (cs := #[.slice none 0 0,.int .i64 0]) ?_ 1 _ rfl;refine bK (cs := #[.slice none 0 0,.int .i64 0]) ?_ 0 _ rfl;exact BK1.o) Tryz.underlying149 rfl (by kernel_rfl)) rfl ?_
  exact⟨_,rfl,Kd.fP _ _ _ _ _,(HB.o.setCell (p:=⟨w.heap.size+1,0,none⟩) (by simp) _).setCell (p:=⟨w.heap.size+1,1,none⟩) (by simp) _⟩
 case inl=>
  have h0_:=H.o
  rw[if_pos rfl] at h0_
  obtain⟨⟨s1,s2⟩,hadd1,h1_⟩:=Option.bind_eq_some_iff.mp h0_
  obtain⟨⟨s3,s4⟩,hadd2,h2_⟩:=Option.bind_eq_some_iff.mp h1_
  obtain⟨⟨q1,q2⟩,hadd3,h3_⟩:=Option.bind_eq_some_iff.mp h2_
  simp only[Option.some.injEq,Prod.mk.injEq] at h3_
  obtain⟨rfl,rfl,rfl⟩:=h3_
  have HADD1:=ah.mk hadd1
  have HADD2:=ah.mk hadd2
  have HADD3:=ah.mk hadd3
  clear H hadd1 hadd2 hadd3 h0_ h1_ h2_ h
  go_upto_region 3 with (fail)
  go_cut [6] (fun v6 wc=>∃ (gy:Nat) (v:Value),v6 = .pointer (some ⟨gy,0,none⟩)∧ah (wc.heap[gy]? = some (.cells #[v,.int .i64 a0_1] 149 (0,0)))∧ah (Kd.R (Kd.int .u8) 5 wc w.heap.size (fun _=>True) v l0_0)∧ah (wc.heap[w.heap.size+1]? = some (.cells #[.slice none 0 0,.int .i64 0] 149 (0,0)))∧ah (Below w.heap.size w wc)∧ah (w.heap.size+1<gy))
  case first=>
   have hs0:=dO BK0.o
   have hs1:=dO BK1.o
   have HCL:ah (dx.f l0_0=some l0_0):=⟨by unfold dx.f G.dx.f;rw[if_pos (by have:=HL.o;omega)]⟩
   go_region_with (first
    | (go_at_call 142;(with_reducible refine (dx.calls A0_0 c0_0 l0_0 l0_0 w1.drew ?c1 HC.o HCL.o).mono ?_);(case c1=>exact Kd.dF (Kd.aH HR.o HB.o));rintro e w2 ⟨v,rfl,ho,hb⟩;have hz1:w2.cell? ⟨w.heap.size,1,none⟩=some (.int .i64 a0_1):=av (aG (bg BK0.o) hb) 1;have HO:=ah.mk (Kd.dW ho (aZ (aD HB.o)));have HB2:=ah.mk (ak (aD HB.o) hb);have BK2:=ah.mk (aG (bg BK1.o) hb);have hs3:=Nat.lt_of_lt_of_le hs0 hb.size;have hs4:=Nat.lt_of_lt_of_le hs1 hb.size;have hs5:w.heap.size<w2.heap.size:=hs3;obtain⟨A2,c2,e2⟩:=Kd.bD HO.o;subst e2;clear ho hb)
    | (go_at_call 142;(with_reducible refine (dx.calls A0_0 c0_0 l0_0 l0_0 (w1.alloc (.cells #[.slice none 0 0,.int .i64 0] 149)).drew ?c1 HC.o HCL.o).mono ?_);(case c1=>exact Kd.dF (Kd.bW (Kd.aH HR.o HB.o) _));rintro e w2 ⟨v,rfl,ho,hb⟩;have hz1:w2.cell? ⟨w.heap.size,1,none⟩=some (.int .i64 a0_1):=av (aG (bg (aU BK0.o _)) hb) 1;have HO:=ah.mk (Kd.dW ho (aZ (aD (aj HB.o _))));have HB2:=ah.mk (ak (aD (aj HB.o _)) hb);have BK2:=ah.mk (aG (bg (aU BK1.o _)) hb);have BKY:=ah.mk (aG (bg (bI w1 (.cells #[.slice none 0 0,.int .i64 0] 149))) hb);have hy2:w2.cell? ⟨w1.heap.size,0,none⟩=some (.slice none 0 0):=av BKY.o 0;have hy3:w2.cell? ⟨w1.heap.size,1,none⟩=some (.int .i64 0):=av BKY.o 1;have hy4:w2.frozen? ⟨w1.heap.size,0,none⟩=false:=aC BKY.o 0;have hy5:w2.frozen? ⟨w1.heap.size,1,none⟩=false:=aC BKY.o 1;obtain⟨A2,c2,e2⟩:=Kd.bD HO.o;subst e2;clear ho hb))
   all_goals
    go_wp2_with fail
    go_meet
    case rel=>first
     | exact⟨w2.heap.size,.slice A2 l0_0.length c2,rfl,⟨bI w2 _⟩,⟨Kd.j4 HO.o _⟩,⟨aU BK2.o _⟩,⟨aj HB2.o _⟩,⟨hs4⟩⟩
     | exact⟨w1.heap.size,.slice A2 l0_0.length c2,rfl,⟨bK (cs := #[.slice A2 l0_0.length c2,.int .i64 0]) (bK (cs := #[.slice none 0 0,.int .i64 0]) BKY.o 0 _ rfl) 1 _ rfl⟩,⟨Kd.dL (Kd.gF (p:=⟨w1.heap.size,1,none⟩) (Kd.gF (p:=⟨w1.heap.size,0,none⟩) (Kd.kW HO.o BKY.o (by decide)) (fun _ hk=>hk.2) _) (fun _ hk=>hk.2) _) (fun _ _=>trivial)⟩,⟨iy (p:=⟨w1.heap.size,1,none⟩) (iy (p:=⟨w1.heap.size,0,none⟩) BK2.o (Nat.ne_of_lt hs1) _) (Nat.ne_of_lt hs1) _⟩,⟨(HB2.o.setCell (p:=⟨w1.heap.size,0,none⟩) (aZ HB.o) _).setCell (p:=⟨w1.heap.size,1,none⟩) (aZ HB.o) _⟩,⟨hs1⟩⟩
  case rest=>
   clear BK0 BK1 hz0 hz1 hy0 hy1 hf0 hf1 HB
   obtain⟨gy,v,rfl,BKY,HO,BK1,HB,HGY⟩:=hcut
   have hsz1:=dO BK1.o
   go_wp2_with (fail)
   refine (aY.calls 8 a1 _ _ (BL a1)).mono ?_
   rintro e w3 ⟨rfl,⟨n3,rfl⟩⟩
   have HCL:=ah.mk (kr a1)
   have HA1:=HADD1
   generalize dz a1=k at HCL HADD1 HADD2 HADD3 HA1
   have hk0:=eq_true HCL.o.1
   obtain⟨S2,hS2⟩:∃ S,shl .u64 1 k=S:=⟨_,rfl⟩
   have hS2u:IntKind.u64.wrap (2 ^ min k.toNat 64)=S2:=by have h_:IntKind.u64.wrap (1*2 ^ min k.toNat 64)=S2:=hS2;rw[Int.one_mul] at h_;exact h_
   have hS2v:k≤64→IntKind.u64.wrap (2 ^ k.toNat)=S2:=fun hle_=>by have h_:=jD (k := .u64) hS2 hle_;rw[Int.one_mul] at h_;exact h_
   replace HADD1:ah (dJ.f l0_0 a0_1 (IntKind.u64.wrap (S2-1)) k=some (s1,s2)):=⟨by rw[← hS2];exact HADD1.o⟩
   clear HA1 hS2
   go_wp2_with (fail)
   refine (dJ.calls w.heap.size gy w _ l0_0 a0_1 (IntKind.u64.wrap (S2-1)) k s1 s2 _ (Kd.nZ HO.o n3) (bC BKY.o n3) (by have:=HGY.o;omega) (ay HB.o n3) HADD1.o).mono ?_
   rintro e w4 ⟨v4,rfl,hg3,ho3,hb3,hk3⟩
   have BKY4:=ah.mk hg3
   have HO4:=ah.mk ho3
   have HB4:=ah.mk hb3
   have BK4:=ah.mk (hk3 _ _ _ (Nat.ne_of_lt HGY.o) (by decide) (bC BK1.o n3))
   clear hg3 ho3 hb3 hk3
   clear BKY HO HB BK1 HADD1
   by_cases hk4:k<4
   ·have hd4:decide (k<4)=true:=decide_eq_true hk4
    replace HADD2:ah (dJ.f s1 s2 0 1=some (s3,s4)):=⟨by have h_:=HADD2.o;rw[if_pos hk4] at h_;exact h_⟩
    clear hk4
    go_wp2_with (fail)
    refine (dJ.calls w.heap.size gy w _ s1 s2 0 1 s3 s4 _ HO4.o BKY4.o (by have:=HGY.o;omega) HB4.o HADD2.o).mono ?_
    rintro e w5 ⟨v5,rfl,hg3,ho3,hb3,hk3⟩
    have BKY5:=ah.mk hg3
    have HO5:=ah.mk ho3
    have HB5:=ah.mk hb3
    have BK5:=ah.mk (hk3 _ _ _ (Nat.ne_of_lt HGY.o) (by decide) BK4.o)
    clear hg3 ho3 hb3 hk3
    go_wp2_with (fail)
    refine (fG.calls k _ _ (xG k)).mono ?_
    rintro e wq ⟨rfl,⟨nq,rfl⟩⟩
    go_wp2_with (fail)
    refine (dJ.calls w.heap.size gy w _ s3 s4 (IntKind.u64.wrap a1) (eD k) q1 q2 _ (Kd.nZ HO5.o _) (bC BKY5.o _) (by have:=HGY.o;omega) (ay HB5.o _) HADD3.o).mono ?_
    rintro e w9 ⟨v9,rfl,hg3,ho3,hb3,hk3⟩
    have BKY9:=ah.mk hg3
    have HO9:=ah.mk ho3
    have HB9:=ah.mk hb3
    have BK9:=ah.mk (hk3 _ _ _ (Nat.ne_of_lt HGY.o) (by decide) (bC BK5.o _))
    clear hg3 ho3 hb3 hk3
    have hne:=Nat.ne_of_lt HGY.o
    have hne':=Ne.symm hne
    obtain⟨A3,c3,e3⟩:=Kd.bD HO9.o
    subst e3
    have hz0:w9.cell? ⟨gy,0,none⟩=some (.slice A3 q1.length c3):=av BKY9.o 0
    have hz1:w9.cell? ⟨gy,1,none⟩=some (.int .i64 q2):=av BKY9.o 1
    have hy0:w9.cell? ⟨w.heap.size+1,0,none⟩=some (.slice none 0 0):=av BK9.o 0
    have hy1:w9.cell? ⟨w.heap.size+1,1,none⟩=some (.int .i64 0):=av BK9.o 1
    have hf0:=aC BK9.o 0
    have hf1:=aC BK9.o 1
    go_wp2_with (fail)
    refine bodyPost_ret (jc rfl _ _ (w.heap.size+1) 149 #[.slice A3 q1.length c3,.int .i64 q2] (0,0) _ rfl (by (with_reducible repeat (first | refine bC ?_ _ | refine bg ?_ | refine aU ?_ _));refine bK (cs := #[.slice A3 q1.length c3,.int .i64 0]) ?_ 1 _ rfl;refine bK (cs := #[.slice none 0 0,.int .i64 0]) ?_ 0 _ rfl;exact BK9.o) Tryz.underlying149 rfl (by kernel_rfl)) rfl ?_
    exact⟨_,rfl,Kd.dL (Kd.gF (p:=⟨w.heap.size+1,1,none⟩) (Kd.gF (p:=⟨w.heap.size+1,0,none⟩) (Kd.kW HO9.o BK9.o (by decide)) (fun _ hk=>hk.2) _) (fun _ hk=>hk.2) _) (fun _ _=>trivial),(HB9.o.setCell (p:=⟨w.heap.size+1,0,none⟩) (by simp) _).setCell (p:=⟨w.heap.size+1,1,none⟩) (by simp) _⟩
   ·have hd4:decide (k<4)=false:=decide_eq_false hk4
    have he:s1=s3∧s2=s4:=by have h_:=HADD2.o;rw[if_neg hk4] at h_;simpa using h_
    obtain⟨rfl,rfl⟩:=he
    clear hk4 HADD2
    go_wp2_with (fail)
    refine (fG.calls k _ _ (xG k)).mono ?_
    rintro e wq ⟨rfl,⟨nq,rfl⟩⟩
    go_wp2_with (fail)
    refine (dJ.calls w.heap.size gy w _ s1 s2 (IntKind.u64.wrap a1) (eD k) q1 q2 _ (Kd.nZ HO4.o _) (bC BKY4.o _) (by have:=HGY.o;omega) (ay HB4.o _) HADD3.o).mono ?_
    rintro e w9 ⟨v9,rfl,hg3,ho3,hb3,hk3⟩
    have BKY9:=ah.mk hg3
    have HO9:=ah.mk ho3
    have HB9:=ah.mk hb3
    have BK9:=ah.mk (hk3 _ _ _ (Nat.ne_of_lt HGY.o) (by decide) (bC BK4.o _))
    clear hg3 ho3 hb3 hk3
    have hne:=Nat.ne_of_lt HGY.o
    have hne':=Ne.symm hne
    obtain⟨A3,c3,e3⟩:=Kd.bD HO9.o
    subst e3
    have hz0:w9.cell? ⟨gy,0,none⟩=some (.slice A3 q1.length c3):=av BKY9.o 0
    have hz1:w9.cell? ⟨gy,1,none⟩=some (.int .i64 q2):=av BKY9.o 1
    have hy0:w9.cell? ⟨w.heap.size+1,0,none⟩=some (.slice none 0 0):=av BK9.o 0
    have hy1:w9.cell? ⟨w.heap.size+1,1,none⟩=some (.int .i64 0):=av BK9.o 1
    have hf0:=aC BK9.o 0
    have hf1:=aC BK9.o 1
    go_wp2_with (fail)
    refine bodyPost_ret (jc rfl _ _ (w.heap.size+1) 149 #[.slice A3 q1.length c3,.int .i64 q2] (0,0) _ rfl (by (with_reducible repeat (first | refine bC ?_ _ | refine bg ?_ | refine aU ?_ _));refine bK (cs := #[.slice A3 q1.length c3,.int .i64 0]) ?_ 1 _ rfl;refine bK (cs := #[.slice none 0 0,.int .i64 0]) ?_ 0 _ rfl;exact BK9.o) Tryz.underlying149 rfl (by kernel_rfl)) rfl ?_
    exact⟨_,rfl,Kd.dL (Kd.gF (p:=⟨w.heap.size+1,1,none⟩) (Kd.gF (p:=⟨w.heap.size+1,0,none⟩) (Kd.kW HO9.o BK9.o (by decide)) (fun _ hk=>hk.2) _) (fun _ hk=>hk.2) _) (fun _ _=>trivial),(HB9.o.setCell (p:=⟨w.heap.size+1,0,none⟩) (by simp) _).setCell (p:=⟨w.heap.size+1,1,none⟩) (by simp) _⟩
end Go.Proofs.YtcgbgifbajdhpaaGreatDoor.PA
