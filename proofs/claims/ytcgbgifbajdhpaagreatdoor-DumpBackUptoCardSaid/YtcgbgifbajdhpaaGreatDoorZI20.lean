/- Of the law rZIQDumpBack. -/
import Derived.Test.YtcgbgifbajdhpaaGreatDoorZI7
import Derived.RangeFuncNested
import Derived.RangeFuncBound
import Derived.Shelf.RegionOpen
import Derived.OwnWalkIn
import Derived.LoopNIn
import Derived.LoopIn
import Derived.Lib.QuietBelowIn
set_option linter.unusedVariables false
set_option linter.unusedSimpArgs false
set_option maxHeartbeats 4000000
set_option maxRecDepth 100000
namespace Go
abbrev bX:=@Go.bodyPost_ret
abbrev fM:=@List.length_nil
abbrev gH:=@List.cons_append
abbrev gM:=@Go.results_none
abbrev jW:=@Nat.add_sub_cancel_left
abbrev lX:=@Go.World.putObj_heap_other
abbrev oz:=@List.range_succ
end Go
namespace Go.Proofs.Y.PA
open Go.RowKit Go.Proofs.Y.G Go.Proofs.YW.o7 Go.Proofs.YW.pJ Go.Proofs.YW.pO
attribute [local go_sem] Oper.semAt_some
abbrev Part (len:Nat):={ j:Nat // j*20<len }
def zq (len j:Nat):Nat:=min 20 (len-j*20)
def vU {len:Nat}(ys:List (Part len)):List Nat:=ys.map fun y=>y.1
theorem zU {len:Nat}(ys:List (Part len))(x:Part len):vU (ys++[x])=vU ys++[x.1]:=by simp[vU]
theorem Bu {len:Nat}(ys:List (Part len)):(vU ys).length=ys.length:=by simp[vU]
def wJ (B1 B2:Nat)(W W':World):Prop:=W'.heap[B1]? = W.heap[B1]? ∧ W'.heap[B2]? = W.heap[B2]?
theorem wJ.refl (B1 B2:Nat)(W:World):wJ B1 B2 W W:=⟨rfl,rfl⟩
theorem wJ.trans {B1 B2:Nat}{a b c:World}(h:wJ B1 B2 a b)(k:wJ B1 B2 b c):wJ B1 B2 a c:=⟨k.1.trans h.1,k.2.trans h.2⟩
theorem wJ.cell1 {B1 B2:Nat}{a b:World}(h:wJ B1 B2 a b):b.cell? ⟨B1,0,none⟩=a.cell? ⟨B1,0,none⟩:=World.cell?_of_block h.1
theorem wJ.R9 {B1 B2:Nat}{a b:World}(h:wJ B1 B2 a b):b.cell? ⟨B2,0,none⟩=a.cell? ⟨B2,0,none⟩:=World.cell?_of_block h.2
theorem U6 {B1 B2:Nat}{w:World}(h1:B1<w.heap.size)(h2:B2<w.heap.size)(W:World)(l:Nat)(o o':Obj)(hl:w.heap.size≤l)(h:W.heap[l]? = some o)(_:o.isCells=false)(_:o.isWalk=false):wJ B1 B2 W (W.putObj l o'):=
 ⟨lX (by omega),lX (by omega)⟩
def Wh (len:Nat)(J Jx:List (Part len)→World→Prop)(e:Ending)(W':World):Prop:=(∃ v,e = .returned v)∧((∃ ys:List (Part len),vU ys=List.range ((len+19) / 20)∧J ys W')∨(∃ pre,True∧Jx pre W'))
def LH (ad:Addr)(len:Nat)(x:Part len):Array Value := #[.slice (some (ad.add (x.1*20*2))) (zq len x.1) (zq len x.1)]
theorem OW:∃ i,Tryz.prog.info? 70=some i∧i.size=2:=by
 obtain⟨i,hi,hz⟩:=Option.map_eq_some_iff.1 yj;simp only[dB] at hz;exact⟨i,hi,hz.2.1⟩
theorem XD (ad:Addr)(len c lo hi:Nat)(h1:lo<hi)(h2:hi≤len)(hc:len≤c)(i j:Int)(hi':i=(lo:Int))(hj':j=(hi:Int))(W:World) :
 (Instr.slice 49 (.slice (some ad) len c) (some (.int .i64 i)) (some (.int .i64 j)) (some (.int .i64 j))).run Tryz.prog W = .ok (.slice (some (ad.add (lo*2))) (hi-lo) (hi-lo)) W:=by
 subst hi' hj';obtain⟨i0,hi0,hsz⟩:=OW;have hu:=Tryz.underlying49;have hel:Tryz.prog.elem 49=70:=by simp[Program.elem,hu]
 have hu':Tryz.prog.underlying 49=some (.slice (Tryz.prog.elem 49)):=by rw[hel];exact hu
 rw[run_slice_lhm W 49 (some ad) len c hu' .i64 .i64 .i64 (lo:Int) (hi:Int) (hi:Int) (by omega) (by omega) (by omega) (by omega),hel];simp[sizeOf,typeInfo,hi0,hsz,sliced,Result.andThen];omega
theorem XY (ad:Addr)(len c lo:Nat)(h1:lo≤len)(i:Int)(hi':i=(lo:Int)) :
 ∃ (A:Option Addr) (c':Nat),∀ W:World,(Instr.slice 49 (.slice (some ad) len c) (some (.int .i64 i)) none none).run Tryz.prog W = .ok (.slice A (len-lo) c') W:=by
 subst hi';refine⟨if c=lo then some ad else some (ad.add (lo*2)),c-lo,fun W=>?_⟩;obtain⟨i0,hi0,hsz⟩:=OW;have hu:=Tryz.underlying49;have hel:Tryz.prog.elem 49=70:=by simp[Program.elem,hu]
 have hu':Tryz.prog.underlying 49=some (.slice (Tryz.prog.elem 49)):=by rw[hel];exact hu
 rw[oC W 49 (some ad) len c hu' .i64 (lo:Int) (by omega) (by omega),hel];simp[sizeOf,typeInfo,hi0,hsz,sliced,Result.andThen]
theorem Nt (n:Nat)(hn:1≤n)(l B1 B2:Nat)(ad:Addr)(len c:Nat)(hlen:len≤1000000)(hc:len≤c)(J Jx:List (Part len)→World→Prop)(hJ:∀ pre W (q:Nat),J pre W→J pre (W.drewN q))
 (hY:∀ pre x W,J pre W→pre.length<(len+19) / 20→YieldAt Fence.wide (n-1) Tryz.prog l (LH ad len x) W fun e W'=>
  (e = .returned (.bool true)∧J (pre++[x]) W'∧wJ B1 B2 W W')∨(e = .returned (.bool false)∧Jx (pre++[x]) W'))
 (W:World) (hB1:W.cell? ⟨B1,0,none⟩=some (.slice (some ad) len c)) (hB2:W.cell? ⟨B2,0,none⟩=some (.int .i64 20)) (h0:J [] W) :
 CallsIn Fence.wide n Tryz.prog 90 #[.func (.yield l) #[] #[],.pointer (some ⟨B1,0,none⟩),.pointer (some ⟨B2,0,none⟩)] W (Wh len J Jx):=by
 refine callsIn_of_wp Tryz.func90 rfl dD ?_ rfl;simp only[Tryz.ntmps90,nQ,bC,fM,Nat.reduceAdd,Nat.reduceSub,Array.replicate_succ,Array.replicate_zero,List.push_toArray,List.append_toArray,dL,gH]
 gi_wp2
 gi_loopw [4] (fun i wr=>∃ (k:Nat) (pre:List (Part len)),k≤(len+19) / 20∧i = .int .i64 ((20*k:Nat):Int)∧vU pre=List.range k∧J pre wr∧wJ B1 B2 W wr)
  (fun i _=>len+20-(intOf i).toNat)
 case atStart=>exact⟨0,[],bV _,rfl,rfl,h0,wJ.refl _ _ _⟩
 case round=>
  obtain⟨k,pre,hk,rfl,hpre,hJs,hnx⟩:=hrel;have b1:=hnx.cell1.trans hB1;have b2:=hnx.R9.trans hB2
  by_cases hlt:20*k<len
  ·have hlen1:pre.length<(len+19) / 20:=by
    have:=Bu pre;rw[hpre,nR] at this;omega
   obtain⟨q,hq⟩:∃ q,zq len k=q:=⟨_,rfl⟩;have hq1:1≤q∧q≤20∧20*k+q≤len:=by unfold zq at hq;omega
   have hqm:min (20:Int) ((len-k*20:Nat):Int)=(q:Int):=by unfold zq at hq;omega
   obtain⟨AT,cT,hT⟩:=XY ad len c (20*k) (by omega) ((20*k:Nat):Int) rfl;have hmid:=fun W=>XD ad len c (20*k) (20*k+q) (by omega) (by omega) hc ((20*k:Nat):Int) (((20*k:Nat):Int)+(q:Int)) rfl (by omega) W
   rw[jW,fJ 20 k] at hmid;rw[fJ 20 k] at hT;have hq0:=hq1.1;have hq2:=hq1.2.1;have hq3:=hq1.2.2;have hw1:IntKind.i64.wrap (((k*20:Nat):Int)+(q:Int))=((k*20:Nat):Int)+(q:Int):=by rw[bI];omega
   have hw2:IntKind.i64.wrap (((k*20:Nat):Int)+20)=((k*20:Nat):Int)+20:=by rw[bI];omega
   rw[fJ 20 k] at *;have hkl:((k*20:Nat):Int)<(len:Int):=by omega
   have HN:=Yu hnx;have HQ:=Yu hq;have HP:=Yu hpre;have HJ:=Yu hJs;have HQI:=Yu hq1;have HL1:=Yu hlen1;clear hnx hq1 hJs hpre hq hlen1
   gi_wp2
   refine wpIn_wide.2 ?_
   by_cases hm:len-k*20<20
   ·obtain rfl:q=len-k*20:=by have:=HQ.o;unfold zq at this;omega
    go_quiet (fail)
    generalize hwq:wr.drewN nq=wq;have HJq:oZ (J pre wq):=⟨hwq ▸ hJ _ _ _ HJ.o⟩;have HNq:oZ (wJ B1 B2 W wq):=⟨hwq ▸ HN.o⟩;have b1q:wq.cell? ⟨B1,0,none⟩=some (.slice (some ad) len c):=hwq ▸ b1;have b2q:wq.cell? ⟨B2,0,none⟩=some (.int .i64 20):=hwq ▸ b2;clear hwq b1 b2 hm;obtain⟨fn,tmps,assign,body,hy,hR⟩:=hY pre ⟨k,by omega⟩ wq HJq.o HL1.o;dsimp only[LH] at hy;rw[HQ.o] at hy
    gi_wp2
    refine hR.mono ?_;rintro e W3 (⟨rfl,hJ3,hk3⟩ | ⟨rfl,hJx3⟩)
    ·have b2r:=hk3.R9.trans b2q;have HJ3:=Yu hJ3;have HN3:=Yu (HNq.o.trans hk3);clear hJ3 hk3
     gi_wp2
     go_roundw
     case rel=>exact⟨k+1,pre++[⟨k,by omega⟩],by omega,by first|(congr 1;omega)|(simp;omega),by rw[zU,HP.o,oz],HJ3.o,HN3.o⟩
     case measure=>simp[intOf];omega
    ·gi_wp2
     refine bX (gM rfl _ _ _) rfl ?_;exact⟨⟨_,rfl⟩,.inr ⟨_,dD,hJx3⟩⟩
   ·obtain rfl:q=20:=by have:=HQ.o;unfold zq at this;omega
    go_quiet (fail)
    generalize hwq:wr.drewN nq=wq;have HJq:oZ (J pre wq):=⟨hwq ▸ hJ _ _ _ HJ.o⟩;have HNq:oZ (wJ B1 B2 W wq):=⟨hwq ▸ HN.o⟩;have b1q:wq.cell? ⟨B1,0,none⟩=some (.slice (some ad) len c):=hwq ▸ b1;have b2q:wq.cell? ⟨B2,0,none⟩=some (.int .i64 20):=hwq ▸ b2;clear hwq b1 b2 hm;obtain⟨fn,tmps,assign,body,hy,hR⟩:=hY pre ⟨k,by omega⟩ wq HJq.o HL1.o;dsimp only[LH] at hy;rw[HQ.o] at hy
    gi_wp2
    refine hR.mono ?_;rintro e W3 (⟨rfl,hJ3,hk3⟩ | ⟨rfl,hJx3⟩)
    ·have b2r:=hk3.R9.trans b2q;have HJ3:=Yu hJ3;have HN3:=Yu (HNq.o.trans hk3);clear hJ3 hk3
     gi_wp2
     go_roundw
     case rel=>exact⟨k+1,pre++[⟨k,by omega⟩],by omega,by first|(congr 1;omega)|(simp;omega),by rw[zU,HP.o,oz],HJ3.o,HN3.o⟩
     case measure=>simp[intOf];omega
    ·gi_wp2
     refine bX (gM rfl _ _ _) rfl ?_;exact⟨⟨_,rfl⟩,.inr ⟨_,dD,hJx3⟩⟩
  ·have hlt':¬ ((20*k:Nat):Int)<(len:Int):=by omega
   have HN:=Yu hnx;have HJ:=Yu hJs;have HP:oZ (vU pre=List.range ((len+19) / 20)):=⟨by rw[hpre];congr 1;omega⟩;clear hnx hJs hpre
   gi_wp2
   go_end0;exact⟨⟨_,rfl⟩,.inl ⟨pre,HP.o,HJ.o⟩⟩
theorem Iq (n:Nat)(hn:1≤n)(B1 B2:Nat)(ad:Addr)(len c:Nat)(hlen:len≤1000000)(hc:len≤c)(w:World)(h1:B1<w.heap.size)(h2:B2<w.heap.size)(hB1:w.cell? ⟨B1,0,none⟩=some (.slice (some ad) len c))(hB2:w.cell? ⟨B2,0,none⟩=some (.int .i64 20)) :
 SeqStopsK Fence.wide n Tryz.prog 90 #[.pointer (some ⟨B1,0,none⟩),.pointer (some ⟨B2,0,none⟩)] (LH ad len) (wJ B1 B2) (fun ys=>vU ys=List.range ((len+19) / 20)) (fun _=>True) ((len+19) / 20) w:=by
 intro l J Jx W hb hJ _ hY h0;exact Nt n hn l B1 B2 ad len c hlen hc J Jx (fun pre W' q h=>hJ pre W' _ none h ⟨rfl,rfl,rfl,aD _,fun _ _ _=>rfl⟩ (fun _ e=>by cases e)) hY W ((hb.cell (p:=⟨B1,0,none⟩) h1).trans hB1) ((hb.cell (p:=⟨B2,0,none⟩) h2).trans hB2) h0
end Go.Proofs.Y.PA
